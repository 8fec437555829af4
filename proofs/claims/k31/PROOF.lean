import PyProof.Rows.All
import Wide.All
import OpenK.AllK
import Wide.FinOn
import HandS.ForMost
import HandS.Deep
import KE.DataEq
import KE.DataCmp
import KE.LtData
import KE.SortData
import KE.DataIsa
import KE.DatumOrd
import HandS.ExcOwn
import HandS.WordsExc
import HandS.TupAny
import HandS.TupMul
import HandS.DictComp
import HandS.Zip
import HandS.IsInst
import HandS.More
import HandS.Wide
import HandS.Style
import HandS.TupLe
import HandS.TupLen
import KE.KDictPairs
import KE.KDictZip
import HandS.Strs
import HandS.Conv
import HandS.Walk
import HandS.Defaults
import HandS.Head0
import HandS.Head1
import HandS.Head2
import HandS.HeadEnd
import HandS.HeadHook1
import HandS.HeadHook2
import PySem.Challenge.RW_flapworks_k31_whole_fewest_wedges
set_option Elab.async false
set_option linter.all false
set_option maxRecDepth 100000
/-! DL0: data with an abstract store of mutable cells; what a value of the heap stands for. -/
namespace FW
open PySem PySem.Spec PyProof.Rows L2

/-- data as trees; `cel n`: the mutable thing number n of the store -/
inductive D where
  | non | bl (b : Bool) | int (i : Int) | str (x : Str)
  | tup (xs : List D) | lst (xs : List D) | dct (ks : List Str) (ds : List D)
  | rol (xs : List D)
  | ptp (xs : List D)
  | cel (n : Nat)

/-- a mutable thing -/
inductive MO where
  | lst (xs : List D)
  | dk (ks : List Str) (ds : List D)
  | dt (ks : List (List Str)) (ds : List D)
abbrev Mu := List (Option MO)
/-- where the cells stand, what they hold -/
structure Gs where
  ρ : Nat → Addr
  μ : Mu
  hid : Addr → Prop      -- things that a comprehension is making
def Gs.live (g : Gs) (a : Addr) : Prop := (∃ k o, g.μ[k]? = some (some o) ∧ g.ρ k = a) ∨ g.hid a

def zK : List Str → List V → List (Key × V)
  | k :: ks, v :: vs => (Sum.inr k, v) :: zK ks vs
  | _, _ => []
def zT : List (List Str) → List V → List (List Key × V)
  | k :: ks, v :: vs => (k.map Sum.inr, v) :: zT ks vs
  | _, _ => []
/-- an object that stands still -/
def Fz (g : Gs) (H : Hp) (a : Addr) (u : HO) : Prop := Rd H a u ∧ ¬ g.live a
def KL (K : PySem.W.Frag) (a : Addr) (xs : List V) : Prop := ∃ (o : Obj) (its : Array Value) (n : Nat), K.lookup a = some o ∧ o.cls = .type "list" ∧ o.dict = none ∧ o.data = .seq its n ∧ its.size ≤ sizeLine ∧ Vals xs its.toList
def KT (K : PySem.W.Frag) (a : Addr) (xs : List V) : Prop := ∃ (o : Obj) (its : Array Value) (n : Nat), K.lookup a = some o ∧ o.cls = .type "tuple" ∧ o.data = .seq its n ∧ its.size ≤ sizeLine ∧ Vals xs its.toList
def FzL (g : Gs) (H : Hp) (a : Addr) (xs : List V) : Prop := H a = some (.lst xs) ∧ ¬ g.live a
def FzR (K : PySem.W.Frag) (g : Gs) (H : Hp) (a : Addr) (xs : List V) : Prop := Fz g H a (.lst xs) ∨ KL K a xs
def isSq : HO → Bool
  | .lst _ => true
  | .tup _ => true
  | .frz _ (.tup _) => true
  | _ => false
def isIV : V → Bool
  | .int _ => true
  | _ => false
/-- a tuple: tracked, or a constant of ints of the module -/
def FzT (K : PySem.W.Frag) (g : Gs) (H : Hp) (a : Addr) (xs : List V) : Prop := (H a = some (.tup xs) ∧ ¬ g.live a) ∨ (KT K a xs ∧ xs.all isIV = true)
/-- a tuple known to be plain (it carries no dict of its own) -/
def FzP (g : Gs) (H : Hp) (a : Addr) (xs : List V) : Prop := (∃ ob : Obj, H a = some (.frz ob (.tup xs)) ∧ ob.dict = none) ∧ ¬ g.live a
theorem FzP.sq {K : PySem.W.Frag} {g : Gs} {H : Hp} {a : Addr} {xs : List V} (h : FzP g H a xs) : SqT K H a xs := let ⟨⟨ob, h1, _⟩, _⟩ := h; .inl (.inr ⟨ob, h1⟩)
theorem FzL.sq {K : PySem.W.Frag} {g : Gs} {H : Hp} {a : Addr} {xs : List V} (h : FzL g H a xs) : SqL K H a xs := .inl (.inl h.1)
theorem FzR.sq {K : PySem.W.Frag} {g : Gs} {H : Hp} {a : Addr} {xs : List V} (h : FzR K g H a xs) : SqL K H a xs := h.elim (fun h => .inl h.1) .inr
theorem FzT.sq {K : PySem.W.Frag} {g : Gs} {H : Hp} {a : Addr} {xs : List V} (h : FzT K g H a xs) : SqT K H a xs := h.elim (fun h => .inl (.inl h.1)) fun h => .inr h.1

mutual
def Rep (K : PySem.W.Frag) (g : Gs) (H : Hp) : D → V → Prop
  | .non, v => v = .non
  | .bl b, v => v = .bl b
  | .int i, v => v = .int i
  | .str x, v => v = .str x
  | .tup xs, v => ∃ a vs, v = .ref a ∧ FzT K g H a vs ∧ RepA K g H xs vs
  | .lst xs, v => ∃ a vs, v = .ref a ∧ FzL g H a vs ∧ RepA K g H xs vs
  | .rol xs, v => ∃ a vs, v = .ref a ∧ FzR K g H a vs ∧ RepA K g H xs vs
  | .ptp xs, v => ∃ a vs, v = .ref a ∧ FzP g H a vs ∧ RepA K g H xs vs
  | .dct ks ds, v => ∃ a vs, v = .ref a ∧ Fz g H a (.dK (zK ks vs)) ∧ ks.length = ds.length ∧ RepA K g H ds vs
  | .cel k, v => k < g.μ.length ∧ v = .ref (g.ρ k)
def RepA (K : PySem.W.Frag) (g : Gs) (H : Hp) : List D → List V → Prop
  | [], vs => vs = []
  | d :: ds, vs => ∃ v r, vs = v :: r ∧ Rep K g H d v ∧ RepA K g H ds r
end
def RepO (K : PySem.W.Frag) (g : Gs) (H : Hp) : MO → Option HO → Prop
  | .lst xs, o => ∃ vs, o = some (.lst vs) ∧ RepA K g H xs vs
  | .dk ks ds, o => ∃ vs, o = some (.dK (zK ks vs)) ∧ ks.length = ds.length ∧ RepA K g H ds vs
  | .dt ks ds, o => ∃ vs, o = some (.dT (zT ks vs)) ∧ ks.length = ds.length ∧ RepA K g H ds vs

def isMk : HO → Bool
  | .lst _ => true
  | .dK _ => true
  | _ => false
/-- from one state to a later one -/
structure Ext0 (g : Gs) (H : Hp) (g' : Gs) (H' : Hp) : Prop where
  rd : ∀ a u, Rd H a u → ¬ g.live a → Rd H' a u ∧ ¬ g'.live a
  ls : ∀ a o, isSq o = true → H a = some o → ¬ g.live a → H' a = some o
  rho : ∀ k, k < g.μ.length → g'.ρ k = g.ρ k
  len : g.μ.length ≤ g'.μ.length
structure Ext (g : Gs) (H : Hp) (g' : Gs) (H' : Hp) : Prop extends Ext0 g H g' H' where
  hd : ∀ a o, g.hid a → H a = some o → g'.hid a ∧ H' a = some o
structure StOk (K : PySem.W.Frag) (g : Gs) (H : Hp) : Prop where
  ob : ∀ k o, g.μ[k]? = some (some o) → RepO K g H o (H (g.ρ k))
  inj : ∀ j k o u, g.μ[j]? = some (some o) → g.μ[k]? = some (some u) → g.ρ j = g.ρ k → j = k
  hd : ∀ a, g.hid a → (∃ o, H a = some o ∧ isMk o = true) ∧ ∀ k o, g.μ[k]? = some (some o) → g.ρ k ≠ a

section
variable {K : PySem.W.Frag} {g g' g'' : Gs} {H H' H'' : Hp}
theorem Ext.refl (g : Gs) (H : Hp) : Ext g H g H := ⟨⟨fun _ _ h n => ⟨h, n⟩, fun _ _ _ h _ => h, fun _ _ => rfl, Nat.le_refl _⟩, fun _ _ h e => ⟨h, e⟩⟩
theorem Ext.trans (a : Ext g H g' H') (b : Ext g' H' g'' H'') : Ext g H g'' H'' :=
  ⟨⟨fun x u h n => let ⟨h1, n1⟩ := a.rd x u h n; b.rd x u h1 n1, fun x o z h n => b.ls x o z (a.ls x o z h n) (a.rd x _ (.inl h) n).2, fun k hk => (b.rho k (Nat.lt_of_lt_of_le hk a.len)).trans (a.rho k hk), Nat.le_trans a.len b.len⟩,
    fun x o h e => let ⟨h1, e1⟩ := a.hd x o h e; b.hd x o h1 e1⟩
theorem Fz.mono {a : Addr} {u : HO} (e : Ext0 g H g' H') (h : Fz g H a u) : Fz g' H' a u := e.rd a u h.1 h.2
theorem FzL.mono {a : Addr} {xs : List V} (e : Ext0 g H g' H') (h : FzL g H a xs) : FzL g' H' a xs := ⟨e.ls a _ rfl h.1 h.2, (e.rd a _ (.inl h.1) h.2).2⟩
theorem FzP.mono {a : Addr} {xs : List V} (e : Ext0 g H g' H') (h : FzP g H a xs) : FzP g' H' a xs := let ⟨⟨ob, h1, h2⟩, h3⟩ := h; ⟨⟨ob, e.ls a _ rfl h1 h3, h2⟩, (e.rd a _ (.inl h1) h3).2⟩
theorem FzR.mono {a : Addr} {xs : List V} (e : Ext0 g H g' H') (h : FzR K g H a xs) : FzR K g' H' a xs := h.elim (fun h => .inl (h.mono e)) .inr
theorem FzT.mono {a : Addr} {xs : List V} (e : Ext0 g H g' H') (h : FzT K g H a xs) : FzT K g' H' a xs := h.elim (fun h => .inl ⟨e.ls a _ rfl h.1 h.2, (e.rd a _ (.inl h.1) h.2).2⟩) .inr
mutual
theorem Rep.mono0 (e : Ext0 g H g' H') : ∀ (d : D) (v : V), Rep K g H d v → Rep K g' H' d v
  | .non, _, h => h
  | .bl _, _, h => h
  | .int _, _, h => h
  | .str _, _, h => h
  | .tup xs, _, ⟨a, vs, h1, h2, h3⟩ => ⟨a, vs, h1, h2.mono e, RepA.mono0 e xs vs h3⟩
  | .lst xs, _, ⟨a, vs, h1, h2, h3⟩ => ⟨a, vs, h1, h2.mono e, RepA.mono0 e xs vs h3⟩
  | .rol xs, _, ⟨a, vs, h1, h2, h3⟩ => ⟨a, vs, h1, h2.mono e, RepA.mono0 e xs vs h3⟩
  | .ptp xs, _, ⟨a, vs, h1, h2, h3⟩ => ⟨a, vs, h1, h2.mono e, RepA.mono0 e xs vs h3⟩
  | .dct ks ds, _, ⟨a, vs, h1, h2, h3, h4⟩ => ⟨a, vs, h1, h2.mono e, h3, RepA.mono0 e ds vs h4⟩
  | .cel k, _, ⟨h1, h2⟩ => ⟨Nat.lt_of_lt_of_le h1 e.len, by rw [e.rho k h1]; exact h2⟩
theorem RepA.mono0 (e : Ext0 g H g' H') : ∀ (ds : List D) (vs : List V), RepA K g H ds vs → RepA K g' H' ds vs
  | [], _, h => h
  | d :: ds, _, ⟨v, r, h1, h2, h3⟩ => ⟨v, r, h1, Rep.mono0 e d v h2, RepA.mono0 e ds r h3⟩
end
theorem RepO.mono0 {o : Option HO} (e : Ext0 g H g' H') : ∀ (m : MO), RepO K g H m o → RepO K g' H' m o
  | .lst xs, ⟨vs, h1, h2⟩ => ⟨vs, h1, RepA.mono0 e _ _ h2⟩
  | .dk ks ds, ⟨vs, h1, h2, h3⟩ => ⟨vs, h1, h2, RepA.mono0 e _ _ h3⟩
  | .dt ks ds, ⟨vs, h1, h2, h3⟩ => ⟨vs, h1, h2, RepA.mono0 e _ _ h3⟩

theorem Rep.mono (e : Ext g H g' H') (d : D) (v : V) (h : Rep K g H d v) : Rep K g' H' d v := Rep.mono0 e.toExt0 d v h
theorem RepA.mono (e : Ext g H g' H') (ds : List D) (vs : List V) (h : RepA K g H ds vs) : RepA K g' H' ds vs := RepA.mono0 e.toExt0 ds vs h
theorem RepO.mono {o : Option HO} (e : Ext g H g' H') (m : MO) (h : RepO K g H m o) : RepO K g' H' m o := RepO.mono0 e.toExt0 m h
theorem RepA.length : ∀ {ds : List D} {vs : List V}, RepA K g H ds vs → vs.length = ds.length
  | [], _, h => by cases h; rfl
  | d :: ds, _, ⟨v, r, h1, h2, h3⟩ => by subst h1; rw [List.length_cons, List.length_cons, RepA.length h3]
theorem RepA.get : ∀ {ds : List D} {vs : List V} {i : Nat} {d : D}, RepA K g H ds vs → ds[i]? = some d → ∃ v, vs[i]? = some v ∧ Rep K g H d v
  | [], _, _, _, _, e => by simp at e
  | d :: ds, _, 0, _, ⟨v, r, h1, h2, h3⟩, e => by
    subst h1
    rw [List.getElem?_cons_zero] at e
    cases e
    exact ⟨v, rfl, h2⟩
  | d :: ds, _, i + 1, _, ⟨v, r, h1, h2, h3⟩, e => by
    subst h1
    rw [List.getElem?_cons_succ] at e
    rw [List.getElem?_cons_succ]
    exact RepA.get h3 e
theorem RepA.getV : ∀ {ds : List D} {vs : List V} {i : Nat} {v : V}, RepA K g H ds vs → vs[i]? = some v → ∃ d, ds[i]? = some d ∧ Rep K g H d v
  | [], _, _, _, h, e => by cases h; simp at e
  | d :: ds, _, 0, _, ⟨v, r, h1, h2, h3⟩, e => by
    subst h1
    rw [List.getElem?_cons_zero] at e
    cases e
    exact ⟨d, rfl, h2⟩
  | d :: ds, _, i + 1, _, ⟨v, r, h1, h2, h3⟩, e => by
    subst h1
    rw [List.getElem?_cons_succ] at e
    rw [List.getElem?_cons_succ]
    exact RepA.getV h3 e
theorem RepA.append : ∀ {ds es : List D} {vs ws : List V}, RepA K g H ds vs → RepA K g H es ws → RepA K g H (ds ++ es) (vs ++ ws)
  | [], _, _, _, h, k => by cases h; exact k
  | d :: ds, _, _, _, ⟨v, r, h1, h2, h3⟩, k => by subst h1; exact ⟨v, _, rfl, h2, RepA.append h3 k⟩
theorem RepA.single {d : D} {v : V} (h : Rep K g H d v) : RepA K g H [d] [v] := ⟨v, [], rfl, h, rfl⟩
theorem RepA.take : ∀ {ds : List D} {vs : List V} (n : Nat), RepA K g H ds vs → RepA K g H (ds.take n) (vs.take n)
  | [], _, n, h => by cases h; simp; rfl
  | d :: ds, _, 0, h => by simp; rfl
  | d :: ds, _, n + 1, ⟨v, r, h1, h2, h3⟩ => by subst h1; exact ⟨v, _, rfl, h2, RepA.take n h3⟩
theorem RepA.drop : ∀ {ds : List D} {vs : List V} (n : Nat), RepA K g H ds vs → RepA K g H (ds.drop n) (vs.drop n)
  | [], _, n, h => by cases h; simp; rfl
  | d :: ds, _, 0, h => h
  | d :: ds, _, n + 1, ⟨v, r, h1, h2, h3⟩ => by subst h1; exact RepA.drop n h3
theorem RepA.set : ∀ {ds : List D} {vs : List V} (i : Nat) {d : D} {v : V}, RepA K g H ds vs → Rep K g H d v → RepA K g H (ds.set i d) (vs.set i v)
  | [], _, i, _, _, h, _ => by cases h; rfl
  | d :: ds, _, 0, _, _, ⟨v, r, h1, h2, h3⟩, k => by subst h1; exact ⟨_, _, rfl, k, h3⟩
  | d :: ds, _, i + 1, _, _, ⟨v, r, h1, h2, h3⟩, k => by subst h1; exact ⟨_, _, rfl, h2, RepA.set i h3 k⟩
theorem RepA.reverse : ∀ {ds : List D} {vs : List V}, RepA K g H ds vs → RepA K g H ds.reverse vs.reverse
  | [], _, h => by cases h; rfl
  | d :: ds, _, ⟨v, r, h1, h2, h3⟩ => by subst h1; rw [List.reverse_cons, List.reverse_cons]; exact RepA.append (RepA.reverse h3) (RepA.single h2)
theorem RepA.replicate {d : D} {v : V} (h : Rep K g H d v) : ∀ n : Nat, RepA K g H (List.replicate n d) (List.replicate n v)
  | 0 => rfl
  | n + 1 => ⟨v, _, rfl, h, RepA.replicate h n⟩

theorem StOk.some_of (s : StOk K g H) {k : Nat} {o : MO} (h : g.μ[k]? = some (some o)) : ∃ u, H (g.ρ k) = some u := by
  have q := s.ob k o h
  cases o with
  | lst xs => obtain ⟨vs, e, _⟩ := q; exact ⟨_, e⟩
  | dk ks ds => obtain ⟨vs, e, _⟩ := q; exact ⟨_, e⟩
  | dt ks ds => obtain ⟨vs, e, _⟩ := q; exact ⟨_, e⟩
theorem StOk.notLive (s : StOk K g H) {p : Addr} (h : H p = none) : ¬ g.live p := fun l => by
  rcases l with ⟨k, o, h1, h2⟩ | l
  · obtain ⟨u, e⟩ := s.some_of h1
    rw [h2, h] at e
    cases e
  · obtain ⟨⟨o, e, _⟩, _⟩ := s.hd p l
    rw [h] at e
    cases e

theorem rd_upd {H : Hp} {p a : Addr} {o u : HO} (hp : H p = none) (h : Rd H a u) : Rd (upd H p o) a u := by
  rcases h with h | ⟨ob, h⟩
  · exact .inl (by rw [upd_ne (ne_of_none h hp)]; exact h)
  · exact .inr ⟨ob, by rw [upd_ne (ne_of_none h hp)]; exact h⟩
theorem rd_upd_ne {H : Hp} {p a : Addr} {o u : HO} (hp : a ≠ p) (h : Rd H a u) : Rd (upd H p o) a u := by
  rcases h with h | ⟨ob, h⟩
  · exact .inl (by rw [upd_ne hp]; exact h)
  · exact .inr ⟨ob, by rw [upd_ne hp]; exact h⟩
theorem rd_some {H : Hp} {a : Addr} {u : HO} (h : Rd H a u) : ∃ o, H a = some o := by
  rcases h with h | ⟨ob, h⟩ <;> exact ⟨_, h⟩

/-- a new thing that stands still -/
theorem Ext.frozen {p : Addr} {o : HO} (hp : H p = none) : Ext g H g (upd H p o) := ⟨⟨fun a u h n => ⟨rd_upd hp h, n⟩, fun a o _ h _ => by rw [upd_ne (ne_of_none h hp)]; exact h, fun _ _ => rfl, Nat.le_refl _⟩, fun a o h e => ⟨h, by rw [upd_ne (ne_of_none e hp)]; exact e⟩⟩
theorem StOk.frozen {p : Addr} {o : HO} (s : StOk K g H) (hp : H p = none) : StOk K g (upd H p o) :=
  ⟨fun k m h => by
    obtain ⟨u, e⟩ := s.some_of h
    rw [upd_ne (ne_of_none e hp)]
    exact RepO.mono (Ext.frozen hp) _ (s.ob k m h), s.inj, fun a l => ⟨let ⟨o', e, k⟩ := (s.hd a l).1; ⟨o', by rw [upd_ne (ne_of_none e hp)]; exact e, k⟩, (s.hd a l).2⟩⟩
theorem Fz.new {p : Addr} {o : HO} (s : StOk K g H) (hp : H p = none) : Fz g (upd H p o) p o := ⟨.inl upd_same, s.notLive hp⟩
/-- a new cell -/
def Gs.add (g : Gs) (p : Addr) (o : MO) : Gs := ⟨fun k => if k = g.μ.length then p else g.ρ k, g.μ ++ [some o], g.hid⟩
theorem add_get {p : Addr} {o m : MO} {k : Nat} (h : (g.add p o).μ[k]? = some (some m)) : (k = g.μ.length ∧ m = o) ∨ (k < g.μ.length ∧ g.μ[k]? = some (some m)) := by
  have h : (g.μ ++ [some o])[k]? = some (some m) := h
  rcases Nat.lt_trichotomy k g.μ.length with l | l | l
  · rw [List.getElem?_append_left l] at h
    exact .inr ⟨l, h⟩
  · subst l
    rw [List.getElem?_append_right (Nat.le_refl _), Nat.sub_self] at h
    simp at h
    exact .inl ⟨rfl, h.symm⟩
  · rw [List.getElem?_eq_none (by simp; omega)] at h
    cases h
theorem Ext.cell {p : Addr} {o : MO} {u : HO} (hp : H p = none) : Ext g H (g.add p o) (upd H p u) := by
  refine ⟨⟨fun a w h n => ⟨rd_upd hp h, fun l => ?_⟩, fun a o _ h _ => by rw [upd_ne (ne_of_none h hp)]; exact h, fun k hk => ?_, ?_⟩, fun a o h e => ⟨h, by rw [upd_ne (ne_of_none e hp)]; exact e⟩⟩
  · rcases l with ⟨k, m, h1, h2⟩ | l
    · rcases add_get h1 with ⟨e1, e2⟩ | ⟨e1, e2⟩
      · have : (g.add p o).ρ k = p := by show (if k = g.μ.length then p else g.ρ k) = p; rw [if_pos e1]
        rw [this] at h2
        obtain ⟨w, hw⟩ := rd_some h
        rw [← h2, hp] at hw
        cases hw
      · have : (g.add p o).ρ k = g.ρ k := by show (if k = g.μ.length then p else g.ρ k) = g.ρ k; rw [if_neg (by omega)]
        rw [this] at h2
        exact n (.inl ⟨k, m, e2, h2⟩)
    · exact n (.inr l)
  · show (if k = g.μ.length then p else g.ρ k) = g.ρ k
    rw [if_neg (by omega)]
  · show g.μ.length ≤ (g.μ ++ [some o]).length
    simp
theorem add_rho_last {p : Addr} {o : MO} : (g.add p o).ρ g.μ.length = p := by show (if g.μ.length = g.μ.length then p else _) = p; rw [if_pos rfl]
theorem add_rho {p : Addr} {o : MO} {k : Nat} (h : k < g.μ.length) : (g.add p o).ρ k = g.ρ k := by show (if k = g.μ.length then p else g.ρ k) = g.ρ k; rw [if_neg (by omega)]
theorem StOk.cell {p : Addr} {o : MO} {u : HO} (s : StOk K g H) (hp : H p = none) (ho : RepO K g H o (some u)) : StOk K (g.add p o) (upd H p u) := by
  have ex : Ext g H (g.add p o) (upd H p u) := Ext.cell hp
  refine ⟨fun k m h => ?_, fun j k m m' hj hk e => ?_, fun a l => ⟨let ⟨o', e, k⟩ := (s.hd a l).1; ⟨o', by rw [upd_ne (ne_of_none e hp)]; exact e, k⟩, fun k m h e => ?_⟩⟩
  · rcases add_get h with ⟨rfl, rfl⟩ | ⟨e1, e2⟩
    · rw [add_rho_last, upd_same]
      exact RepO.mono ex _ ho
    · rw [add_rho e1]
      obtain ⟨w, e⟩ := s.some_of e2
      rw [upd_ne (ne_of_none e hp)]
      exact RepO.mono ex _ (s.ob k m e2)
  · rcases add_get hj with ⟨rfl, rfl⟩ | ⟨e1, e2⟩ <;> rcases add_get hk with ⟨q1, q2⟩ | ⟨q1, q2⟩
    · exact q1.symm
    · rw [add_rho_last, add_rho q1] at e
      obtain ⟨w, z⟩ := s.some_of q2
      rw [← e, hp] at z
      cases z
    · subst q1
      rw [add_rho_last, add_rho e1] at e
      obtain ⟨w, z⟩ := s.some_of e2
      rw [e, hp] at z
      cases z
    · rw [add_rho e1, add_rho q1] at e
      exact s.inj j k m m' e2 q2 e
  · rcases add_get h with ⟨rfl, rfl⟩ | ⟨e1, e2⟩
    · rw [add_rho_last] at e
      obtain ⟨o', e', _⟩ := (s.hd a l).1
      rw [← e, hp] at e'
      cases e'
    · rw [add_rho e1] at e
      exact (s.hd a l).2 k m e2 e
theorem Rep.newCell {p : Addr} {o : MO} : Rep K (g.add p o) H' (.cel g.μ.length) (.ref p) := ⟨by show g.μ.length < (g.μ ++ [some o]).length; simp, by rw [add_rho_last]⟩
/-- a cell is stored to -/
def Gs.put (g : Gs) (k : Nat) (o : MO) : Gs := ⟨g.ρ, g.μ.set k (some o), g.hid⟩
theorem put_get {k j : Nat} {o m : MO} (h : (g.put k o).μ[j]? = some (some m)) : (j = k ∧ m = o ∧ k < g.μ.length) ∨ (j ≠ k ∧ g.μ[j]? = some (some m)) := by
  have h : (g.μ.set k (some o))[j]? = some (some m) := h
  by_cases e : k = j
  · subst e
    by_cases l : k < g.μ.length
    · rw [List.getElem?_set_self l] at h
      cases h
      exact .inl ⟨rfl, rfl, l⟩
    · rw [List.getElem?_eq_none (by simpa using l)] at h
      cases h
  · rw [List.getElem?_set_ne e] at h
    exact .inr ⟨Ne.symm e, h⟩
theorem Ext.put {k : Nat} {o m : MO} {u : HO} (s : StOk K g H) (hk : g.μ[k]? = some (some m)) : Ext g H (g.put k o) (upd H (g.ρ k) u) := by
  refine ⟨⟨fun a w h n => ⟨rd_upd_ne (fun e => n (.inl ⟨k, m, hk, e.symm⟩)) h, fun l => ?_⟩, fun a o _ h n => by rw [upd_ne (fun e => n (.inl ⟨k, m, hk, e.symm⟩))]; exact h, fun _ _ => rfl, by show _ ≤ (g.μ.set k (some o)).length; rw [List.length_set]; exact Nat.le_refl _⟩,
    fun a o' l e => ⟨l, by rw [upd_ne (Ne.symm ((s.hd a l).2 k m hk))]; exact e⟩⟩
  rcases l with ⟨j, m', h1, h2⟩ | l
  · rcases put_get h1 with ⟨e1, _, _⟩ | ⟨_, e2⟩
    · subst e1
      exact n (.inl ⟨j, m, hk, h2⟩)
    · exact n (.inl ⟨j, m', e2, h2⟩)
  · exact n (.inr l)
theorem StOk.put {k : Nat} {o m : MO} {u : HO} (s : StOk K g H) (hk : g.μ[k]? = some (some m)) (ho : RepO K g H o (some u)) : StOk K (g.put k o) (upd H (g.ρ k) u) := by
  have ex : Ext g H (g.put k o) (upd H (g.ρ k) u) := Ext.put s hk
  refine ⟨fun j m' h => ?_, fun i j m1 m2 hi hj e => ?_, fun a l => ⟨let ⟨o', e, z⟩ := (s.hd a l).1; ⟨o', by rw [upd_ne (Ne.symm ((s.hd a l).2 k m hk))]; exact e, z⟩, fun j m' h e => ?_⟩⟩
  · show RepO K _ _ m' (upd H (g.ρ k) u (g.ρ j))
    rcases put_get h with ⟨e1, e2, _⟩ | ⟨e1, e2⟩
    · subst e1 e2
      rw [upd_same]
      exact RepO.mono ex _ ho
    · have ne : g.ρ j ≠ g.ρ k := fun e => e1 (s.inj j k m' m e2 hk e)
      rw [upd_ne ne]
      exact RepO.mono ex _ (s.ob j m' e2)
  · have fi : ∃ x, g.μ[i]? = some (some x) := by
      rcases put_get hi with ⟨e1, _, _⟩ | ⟨_, e2⟩
      · subst e1; exact ⟨m, hk⟩
      · exact ⟨_, e2⟩
    have fj : ∃ x, g.μ[j]? = some (some x) := by
      rcases put_get hj with ⟨e1, _, _⟩ | ⟨_, e2⟩
      · subst e1; exact ⟨m, hk⟩
      · exact ⟨_, e2⟩
    obtain ⟨x, hx⟩ := fi
    obtain ⟨y, hy⟩ := fj
    exact s.inj i j x y hx hy e
  · rcases put_get h with ⟨e1, _, _⟩ | ⟨_, e2⟩
    · subst e1
      exact (s.hd a l).2 j m hk e
    · exact (s.hd a l).2 j m' e2 e
/-! ### what a comprehension is making -/
def Gs.hide (g : Gs) (p : Addr) : Gs := ⟨g.ρ, g.μ, fun a => g.hid a ∨ a = p⟩
def Gs.unhide (g : Gs) (p : Addr) : Gs := ⟨g.ρ, g.μ, fun a => g.hid a ∧ a ≠ p⟩
theorem Ext.hide {p : Addr} {o : HO} (hp : H p = none) : Ext g H (g.hide p) (upd H p o) := by
  refine ⟨⟨fun a u h n => ⟨rd_upd hp h, fun l => ?_⟩, fun a o _ h _ => by rw [upd_ne (ne_of_none h hp)]; exact h, fun _ _ => rfl, Nat.le_refl _⟩, fun a o h e => ⟨.inl h, by rw [upd_ne (ne_of_none e hp)]; exact e⟩⟩
  rcases l with l | l | l
  · exact n (.inl l)
  · exact n (.inr l)
  · subst l
    obtain ⟨w, hw⟩ := rd_some h
    rw [hp] at hw
    cases hw
theorem StOk.hide {p : Addr} {o : HO} (s : StOk K g H) (hp : H p = none) (hm : isMk o = true) : StOk K (g.hide p) (upd H p o) := by
  have ex : Ext g H (g.hide p) (upd H p o) := Ext.hide hp
  refine ⟨fun k m h => ?_, s.inj, fun a l => ?_⟩
  · obtain ⟨u, e⟩ := s.some_of h
    show RepO K _ _ m (upd H p o (g.ρ k))
    rw [upd_ne (ne_of_none e hp)]
    exact RepO.mono ex _ (s.ob k m h)
  · rcases l with l | l
    · exact ⟨let ⟨o', e, k⟩ := (s.hd a l).1; ⟨o', by rw [upd_ne (ne_of_none e hp)]; exact e, k⟩, (s.hd a l).2⟩
    · subst l
      refine ⟨⟨o, upd_same, hm⟩, fun k m h e => ?_⟩
      obtain ⟨u, e'⟩ := s.some_of h
      rw [show g.ρ k = a from e, hp] at e'
      cases e'
/-- the thing that is being made is written -/
theorem Ext0.write {p : Addr} {o : HO} (hp : g.hid p) : Ext0 g H g (upd H p o) :=
  ⟨fun a u h n => ⟨rd_upd_ne (fun e => n (.inr (by rw [e]; exact hp))) h, n⟩, fun a o _ h n => by rw [upd_ne (fun e => n (.inr (by rw [e]; exact hp)))]; exact h, fun _ _ => rfl, Nat.le_refl _⟩
theorem Ext.write {p : Addr} {o : HO} (e : Ext g H g' H') (h0 : H p = none) (hp : g'.hid p) : Ext g H g' (upd H' p o) :=
  ⟨⟨fun a u h n => let ⟨h1, n1⟩ := e.rd a u h n; ⟨rd_upd_ne (fun z => n1 (.inr (by rw [z]; exact hp))) h1, n1⟩, fun a o z h n => by rw [upd_ne (ne_of_none h h0)]; exact e.ls a o z h n, e.rho, e.len⟩,
    fun a o h q => let ⟨h1, e1⟩ := e.hd a o h q; ⟨h1, by rw [upd_ne (ne_of_none q h0)]; exact e1⟩⟩
theorem StOk.write {p : Addr} {o : HO} (s : StOk K g H) (hp : g.hid p) (hm : isMk o = true) : StOk K g (upd H p o) := by
  refine ⟨fun k m h => ?_, s.inj, fun a l => ⟨?_, (s.hd a l).2⟩⟩
  · rw [upd_ne ((s.hd p hp).2 k m h)]
    exact RepO.mono0 (Ext0.write hp) _ (s.ob k m h)
  · by_cases e : a = p
    · exact ⟨o, by rw [e, upd_same], hm⟩
    · rw [upd_ne e]
      exact (s.hd a l).1
theorem unhide_live {p a : Addr} (h : (g.unhide p).live a) : g.live a := h.elim .inl fun l => .inr l.1
theorem Ext0.unhide {p : Addr} : Ext0 g H (g.unhide p) H := ⟨fun _ _ h n => ⟨h, fun l => n (unhide_live l)⟩, fun _ _ _ h _ => h, fun _ _ => rfl, Nat.le_refl _⟩
theorem Ext.unhide {p : Addr} (e : Ext g H g' H') (h0 : H p = none) : Ext g H (g'.unhide p) H' :=
  ⟨⟨fun a u h n => let ⟨h1, n1⟩ := e.rd a u h n; ⟨h1, fun l => n1 (unhide_live l)⟩, e.ls, e.rho, e.len⟩, fun a o h q => let ⟨h1, e1⟩ := e.hd a o h q; ⟨⟨h1, ne_of_none q h0⟩, e1⟩⟩
theorem StOk.unhide {p : Addr} (s : StOk K g H) : StOk K (g.unhide p) H := ⟨fun k m h => RepO.mono0 Ext0.unhide _ (s.ob k m h), s.inj, fun a l => s.hd a l.1⟩
theorem unhide_not {p : Addr} (s : StOk K g H) (hp : g.hid p) : ¬ (g.unhide p).live p := by
  rintro (⟨k, o, h1, h2⟩ | l)
  · exact (s.hd p hp).2 k o h1 h2
  · exact l.2 rfl
/-- a thing that stands becomes a cell -/
theorem Ext.cellAt {p : Addr} {o : MO} (e : Ext g H g' H') (h0 : H p = none) : Ext g H (g'.add p o) H' := by
  refine ⟨⟨fun a u h n => ?_, e.ls, fun k hk => ?_, ?_⟩, e.hd⟩
  · obtain ⟨h1, n1⟩ := e.rd a u h n
    refine ⟨h1, fun l => ?_⟩
    rcases l with ⟨k, m, q1, q2⟩ | l
    · rcases add_get q1 with ⟨e1, e2⟩ | ⟨e1, e2⟩
      · subst e1
        rw [add_rho_last] at q2
        obtain ⟨w, hw⟩ := rd_some h
        rw [← q2, h0] at hw
        cases hw
      · rw [add_rho e1] at q2
        exact n1 (.inl ⟨k, m, e2, q2⟩)
    · exact n1 (.inr l)
  · rw [add_rho (Nat.lt_of_lt_of_le hk e.len)]
    exact e.rho k hk
  · show g.μ.length ≤ (g'.μ ++ [some o]).length
    have := e.len
    simp
    omega
theorem Ext0.cellAt {p : Addr} {o : MO} (hn : ∀ a u, Rd H a u → ¬ g.live a → a ≠ p) : Ext0 g H (g.add p o) H := by
  refine ⟨fun a u h n => ⟨h, fun l => ?_⟩, fun _ _ _ h _ => h, fun k hk => add_rho hk, by show g.μ.length ≤ (g.μ ++ [some o]).length; simp⟩
  rcases l with ⟨k, m, q1, q2⟩ | l
  · rcases add_get q1 with ⟨e1, e2⟩ | ⟨e1, e2⟩
    · subst e1
      rw [add_rho_last] at q2
      exact hn a u h n q2.symm
    · rw [add_rho e1] at q2
      exact n (.inl ⟨k, m, e2, q2⟩)
  · exact n (.inr l)
/-- what was being made is a cell from now on -/
def Gs.done (g : Gs) (p : Addr) (o : MO) : Gs := (g.unhide p).add p o
theorem done_live {p a : Addr} {o : MO} (hp : g.hid p) (h : (g.done p o).live a) : g.live a := by
  rcases h with ⟨k, m, q1, q2⟩ | l
  · rcases add_get q1 with ⟨e1, e2⟩ | ⟨e1, e2⟩
    · subst e1
      rw [show (g.done p o).ρ (g.unhide p).μ.length = p from add_rho_last] at q2
      rw [← q2]
      exact .inr hp
    · rw [show (g.done p o).ρ k = g.ρ k from add_rho (g := g.unhide p) e1] at q2
      exact .inl ⟨k, m, e2, q2⟩
  · exact .inr l.1
theorem Ext0.done {p : Addr} {o : MO} (hp : g.hid p) : Ext0 g H (g.done p o) H :=
  ⟨fun _ _ h n => ⟨h, fun l => n (done_live hp l)⟩, fun _ _ _ h _ => h, fun k hk => add_rho (g := g.unhide p) hk, by show g.μ.length ≤ (g.μ ++ [some o]).length; simp⟩
theorem StOk.done {p : Addr} {o : MO} (s : StOk K g H) (hp : g.hid p) (ho : RepO K g H o (H p)) : StOk K (g.done p o) H := by
  refine ⟨fun k m h => ?_, fun j k m m' hj hk e => ?_, fun a l => ⟨(s.hd a l.1).1, fun k m h e => ?_⟩⟩
  · rcases add_get h with ⟨rfl, rfl⟩ | ⟨e1, e2⟩
    · rw [show (g.done p m).ρ (g.unhide p).μ.length = p from add_rho_last]
      exact RepO.mono0 (Ext0.done hp) _ ho
    · rw [show (g.done p o).ρ k = g.ρ k from add_rho (g := g.unhide p) e1]
      exact RepO.mono0 (Ext0.done hp) _ (s.ob k m e2)
  · rcases add_get hj with ⟨rfl, rfl⟩ | ⟨e1, e2⟩ <;> rcases add_get hk with ⟨q1, q2⟩ | ⟨q1, q2⟩
    · exact q1.symm
    · rw [show (g.done p m).ρ (g.unhide p).μ.length = p from add_rho_last, show (g.done p m).ρ k = g.ρ k from add_rho (g := g.unhide p) q1] at e
      exact absurd e.symm ((s.hd p hp).2 k m' q2)
    · subst q1
      rw [show (g.done p o).ρ (g.unhide p).μ.length = p from add_rho_last, show (g.done p o).ρ j = g.ρ j from add_rho (g := g.unhide p) e1] at e
      exact absurd e ((s.hd p hp).2 j m e2)
    · rw [show (g.done p o).ρ j = g.ρ j from add_rho (g := g.unhide p) e1, show (g.done p o).ρ k = g.ρ k from add_rho (g := g.unhide p) q1] at e
      exact s.inj j k m m' e2 q2 e
  · rcases add_get h with ⟨rfl, rfl⟩ | ⟨e1, e2⟩
    · rw [show (g.done p m).ρ (g.unhide p).μ.length = p from add_rho_last] at e
      exact l.2 e.symm
    · rw [show (g.done p o).ρ k = g.ρ k from add_rho (g := g.unhide p) e1] at e
      exact (s.hd a l.1).2 k m e2 e
end
end FW

set_option Elab.async false
set_option linter.all false
set_option maxRecDepth 100000
namespace FW
open PySem PySem.Spec PyProof.Rows L2

mutual
/-- no cell stands within -/
def D.nc : D → Bool
  | .non => true
  | .bl _ => true
  | .int _ => true
  | .str _ => true
  | .tup xs => ncA xs
  | .lst xs => ncA xs
  | .rol xs => ncA xs
  | .ptp xs => ncA xs
  | .dct _ ds => ncA ds
  | .cel _ => false
def ncA : List D → Bool
  | [] => true
  | d :: ds => d.nc && ncA ds
end
def MO.nc : MO → Bool
  | .lst xs => ncA xs
  | .dk _ ds => ncA ds
  | .dt _ ds => ncA ds
def Gs.cut (g : Gs) (m : Nat) : Gs := ⟨g.ρ, g.μ.take m, g.hid⟩
section
variable {K : PySem.W.Frag} {g g' g0 g1 : Gs} {H H' H0 H1 : Hp}
theorem fz_sub (hl : ∀ a, g'.live a → g.live a) {a : Addr} {u : HO} (h : Fz g H a u) : Fz g' H a u := ⟨h.1, fun l => h.2 (hl a l)⟩
mutual
theorem Rep.ofNc (hl : ∀ a, g'.live a → g.live a) : ∀ (d : D) (v : V), d.nc = true → Rep K g H d v → Rep K g' H d v
  | .non, _, _, h => h
  | .bl _, _, _, h => h
  | .int _, _, _, h => h
  | .str _, _, _, h => h
  | .tup xs, _, c, ⟨a, vs, h1, h2, h3⟩ => ⟨a, vs, h1, h2.elim (fun z => .inl ⟨z.1, fun l => z.2 (hl a l)⟩) .inr, RepA.ofNc hl xs vs c h3⟩
  | .lst xs, _, c, ⟨a, vs, h1, h2, h3⟩ => ⟨a, vs, h1, ⟨h2.1, fun l => h2.2 (hl a l)⟩, RepA.ofNc hl xs vs c h3⟩
  | .ptp xs, _, c, ⟨a, vs, h1, h2, h3⟩ => ⟨a, vs, h1, ⟨h2.1, fun l => h2.2 (hl a l)⟩, RepA.ofNc hl xs vs c h3⟩
  | .rol xs, _, c, ⟨a, vs, h1, h2, h3⟩ => ⟨a, vs, h1, h2.elim (fun z => .inl (fz_sub hl z)) .inr, RepA.ofNc hl xs vs c h3⟩
  | .dct ks ds, _, c, ⟨a, vs, h1, h2, h3, h4⟩ => ⟨a, vs, h1, fz_sub hl h2, h3, RepA.ofNc hl ds vs c h4⟩
  | .cel k, _, c, _ => by cases c
theorem RepA.ofNc (hl : ∀ a, g'.live a → g.live a) : ∀ (ds : List D) (vs : List V), ncA ds = true → RepA K g H ds vs → RepA K g' H ds vs
  | [], _, _, h => h
  | d :: ds, _, c, ⟨v, r, h1, h2, h3⟩ => by
    obtain ⟨c1, c2⟩ := Bool.and_eq_true_iff.mp (show (d.nc && ncA ds) = true from c)
    exact ⟨v, r, h1, Rep.ofNc hl d v c1 h2, RepA.ofNc hl ds r c2 h3⟩
end
theorem RepO.ofNc (hl : ∀ a, g'.live a → g.live a) {o : Option HO} : ∀ (m : MO), m.nc = true → RepO K g H m o → RepO K g' H m o
  | .lst xs, c, ⟨vs, h1, h2⟩ => ⟨vs, h1, RepA.ofNc hl _ _ c h2⟩
  | .dk ks ds, c, ⟨vs, h1, h2, h3⟩ => ⟨vs, h1, h2, RepA.ofNc hl _ _ c h3⟩
  | .dt ks ds, c, ⟨vs, h1, h2, h3⟩ => ⟨vs, h1, h2, RepA.ofNc hl _ _ c h3⟩
theorem cut_live {m : Nat} {a : Addr} (h : (g.cut m).live a) : g.live a := by
  rcases h with ⟨k, o, h1, h2⟩ | l
  · have h1 : (g.μ.take m)[k]? = some (some o) := h1
    rw [List.getElem?_take] at h1
    split at h1
    · exact .inl ⟨k, o, h1, h2⟩
    · cases h1
  · exact .inr l
mutual
/-- what a state of fewer cells bore it bears again -/
theorem Rep.cut2 (e : Ext g0 H0 g1 H1) : ∀ (d : D) (v v' : V), Rep K g0 H0 d v → Rep K g1 H1 d v' → Rep K (g1.cut g0.μ.length) H1 d v'
  | .non, _, _, _, h => h
  | .bl _, _, _, _, h => h
  | .int _, _, _, _, h => h
  | .str _, _, _, _, h => h
  | .tup xs, _, _, ⟨_, ws, _, _, k3⟩, ⟨a, vs, h1, h2, h3⟩ => ⟨a, vs, h1, h2.elim (fun z => .inl ⟨z.1, fun l => z.2 (cut_live l)⟩) .inr, RepA.cut2 e xs ws vs k3 h3⟩
  | .lst xs, _, _, ⟨_, ws, _, _, k3⟩, ⟨a, vs, h1, h2, h3⟩ => ⟨a, vs, h1, ⟨h2.1, fun l => h2.2 (cut_live l)⟩, RepA.cut2 e xs ws vs k3 h3⟩
  | .ptp xs, _, _, ⟨_, ws, _, _, k3⟩, ⟨a, vs, h1, h2, h3⟩ => ⟨a, vs, h1, ⟨h2.1, fun l => h2.2 (cut_live l)⟩, RepA.cut2 e xs ws vs k3 h3⟩
  | .rol xs, _, _, ⟨_, ws, _, _, k3⟩, ⟨a, vs, h1, h2, h3⟩ => ⟨a, vs, h1, h2.elim (fun z => .inl (fz_sub (fun _ => cut_live) z)) .inr, RepA.cut2 e xs ws vs k3 h3⟩
  | .dct ks ds, _, _, ⟨_, ws, _, _, _, k4⟩, ⟨a, vs, h1, h2, h3, h4⟩ => ⟨a, vs, h1, fz_sub (fun _ => cut_live) h2, h3, RepA.cut2 e ds ws vs k4 h4⟩
  | .cel k, _, _, ⟨k1, _⟩, ⟨_, h2⟩ => ⟨by show k < (g1.μ.take g0.μ.length).length; rw [List.length_take]; exact Nat.lt_min.mpr ⟨k1, Nat.lt_of_lt_of_le k1 e.len⟩, h2⟩
theorem RepA.cut2 (e : Ext g0 H0 g1 H1) : ∀ (ds : List D) (vs vs' : List V), RepA K g0 H0 ds vs → RepA K g1 H1 ds vs' → RepA K (g1.cut g0.μ.length) H1 ds vs'
  | [], _, _, _, h => h
  | d :: ds, _, _, ⟨w, s, _, k2, k3⟩, ⟨v, r, h1, h2, h3⟩ => ⟨v, r, h1, Rep.cut2 e d w v k2 h2, RepA.cut2 e ds s r k3 h3⟩
end
theorem RepO.cut2 (e : Ext g0 H0 g1 H1) {o o' : Option HO} : ∀ (m : MO), RepO K g0 H0 m o → RepO K g1 H1 m o' → RepO K (g1.cut g0.μ.length) H1 m o'
  | .lst xs, ⟨_, _, k⟩, ⟨vs, h1, h2⟩ => ⟨vs, h1, RepA.cut2 e _ _ _ k h2⟩
  | .dk ks ds, ⟨_, _, _, k⟩, ⟨vs, h1, h2, h3⟩ => ⟨vs, h1, h2, RepA.cut2 e _ _ _ k h3⟩
  | .dt ks ds, ⟨_, _, _, k⟩, ⟨vs, h1, h2, h3⟩ => ⟨vs, h1, h2, RepA.cut2 e _ _ _ k h3⟩
/-- the first cells stand as they stood, or hold no cells -/
def KeepOk (μ0 μ1 : Mu) : Prop := ∀ k o, k < μ0.length → μ1[k]? = some (some o) → μ0[k]? = some (some o) ∨ o.nc = true
theorem Ext.cut (e : Ext g0 H0 g1 H1) : Ext g0 H0 (g1.cut g0.μ.length) H1 :=
  ⟨⟨fun a u h n => let ⟨h1, n1⟩ := e.rd a u h n; ⟨h1, fun l => n1 (cut_live l)⟩, e.ls, e.rho, by show _ ≤ (g1.μ.take g0.μ.length).length; rw [List.length_take]; exact Nat.le_min.mpr ⟨Nat.le_refl _, e.len⟩⟩, e.hd⟩
theorem cut_get {m k : Nat} {o : MO} (h : (g.cut m).μ[k]? = some (some o)) : k < m ∧ g.μ[k]? = some (some o) := by
  have h1 : (g.μ.take m)[k]? = some (some o) := h
  rw [List.getElem?_take] at h1
  split at h1
  · rename_i l; exact ⟨l, h1⟩
  · cases h1
theorem StOk.cut (s0 : StOk K g0 H0) (s1 : StOk K g1 H1) (e : Ext g0 H0 g1 H1) (kp : KeepOk g0.μ g1.μ) : StOk K (g1.cut g0.μ.length) H1 := by
  refine ⟨fun k o h => ?_, fun j k o u h1 h2 q => ?_, fun a l => ⟨(s1.hd a l).1, fun k o h => (s1.hd a l).2 k o (cut_get h).2⟩⟩
  · obtain ⟨l, h'⟩ := cut_get h
    rcases kp k o l h' with z | z
    · exact RepO.cut2 e o (s0.ob k o z) (s1.ob k o h')
    · exact RepO.ofNc (fun _ => cut_live) o z (s1.ob k o h')
  · obtain ⟨_, h1'⟩ := cut_get h1
    obtain ⟨_, h2'⟩ := cut_get h2
    exact s1.inj j k o u h1' h2' q
/-- the cell k is moved to the place m, all others behind m dropped -/
def Gs.home (g : Gs) (m k : Nat) (o : MO) : Gs := ⟨fun j => if j = m then g.ρ k else g.ρ j, g.μ.take m ++ [some o], g.hid⟩
theorem home_get {m k j : Nat} {o u : MO} (hm : m ≤ g.μ.length) (h : (g.home m k o).μ[j]? = some (some u)) : (j = m ∧ u = o) ∨ (j < m ∧ g.μ[j]? = some (some u)) := by
  have h : (g.μ.take m ++ [some o])[j]? = some (some u) := h
  have hl : (g.μ.take m).length = m := by rw [List.length_take]; exact Nat.min_eq_left hm
  rcases Nat.lt_trichotomy j m with l | l | l
  · rw [List.getElem?_append_left (by omega), List.getElem?_take, if_pos l] at h
    exact .inr ⟨l, h⟩
  · subst l
    rw [List.getElem?_append_right (by omega), hl, Nat.sub_self] at h
    simp at h
    exact .inl ⟨rfl, h.symm⟩
  · rw [List.getElem?_eq_none (by simp; omega)] at h
    cases h
theorem home_live {m k : Nat} {o : MO} (hm : m ≤ g.μ.length) (hk : g.μ[k]? = some (some o)) {a : Addr} (h : (g.home m k o).live a) : g.live a := by
  rcases h with ⟨j, u, h1, h2⟩ | l
  · have h2 : (if j = m then g.ρ k else g.ρ j) = a := h2
    rcases home_get hm h1 with ⟨e1, e2⟩ | ⟨e1, e2⟩
    · rw [if_pos e1] at h2
      exact .inl ⟨k, o, hk, h2⟩
    · rw [if_neg (by omega)] at h2
      exact .inl ⟨j, u, e2, h2⟩
  · exact .inr l
theorem Ext.home {k : Nat} {o : MO} (e : Ext g0 H0 g1 H1) (hk : g1.μ[k]? = some (some o)) : Ext g0 H0 (g1.home g0.μ.length k o) H1 := by
  refine ⟨⟨fun a u h n => let ⟨h1, n1⟩ := e.rd a u h n; ⟨h1, fun l => n1 (home_live e.len hk l)⟩, e.ls, fun j hj => ?_, ?_⟩, e.hd⟩
  · show (if j = g0.μ.length then g1.ρ k else g1.ρ j) = g0.ρ j
    rw [if_neg (by omega)]
    exact e.rho j hj
  · show _ ≤ (g1.μ.take g0.μ.length ++ [some o]).length
    rw [List.length_append, List.length_take]
    have := e.len
    simp
    omega
mutual
theorem Rep.home2 {k : Nat} {o : MO} (e : Ext g0 H0 g1 H1) (hk : g1.μ[k]? = some (some o)) : ∀ (d : D) (v v' : V), Rep K g0 H0 d v → Rep K g1 H1 d v' → Rep K (g1.home g0.μ.length k o) H1 d v'
  | .non, _, _, _, h => h
  | .bl _, _, _, _, h => h
  | .int _, _, _, _, h => h
  | .str _, _, _, _, h => h
  | .tup xs, _, _, ⟨_, ws, _, _, k3⟩, ⟨a, vs, h1, h2, h3⟩ => ⟨a, vs, h1, h2.elim (fun z => .inl ⟨z.1, fun l => z.2 (home_live e.len hk l)⟩) .inr, RepA.home2 e hk xs ws vs k3 h3⟩
  | .lst xs, _, _, ⟨_, ws, _, _, k3⟩, ⟨a, vs, h1, h2, h3⟩ => ⟨a, vs, h1, ⟨h2.1, fun l => h2.2 (home_live e.len hk l)⟩, RepA.home2 e hk xs ws vs k3 h3⟩
  | .ptp xs, _, _, ⟨_, ws, _, _, k3⟩, ⟨a, vs, h1, h2, h3⟩ => ⟨a, vs, h1, ⟨h2.1, fun l => h2.2 (home_live e.len hk l)⟩, RepA.home2 e hk xs ws vs k3 h3⟩
  | .rol xs, _, _, ⟨_, ws, _, _, k3⟩, ⟨a, vs, h1, h2, h3⟩ => ⟨a, vs, h1, h2.elim (fun z => .inl (fz_sub (fun _ => home_live e.len hk) z)) .inr, RepA.home2 e hk xs ws vs k3 h3⟩
  | .dct ks ds, _, _, ⟨_, ws, _, _, _, k4⟩, ⟨a, vs, h1, h2, h3, h4⟩ => ⟨a, vs, h1, fz_sub (fun _ => home_live e.len hk) h2, h3, RepA.home2 e hk ds ws vs k4 h4⟩
  | .cel j, _, _, ⟨k1, _⟩, ⟨_, h2⟩ => by
    refine ⟨?_, ?_⟩
    · show j < (g1.μ.take g0.μ.length ++ [some o]).length
      rw [List.length_append, List.length_take]
      have := e.len
      simp
      omega
    · show _ = V.ref (if j = g0.μ.length then g1.ρ k else g1.ρ j)
      rw [if_neg (by omega)]
      exact h2
theorem RepA.home2 {k : Nat} {o : MO} (e : Ext g0 H0 g1 H1) (hk : g1.μ[k]? = some (some o)) : ∀ (ds : List D) (vs vs' : List V), RepA K g0 H0 ds vs → RepA K g1 H1 ds vs' → RepA K (g1.home g0.μ.length k o) H1 ds vs'
  | [], _, _, _, h => h
  | d :: ds, _, _, ⟨w, s, _, k2, k3⟩, ⟨v, r, h1, h2, h3⟩ => ⟨v, r, h1, Rep.home2 e hk d w v k2 h2, RepA.home2 e hk ds s r k3 h3⟩
end
theorem RepO.home2 {k : Nat} {m : MO} (e : Ext g0 H0 g1 H1) (hk : g1.μ[k]? = some (some m)) {o o' : Option HO} : ∀ (u : MO), RepO K g0 H0 u o → RepO K g1 H1 u o' → RepO K (g1.home g0.μ.length k m) H1 u o'
  | .lst xs, ⟨_, _, z⟩, ⟨vs, h1, h2⟩ => ⟨vs, h1, RepA.home2 e hk _ _ _ z h2⟩
  | .dk ks ds, ⟨_, _, _, z⟩, ⟨vs, h1, h2, h3⟩ => ⟨vs, h1, h2, RepA.home2 e hk _ _ _ z h3⟩
  | .dt ks ds, ⟨_, _, _, z⟩, ⟨vs, h1, h2, h3⟩ => ⟨vs, h1, h2, RepA.home2 e hk _ _ _ z h3⟩
theorem StOk.home {k : Nat} {m : MO} (s0 : StOk K g0 H0) (s1 : StOk K g1 H1) (e : Ext g0 H0 g1 H1) (kp : KeepOk g0.μ g1.μ) (hk : g1.μ[k]? = some (some m)) (hl : g0.μ.length ≤ k) (hm : m.nc = true) : StOk K (g1.home g0.μ.length k m) H1 := by
  refine ⟨fun j o h => ?_, fun i j o u h1 h2 q => ?_, fun a l => ⟨(s1.hd a l).1, fun j o h z => ?_⟩⟩
  · show RepO K _ _ o (H1 (if j = g0.μ.length then g1.ρ k else g1.ρ j))
    rcases home_get e.len h with ⟨e1, e2⟩ | ⟨e1, e2⟩
    · rw [if_pos e1]
      subst e2
      exact RepO.ofNc (fun _ => home_live e.len hk) o hm (s1.ob k o hk)
    · rw [if_neg (by omega)]
      rcases kp j o e1 e2 with z | z
      · exact RepO.home2 e hk o (s0.ob j o z) (s1.ob j o e2)
      · exact RepO.ofNc (fun _ => home_live e.len hk) o z (s1.ob j o e2)
  · have q : (if i = g0.μ.length then g1.ρ k else g1.ρ i) = (if j = g0.μ.length then g1.ρ k else g1.ρ j) := q
    rcases home_get e.len h1 with ⟨a1, a2⟩ | ⟨a1, a2⟩ <;> rcases home_get e.len h2 with ⟨b1, b2⟩ | ⟨b1, b2⟩
    · omega
    · rw [if_pos a1, if_neg (by omega)] at q
      have := s1.inj k j _ _ hk b2 q
      omega
    · rw [if_neg (by omega), if_pos b1] at q
      have := s1.inj i k _ _ a2 hk q
      omega
    · rw [if_neg (by omega), if_neg (by omega)] at q
      exact s1.inj i j _ _ a2 b2 q
  · have z : (if j = g0.μ.length then g1.ρ k else g1.ρ j) = a := z
    rcases home_get e.len h with ⟨e1, e2⟩ | ⟨e1, e2⟩
    · rw [if_pos e1] at z
      exact (s1.hd a l).2 k m hk z
    · rw [if_neg (by omega)] at z
      exact (s1.hd a l).2 j o e2 z
theorem Rep.homeCell {k : Nat} {o : MO} {v : V} (e : Ext g0 H0 g1 H1) (h : Rep K g1 H1 (.cel k) v) : Rep K (g1.home g0.μ.length k o) H1 (.cel g0.μ.length) v := by
  obtain ⟨_, h2⟩ := h
  refine ⟨?_, ?_⟩
  · show g0.μ.length < (g1.μ.take g0.μ.length ++ [some o]).length
    rw [List.length_append, List.length_take]
    have := e.len
    simp
    omega
  · show _ = V.ref (if g0.μ.length = g0.μ.length then g1.ρ k else _)
    rw [if_pos rfl]
    exact h2
/-- the last cell is frozen -/
theorem freeze {xs : List D} {v : V} (s0 : StOk K g0 H0) (s1 : StOk K g1 H1) (e : Ext g0 H0 g1 H1) (hμ : g1.μ = g0.μ ++ [some (.lst xs)]) (hx : ncA xs = true) (r : Rep K g1 H1 (.cel g0.μ.length) v) :
    StOk K (g1.cut g0.μ.length) H1 ∧ Ext g0 H0 (g1.cut g0.μ.length) H1 ∧ Rep K (g1.cut g0.μ.length) H1 (.lst xs) v ∧ (g1.cut g0.μ.length).μ = g0.μ := by
  have kp : KeepOk g0.μ g1.μ := fun k o l h => .inl (by rw [hμ, List.getElem?_append_left l] at h; exact h)
  have hk : g1.μ[g0.μ.length]? = some (some (.lst xs)) := by rw [hμ, List.getElem?_append_right (Nat.le_refl _), Nat.sub_self]; rfl
  obtain ⟨vs, h1, h2⟩ := s1.ob _ _ hk
  refine ⟨s0.cut s1 e kp, e.cut, ⟨_, vs, r.2, ⟨h1, fun l => ?_⟩, RepA.ofNc (fun _ => cut_live) xs vs hx h2⟩, by show g1.μ.take _ = _; rw [hμ, List.take_left']; rfl⟩
  rcases l with ⟨j, o, q1, q2⟩ | l
  · obtain ⟨l, q1'⟩ := cut_get q1
    have := s1.inj j _ _ _ q1' hk q2
    omega
  · exact (s1.hd _ l).2 _ _ hk rfl

/-! ### views -/
/-- the items of a list or a tuple -/
def seqOf (μ : Mu) : D → Option (List D)
  | .tup xs => some xs
  | .lst xs => some xs
  | .rol xs => some xs
  | .ptp xs => some xs
  | .cel k => match μ[k]? with
    | some (some (.lst xs)) => some xs
    | _ => none
  | _ => none
def lstOf (μ : Mu) : D → Option (List D)
  | .lst xs => some xs
  | .cel k => match μ[k]? with
    | some (some (.lst xs)) => some xs
    | _ => none
  | _ => none
def dicOf (μ : Mu) : D → Option (List Str × List D)
  | .dct ks ds => some (ks, ds)
  | .cel k => match μ[k]? with
    | some (some (.dk ks ds)) => some (ks, ds)
    | _ => none
  | _ => none
/-- a cell's list as a list -/
def resOf (μ : Mu) : D → D
  | .cel k => match μ[k]? with
    | some (some (.lst xs)) => .lst xs
    | _ => .cel k
  | d => d
theorem lstOf_cel {μ : Mu} {k : Nat} {xs : List D} (h : lstOf μ (.cel k) = some xs) : μ[k]? = some (some (.lst xs)) := by
  have h : (match μ[k]? with
    | some (some (.lst xs)) => some xs
    | _ => none) = some xs := h
  split at h
  · rename_i e; cases h; exact e
  · cases h
theorem dicOf_cel {μ : Mu} {k : Nat} {ks : List Str} {xs : List D} (h : dicOf μ (.cel k) = some (ks, xs)) : μ[k]? = some (some (.dk ks xs)) := by
  have h : (match μ[k]? with
    | some (some (.dk ks ds)) => some (ks, ds)
    | _ => none) = some (ks, xs) := h
  split at h
  · rename_i e; cases h; exact e
  · cases h
theorem lst_view {d : D} {v : V} {xs : List D} (s : StOk K g H) (r : Rep K g H d v) (h : lstOf g.μ d = some xs) : ∃ a vs, v = .ref a ∧ H a = some (.lst vs) ∧ RepA K g H xs vs := by
  cases d with
  | lst ys =>
    cases h
    obtain ⟨a, vs, h1, h2, h3⟩ := r
    exact ⟨a, vs, h1, h2.1, h3⟩
  | cel k =>
    obtain ⟨vs, h1, h2⟩ := s.ob k _ (lstOf_cel h)
    exact ⟨_, vs, r.2, h1, h2⟩
  | _ => cases h
theorem seq_view {d : D} {v : V} {xs : List D} (s : StOk K g H) (r : Rep K g H d v) (h : seqOf g.μ d = some xs) : ∃ a vs, v = .ref a ∧ (SqL K H a vs ∨ SqT K H a vs) ∧ RepA K g H xs vs := by
  cases d with
  | lst ys =>
    cases h
    obtain ⟨a, vs, h1, h2, h3⟩ := r
    exact ⟨a, vs, h1, .inl h2.sq, h3⟩
  | rol ys =>
    cases h
    obtain ⟨a, vs, h1, h2, h3⟩ := r
    exact ⟨a, vs, h1, .inl h2.sq, h3⟩
  | ptp ys =>
    cases h
    obtain ⟨a, vs, h1, h2, h3⟩ := r
    exact ⟨a, vs, h1, .inr h2.sq, h3⟩
  | tup ys =>
    cases h
    obtain ⟨a, vs, h1, h2, h3⟩ := r
    exact ⟨a, vs, h1, .inr h2.sq, h3⟩
  | cel k =>
    obtain ⟨vs, h1, h2⟩ := s.ob k _ (lstOf_cel (k := k) h)
    exact ⟨_, vs, r.2, .inl (.inl (.inl h1)), h2⟩
  | _ => cases h
theorem dic_view {d : D} {v : V} {ks : List Str} {ds : List D} (s : StOk K g H) (r : Rep K g H d v) (h : dicOf g.μ d = some (ks, ds)) : ∃ a vs, v = .ref a ∧ Rd H a (.dK (zK ks vs)) ∧ ks.length = ds.length ∧ RepA K g H ds vs := by
  cases d with
  | dct ks' ds' =>
    cases h
    obtain ⟨a, vs, h1, h2, h3, h4⟩ := r
    exact ⟨a, vs, h1, h2.1, h3, h4⟩
  | cel k =>
    obtain ⟨vs, h1, h2, h3⟩ := s.ob k _ (dicOf_cel h)
    exact ⟨_, vs, r.2, .inl h1, h2, h3⟩
  | _ => cases h

/-! ### data -/
mutual
/-- no cell, no dict within -/
def D.pl : D → Bool
  | .non => true
  | .bl _ => true
  | .int _ => true
  | .str _ => true
  | .tup xs => plA xs
  | .lst xs => plA xs
  | .dct _ _ => false
  | .rol _ => false
  | .ptp xs => plA xs
  | .cel _ => false
def plA : List D → Bool
  | [] => true
  | d :: ds => d.pl && plA ds
end
mutual
def D.py : D → PyData
  | .non => .none
  | .bl b => .bool b
  | .int i => .int i
  | .str x => .str x
  | .tup xs => .tuple (pyA xs)
  | .lst xs => .list (pyA xs)
  | .dct _ _ => .none
  | .rol _ => .none
  | .ptp xs => .tuple (pyA xs)
  | .cel _ => .none
def pyA : List D → List PyData
  | [] => []
  | d :: ds => d.py :: pyA ds
end
theorem pyA_map : ∀ ds : List D, pyA ds = ds.map D.py
  | [] => rfl
  | d :: ds => by rw [List.map_cons, ← pyA_map ds]; rfl
mutual
theorem D.plain : ∀ d : D, d.pl = true → d.py.plain = true
  | .non, _ => rfl
  | .bl _, _ => rfl
  | .int _, _ => rfl
  | .str _, _ => rfl
  | .tup xs, h => by show PySem.PyData.plain (.tuple (pyA xs)) = true; rw [PyData.plain]; exact D.plainA xs h
  | .lst xs, h => by show PySem.PyData.plain (.list (pyA xs)) = true; rw [PyData.plain]; exact D.plainA xs h
  | .dct _ _, h => by cases h
  | .rol _, h => by cases h
  | .ptp xs, h => by show PySem.PyData.plain (.tuple (pyA xs)) = true; rw [PyData.plain]; exact D.plainA xs h
  | .cel _, h => by cases h
theorem D.plainA : ∀ ds : List D, plA ds = true → PyData.plainAll (pyA ds) = true
  | [], _ => rfl
  | d :: ds, h => by
    obtain ⟨h1, h2⟩ := Bool.and_eq_true_iff.mp (show (d.pl && plA ds) = true from h)
    show PyData.plainAll (d.py :: pyA ds) = true
    rw [PyData.plainAll, D.plain d h1, D.plainA ds h2]
    rfl
end
mutual
theorem Rep.dp : ∀ (d : D) (v : V), d.pl = true → Rep K g H d v → Dp K H v d.py
  | .non, _, _, h => by cases h; exact .non
  | .bl _, _, _, h => by cases h; exact .bl _
  | .int _, _, _, h => by cases h; exact .int _
  | .str _, _, _, h => by cases h; exact .str _
  | .tup xs, _, c, ⟨a, vs, h1, h2, h3⟩ => by subst h1; exact .tup h2.sq (RepA.dp xs vs c h3)
  | .lst xs, _, c, ⟨a, vs, h1, h2, h3⟩ => by subst h1; exact .lst h2.sq (RepA.dp xs vs c h3)
  | .dct _ _, _, c, _ => by cases c
  | .rol _, _, c, _ => by cases c
  | .ptp xs, _, c, ⟨a, vs, h1, h2, h3⟩ => by subst h1; exact .tup h2.sq (RepA.dp xs vs c h3)
  | .cel _, _, c, _ => by cases c
theorem RepA.dp : ∀ (ds : List D) (vs : List V), plA ds = true → RepA K g H ds vs → DpAll K H vs (pyA ds)
  | [], _, _, h => by cases h; exact .nil
  | d :: ds, _, c, ⟨v, r, h1, h2, h3⟩ => by
    obtain ⟨c1, c2⟩ := Bool.and_eq_true_iff.mp (show (d.pl && plA ds) = true from c)
    subst h1
    exact .cons (Rep.dp d v c1 h2) (RepA.dp ds r c2 h3)
end
/-- .. a cell's list too -/
theorem Rep.dpR {d : D} {v : V} (s : StOk K g H) (c : (resOf g.μ d).pl = true) (h : Rep K g H d v) : Dp K H v (resOf g.μ d).py := by
  cases d with
  | cel k =>
    have e : resOf g.μ (.cel k) = (match g.μ[k]? with
      | some (some (.lst xs)) => .lst xs
      | _ => .cel k) := rfl
    rw [e] at c ⊢
    split at c
    · rename_i xs q
      obtain ⟨vs, h1, h2⟩ := s.ob k _ q
      rw [h.2]
      exact .lst (.inl (.inl h1)) (RepA.dp xs vs c h2)
    · cases c
  | non => exact Rep.dp _ _ c h
  | bl _ => exact Rep.dp _ _ c h
  | int _ => exact Rep.dp _ _ c h
  | str _ => exact Rep.dp _ _ c h
  | tup _ => exact Rep.dp _ _ c h
  | lst _ => exact Rep.dp _ _ c h
  | dct _ _ => cases c
  | rol _ => cases c
  | ptp _ => exact Rep.dp _ _ c h
end
end FW

set_option Elab.async false
set_option linter.all false
set_option maxRecDepth 100000
/-! DL2: the compact text of a def's body, and what must hold so that it ends as is wanted, over data. -/
namespace FW
open PySem PySem.Spec PyProof.Rows L2

abbrev En := List (Option D)
abbrev QD := D → Mu → Prop
abbrev XD := Str → Mu → Prop
/-- a def's promise over data -/
abbrev FS := List D → Mu → QD → XD → Prop

inductive Bi where
  | len | all | any | abs | isi (T : String) | list | tuple | dict | sorted | min2 | max2 | int | sum
  | sortedT | sortedDk | lenSet | dictZip | listZip | sortedZip | sortedSet | isx (C : Str)
inductive Mt where
  | append | extend | insert | pop | popi | index | update | updateDZ | split
inductive Tg where
  | n (i : Nat) | t (is : List Nat)

mutual
inductive IE where
  | v (i : Nat)
  | g (x : Str) (d : D)
  | k (d : D)
  | tup (es : IEs)
  | lst (m : Bool) (es : IEs)
  | op (o : Operator) (m : Bool) (a b : IE)
  | neg (a : IE)
  | not (a : IE)
  | bop (o : BoolOp) (es : IEs)
  | ife (c a b : IE)
  | cmp (o : CmpOp) (a b : IE)
  | chn (o o' : CmpOp) (a b c : IE)
  | ix (a b : IE)
  | sl (m : Bool) (a : IE) (lo hi : IEs)
  | rev (a : IE)
  | call (f : Str) (fz : Bool) (es : IEs)
  | bi (b : Bi) (m : Bool) (es : IEs)
  | me (b : Mt) (o : IE) (es : IEs)
  | lc (m : Bool) (own : List Nat) (e : IE) (tg : Tg) (it : II) (cs : IEs)
  | dc (m : Bool) (own : List Nat) (k e : IE) (tg : Tg) (it : II)
  | d0 (t : Bool)
inductive IEs where
  | nil | cons (e : IE) (es : IEs)
inductive II where
  | seq (e : IE) | rng (es : IEs) | enu (e : IE) | zip (a b : IE) | str (e : IE)
end
inductive TgS where
  | n (i : Nat) | t (is : List Nat) | sub (o i : IE)
mutual
inductive IS where
  | asg (tg : TgS) (e : IE)
  | par (i j : Nat) (a b : IE)
  | swp (o1 i1 o2 i2 a b : IE)
  | ex (e : IE)
  | ret (e : IE)
  | iff (c : IE) (a b : ISs)
  | whl (c : IE) (a : ISs)
  | for_ (tg : Tg) (it : II) (a : ISs)
  | cont
  | rai (c : Str)
  | nev
inductive ISs where
  | nil | cons (s : IS) (r : ISs)
  | fz (i : Nat) (r : ISs)      -- no text: the list or dict at slot i stands still from here on
end

/-! ### small readings of data -/
def asB (d : D) (k : Bool → Prop) : Prop := match d with
  | .bl b => k b
  | _ => False
def asI (d : D) (k : Int → Prop) : Prop := match d with
  | .int i => k i
  | _ => False
def asS (d : D) (k : Str → Prop) : Prop := match d with
  | .str i => k i
  | _ => False
def onB (b : Bool) (P R : Prop) : Prop := (b = true → P) ∧ (b = false → R)
def onS {α : Type} (o : Option α) (k : α → Prop) : Prop := match o with
  | some a => k a
  | none => False
theorem asB_bl {b : Bool} {k : Bool → Prop} : asB (.bl b) k = k b := rfl
theorem asI_int {i : Int} {k : Int → Prop} : asI (.int i) k = k i := rfl
theorem onS_some {α : Type} {a : α} {k : α → Prop} : onS (some a) k = k a := rfl
theorem onB_true {P R : Prop} : onB true P R ↔ P := ⟨fun h => h.1 rfl, fun h => ⟨fun _ => h, fun z => (by cases z)⟩⟩
theorem onB_false {P R : Prop} : onB false P R ↔ R := ⟨fun h => h.2 rfl, fun h => ⟨fun z => (by cases z), fun _ => h⟩⟩
/-- a new list: a cell, or one that stands still -/
def newL (m : Bool) (xs : List D) (μ : Mu) (Q : QD) : Prop := match m with
  | true => Q (.cel μ.length) (μ ++ [some (.lst xs)])
  | false => Q (.lst xs) μ
def newDk (m : Bool) (ks : List Str) (ds : List D) (μ : Mu) (Q : QD) : Prop := match m with
  | true => Q (.cel μ.length) (μ ++ [some (.dk ks ds)])
  | false => Q (.dct ks ds) μ
theorem newL_t {xs : List D} {μ : Mu} {Q : QD} : newL true xs μ Q = Q (.cel μ.length) (μ ++ [some (.lst xs)]) := rfl
theorem newL_f {xs : List D} {μ : Mu} {Q : QD} : newL false xs μ Q = Q (.lst xs) μ := rfl
/-- a size that a list may have -/
def Sz (n : Nat) : Prop := n ≤ 100000
def BigI (i : Int) : Prop := i.natAbs.log2 < 400000
def DivOk (j : Int) : Prop := j ≠ 0 ∧ j.natAbs.log2 < 9000

/-! ### operators -/
def addW (m : Bool) (x y : D) (μ : Mu) (Q : QD) : Prop := match x, y with
  | .int i, .int j => Q (.int (i + j)) μ
  | .str a, .str b => Sz (a.length + b.length) ∧ Q (.str (a ++ b)) μ
  | .tup xs, .tup ys => Sz (xs.length + ys.length) ∧ Q (.tup (xs ++ ys)) μ
  | .ptp xs, .tup ys => (ys ≠ [] ∧ Sz (xs.length + ys.length)) ∧ Q (.tup (xs ++ ys)) μ
  | .tup xs, .ptp ys => (xs ≠ [] ∧ Sz (xs.length + ys.length)) ∧ Q (.tup (xs ++ ys)) μ
  | x, y => onS (lstOf μ x) fun xs => onS (lstOf μ y) fun ys => Sz (xs.length + ys.length) ∧ newL m (xs ++ ys) μ Q
def mulW (m : Bool) (x y : D) (μ : Mu) (Q : QD) : Prop := match x, y with
  | .int i, .int j => BigI i ∧ BigI j ∧ Q (.int (i * j)) μ
  | .tup xs, .int j => (2 ≤ j ∧ j ≤ 1000 ∧ xs.length ≤ 10 ∧ xs ≠ []) ∧ Q (.tup (List.replicate j.toNat xs).flatten) μ
  | x, .int j => onS (lstOf μ x) fun xs => (0 ≤ j ∧ j ≤ 1000 ∧ xs.length ≤ 10) ∧ newL m (List.replicate j.toNat xs).flatten μ Q
  | _, _ => False
def bopW (o : Operator) (m : Bool) (x y : D) (μ : Mu) (Q : QD) : Prop := match o with
  | .Add => addW m x y μ Q
  | .Sub => asI x fun i => asI y fun j => Q (.int (i - j)) μ
  | .Mult => mulW m x y μ Q
  | .FloorDiv => asI x fun i => asI y fun j => DivOk j ∧ Q (.int (i.fdiv j)) μ
  | .Mod => asI x fun i => asI y fun j => j ≠ 0 ∧ Q (.int (i.fmod j)) μ
  | .Pow => asI x fun i => asI y fun j => (0 ≤ j ∧ j ≤ 100 ∧ i.natAbs ≤ 100) ∧ Q (.int (i ^ j.toNat)) μ
  | _ => False
/-- == by data -/
def eqD (x y : D) : Bool := PyData.eqv x.py y.py
def memD (x : D) (xs : List D) : Bool := xs.any fun z => eqD z x
def shal (d : D) : Prop := d.py.depth ≤ 40
def eqW (μ : Mu) (x y : D) (k : Bool → Prop) : Prop := ((resOf μ x).pl = true ∧ (resOf μ y).pl = true ∧ (shal (resOf μ x) ∨ shal (resOf μ y))) ∧ k (eqD (resOf μ x) (resOf μ y))
def memW (μ : Mu) (x y : D) (k : Bool → Prop) : Prop := match y with
  | .str z => match x with
    | .str c => c.length = 1 ∧ k (decide (c.cps.toList.headD 0 ∈ z.cps.toList))
    | _ => False
  | .dct ks _ => match x with
    | .str c => k (decide (c ∈ ks))
    | _ => False
  | .cel n => match μ[n]? with
    | some (some (.lst xs)) => (x.pl = true ∧ plA xs = true ∧ shal x) ∧ k (memD x xs)
    | some (some (.dk ks _)) => (match x with
      | .str c => k (decide (c ∈ ks))
      | _ => False)
    | some (some (.dt ks _)) => (match x with
      | .tup [.str a, .str b] => k (decide ([a, b] ∈ ks))
      | _ => False)
    | _ => False
  | .lst xs => (x.pl = true ∧ plA xs = true ∧ shal x) ∧ k (memD x xs)
  | .tup xs => (x.pl = true ∧ plA xs = true ∧ shal x) ∧ k (memD x xs)
  | _ => False
/-- <, by data -/
def ltW (x y : D) (k : Bool → Prop) : Prop := match x, y with
  | .int i, .int j => k (decide (i < j))
  | .str a, .str b => k (decide (a.cps.toList < b.cps.toList))
  | .tup xs, .tup ys => (x.pl = true ∧ y.pl = true ∧ shal x ∧ PySem.W.alike x.py y.py = true) ∧ k (PySem.W.dataLt x.py y.py)
  | _, _ => False
def geW (x y : D) (k : Bool → Prop) : Prop := match x, y with
  | .int i, .int j => k (decide (j ≤ i))
  | .str a, .str b => k (decide (b.cps.toList ≤ a.cps.toList))
  | _, _ => False
def isNon : D → Bool
  | .non => true
  | _ => false
def isW (x y : D) (k : Bool → Prop) : Prop := match y with
  | .non => k (isNon x)
  | .bl b => (match x with
    | .bl c => k (decide (c = b))
    | .non => k false
    | _ => False)
  | _ => False
def isnW (x y : D) (k : Bool → Prop) : Prop := match y with
  | .non => k (!isNon x)
  | _ => False
def cmpW (o : CmpOp) (x y : D) (μ : Mu) (k : Bool → Prop) : Prop := match o with
  | .Eq => eqW μ x y k
  | .NotEq => eqW μ x y fun b => k (!b)
  | .Lt => ltW x y k
  | .Gt => asI x fun i => asI y fun j => k (decide (j < i))
  | .LtE => asI x fun i => asI y fun j => k (decide (i ≤ j))
  | .GtE => geW x y k
  | .Is => isW x y k
  | .IsNot => isnW x y k
  | .In => memW μ x y k
  | .NotIn => memW μ x y fun b => k (!b)
/-- an index that lies within -/
abbrev atD (xs : List D) (i : Int) : Option D := atI xs i
section
variable {κ : Type} [DecidableEq κ]
def lookD : List κ → List D → κ → Option D
  | k :: ks, d :: ds, x => if k = x then some d else lookD ks ds x
  | _, _, _ => none
def setD : List κ → List D → κ → D → List D
  | k :: ks, d :: ds, x, e => (if k = x then e else d) :: setD ks ds x e
  | _, ds, _, _ => ds
def putD (ks : List κ) (ds : List D) (x : κ) (e : D) : List κ × List D := if x ∈ ks then (ks, setD ks ds x e) else (ks ++ [x], ds ++ [e])
def putAll : List κ → List D → List (κ × D) → List κ × List D
  | ks, ds, [] => (ks, ds)
  | ks, ds, (x, e) :: r => putAll (putD ks ds x e).1 (putD ks ds x e).2 r
end
def ixW (x y : D) (μ : Mu) (Q : QD) : Prop := match x with
  | .tup xs => asI y fun i => onS (atD xs i) fun d => Q d μ
  | .lst xs => asI y fun i => onS (atD xs i) fun d => Q d μ
  | .rol xs => asI y fun i => onS (atD xs i) fun d => Q d μ
  | .ptp xs => asI y fun i => onS (atD xs i) fun d => Q d μ
  | .dct ks ds => (match y with
    | .str c => onS (lookD ks ds c) fun d => Q d μ
    | _ => False)
  | .cel n => (match μ[n]? with
    | some (some (.lst xs)) => asI y fun i => onS (atD xs i) fun d => Q d μ
    | some (some (.dk ks ds)) => (match y with
      | .str c => onS (lookD ks ds c) fun d => Q d μ
      | _ => False)
    | some (some (.dt ks ds)) => (match y with
      | .tup [.str a, .str b] => onS (lookD ks ds [a, b]) fun d => Q d μ
      | _ => False)
    | _ => False)
  | _ => False
def cutD (xs : List D) (lo hi : Option Int) : List D := (xs.drop (HT.sIx xs.length 0 lo)).take (HT.sIx xs.length xs.length hi - HT.sIx xs.length 0 lo)
def slW (m : Bool) (x : D) (lo hi : Option Int) (μ : Mu) (Q : QD) : Prop := match x with
  | .tup xs => Q (.tup (cutD xs lo hi)) μ
  | .ptp xs => (cutD xs lo hi).length < xs.length ∧ Q (.tup (cutD xs lo hi)) μ
  | .str z => Sz z.length ∧ Q (.str (cutS z lo hi)) μ
  | x => onS (lstOf μ x) fun xs => newL m (cutD xs lo hi) μ Q
def isiB (T : String) (μ : Mu) (d : D) : Option Bool := match d with
  | .non => some false
  | .bl _ => some (T == "bool" || T == "int")
  | .int _ => some (T == "int")
  | .str _ => some (T == "str")
  | .tup _ => some (T == "tuple")
  | .lst _ => some (T == "list")
  | .cel k => (match μ[k]? with
    | some (some (.lst _)) => some (T == "list")
    | _ => none)
  | .dct _ _ => none
  | .rol _ => none
  | .ptp _ => some (T == "tuple")
def lenD (μ : Mu) (d : D) : Option Nat := match d with
  | .tup xs => some xs.length
  | .lst xs => some xs.length
  | .rol xs => some xs.length
  | .ptp xs => some xs.length
  | .str z => if z.length ≤ 100000 then some z.length else none
  | .dct ks _ => some ks.length
  | .cel k => (match μ[k]? with
    | some (some (.lst xs)) => some xs.length
    | some (some (.dk ks _)) => some ks.length
    | some (some (.dt ks _)) => some ks.length
    | _ => none)
  | _ => none
def allB : List D → Option (List Bool)
  | [] => some []
  | .bl b :: r => (allB r).map (b :: ·)
  | _ :: _ => none
def allI : List D → Option (List Int)
  | [] => some []
  | .int i :: r => (allI r).map (i :: ·)
  | _ :: _ => none
def allStr : List D → Option (List Str)
  | [] => some []
  | .str x :: r => (allStr r).map (x :: ·)
  | _ :: _ => none
/-- pairs of a text and a thing -/
def allPr : List D → Option (List (Str × D))
  | [] => some []
  | .tup [.str x, d] :: r => (allPr r).map ((x, d) :: ·)
  | _ :: _ => none
def zipD : List D → List D → List D
  | a :: as, b :: bs => .tup [a, b] :: zipD as bs
  | _, _ => []
def dtKeys (μ : Mu) (n : Nat) : Option (List (List Str)) := match μ[n]? with
  | some (some (.dt ks _)) => some ks
  | _ => none
def sortD (xs : List D) : List D := xs.mergeSort fun a b => !PySem.W.dataLt b.py a.py
def alikeAllP (xs : List D) : Prop := ∀ a ∈ xs, ∀ b ∈ xs, PySem.W.alike a.py b.py = true
def sortable (xs : List D) : Prop := plA xs = true ∧ alikeAllP xs ∧ (∀ d ∈ xs, shal d) ∧ ((∀ d ∈ xs, ∃ y r, d = .tup (y :: r)) ∨ (∀ d ∈ xs, ∃ x, d = .str x) ∨ (∀ d ∈ xs, ∃ i, d = .int i)) ∧ Sz xs.length
def ddStep (acc : List Str) (x : Str) : List Str := if x ∈ acc then acc else acc ++ [x]
def dedupS (xs : List Str) : List Str := xs.foldl ddStep []
def ltS (a b : Str) : Bool := decide (a.cps.toList < b.cps.toList)
def dictW (m : Bool) (d : D) (μ : Mu) (Q : QD) : Prop := match dicOf μ d with
  | some (ks, ds) => newDk m ks ds μ Q
  | none => onS (match d with
    | .ptp xs => some xs
    | d => lstOf μ d) fun ys => onS (allPr ys) fun ps => Sz ps.length ∧ newDk m (putAll [] [] ps).1 (putAll [] [] ps).2 μ Q
def minW (a b : D) (μ : Mu) (Q : QD) : Prop := match a, b with
  | .int i, .int j => Q (.int (if j < i then j else i)) μ
  | .str x, .str y => Q (.str (if ltS y x then y else x)) μ
  | _, _ => False
def maxW (a b : D) (μ : Mu) (Q : QD) : Prop := match a, b with
  | .int i, .int j => Q (.int (if i < j then j else i)) μ
  | .str x, .str y => Q (.str (if ltS x y then y else x)) μ
  | _, _ => False
def intW (d : D) (μ : Mu) (Q : QD) : Prop := match d with
  | .int i => Q (.int i) μ
  | .bl b => Q (.int (if b then 1 else 0)) μ
  | _ => False
def tupW (m : Bool) (d : D) (μ : Mu) (Q : QD) : Prop := match m with
  | true => onS (lstOf μ d) fun ys => Q (.ptp ys) μ
  | false => (match d with
    | .ptp xs => Q (.ptp xs) μ
    | d => onS (seqOf μ d) fun ys => Q (.tup ys) μ)
def biW (b : Bi) (m : Bool) (xs : List D) (μ : Mu) (Q : QD) : Prop := match b, xs with
  | .len, [d] => onS (lenD μ d) fun n => Q (.int n) μ
  | .all, [d] => onS (lstOf μ d) fun ys => onS (allB ys) fun bs => Q (.bl (bs.all id)) μ
  | .any, [d] => onS (lstOf μ d) fun ys => onS (allB ys) fun bs => Q (.bl (bs.any id)) μ
  | .abs, [d] => asI d fun i => Q (.int (if i < 0 then -i else i)) μ
  | .isi T, [d] => onS (isiB T μ d) fun b => Q (.bl b) μ
  | .list, [d] => onS (seqOf μ d) fun ys => newL m ys μ Q
  | .tuple, [d] => tupW m d μ Q
  | .dict, [d] => dictW m d μ Q
  | .sorted, [d] => onS (lstOf μ d) fun ys => sortable ys ∧ newL m (sortD ys) μ Q
  | .sortedT, [d] => onS (seqOf μ d) fun ys => sortable ys ∧ newL m (sortD ys) μ Q
  | .min2, [a, b] => minW a b μ Q
  | .max2, [a, b] => maxW a b μ Q
  | .int, [d] => intW d μ Q
  | .sum, [d] => onS (lstOf μ d) fun ys => onS (allI ys) fun is => Q (.int is.sum) μ
  | .lenSet, [d] => onS (lstOf μ d) fun ys => onS (allStr ys) fun ss => ss.length ≤ 1000 ∧ Q (.int (dedupS ss).length) μ
  | .dictZip, [a, b] => onS (lstOf μ a) fun xs => onS (lstOf μ b) fun ys => onS (allStr xs) fun ss => (xs.length = ys.length ∧ Sz xs.length) ∧ newDk m (putAll [] [] (ss.zip ys)).1 (putAll [] [] (ss.zip ys)).2 μ Q
  | .listZip, [a, b] => onS (lstOf μ a) fun xs => onS (lstOf μ b) fun ys => (xs.length = ys.length ∧ Sz xs.length) ∧ newL m (zipD xs ys) μ Q
  | .sortedZip, [a, b] => onS (lstOf μ a) fun xs => onS (lstOf μ b) fun ys => (xs.length = ys.length ∧ sortable (zipD xs ys)) ∧ newL m (sortD (zipD xs ys)) μ Q
  | .sortedDk, [d] => (match d with
    | .cel n => onS (dtKeys μ n) fun ks => (Sz ks.length ∧ sortable (ks.map fun k => .tup (k.map .str))) ∧ newL m (sortD (ks.map fun k => .tup (k.map .str))) μ Q
    | _ => False)
  | _, _ => False
/-- a method: its answer, the store behind it -/
def cellL (μ : Mu) (o : D) (k : Nat → List D → Prop) : Prop := match o with
  | .cel n => (match μ[n]? with
    | some (some (.lst xs)) => k n xs
    | _ => False)
  | _ => False
def cellK (μ : Mu) (o : D) (k : Nat → List Str → List D → Prop) : Prop := match o with
  | .cel n => (match μ[n]? with
    | some (some (.dk ks ds)) => k n ks ds
    | _ => False)
  | _ => False
def meW (b : Mt) (o : D) (xs : List D) (μ : Mu) (Q : QD) : Prop := match b, xs with
  | .append, [d] => cellL μ o fun n ys => Sz (ys.length + 1) ∧ Q .non (μ.set n (some (.lst (ys ++ [d]))))
  | .extend, [d] => cellL μ o fun n ys => onS (lstOf μ d) fun zs => Sz (ys.length + zs.length) ∧ Q .non (μ.set n (some (.lst (ys ++ zs))))
  | .insert, [i, d] => cellL μ o fun n ys => asI i fun i => (0 ≤ i ∧ i ≤ ys.length ∧ Sz (ys.length + 1)) ∧ Q .non (μ.set n (some (.lst (ys.take i.toNat ++ d :: ys.drop i.toNat))))
  | .pop, [] => cellL μ o fun n ys => onS ys.getLast? fun d => Q d (μ.set n (some (.lst ys.dropLast)))
  | .popi, [i] => cellL μ o fun n ys => asI i fun i => Sz ys.length ∧ onS (if 0 ≤ i then ys[i.toNat]? else none) fun d => Q d (μ.set n (some (.lst (ys.eraseIdx i.toNat))))
  | .index, [d] => onS (lstOf μ o) fun ys => onS (allStr ys) fun ss => asS d fun x => onS (ss.findIdx? fun z => decide (z = x)) fun j => Q (.int j) μ
  | .update, [d] => cellK μ o fun n ks ds => (match d with
    | .dct k2 d2 => Sz (ks.length + k2.length) ∧ Q .non (μ.set n (some (.dk (putAll ks ds (k2.zip d2)).1 (putAll ks ds (k2.zip d2)).2)))
    | _ => False)
  | _, _ => False
def meTy (b : Mt) (o : D) (μ : Mu) : Prop := match b with
  | .update => cellK μ o fun _ _ _ => True
  | .updateDZ => cellK μ o fun _ _ _ => True
  | .split => (match o with
    | .str _ => True
    | _ => False)
  | _ => onS (lstOf μ o) fun _ => True
/-- o[i] = d -/
def setW (o i d : D) (μ : Mu) (Q : Mu → Prop) : Prop := match o with
  | .cel n => (match μ[n]? with
    | some (some (.lst xs)) => asI i fun j => onS (ixN xs.length j) fun q => Q (μ.set n (some (.lst (xs.set q d))))
    | some (some (.dk ks ds)) => (match i with
      | .str c => Sz (ks.length + 1) ∧ Q (μ.set n (some (.dk (putD ks ds c d).1 (putD ks ds c d).2)))
      | _ => False)
    | some (some (.dt ks ds)) => (match i with
      | .tup [.str a, .str b] => Sz (ks.length + 1) ∧ Q (μ.set n (some (.dt (putD ks ds [a, b] d).1 (putD ks ds [a, b] d).2)))
      | _ => False)
    | _ => False)
  | _ => False

/-! ### slots -/
def lk (env : En) (i : Nat) : Option D := match env, i with
  | [], _ => none
  | o :: _, 0 => o
  | _ :: r, i + 1 => lk r i
def st (env : En) (i : Nat) (d : D) : En := match env, i with
  | [], _ => []
  | _ :: r, 0 => some d :: r
  | o :: r, i + 1 => o :: st r i d
def wp0 (env : En) : List Nat → En
  | [] => env
  | i :: is => wipe1 (wp0 env is) i
where wipe1 : En → Nat → En
  | [], _ => []
  | _ :: r, 0 => none :: r
  | o :: r, i + 1 => o :: wipe1 r i
def stAll (env : En) : List Nat → List D → Option En
  | [], [] => some env
  | i :: is, d :: ds => stAll (st env i d) is ds
  | _, _ => none
def tgW (tg : Tg) (d : D) (μ : Mu) (env : En) (k : En → Prop) : Prop := match tg with
  | .n i => k (st env i d)
  | .t is => match d with
    | .tup xs => onS (stAll env is xs) k
    | _ => False

/-! ### loops over data -/
structure EnD where
  nx : En → Mu → Prop
  rt : QD
  bk : En → Mu → Prop
  ct : En → Mu → Prop
  ex : Str → En → Mu → Prop
def lcW (src : Mu → Prop) (tg : Tg) (cond : En → Mu → (Bool → Mu → Prop) → Prop) (elt : En → Mu → QD → Prop) (env : En) : List D → List D → Mu → (List D → Mu → Prop) → Prop
  | [], acc, μ, Q => Q acc μ
  | d :: ds, acc, μ, Q => tgW tg d μ env fun env' => cond env' μ fun b μ1 => onB b
      (elt env' μ1 fun y μ2 => (src μ2 ∧ Sz (acc.length + 1)) ∧ lcW src tg cond elt env ds (acc ++ [y]) μ2 Q)
      (src μ1 ∧ lcW src tg cond elt env ds acc μ1 Q)
def dcW (src : Mu → Prop) (tg : Tg) (key elt : En → Mu → QD → Prop) (env : En) : List D → List Str → List D → Mu → (List Str → List D → Mu → Prop) → Prop
  | [], ks, ds, μ, Q => Q ks ds μ
  | d :: r, ks, ds, μ, Q => tgW tg d μ env fun env' => key env' μ fun x μ1 => asS x fun c =>
      elt env' μ1 fun y μ2 => (src μ2 ∧ Sz (ks.length + 1)) ∧ dcW src tg key elt env r (putD ks ds c y).1 (putD ks ds c y).2 μ2 Q
def forW (src : Mu → Prop) (tg : Tg) (body : En → Mu → EnD → Prop) : List D → En → Mu → EnD → Prop
  | [], env, μ, Dn => Dn.nx env μ
  | d :: ds, env, μ, Dn => tgW tg d μ env fun env' => body env' μ { Dn with nx := fun e m => src m ∧ forW src tg body ds e m Dn, ct := fun e m => src m ∧ forW src tg body ds e m Dn, bk := Dn.nx }
def whlW (test : En → Mu → (Bool → Mu → Prop) → XD → Prop) (body : En → Mu → EnD → Prop) : Nat → En → Mu → EnD → Prop
  | 0, _, _, _ => False
  | n + 1, env, μ, Dn => test env μ (fun b μ1 => onB b (body env μ1 { Dn with nx := fun e m => whlW test body n e m Dn, ct := fun e m => whlW test body n e m Dn, bk := Dn.nx }) (Dn.nx env μ1)) fun x m => Dn.ex x env m
def intsD (lo : Int) : Nat → List D
  | 0 => []
  | n + 1 => .int lo :: intsD (lo + 1) n
def srcOf (d : D) (xs : List D) : Mu → Prop := match d with
  | .cel n => fun μ => μ[n]? = some (some (.lst xs))
  | _ => fun _ => True
def enumD (i : Int) : List D → List D
  | [] => []
  | d :: ds => .tup [.int i, d] :: enumD (i + 1) ds
def d0W (t : Bool) (μ : Mu) (Q : QD) : Prop := match t with
  | true => Q (.cel μ.length) (μ ++ [some (.dt [] [])])
  | false => Q (.cel μ.length) (μ ++ [some (.dk [] [])])
def zipW (x y : D) (k : List D → Prop) : Prop := match x, y with
  | .lst xs, .lst ys => xs.length = ys.length ∧ k (zipD xs ys)
  | .tup xs, .tup ys => xs.length = ys.length ∧ k (zipD xs ys)
  | .ptp xs, .tup ys => xs.length = ys.length ∧ k (zipD xs ys)
  | .tup xs, .ptp ys => xs.length = ys.length ∧ k (zipD xs ys)
  | .ptp xs, .ptp ys => xs.length = ys.length ∧ k (zipD xs ys)
  | _, _ => False
def enuW (x : D) (k : List D → Prop) : Prop := match x with
  | .lst xs => k (enumD 0 xs)
  | _ => False
def strW (x : D) (k : List D → Prop) : Prop := match x with
  | .str z => k (z.cps.toList.map fun c => .str ⟨#[c]⟩)
  | _ => False
def rngW (ds : List D) (k : List D → Prop) : Prop := match ds with
  | [.int j] => (-100000 ≤ j ∧ j ≤ 100000) ∧ k (intsD 0 j.toNat)
  | [.int i, .int j] => (-100000 ≤ i ∧ i ≤ 100000 ∧ -100000 ≤ j ∧ j ≤ 100000) ∧ k (intsD i (j - i).toNat)
  | _ => False
def NoX : XD := fun _ _ => False

mutual
def wE (Φ : Str → FS) : IE → En → Mu → QD → XD → Prop
  | .v i, env, μ, Q, _ => onS (lk env i) fun d => Q d μ
  | .g _ d, _, μ, Q, _ => Q d μ
  | .k d, _, μ, Q, _ => Q d μ
  | .tup es, env, μ, Q, E => wEs Φ es env μ (fun ds μ1 => Q (.tup ds) μ1) E
  | .lst m es, env, μ, Q, E => wEs Φ es env μ (fun ds μ1 => newL m ds μ1 Q) E
  | .op o m a b, env, μ, Q, E => wE Φ a env μ (fun x μ1 => wE Φ b env μ1 (fun y μ2 => bopW o m x y μ2 Q) E) E
  | .neg a, env, μ, Q, E => wE Φ a env μ (fun x μ1 => asI x fun i => Q (.int (-i)) μ1) E
  | .not a, env, μ, Q, E => wE Φ a env μ (fun x μ1 => asB x fun b => Q (.bl (!b)) μ1) E
  | .bop o es, env, μ, Q, E => wB Φ o es env μ Q E
  | .ife c a b, env, μ, Q, E => wE Φ c env μ (fun x μ1 => asB x fun t => onB t (wE Φ a env μ1 Q E) (wE Φ b env μ1 Q E)) E
  | .cmp o a b, env, μ, Q, E => wE Φ a env μ (fun x μ1 => wE Φ b env μ1 (fun y μ2 => cmpW o x y μ2 fun t => Q (.bl t) μ2) E) E
  | .chn o o' a b c, env, μ, Q, E => wE Φ a env μ (fun x μ1 => wE Φ b env μ1 (fun y μ2 => cmpW o x y μ2 fun t => onB t (wE Φ c env μ2 (fun z μ3 => cmpW o' y z μ3 fun t' => Q (.bl t') μ3) E) (Q (.bl false) μ2)) E) E
  | .ix a b, env, μ, Q, E => wE Φ a env μ (fun x μ1 => wE Φ b env μ1 (fun y μ2 => ixW x y μ2 Q) E) E
  | .sl m a lo hi, env, μ, Q, E => wE Φ a env μ (fun x μ1 => wO Φ lo env μ1 (fun l μ2 => wO Φ hi env μ2 (fun h μ3 => slW m x l h μ3 Q) E) E) E
  | .rev a, env, μ, Q, E => wE Φ a env μ (fun x μ1 => onS (lstOf μ1 x) fun xs => Q (.lst xs.reverse) μ1) E
  | .call f fz es, env, μ, Q, E => wEs Φ es env μ (fun ds μ1 => Φ f ds μ1 (match fz with
      | true => fun d μ2 => ∃ xs, d = .cel μ1.length ∧ μ2 = μ1 ++ [some (.lst xs)] ∧ ncA xs = true ∧ Q (.lst xs) μ1
      | false => Q) E) E
  | .bi b m es, env, μ, Q, E => wEs Φ es env μ (fun ds μ1 => biW b m ds μ1 Q) E
  | .me b o es, env, μ, Q, E => wE Φ o env μ (fun x μ1 => meTy b x μ1 ∧ wEs Φ es env μ1 (fun ds μ2 => meW b x ds μ2 Q) E) E
  | .lc m own e tg it cs, env, μ, Q, E => wI Φ it env μ (fun ds src μ1 => lcW src tg (fun env' μ2 k => wC Φ cs env' μ2 k) (fun env' μ2 k => wE Φ e env' μ2 k NoX) (wp0 env own) ds [] μ1 fun ys μ3 => newL m ys μ3 Q) E
  | .dc m own k e tg it, env, μ, Q, E => wI Φ it env μ (fun ds src μ1 => dcW src tg (fun env' μ2 q => wE Φ k env' μ2 q NoX) (fun env' μ2 q => wE Φ e env' μ2 q NoX) (wp0 env own) ds [] [] μ1 fun ks ys μ3 => newDk m ks ys μ3 Q) E
  | .d0 t, _, μ, Q, _ => d0W t μ Q
def wEs (Φ : Str → FS) : IEs → En → Mu → (List D → Mu → Prop) → XD → Prop
  | .nil, _, μ, Q, _ => Q [] μ
  | .cons e es, env, μ, Q, E => wE Φ e env μ (fun d μ1 => wEs Φ es env μ1 (fun ds μ2 => Q (d :: ds) μ2) E) E
def wB (Φ : Str → FS) (o : BoolOp) : IEs → En → Mu → QD → XD → Prop
  | .nil, _, _, _, _ => False
  | .cons e .nil, env, μ, Q, E => wE Φ e env μ (fun x μ1 => asB x fun b => Q (.bl b) μ1) E
  | .cons e es, env, μ, Q, E => wE Φ e env μ (fun x μ1 => asB x fun b => match o with
      | .And => onB b (wB Φ o es env μ1 Q E) (Q (.bl false) μ1)
      | .Or => onB b (Q (.bl true) μ1) (wB Φ o es env μ1 Q E)) E
def wO (Φ : Str → FS) : IEs → En → Mu → (Option Int → Mu → Prop) → XD → Prop
  | .nil, _, μ, Q, _ => Q none μ
  | .cons e _, env, μ, Q, E => wE Φ e env μ (fun x μ1 => asI x fun i => Q (some i) μ1) E
def wC (Φ : Str → FS) : IEs → En → Mu → (Bool → Mu → Prop) → Prop
  | .nil, _, μ, Q => Q true μ
  | .cons e _, env, μ, Q => wE Φ e env μ (fun x μ1 => asB x fun b => Q b μ1) NoX
def wI (Φ : Str → FS) : II → En → Mu → (List D → (Mu → Prop) → Mu → Prop) → XD → Prop
  | .seq e, env, μ, Q, E => wE Φ e env μ (fun x μ1 => onS (seqOf μ1 x) fun xs => Q xs (srcOf x xs) μ1) E
  | .rng es, env, μ, Q, E => wEs Φ es env μ (fun ds μ1 => rngW ds fun xs => Q xs (fun _ => True) μ1) E
  | .enu e, env, μ, Q, E => wE Φ e env μ (fun x μ1 => enuW x fun xs => Q xs (fun _ => True) μ1) E
  | .zip a b, env, μ, Q, E => wE Φ a env μ (fun x μ1 => wE Φ b env μ1 (fun y μ2 => zipW x y fun xs => Q xs (fun _ => True) μ2) E) E
  | .str e, env, μ, Q, E => wE Φ e env μ (fun x μ1 => strW x fun xs => Q xs (fun _ => True) μ1) E
end

/-- the thing at slot i stands still from here on -/
def fzW (i : Nat) (env : En) (μ : Mu) (k : En → Mu → Prop) : Prop := match lk env i with
  | some (.cel n) => (match μ[n]? with
    | some (some (.lst xs)) => k (st env i (.lst xs)) (μ.set n none)
    | some (some (.dk ks ds)) => k (st env i (.dct ks ds)) (μ.set n none)
    | _ => False)
  | _ => False
mutual
def wS (Φ : Str → FS) : IS → En → Mu → EnD → Prop
  | .asg tg e, env, μ, Dn => wE Φ e env μ (fun d μ1 => match tg with
      | .n i => Dn.nx (st env i d) μ1
      | .t is => tgW (.t is) d μ1 env fun env' => Dn.nx env' μ1
      | .sub o i => wE Φ o env μ1 (fun x μ2 => wE Φ i env μ2 (fun y μ3 => setW x y d μ3 fun μ4 => Dn.nx env μ4) fun x m => Dn.ex x env m) fun x m => Dn.ex x env m) fun x m => Dn.ex x env m
  | .par i j a b, env, μ, Dn => wE Φ a env μ (fun x μ1 => wE Φ b env μ1 (fun y μ2 => Dn.nx (st (st env i x) j y) μ2) fun x m => Dn.ex x env m) fun x m => Dn.ex x env m
  | .swp o1 i1 o2 i2 a b, env, μ, Dn => wE Φ a env μ (fun x μ1 => wE Φ b env μ1 (fun y μ2 =>
      wE Φ o1 env μ2 (fun p μ3 => wE Φ i1 env μ3 (fun q μ4 => setW p q x μ4 fun μ5 =>
      wE Φ o2 env μ5 (fun p' μ6 => wE Φ i2 env μ6 (fun q' μ7 => setW p' q' y μ7 fun μ8 => Dn.nx env μ8) fun x m => Dn.ex x env m) fun x m => Dn.ex x env m)
      fun x m => Dn.ex x env m) fun x m => Dn.ex x env m) fun x m => Dn.ex x env m) fun x m => Dn.ex x env m
  | .ex e, env, μ, Dn => wE Φ e env μ (fun _ μ1 => Dn.nx env μ1) fun x m => Dn.ex x env m
  | .ret e, env, μ, Dn => wE Φ e env μ Dn.rt fun x m => Dn.ex x env m
  | .iff c a b, env, μ, Dn => wE Φ c env μ (fun x μ1 => asB x fun t => onB t (wSs Φ a env μ1 Dn) (wSs Φ b env μ1 Dn)) fun x m => Dn.ex x env m
  | .whl c a, env, μ, Dn => ∃ n, whlW (fun env' μ1 k E => wE Φ c env' μ1 (fun x μ2 => asB x fun b => k b μ2) E) (fun env' μ1 Dn' => wSs Φ a env' μ1 Dn') n env μ Dn
  | .for_ tg it a, env, μ, Dn => wI Φ it env μ (fun ds src μ1 => forW src tg (fun env' μ2 Dn' => wSs Φ a env' μ2 Dn') ds env μ1 Dn) fun x m => Dn.ex x env m
  | .cont, env, μ, Dn => Dn.ct env μ
  | .rai c, env, μ, Dn => Dn.ex c env μ
  | .nev, _, _, _ => False
def wSs (Φ : Str → FS) : ISs → En → Mu → EnD → Prop
  | .nil, env, μ, Dn => Dn.nx env μ
  | .cons s r, env, μ, Dn => wS Φ s env μ { Dn with nx := fun e m => wSs Φ r e m Dn }
  | .fz i r, env, μ, Dn => fzW i env μ fun e m => wSs Φ r e m Dn
end
end FW

set_option Elab.async false
set_option linter.all false
set_option maxRecDepth 100000
/-! DL3: the text of a def and its compact text, compared; what a compact text stands for. -/
namespace FW
open PySem PySem.Spec PyProof.Rows L2

/-- what is known of a def's text -/
structure Ct where
  N : List Str
  sc : Scope
  fns : List (Str × Nat)
  frees : List Str
  globs : List (Str × D)
  excs : List Str
  inb : Bool
/-- .. and of the world around -/
structure Cn where
  t : Ct
  P : Program
  w : World
  K : PySem.W.Frag
  mg : Str → Option Value
  base : Heap
  lv : Nat
abbrev Ct.blk (t : Ct) (scope : Scope) : Ct := { t with sc := relS scope t.sc, inb := true }
abbrev Cn.blk (c : Cn) (scope : Scope) : Cn := { c with t := c.t.blk scope }
structure CxIn (c : Cn) (X : Cx) (W : WX) : Prop where
  P : X.prog = c.P
  w : X.w = c.w
  K : X.K = c.K
  mg : X.mg = c.mg
  base : X.base = c.base
  N : X.N = c.t.N
  sc : X.env.scope = c.t.sc
  calm : X.calm = true
  room : Room c.lv X.A
  nd : c.t.N.Nodup
  tk : Takes X W
  po : PassesOwn (model X.prog X.w) X.A X.env X.xe
  fn : c.t.inb = false → ∀ x, X.fn x = true
def SpD (K : PySem.W.Frag) (mg : Str → Option Value) (n : Nat) (fs : FS) : Sp := fun vs H Q E => ∃ (g : Gs) (ds : List D) (Qd : QD) (Ed : XD), ds.length = n ∧ StOk K g H ∧ RepA K g H ds vs ∧ fs ds g.μ Qd Ed ∧
  (∀ d v g' H', Ext g H g' H' → StOk K g' H' → Rep K g' H' d v → Qd d g'.μ → Q v H') ∧
  (∀ x a g' H', Ext g H g' H' → StOk K g' H' → Ed x g'.μ → mg x = some (.ref a) → E (.ref a) none H')
structure Cn.Ok (c : Cn) (Φ : Str → FS) : Prop where
  fns : ∀ f ∈ c.t.fns, ∃ (k : Nat) (fa : Addr) (fd : FuncData) (ps : List Str), FnOk c.P c.w c.K c.mg c.base (L2.CX c.P c.w) k fa fd ps (SpD c.K c.mg f.2 (Φ f.1)) ∧ k ≤ c.lv ∧ c.mg f.1 = some (.ref fa) ∧ PySem.W.keepIn c.K (.ref fa) = true ∧ Binds c.K fd ps []
  frees : ∀ b ∈ c.t.frees, c.mg b = none
  globs : ∀ p ∈ c.t.globs, ∃ v u, c.mg p.1 = some u ∧ RelV v u ∧ ∀ g H, Rep c.K g H p.2 v
theorem Cn.Ok.blk {c : Cn} {Φ : Str → FS} (h : c.Ok Φ) (scope : Scope) : (c.blk scope).Ok Φ := ⟨h.fns, h.frees, h.globs⟩

abbrev WX1 := En → Mu → QD → XD → Prop
structure RelE (K : PySem.W.Frag) (g : Gs) (H : Hp) (σ : L2.St) (env : En) : Prop where
  len : σ.length = env.length
  at_ : ∀ i d, lk env i = some d → ∃ v, σ[i]? = some (some v) ∧ Rep K g H d v
theorem RelE.mono {K : PySem.W.Frag} {g g' : Gs} {H H' : Hp} {σ : L2.St} {env : En} (r : RelE K g H σ env) (e : Ext g H g' H') : RelE K g' H' σ env :=
  ⟨r.len, fun i d h => let ⟨v, h1, h2⟩ := r.at_ i d h; ⟨v, h1, Rep.mono e d v h2⟩⟩
/-- what follows, when all goes well; when something is raised -/
def OC (c : Cn) (g : Gs) (H : Hp) (Qd : QD) (Q : VK) : Prop := ∀ d v g' H', Ext g H g' H' → StOk c.K g' H' → Rep c.K g' H' d v → Qd d g'.μ → Q v H'
def XC (c : Cn) (g : Gs) (H : Hp) (Ed : XD) (W : WX) (σ : L2.St) : Prop := ∀ x a g' H', Ext g H g' H' → StOk c.K g' H' → Ed x g'.μ → c.mg x = some (.ref a) → W (.ref a) none σ H'
theorem XC.mono {c : Cn} {g g' : Gs} {H H' : Hp} {Ed : XD} {W : WX} {σ : L2.St} (h : XC c g H Ed W σ) (e : Ext g H g' H') : XC c g' H' Ed W σ := fun x a g2 H2 e2 s2 q m => h x a g2 H2 (e.trans e2) s2 q m
theorem OC.mono {c : Cn} {g g' : Gs} {H H' : Hp} {Qd : QD} {Q : VK} (h : OC c g H Qd Q) (e : Ext g H g' H') : OC c g' H' Qd Q := fun d v g2 H2 e2 s2 r q => h d v g2 H2 (e.trans e2) s2 r q
def SndE (c : Cn) (t : WX → TE) (w : WX1) : Prop := ∀ (W : WX) (σ : L2.St) (H : Hp) (g : Gs) (env : En) (Q : VK) (Qd : QD) (Ed : XD),
  RelE c.K g H σ env → StOk c.K g H → w env g.μ Qd Ed → OC c g H Qd Q → XC c g H Ed W σ → t W σ H Q
/-- the expression e is what w says -/
def SE (c : Cn) (e : Expr) (w : WX1) : Prop := ∃ t : WX → TE, (∀ X W, CxIn c X W → PE X e (t W)) ∧ SndE c t w
def SndT (c : Cn) (t : WX → TT) (w : WX1) : Prop := ∀ (W : WX) (σ : L2.St) (H : Hp) (g : Gs) (env : En) (Q : Bool → Hp → Prop) (Qd : QD) (Ed : XD),
  RelE c.K g H σ env → StOk c.K g H → w env g.μ Qd Ed → (∀ d g' H', Ext g H g' H' → StOk c.K g' H' → Qd d g'.μ → ∃ b, d = .bl b ∧ Q b H') → XC c g H Ed W σ → t W σ H Q
def ST (c : Cn) (e : Expr) (w : WX1) : Prop := ∃ t : WX → TT, (∀ X W, CxIn c X W → PT X e (t W)) ∧ SndT c t w
abbrev WAs := En → Mu → (List D → Mu → Prop) → XD → Prop
def SA (c : Cn) (es : List Expr) (w : WAs) : Prop := ∃ t : WX → TA, (∀ X W, CxIn c X W → PA X es (t W)) ∧
  ∀ (W : WX) (σ : L2.St) (H : Hp) (g : Gs) (env : En) (Q : List V → Hp → Prop) (Qd : List D → Mu → Prop) (Ed : XD),
    RelE c.K g H σ env → StOk c.K g H → w env g.μ Qd Ed → (∀ ds vs g' H', ds.length = es.length → Ext g H g' H' → StOk c.K g' H' → RepA c.K g' H' ds vs → Qd ds g'.μ → Q vs H') → XC c g H Ed W σ → t W σ H Q
/-- operators by values -/
def OD (c : Cn) (f : Value → Value → Sem Value) (w : D → D → Mu → QD → Prop) : Prop := ∃ r : R2, (∀ X W, CxIn c X W → OpR X f r) ∧
  ∀ (H : Hp) (g : Gs) (x y : V) (a b : D) (Q : VK) (Qd : QD), StOk c.K g H → Rep c.K g H a x → Rep c.K g H b y → w a b g.μ Qd → OC c g H Qd Q → r x y H Q
/-- calls of built-ins by values -/
def CD (c : Cn) (f : Value) (w : List D → Mu → QD → Prop) : Prop := ∃ r : List V → Hp → VK → Prop, (∀ X W, CxIn c X W → CallR X f r) ∧
  ∀ (H : Hp) (g : Gs) (xs : List V) (ds : List D) (Q : VK) (Qd : QD), StOk c.K g H → RepA c.K g H ds xs → w ds g.μ Qd → OC c g H Qd Q → r xs H Q

section
variable {c : Cn} {Φ : Str → FS}
theorem OC.here {g : Gs} {H : Hp} {Qd : QD} {Q : VK} (k : OC c g H Qd Q) (s : StOk c.K g H) {d : D} {v : V} (r : Rep c.K g H d v) (q : Qd d g.μ) : Q v H := k d v g H (Ext.refl g H) s r q
/-- a new tuple that stands still -/
theorem OC.tup {g : Gs} {H : Hp} {Qd : QD} {Q : VK} (k : OC c g H Qd Q) (s : StOk c.K g H) {xs : List D} {vs : List V} (r : RepA c.K g H xs vs) (q : Qd (.tup xs) g.μ) {p : Addr} (hp : H p = none) : Q (.ref p) (upd H p (.tup vs)) :=
  k (.tup xs) _ g _ (Ext.frozen hp) (s.frozen hp) ⟨p, vs, rfl, .inl ⟨upd_same, s.notLive hp⟩, RepA.mono (Ext.frozen hp) _ _ r⟩ q
/-- a new list -/
theorem OC.new {g : Gs} {H : Hp} {Qd : QD} {Q : VK} (k : OC c g H Qd Q) (s : StOk c.K g H) {xs : List D} {vs : List V} (r : RepA c.K g H xs vs) {m : Bool} (q : newL m xs g.μ Qd) {p : Addr} (hp : H p = none) : Q (.ref p) (upd H p (.lst vs)) := by
  cases m with
  | false => exact k (.lst xs) _ g _ (Ext.frozen hp) (s.frozen hp) ⟨p, vs, rfl, ⟨upd_same, s.notLive hp⟩, RepA.mono (Ext.frozen hp) _ _ r⟩ q
  | true => exact k (.cel g.μ.length) _ (g.add p (.lst xs)) _ (Ext.cell hp) (s.cell hp ⟨vs, rfl, r⟩) Rep.newCell q
theorem OC.newDk {g : Gs} {H : Hp} {Qd : QD} {Q : VK} (k : OC c g H Qd Q) (s : StOk c.K g H) {ks : List Str} {xs : List D} {vs : List V} (hl : ks.length = xs.length) (r : RepA c.K g H xs vs) {m : Bool} (q : FW.newDk m ks xs g.μ Qd) {p : Addr} (hp : H p = none) : Q (.ref p) (upd H p (.dK (zK ks vs))) := by
  cases m with
  | false => exact k (.dct ks xs) _ g _ (Ext.frozen hp) (s.frozen hp) ⟨p, vs, rfl, Fz.new s hp, hl, RepA.mono (Ext.frozen hp) _ _ r⟩ q
  | true => exact k (.cel g.μ.length) _ (g.add p (.dk ks xs)) _ (Ext.cell hp) (s.cell hp ⟨vs, rfl, hl, r⟩) Rep.newCell q
theorem Sz.line {n : Nat} (h : Sz n) : n ≤ sizeLine := Nat.le_trans h (by decide)
theorem Sz.lt {n : Nat} (h : Sz (n + 1)) : n < sizeLine := Nat.lt_of_lt_of_le (Nat.lt_of_succ_le h) (by decide)

/-! ### expressions -/
theorem se_v {i : Nat} {x : Str} {pos : Pos} (hN : c.t.N[i]? = some x) (hv : Vis c.t.sc x) (hd : (x == ("__debug__" : Str)) = false) (hcd : (x == ("__classdict__" : Str)) = false) : SE c (.Name x pos) (wE Φ (.v i)) := by
  refine ⟨fun _ => tVar i, fun X W h => pe_var (by rw [h.N]; exact hN) (by rw [h.sc]; exact hv) hd hcd, fun W σ H g env Q Qd Ed r s w k _ => ?_⟩
  have w : onS (lk env i) fun d => Qd d g.μ := w
  unfold onS at w
  split at w
  · rename_i d e
    obtain ⟨v, h1, h2⟩ := r.at_ i d e
    exact ⟨v, h1, k.here s h2 w⟩
  · exact w.elim
theorem se_const {e : Expr} {d : D} {v : V} (hp : ∀ X : Cx, PE X e (tC v)) (hr : ∀ g H, Rep c.K g H d v) : SE c e (wE Φ (.k d)) :=
  ⟨fun _ => tC v, fun X _ _ => hp X, fun W σ H g env Q Qd Ed r s w k _ => k.here s (hr g H) w⟩
theorem se_g {x : Str} {d : D} {pos : Pos} (ok : c.Ok Φ) (hm : (x, d) ∈ c.t.globs) (hg : c.t.sc.names.lookup x = some .globalImplicit) (hd : (x == ("__debug__" : Str)) = false) : SE c (.Name x pos) (wE Φ (.g x d)) := by
  obtain ⟨v, u, h1, h2, h3⟩ := ok.globs _ hm
  refine ⟨fun _ => tC v, fun X W h => pe_glob (show X.env.kindOf x = _ from by unfold Env.kindOf; rw [h.sc]; exact hg) (by rw [h.mg]; exact h1) h2 hd, fun W σ H g env Q Qd Ed r s w k _ => k.here s (h3 g H) w⟩
theorem sa_nil : SA c [] (wEs Φ .nil) := ⟨fun _ => tNil, fun X _ _ => pa_nil, fun W σ H g env Q Qd Ed r s w k _ => k [] [] g H rfl (Ext.refl _ _) s rfl w⟩
theorem sa_cons {e : Expr} {es : List Expr} {a : IE} {as : IEs} (ha : SE c e (wE Φ a)) (hs : SA c es (wEs Φ as)) (hst : ∀ env, starEach (e :: es) env = (false, eval e env) :: starEach es env) : SA c (e :: es) (wEs Φ (.cons a as)) := by
  obtain ⟨t, ht, hw⟩ := ha
  obtain ⟨u, hu, hw2⟩ := hs
  refine ⟨fun W => tCons (t W) (u W), fun X W h => pa_cons (ht X W h) (hu X W h) (hst _), fun W σ H g env Q Qd Ed r s w k kx => ?_⟩
  refine hw W σ H g env _ _ Ed r s (show wE Φ a env g.μ _ Ed from w) (fun d v g1 H1 e1 s1 r1 q1 => ?_) kx
  refine hw2 W σ H1 g1 env _ _ Ed (r.mono e1) s1 q1 (fun ds vs g2 H2 l2 e2 s2 r2 q2 => ?_) (kx.mono e1)
  exact k (d :: ds) (v :: vs) g2 H2 (congrArg (· + 1) l2) (e1.trans e2) s2 ⟨v, vs, rfl, Rep.mono e2 _ _ r1, r2⟩ q2
theorem se_tup {es : List Expr} {as : IEs} {k0 : Nat} {pos : Pos} (hs : SA c es (wEs Φ as)) (hl : es.length ≤ 1000) : SE c (.Tuple es k0 pos) (wE Φ (.tup as)) := by
  obtain ⟨t, ht, hw⟩ := hs
  refine ⟨fun W => tTup (t W), fun X W h => pe_tup (ht X W h), fun W σ H g env Q Qd Ed r s w k kx => ?_⟩
  refine hw W σ H g env _ _ Ed r s w (fun ds vs g1 H1 l1 e1 s1 r1 q1 => ⟨?_, fun p hp => ?_⟩) kx
  · rw [r1.length, l1]
    exact Nat.le_trans hl (by decide)
  · exact (k.mono e1).tup s1 r1 q1 hp
theorem se_lst {es : List Expr} {as : IEs} {m : Bool} {pos : Pos} (hs : SA c es (wEs Φ as)) (hl : es.length ≤ 1000) : SE c (.List es pos) (wE Φ (.lst m as)) := by
  obtain ⟨t, ht, hw⟩ := hs
  refine ⟨fun W => tLst (t W), fun X W h => pe_lst (ht X W h), fun W σ H g env Q Qd Ed r s w k kx => ?_⟩
  refine hw W σ H g env _ _ Ed r s w (fun ds vs g1 H1 l1 e1 s1 r1 q1 => ⟨?_, fun p hp => ?_⟩) kx
  · rw [r1.length, l1]
    exact Nat.le_trans hl (by decide)
  · exact (k.mono e1).new s1 r1 q1 hp
theorem se_op {o : Operator} {m : Bool} {a b : Expr} {x y : IE} {pos : Pos} (ho : OD c (binaryOp o) (bopW o m)) (ha : SE c a (wE Φ x)) (hb : SE c b (wE Φ y)) : SE c (.BinOp a o b pos) (wE Φ (.op o m x y)) := by
  obtain ⟨r, hr, hrw⟩ := ho
  obtain ⟨t, ht, hw⟩ := ha
  obtain ⟨u, hu, hw2⟩ := hb
  refine ⟨fun W => tOp r (t W) (u W), fun X W h => pe_op (hr X W h) (ht X W h) (hu X W h), fun W σ H g env Q Qd Ed re s w k kx => ?_⟩
  refine hw W σ H g env _ _ Ed re s w (fun d v g1 H1 e1 s1 r1 q1 => ?_) kx
  refine hw2 W σ H1 g1 env _ _ Ed (re.mono e1) s1 q1 (fun d2 v2 g2 H2 e2 s2 r2 q2 => ?_) (kx.mono e1)
  exact hrw H2 g2 v v2 d d2 Q Qd s2 (Rep.mono e2 _ _ r1) r2 q2 (k.mono (e1.trans e2))
theorem se_neg {a : Expr} {x : IE} {pos : Pos} (ha : SE c a (wE Φ x)) : SE c (.UnaryOp .USub a pos) (wE Φ (.neg x)) := by
  obtain ⟨t, ht, hw⟩ := ha
  refine ⟨fun W => tUn (rU fun i => .int (-i)) (t W), fun X W h => pe_un un_neg (ht X W h), fun W σ H g env Q Qd Ed re s w k kx => ?_⟩
  refine hw W σ H g env _ _ Ed re s w (fun d v g1 H1 e1 s1 r1 q1 => ?_) kx
  cases d with
  | int i => exact ⟨i, r1, (k.mono e1).here s1 (d := .int (-i)) rfl q1⟩
  | _ => exact q1.elim
theorem asB_of {d : D} {k : Bool → Prop} (h : asB d k) : ∃ b, d = .bl b ∧ k b := by
  cases d with
  | bl b => exact ⟨b, rfl, h⟩
  | _ => exact h.elim
theorem asI_of {d : D} {k : Int → Prop} (h : asI d k) : ∃ b, d = .int b ∧ k b := by
  cases d with
  | int b => exact ⟨b, rfl, h⟩
  | _ => exact h.elim
theorem onS_of {α : Type} {o : Option α} {k : α → Prop} (h : onS o k) : ∃ a, o = some a ∧ k a := by
  cases o with
  | some a => exact ⟨a, rfl, h⟩
  | none => exact h.elim
/-- a test by its value -/
theorem st_val {e : Expr} {w : WX1} (he : SE c e w) (hv : ∀ (env : Env) (whole : Sem Value), isTrue e env whole = (do let v ← whole; standAt e.pos; holding [v] (truthy v))) : ST c e w := by
  obtain ⟨t, ht, hw⟩ := he
  refine ⟨fun W => tB (t W), fun X W h => pt_val (ht X W h) (hv _), fun W σ H g env Q Qd Ed re s w k kx => ?_⟩
  refine hw W σ H g env _ _ Ed re s w (fun d v g1 H1 e1 s1 r1 q1 => ?_) kx
  obtain ⟨b, rfl, q⟩ := k d g1 H1 e1 s1 q1
  exact ⟨b, r1, q⟩
/-- a test, used -/
theorem ST.use {e : Expr} {x : IE} {t : WX → TT} (hw : SndT c t (wE Φ x)) {W : WX} {σ : L2.St} {H : Hp} {g : Gs} {env : En} {Q : Bool → Hp → Prop} {k : Bool → Mu → Prop} {Ed : XD}
    (r : RelE c.K g H σ env) (s : StOk c.K g H) (w : wE Φ x env g.μ (fun d μ => asB d fun b => k b μ) Ed) (h : ∀ b g' H', Ext g H g' H' → StOk c.K g' H' → k b g'.μ → Q b H') (kx : XC c g H Ed W σ) : t W σ H Q :=
  hw W σ H g env Q _ Ed r s w (fun d g1 H1 e1 s1 q1 => let ⟨b, e, q⟩ := asB_of q1; ⟨b, e, h b g1 H1 e1 s1 q⟩) kx
theorem st_not {a : Expr} {x : IE} {pos : Pos} (ha : ST c a (wE Φ x)) : ST c (.UnaryOp .Not a pos) (wE Φ (.not x)) := by
  obtain ⟨t, ht, hw⟩ := ha
  refine ⟨fun W => tNot (t W), fun X W h => pt_not (ht X W h), fun W σ H g env Q Qd Ed re s w k kx => ?_⟩
  refine ST.use (e := a) hw (k := fun b μ => Qd (.bl (!b)) μ) re s w (fun b g1 H1 e1 s1 q1 => ?_) kx
  obtain ⟨b', e, q⟩ := k _ g1 H1 e1 s1 q1
  cases e
  exact q
theorem se_not {a : Expr} {x : IE} {pos : Pos} (ha : SE c a (wE Φ x)) : SE c (.UnaryOp .Not a pos) (wE Φ (.not x)) := by
  obtain ⟨t, ht, hw⟩ := ha
  refine ⟨fun W => tNotV (t W), fun X W h => pe_not (ht X W h), fun W σ H g env Q Qd Ed re s w k kx => ?_⟩
  refine hw W σ H g env _ _ Ed re s w (fun d v g1 H1 e1 s1 r1 q1 => ?_) kx
  obtain ⟨b, rfl, q⟩ := asB_of q1
  exact ⟨b, r1, (k.mono e1).here s1 (d := .bl (!b)) rfl q⟩
theorem onB_ite {b : Bool} {P R : Prop} (h : onB b P R) : if b = true then P else R := by
  cases b with
  | true => exact iteT (h.1 rfl)
  | false => exact iteF (h.2 rfl)
theorem se_ife {t a b : Expr} {z x y : IE} {pos : Pos} (hz : ST c t (wE Φ z)) (ha : SE c a (wE Φ x)) (hb : SE c b (wE Φ y)) : SE c (.IfExp t a b pos) (wE Φ (.ife z x y)) := by
  obtain ⟨tt, htt, hwt⟩ := hz
  obtain ⟨t, ht, hw⟩ := ha
  obtain ⟨u, hu, hw2⟩ := hb
  refine ⟨fun W => tIf (tt W) (t W) (u W), fun X W h => pe_ifExp (htt X W h) (ht X W h) (hu X W h), fun W σ H g env Q Qd Ed re s w k kx => ?_⟩
  refine ST.use (e := a) hwt re s w (fun b g1 H1 e1 s1 q1 => ?_) kx
  cases b with
  | true => exact iteT (hw W σ H1 g1 env _ _ Ed (re.mono e1) s1 (q1.1 rfl) (k.mono e1) (kx.mono e1))
  | false => exact iteF (hw2 W σ H1 g1 env _ _ Ed (re.mono e1) s1 (q1.2 rfl) (k.mono e1) (kx.mono e1))
/-- and, or as values -/
theorem se_bop1 {o : BoolOp} {a : Expr} {x : IE} {pos : Pos} (ha : SE c a (wE Φ x)) : SE c (.BoolOp o [a] pos) (wB Φ o (.cons x .nil)) := by
  obtain ⟨t, ht, hw⟩ := ha
  refine ⟨t, fun X W h => pe_one (ht X W h), fun W σ H g env Q Qd Ed re s w k kx => ?_⟩
  refine hw W σ H g env _ _ Ed re s (show wE Φ x env g.μ (fun x μ1 => asB x fun b => Qd (.bl b) μ1) Ed from w) (fun d v g1 H1 e1 s1 r1 q1 => ?_) kx
  obtain ⟨b, rfl, q⟩ := asB_of q1
  exact k _ v g1 H1 e1 s1 r1 q
theorem se_bopc {o : BoolOp} {a b : Expr} {es : List Expr} {x y : IE} {ys : IEs} {pos : Pos} (ha : SE c a (wE Φ x)) (hb : SE c (.BoolOp o (b :: es) pos) (wB Φ o (.cons y ys))) : SE c (.BoolOp o (a :: b :: es) pos) (wB Φ o (.cons x (.cons y ys))) := by
  obtain ⟨t, ht, hw⟩ := ha
  obtain ⟨u, hu, hw2⟩ := hb
  cases o with
  | And =>
    refine ⟨fun W => tAndV (t W) (u W), fun X W h => pe_and (ht X W h) (hu X W h), fun W σ H g env Q Qd Ed re s w k kx => ?_⟩
    have w : wE Φ x env g.μ (fun x μ1 => asB x fun b => onB b (wB Φ .And (.cons y ys) env μ1 Qd Ed) (Qd (.bl false) μ1)) Ed := w
    refine hw W σ H g env _ _ Ed re s w (fun d v g1 H1 e1 s1 r1 q1 => ?_) kx
    obtain ⟨b, rfl, q⟩ := asB_of q1
    refine ⟨b, r1, ?_⟩
    cases b with
    | true => exact iteT (hw2 W σ H1 g1 env _ _ Ed (re.mono e1) s1 (q.1 rfl) (k.mono e1) (kx.mono e1))
    | false => exact iteF ((k.mono e1).here s1 (d := .bl false) rfl (q.2 rfl))
  | Or =>
    refine ⟨fun W => tOrV (t W) (u W), fun X W h => pe_or (ht X W h) (hu X W h), fun W σ H g env Q Qd Ed re s w k kx => ?_⟩
    have w : wE Φ x env g.μ (fun x μ1 => asB x fun b => onB b (Qd (.bl true) μ1) (wB Φ .Or (.cons y ys) env μ1 Qd Ed)) Ed := w
    refine hw W σ H g env _ _ Ed re s w (fun d v g1 H1 e1 s1 r1 q1 => ?_) kx
    obtain ⟨b, rfl, q⟩ := asB_of q1
    refine ⟨b, r1, ?_⟩
    cases b with
    | true => exact iteT ((k.mono e1).here s1 (d := .bl true) rfl (q.1 rfl))
    | false => exact iteF (hw2 W σ H1 g1 env _ _ Ed (re.mono e1) s1 (q.2 rfl) (k.mono e1) (kx.mono e1))
/-- .. as tests, whatever the whole is -/
def SW (c : Cn) (e : Expr) (w : WX1) : Prop := ∃ t : WX → TT, (∀ X W, CxIn c X W → PW X e (t W)) ∧ SndT c t w
theorem SW.st {e : Expr} {w : WX1} (h : SW c e w) : ST c e w := let ⟨t, h1, h2⟩ := h; ⟨t, fun X W hx => (h1 X W hx).pt, h2⟩
theorem sw_bop1 {o : BoolOp} {a : Expr} {x : IE} {pos : Pos} (ha : ST c a (wE Φ x)) : SW c (.BoolOp o [a] pos) (wB Φ o (.cons x .nil)) := by
  obtain ⟨t, ht, hw⟩ := ha
  refine ⟨t, fun X W h => by cases o with
    | And => exact pw_and1 (ht X W h)
    | Or => exact pw_or1 (ht X W h), fun W σ H g env Q Qd Ed re s w k kx => ?_⟩
  refine hw W σ H g env _ _ Ed re s (show wE Φ x env g.μ (fun x μ1 => asB x fun b => Qd (.bl b) μ1) Ed from w) (fun d g1 H1 e1 s1 q1 => ?_) kx
  obtain ⟨b, rfl, q⟩ := asB_of q1
  obtain ⟨b', e, q'⟩ := k _ g1 H1 e1 s1 q
  exact ⟨b', e, q'⟩
theorem sw_bopc {o : BoolOp} {a b : Expr} {es : List Expr} {x y : IE} {ys : IEs} {pos : Pos} (ha : ST c a (wE Φ x)) (hb : SW c (.BoolOp o (b :: es) pos) (wB Φ o (.cons y ys))) : SW c (.BoolOp o (a :: b :: es) pos) (wB Φ o (.cons x (.cons y ys))) := by
  obtain ⟨t, ht, hw⟩ := ha
  obtain ⟨u, hu, hw2⟩ := hb
  cases o with
  | And =>
    refine ⟨fun W => tAnd (t W) (u W), fun X W h => pw_and (ht X W h) (hu X W h), fun W σ H g env Q Qd Ed re s w k kx => ?_⟩
    have w : wE Φ x env g.μ (fun x μ1 => asB x fun b => onB b (wB Φ .And (.cons y ys) env μ1 Qd Ed) (Qd (.bl false) μ1)) Ed := w
    refine ST.use (e := a) hw re s w (fun b g1 H1 e1 s1 q => ?_) kx
    cases b with
    | true => exact iteT (hw2 W σ H1 g1 env _ _ Ed (re.mono e1) s1 (q.1 rfl) (fun d g' H' e' => k d g' H' (e1.trans e')) (kx.mono e1))
    | false =>
      obtain ⟨b', e, q'⟩ := k _ g1 H1 e1 s1 (q.2 rfl)
      cases e
      exact iteF q'
  | Or =>
    refine ⟨fun W => tOr (t W) (u W), fun X W h => pw_or (ht X W h) (hu X W h), fun W σ H g env Q Qd Ed re s w k kx => ?_⟩
    have w : wE Φ x env g.μ (fun x μ1 => asB x fun b => onB b (Qd (.bl true) μ1) (wB Φ .Or (.cons y ys) env μ1 Qd Ed)) Ed := w
    refine ST.use (e := a) hw re s w (fun b g1 H1 e1 s1 q => ?_) kx
    cases b with
    | true =>
      obtain ⟨b', e, q'⟩ := k _ g1 H1 e1 s1 (q.1 rfl)
      cases e
      exact iteT q'
    | false => exact iteF (hw2 W σ H1 g1 env _ _ Ed (re.mono e1) s1 (q.2 rfl) (fun d g' H' e' => k d g' H' (e1.trans e')) (kx.mono e1))
/-- comparisons -/
def cW (o : CmpOp) : D → D → Mu → QD → Prop := fun x y μ Q => cmpW o x y μ fun t => Q (.bl t) μ
theorem se_cmp {o : CmpOp} {a b : Expr} {x y : IE} {pos : Pos} (ho : OD c (compareOp o) (cW o)) (ha : SE c a (wE Φ x)) (hb : SE c b (wE Φ y)) (hm : behindInMarks o b = false) : SE c (.Compare a [o] [b] pos) (wE Φ (.cmp o x y)) := by
  obtain ⟨r, hr, hrw⟩ := ho
  obtain ⟨t, ht, hw⟩ := ha
  obtain ⟨u, hu, hw2⟩ := hb
  refine ⟨fun W => tOp r (t W) (u W), fun X W h => pe_cmpR (hr X W h) (ht X W h) (hu X W h) hm, fun W σ H g env Q Qd Ed re s w k kx => ?_⟩
  refine hw W σ H g env _ _ Ed re s w (fun d v g1 H1 e1 s1 r1 q1 => ?_) kx
  refine hw2 W σ H1 g1 env _ _ Ed (re.mono e1) s1 q1 (fun d2 v2 g2 H2 e2 s2 r2 q2 => ?_) (kx.mono e1)
  exact hrw H2 g2 v v2 d d2 Q Qd s2 (Rep.mono e2 _ _ r1) r2 q2 (k.mono (e1.trans e2))
theorem st_cmp {o : CmpOp} {a b : Expr} {x y : IE} {pos : Pos} (ho : OD c (compareOp o) (cW o)) (ha : SE c a (wE Φ x)) (hb : SE c b (wE Φ y)) (hm : behindInMarks o b = false) : ST c (.Compare a [o] [b] pos) (wE Φ (.cmp o x y)) := by
  obtain ⟨r, hr, hrw⟩ := ho
  obtain ⟨t, ht, hw⟩ := ha
  obtain ⟨u, hu, hw2⟩ := hb
  refine ⟨fun W => tTest (tOp r (t W) (u W)), fun X W h => pt_cmpR (hr X W h) (ht X W h) (hu X W h) hm, fun W σ H g env Q Qd Ed re s w k kx => ?_⟩
  refine hw W σ H g env _ _ Ed re s w (fun d v g1 H1 e1 s1 r1 q1 => ?_) kx
  refine hw2 W σ H1 g1 env _ _ Ed (re.mono e1) s1 q1 (fun d2 v2 g2 H2 e2 s2 r2 q2 => ?_) (kx.mono e1)
  refine hrw H2 g2 v v2 d d2 _ Qd s2 (Rep.mono e2 _ _ r1) r2 q2 (fun d3 v3 g3 H3 e3 s3 r3 q3 => ?_)
  obtain ⟨b, rfl, q⟩ := k d3 g3 H3 ((e1.trans e2).trans e3) s3 q3
  exact ⟨b, r3, q⟩
theorem snd_chain {o o' : CmpOp} {x y z : IE} {r r' : R2} {t u v : WX → TE}
    (hrw : ∀ (H : Hp) (g : Gs) (x y : V) (a b : D) (Q : VK) (Qd : QD), StOk c.K g H → Rep c.K g H a x → Rep c.K g H b y → cW o a b g.μ Qd → OC c g H Qd Q → r x y H Q)
    (hrw' : ∀ (H : Hp) (g : Gs) (x y : V) (a b : D) (Q : VK) (Qd : QD), StOk c.K g H → Rep c.K g H a x → Rep c.K g H b y → cW o' a b g.μ Qd → OC c g H Qd Q → r' x y H Q)
    (hw : SndE c t (wE Φ x)) (hw2 : SndE c u (wE Φ y)) (hw3 : SndE c v (wE Φ z)) : SndE c (fun W => tChain r r' (t W) (u W) (v W)) (wE Φ (.chn o o' x y z)) := by
  intro W σ H g env Q Qd Ed re s w k kx
  refine hw W σ H g env _ _ Ed re s w (fun d v g1 H1 e1 s1 r1 q1 => ?_) kx
  refine hw2 W σ H1 g1 env _ _ Ed (re.mono e1) s1 q1 (fun d2 v2 g2 H2 e2 s2 r2 q2 => ?_) (kx.mono e1)
  have e12 := e1.trans e2
  refine hrw H2 g2 v v2 d d2 _ (fun d3 μ3 => asB d3 fun t => onB t (wE Φ z env μ3 (fun z μ4 => cmpW o' d2 z μ4 fun t' => Qd (.bl t') μ4) Ed) (Qd (.bl false) μ3)) s2 (Rep.mono e2 _ _ r1) r2 q2 (fun d3 v3 g3 H3 e3 s3 r3 q3 => ?_)
  obtain ⟨b, rfl, q⟩ := asB_of q3
  refine ⟨b, r3, ?_⟩
  have e13 := e12.trans e3
  cases b with
  | true =>
    refine iteT (hw3 W σ H3 g3 env _ _ Ed (re.mono e13) s3 (q.1 rfl) (fun d4 v4 g4 H4 e4 s4 r4 q4 => ?_) (kx.mono e13))
    exact hrw' H4 g4 v2 v4 d2 d4 Q Qd s4 (Rep.mono (e3.trans e4) _ _ r2) r4 q4 (k.mono (e13.trans e4))
  | false => exact iteF ((k.mono e13).here s3 (d := .bl false) rfl (q.2 rfl))
theorem se_chn {o o' : CmpOp} {a b b2 : Expr} {x y z : IE} {pos : Pos} (ho : OD c (compareOp o) (cW o)) (ho' : OD c (compareOp o') (cW o')) (ha : SE c a (wE Φ x)) (hb : SE c b (wE Φ y)) (hc : SE c b2 (wE Φ z)) (hm : lastMarks [o, o'] [b, b2] = false) : SE c (.Compare a [o, o'] [b, b2] pos) (wE Φ (.chn o o' x y z)) := by
  obtain ⟨r, hr, hrw⟩ := ho
  obtain ⟨r', hr', hrw'⟩ := ho'
  obtain ⟨t, ht, hw⟩ := ha
  obtain ⟨u, hu, hw2⟩ := hb
  obtain ⟨v, hv, hw3⟩ := hc
  exact ⟨fun W => tChain r r' (t W) (u W) (v W), fun X W h => pe_chain (hr X W h) (hr' X W h) (ht X W h) (hu X W h) (hv X W h) (hm := hm), snd_chain hrw hrw' hw hw2 hw3⟩
theorem st_chn {o o' : CmpOp} {a b b2 : Expr} {x y z : IE} {pos : Pos} (ho : OD c (compareOp o) (cW o)) (ho' : OD c (compareOp o') (cW o')) (ha : SE c a (wE Φ x)) (hb : SE c b (wE Φ y)) (hc : SE c b2 (wE Φ z)) (hm : lastMarks [o, o'] [b, b2] = false) : ST c (.Compare a [o, o'] [b, b2] pos) (wE Φ (.chn o o' x y z)) := by
  obtain ⟨r, hr, hrw⟩ := ho
  obtain ⟨r', hr', hrw'⟩ := ho'
  obtain ⟨t, ht, hw⟩ := ha
  obtain ⟨u, hu, hw2⟩ := hb
  obtain ⟨v, hv, hw3⟩ := hc
  refine ⟨fun W => tTest (tChain r r' (t W) (u W) (v W)), fun X W h => pt_chain (hr X W h) (hr' X W h) (ht X W h) (hu X W h) (hv X W h) (hm := hm), fun W σ H g env Q Qd Ed re s w k kx => ?_⟩
  refine snd_chain hrw hrw' hw hw2 hw3 W σ H g env _ Qd Ed re s w (fun d1 v1 g1 H1 e1 s1 r1 q1 => ?_) kx
  obtain ⟨b, rfl, q⟩ := k d1 g1 H1 e1 s1 q1
  exact ⟨b, r1, q⟩
/-- calls -/
theorem se_call {f : Str} {fz : Bool} {p pos : Pos} {e : Expr} {es : List Expr} {as : IEs} (ok : c.Ok Φ) (hf : (f, (e :: es).length) ∈ c.t.fns) (hg : c.t.sc.names.lookup f = some .globalImplicit) (hdb : (f == ("__debug__" : Str)) = false) (hs : SA c (e :: es) (wEs Φ as))
    (he : ∀ env, starEach (e :: es) env = (false, eval e env) :: starEach es env) (hpl : ∀ env, (backTo pos (starEach es env)).any (·.1) = false) : SE c (.Call (.Name f p) (e :: es) [] pos) (wE Φ (.call f fz as)) := by
  obtain ⟨k0, fa, fd, ps, F, hk, hm, kp, hb⟩ := ok.fns _ hf
  obtain ⟨t, ht, hw⟩ := hs
  refine ⟨fun W => tCallS (SpD c.K c.mg (e :: es).length (Φ f)) (fun σ => WE W σ) (t W), fun X W h => ?_, fun W σ H g env Q Qd Ed re s w k kx => ?_⟩
  · have F' : FnOk X.prog X.w X.K X.mg X.base (L2.CX X.prog X.w) k0 fa fd ps (SpD c.K c.mg (e :: es).length (Φ f)) := by rw [h.P, h.w, h.K, h.mg, h.base]; exact F
    exact pe_callS F' (h.room.mono hk) (show X.env.kindOf f = _ from by unfold Env.kindOf; rw [h.sc]; exact hg) (by rw [h.mg]; exact hm) (by rw [h.K]; exact kp) (by rw [h.K]; exact hb) (fun σ => passAt h.tk σ) (ht X W h) hdb (he _) (hpl _)
  · refine hw W σ H g env _ _ Ed re s w (fun ds vs g1 H1 l1 e1 s1 r1 q1 => ?_) kx
    cases fz with
    | false => exact ⟨g1, ds, Qd, Ed, l1, s1, r1, q1, k.mono e1, fun x a g' H' e' s' qx m => kx x a g' H' (e1.trans e') s' qx m⟩
    | true =>
      refine ⟨g1, ds, _, Ed, l1, s1, r1, q1, fun d v g' H' e' s' r' q' => ?_, fun x a g' H' e' s' qx m => kx x a g' H' (e1.trans e') s' qx m⟩
      obtain ⟨xs, rfl, hμ, hx, q⟩ := q'
      obtain ⟨f1, f2, f3, f4⟩ := freeze s1 s' e' hμ hx r'
      exact k (.lst xs) v _ H' (e1.trans f2) f1 f3 (by rw [f4]; exact q)
/-- built-ins by their names -/
theorem se_biB {x : Str} {id : String} {b : Bi} {m : Bool} {p pos : Pos} {e : Expr} {es : List Expr} {as : IEs} (ok : c.Ok Φ) (hx : x ∈ c.t.frees) (hg : c.t.sc.names.lookup x = some .globalImplicit) (hv : bootBuiltins x = some (.builtin id))
    (hc : CD c (.builtin id) (biW b m)) (hs : SA c (e :: es) (wEs Φ as)) (hn : x ≠ "__name__") (hdb : (x == ("__debug__" : Str)) = false) (he : ∀ env, starEach (e :: es) env = (false, eval e env) :: starEach es env) (hpl : ∀ env, (backTo pos (starEach es env)).any (·.1) = false) : SE c (.Call (.Name x p) (e :: es) [] pos) (wE Φ (.bi b m as)) := by
  obtain ⟨r, hr, hrw⟩ := hc
  obtain ⟨t, ht, hw⟩ := hs
  refine ⟨fun W => tCB r (t W), fun X W h => pe_callB (hr X W h) (show X.env.kindOf x = _ from by unfold Env.kindOf; rw [h.sc]; exact hg) (by rw [h.mg]; exact ok.frees x hx) hv (ht X W h) hn hdb (he _) (hpl _), fun W σ H g env Q Qd Ed re s w k kx => ?_⟩
  exact hw W σ H g env _ _ Ed re s w (fun ds vs g1 H1 l1 e1 s1 r1 q1 => hrw H1 g1 vs ds Q Qd s1 r1 q1 (k.mono e1)) kx
theorem se_biT {x : Str} {T : String} {b : Bi} {m : Bool} {p pos : Pos} {e : Expr} {es : List Expr} {as : IEs} (ok : c.Ok Φ) (hx : x ∈ c.t.frees) (hg : c.t.sc.names.lookup x = some .globalImplicit) (hv : bootBuiltins x = some (.type T))
    (hc : CD c (.type T) (biW b m)) (hs : SA c (e :: es) (wEs Φ as)) (hn : x ≠ "__name__") (hdb : (x == ("__debug__" : Str)) = false) (he : ∀ env, starEach (e :: es) env = (false, eval e env) :: starEach es env) (hpl : ∀ env, (backTo pos (starEach es env)).any (·.1) = false) : SE c (.Call (.Name x p) (e :: es) [] pos) (wE Φ (.bi b m as)) := by
  obtain ⟨r, hr, hrw⟩ := hc
  obtain ⟨t, ht, hw⟩ := hs
  refine ⟨fun W => tCB r (t W), fun X W h => pe_callTy (hr X W h) (show X.env.kindOf x = _ from by unfold Env.kindOf; rw [h.sc]; exact hg) (by rw [h.mg]; exact ok.frees x hx) hv (ht X W h) hn hdb (he _) (hpl _), fun W σ H g env Q Qd Ed re s w k kx => ?_⟩
  exact hw W σ H g env _ _ Ed re s w (fun ds vs g1 H1 l1 e1 s1 r1 q1 => hrw H1 g1 vs ds Q Qd s1 r1 q1 (k.mono e1)) kx
end
end FW

set_option Elab.async false
set_option linter.all false
set_option maxRecDepth 100000
/-! DL4: operators and comparisons over data. -/
namespace FW
open PySem PySem.Spec PyProof.Rows L2
section
variable {c : Cn}
theorem log2_mul {i j : Int} (hi : BigI i) (hj : BigI j) : CMulW i j := by
  have h1 : i.natAbs.log2 < 400000 := hi
  have h2 : j.natAbs.log2 < 400000 := hj
  unfold CMulW
  omega
theorem Rep.int_of {K : PySem.W.Frag} {g : Gs} {H : Hp} {i : Int} {x : V} (r : Rep K g H (.int i) x) : x = .int i := r
theorem Rep.str_of {K : PySem.W.Frag} {g : Gs} {H : Hp} {i : Str} {x : V} (r : Rep K g H (.str i) x) : x = .str i := r

def rAddD (K : PySem.W.Frag) : R2 := fun x y H Q => rI0 (fun i j => .int (i + j)) x y H Q ∨ ((∃ i j, x = .str i ∧ y = .str j ∧ i.length + j.length ≤ sizeLine ∧ Q (.str (i ++ j)) H) ∨ (rCatA K x y H Q ∨ rCat x y H Q))
theorem od_add (m : Bool) : OD c (binaryOp .Add) (bopW .Add m) := by
  refine ⟨rAddD c.K, fun X W h => ?_, fun H g x y a b Q Qd s rx ry w k => ?_⟩
  · exact op_add.or (op_add_str.or ((by rw [← h.K]; exact op_catA : OpR X (binaryOp .Add) (rCatA c.K)).or op_cat))
  have lists : (onS (lstOf g.μ a) fun xs => onS (lstOf g.μ b) fun ys => Sz (xs.length + ys.length) ∧ newL m (xs ++ ys) g.μ Qd) → rAddD c.K x y H Q := fun w => by
    obtain ⟨xs, e1, w⟩ := onS_of w
    obtain ⟨ys, e2, hz, w⟩ := onS_of w
    obtain ⟨p, vs, rfl, hp, r1⟩ := lst_view s rx e1
    obtain ⟨q, ws, rfl, hq, r2⟩ := lst_view s ry e2
    exact .inr (.inr (.inr ⟨p, q, vs, ws, rfl, rfl, hp, hq, by rw [r1.length, r2.length]; exact hz.line, fun l hl => k.new s (RepA.append r1 r2) w hl⟩))
  replace w : addW m a b g.μ Qd := w
  unfold addW at w
  split at w
  · exact .inl ⟨_, _, rx, ry, k.here s (d := .int _) rfl w⟩
  · exact .inr (.inl ⟨_, _, rx, ry, w.1.line, k.here s (d := .str _) rfl w.2⟩)
  · rename_i xs ys
    obtain ⟨p, vs, rfl, hp, r1⟩ := rx
    obtain ⟨q, ws, rfl, hq, r2⟩ := ry
    refine .inr (.inr (.inl ⟨p, q, vs, ws, rfl, rfl, hp.sq, hq.sq, by rw [r1.length, r2.length]; exact w.1.line, fun e => ?_, fun _ e => ?_, fun _ _ l hl => k.tup s (RepA.append r1 r2) w.2 hl⟩))
    · subst e
      have : xs = [] := List.eq_nil_of_length_eq_zero r1.length.symm
      subst this
      exact k.here s (d := .tup ys) ⟨q, ws, rfl, hq, r2⟩ w.2
    · subst e
      have : ys = [] := List.eq_nil_of_length_eq_zero r2.length.symm
      subst this
      replace w := w.2
      rw [List.append_nil] at w
      exact k.here s (d := .tup xs) ⟨p, vs, rfl, hp, r1⟩ w
  · rename_i xs ys
    obtain ⟨⟨hne, hz⟩, w⟩ := w
    obtain ⟨p, vs, rfl, hp, r1⟩ := rx
    obtain ⟨q, ws, rfl, hq, r2⟩ := ry
    refine .inr (.inr (.inl ⟨p, q, vs, ws, rfl, rfl, hp.sq, hq.sq, by rw [r1.length, r2.length]; exact hz.line, fun e => ?_, fun _ e => ?_, fun _ _ l hl => k.tup s (RepA.append r1 r2) w hl⟩))
    · subst e
      have : xs = [] := List.eq_nil_of_length_eq_zero r1.length.symm
      subst this
      exact k.here s (d := .tup ys) ⟨q, ws, rfl, hq, r2⟩ w
    · subst e
      exact absurd (List.eq_nil_of_length_eq_zero r2.length.symm) hne
  · rename_i xs ys
    obtain ⟨⟨hne, hz⟩, w⟩ := w
    obtain ⟨p, vs, rfl, hp, r1⟩ := rx
    obtain ⟨q, ws, rfl, hq, r2⟩ := ry
    refine .inr (.inr (.inl ⟨p, q, vs, ws, rfl, rfl, hp.sq, hq.sq, by rw [r1.length, r2.length]; exact hz.line, fun e => ?_, fun _ e => ?_, fun _ _ l hl => k.tup s (RepA.append r1 r2) w hl⟩))
    · subst e
      exact absurd (List.eq_nil_of_length_eq_zero r1.length.symm) hne
    · subst e
      have : ys = [] := List.eq_nil_of_length_eq_zero r2.length.symm
      subst this
      rw [List.append_nil] at w
      exact k.here s (d := .tup xs) ⟨p, vs, rfl, hp, r1⟩ w
  · exact lists w
theorem od_sub (m : Bool) : OD c (binaryOp .Sub) (bopW .Sub m) := by
  refine ⟨_, fun X W h => op_sub, fun H g x y a b Q Qd s rx ry w k => ?_⟩
  obtain ⟨i, rfl, w⟩ := asI_of (show asI a fun i => asI b fun j => Qd (.int (i - j)) g.μ from w)
  obtain ⟨j, rfl, w⟩ := asI_of w
  exact ⟨i, j, rx, ry, k.here s (d := .int _) rfl w⟩
theorem od_mul (m : Bool) : OD c (binaryOp .Mult) (bopW .Mult m) := by
  refine ⟨fun x y H Q => rI CMulW (fun i j => .int (i * j)) x y H Q ∨ (rRepT c.K x y H Q ∨ rRep x y H Q), fun X W h => op_mulW.or ((by rw [← h.K]; exact op_repT : OpR X (binaryOp .Mult) (rRepT c.K)).or op_rep), fun H g x y a b Q Qd s rx ry w k => ?_⟩
  replace w : mulW m a b g.μ Qd := w
  have rep : ∀ {xs : List D} {vs : List V} (n : Nat), RepA c.K g H xs vs → RepA c.K g H (List.replicate n xs).flatten (List.replicate n vs).flatten := fun {xs vs} n r => by
    induction n with
    | zero => rfl
    | succ n ih => rw [List.replicate_succ, List.replicate_succ, List.flatten_cons, List.flatten_cons]; exact RepA.append r ih
  unfold mulW at w
  split at w
  · exact .inl ⟨_, _, rx, ry, log2_mul w.1 w.2.1, k.here s (d := .int _) rfl w.2.2⟩
  · obtain ⟨p, vs, rfl, hp, r1⟩ := rx
    obtain ⟨⟨h1, h2, h3, h4⟩, w⟩ := w
    refine .inr (.inl ⟨p, _, vs, rfl, ry, hp.sq, fun e => ?_, h1, h2, by rw [r1.length]; omega, fun l hl => k.tup s (rep _ r1) w hl⟩)
    subst e
    exact h4 (List.eq_nil_of_length_eq_zero r1.length.symm)
  · rename_i j _ _
    obtain ⟨xs, e1, ⟨h1, h2, h3⟩, w⟩ := onS_of w
    obtain ⟨p, vs, rfl, hp, r1⟩ := lst_view s rx e1
    refine .inr (.inr ⟨p, j, vs, rfl, ry, hp, by omega, by omega, ?_, fun l hl => k.new s (rep _ r1) w hl⟩)
    rw [r1.length]
    have : xs.length * j.toNat ≤ 10 * 1000 := Nat.mul_le_mul h3 (by omega)
    exact Nat.le_trans this (by decide)
  · exact w.elim
theorem op_fdivX {X : Cx} : OpR X (binaryOp .FloorDiv) (rI (fun _ j => DivOk j) fun i j => .int (i.fdiv j)) := opI fun i j _ _ _ _ _ hc q => floordiv_int hc.1 q (.inl (PyProof.noPylong_of_log2 hc.2))
theorem od_fdiv (m : Bool) : OD c (binaryOp .FloorDiv) (bopW .FloorDiv m) := by
  refine ⟨_, fun X W h => op_fdivX, fun H g x y a b Q Qd s rx ry w k => ?_⟩
  obtain ⟨i, rfl, w⟩ := asI_of (show asI a fun i => asI b fun j => DivOk j ∧ Qd (.int (i.fdiv j)) g.μ from w)
  obtain ⟨j, rfl, w⟩ := asI_of w
  exact ⟨i, j, rx, ry, w.1, k.here s (d := .int _) rfl w.2⟩
theorem od_mod (m : Bool) : OD c (binaryOp .Mod) (bopW .Mod m) := by
  refine ⟨_, fun X W h => op_modN, fun H g x y a b Q Qd s rx ry w k => ?_⟩
  obtain ⟨i, rfl, w⟩ := asI_of (show asI a fun i => asI b fun j => j ≠ 0 ∧ Qd (.int (i.fmod j)) g.μ from w)
  obtain ⟨j, rfl, w⟩ := asI_of w
  exact ⟨i, j, rx, ry, w.1, k.here s (d := .int _) rfl w.2⟩
theorem od_pow (m : Bool) : OD c (binaryOp .Pow) (bopW .Pow m) := by
  refine ⟨_, fun X W h => op_pow, fun H g x y a b Q Qd s rx ry w k => ?_⟩
  obtain ⟨i, rfl, w⟩ := asI_of (show asI a fun i => asI b fun j => (0 ≤ j ∧ j ≤ 100 ∧ i.natAbs ≤ 100) ∧ Qd (.int (i ^ j.toNat)) g.μ from w)
  obtain ⟨j, rfl, ⟨h1, h2, h3⟩, w⟩ := asI_of w
  exact ⟨i, j, rx, ry, ⟨h1, by omega, by omega⟩, k.here s (d := .int _) rfl w⟩
def bopOk : Operator → Bool
  | .Add | .Sub | .Mult | .FloorDiv | .Mod | .Pow => true
  | _ => false
theorem od_bop {o : Operator} (h : bopOk o = true) (m : Bool) : OD c (binaryOp o) (bopW o m) := by
  cases o with
  | Add => exact od_add m
  | Sub => exact od_sub m
  | Mult => exact od_mul m
  | FloorDiv => exact od_fdiv m
  | Mod => exact od_mod m
  | Pow => exact od_pow m
  | _ => cases h

/-! ### comparisons -/
theorem Room.u40 {k : Nat} {A : Around} (r : Room k A) {n : Nat} (h : n ≤ 41) : A.units + n < cLine := by
  have := r.units
  omega
/-- == of data -/
def rEqP (K : PySem.W.Frag) : R2 := fun x y H Q => ∃ d e, Dp K H x d ∧ Dp K H y e ∧ d.plain = true ∧ e.plain = true ∧ min d.depth e.depth ≤ 40 ∧ Q (.bl (PyData.eqv d e)) H
def rNeP (K : PySem.W.Frag) : R2 := fun x y H Q => ∃ d e, Dp K H x d ∧ Dp K H y e ∧ d.plain = true ∧ e.plain = true ∧ min d.depth e.depth ≤ 40 ∧ Q (.bl (!PyData.eqv d e)) H
theorem op_eqP {X : Cx} {n : Nat} (hr : Room n X.A) : OpR X (compareOp .Eq) (rEqP X.K) := by
  intro pins s σ H x y v u Q I rx ry h
  obtain ⟨d, e, hd, he, p1, p2, hm, q⟩ := h
  obtain ⟨as, r1⟩ := Dp.reads I d x v hd rx
  obtain ⟨bs, r2⟩ := Dp.reads I e y u he ry
  exact SeqAt.eq_plain r1 r2 p1 p2 (Room.u40 hr (by omega)) ⟨.bl _, H, I, rfl, q⟩
theorem op_neP {X : Cx} {n : Nat} (hr : Room n X.A) : OpR X (compareOp .NotEq) (rNeP X.K) := by
  intro pins s σ H x y v u Q I rx ry h
  obtain ⟨d, e, hd, he, p1, p2, hm, q⟩ := h
  obtain ⟨as, r1⟩ := Dp.reads I d x v hd rx
  obtain ⟨bs, r2⟩ := Dp.reads I e y u he ry
  exact SeqAt.ne_plain r1 r2 p1 p2 (Room.u40 hr (by omega)) ⟨.bl _, H, I, rfl, q⟩
theorem min_shal {x y : D} (h : shal x ∨ shal y) : min x.py.depth y.py.depth ≤ 40 := by
  rcases h with h | h
  · exact Nat.le_trans (Nat.min_le_left _ _) h
  · exact Nat.le_trans (Nat.min_le_right _ _) h
theorem od_eq : OD c (compareOp .Eq) (cW .Eq) := by
  refine ⟨rEqP c.K, fun X W h => by rw [← h.K]; exact op_eqP h.room, fun H g x y a b Q Qd s rx ry w k => ?_⟩
  obtain ⟨⟨h1, h2, h3⟩, w⟩ := show eqW g.μ a b (fun t => Qd (.bl t) g.μ) from w
  exact ⟨_, _, Rep.dpR s h1 rx, Rep.dpR s h2 ry, D.plain _ h1, D.plain _ h2, min_shal h3, k.here s (d := .bl _) rfl w⟩
theorem od_ne : OD c (compareOp .NotEq) (cW .NotEq) := by
  refine ⟨rNeP c.K, fun X W h => by rw [← h.K]; exact op_neP h.room, fun H g x y a b Q Qd s rx ry w k => ?_⟩
  obtain ⟨⟨h1, h2, h3⟩, w⟩ := show eqW g.μ a b (fun t => Qd (.bl (!t)) g.μ) from w
  exact ⟨_, _, Rep.dpR s h1 rx, Rep.dpR s h2 ry, D.plain _ h1, D.plain _ h2, min_shal h3, k.here s (d := .bl _) rfl w⟩
/-- < of tuples -/
def rLtP (K : PySem.W.Frag) : R2 := fun x y H Q => ∃ d e, Dp K H x d ∧ Dp K H y e ∧ d ≠ .none ∧ PySem.W.alike d e = true ∧ d.depth ≤ 40 ∧ Q (.bl (PySem.W.dataLt d e)) H
theorem op_ltP {X : Cx} {n : Nat} (hr : Room n X.A) : OpR X (compareOp .Lt) (rLtP X.K) := by
  intro pins s σ H x y v u Q I rx ry h
  obtain ⟨d, e, hd, he, p1, p2, hm, q⟩ := h
  obtain ⟨as, r1⟩ := Dp.reads I d x v hd rx
  obtain ⟨bs, r2⟩ := Dp.reads I e y u he ry
  exact PySem.W.rcLt_alike d e X.A s v u as bs r1 r2 p2 p1 (Room.u40 hr (by omega)) X.prog X.w X.xe _ ⟨.bl _, H, I, rfl, q⟩
theorem od_lt : OD c (compareOp .Lt) (cW .Lt) := by
  refine ⟨fun x y H Q => rI0 (fun i j => .bl (decide (i < j))) x y H Q ∨ ((∃ i j, x = .str i ∧ y = .str j ∧ Q (.bl (decide (i.cps.toList < j.cps.toList))) H) ∨ rLtP c.K x y H Q), fun X W h => op_lt.or (op_lt_str.or (by rw [← h.K]; exact op_ltP h.room)), fun H g x y a b Q Qd s rx ry w k => ?_⟩
  replace w : ltW a b fun t => Qd (.bl t) g.μ := w
  unfold ltW at w
  split at w
  · exact .inl ⟨_, _, rx, ry, k.here s (d := .bl _) rfl w⟩
  · exact .inr (.inl ⟨_, _, rx, ry, k.here s (d := .bl _) rfl w⟩)
  · obtain ⟨⟨h1, h2, h3, h4⟩, w⟩ := w
    exact .inr (.inr ⟨_, _, Rep.dp _ _ h1 rx, Rep.dp _ _ h2 ry, fun z => (by cases z), h4, h3, k.here s (d := .bl _) rfl w⟩)
  · exact w.elim
theorem od_gt : OD c (compareOp .Gt) (cW .Gt) := by
  refine ⟨_, fun X W h => op_gt, fun H g x y a b Q Qd s rx ry w k => ?_⟩
  obtain ⟨i, rfl, w⟩ := asI_of (show asI a fun i => asI b fun j => Qd (.bl (decide (j < i))) g.μ from w)
  obtain ⟨j, rfl, w⟩ := asI_of w
  exact ⟨i, j, rx, ry, k.here s (d := .bl _) rfl w⟩
theorem od_le : OD c (compareOp .LtE) (cW .LtE) := by
  refine ⟨_, fun X W h => op_le, fun H g x y a b Q Qd s rx ry w k => ?_⟩
  obtain ⟨i, rfl, w⟩ := asI_of (show asI a fun i => asI b fun j => Qd (.bl (decide (i ≤ j))) g.μ from w)
  obtain ⟨j, rfl, w⟩ := asI_of w
  exact ⟨i, j, rx, ry, k.here s (d := .bl _) rfl w⟩
theorem not_lt_le (x y : List Nat) : (!decide (x < y)) = decide (y ≤ x) := PySem.W.not_lt_str y x
theorem od_ge : OD c (compareOp .GtE) (cW .GtE) := by
  refine ⟨fun x y H Q => rI0 (fun i j => .bl (decide (j ≤ i))) x y H Q ∨ (∃ i j, x = .str i ∧ y = .str j ∧ Q (.bl (!decide (i.cps.toList < j.cps.toList))) H), fun X W h => op_ge.or op_ge_str, fun H g x y a b Q Qd s rx ry w k => ?_⟩
  replace w : geW a b fun t => Qd (.bl t) g.μ := w
  unfold geW at w
  split at w
  · exact .inl ⟨_, _, rx, ry, k.here s (d := .bl _) rfl w⟩
  · exact .inr ⟨_, _, rx, ry, by rw [not_lt_le]; exact k.here s (d := .bl _) rfl w⟩
  · exact w.elim
theorem rep_non {K : PySem.W.Frag} {g : Gs} {H : Hp} {d : D} {x : V} (r : Rep K g H d x) : decide (x = .non) = isNon d := by
  cases d with
  | non => cases r; rfl
  | bl b => cases r; rfl
  | int b => cases r; rfl
  | str b => cases r; rfl
  | tup b => obtain ⟨a, vs, rfl, _⟩ := r; rfl
  | lst b => obtain ⟨a, vs, rfl, _⟩ := r; rfl
  | rol b => obtain ⟨a, vs, rfl, _⟩ := r; rfl
  | ptp b => obtain ⟨a, vs, rfl, _⟩ := r; rfl
  | dct b => obtain ⟨a, vs, rfl, _⟩ := r; rfl
  | cel b => obtain ⟨_, rfl⟩ := r; rfl
theorem od_isnot : OD c (compareOp .IsNot) (cW .IsNot) := by
  refine ⟨_, fun X W h => op_notN, fun H g x y a b Q Qd s rx ry w k => ?_⟩
  replace w : isnW a b fun t => Qd (.bl t) g.μ := w
  unfold isnW at w
  split at w
  · refine ⟨ry, ?_⟩
    rw [rep_non rx]
    exact k.here s (d := .bl _) rfl w
  · exact w.elim
theorem op_isNB {X : Cx} : OpR X (compareOp .Is) (fun x y H Q => x = .non ∧ (∃ b, y = .bl b) ∧ Q (.bl false) H) := by
  intro pins s σ H x y v u Q I rx ry h
  obtain ⟨rfl, ⟨b, rfl⟩, q⟩ := h
  cases rx
  cases ry
  exact wpAny_is_other rfl (fun z => nomatch z) ⟨.bl false, H, I, rfl, q⟩
theorem od_is : OD c (compareOp .Is) (cW .Is) := by
  refine ⟨fun x y H Q => (y = .non ∧ Q (.bl (decide (x = .non))) H) ∨ ((∃ a b, x = .bl a ∧ y = .bl b ∧ Q (.bl (decide (a = b))) H) ∨ (x = .non ∧ (∃ b, y = .bl b) ∧ Q (.bl false) H)), fun X W h => op_isN.or (op_is_bl.or op_isNB), fun H g x y a b Q Qd s rx ry w k => ?_⟩
  replace w : isW a b fun t => Qd (.bl t) g.μ := w
  unfold isW at w
  split at w
  · refine .inl ⟨ry, ?_⟩
    rw [rep_non rx]
    exact k.here s (d := .bl _) rfl w
  · split at w
    · exact .inr (.inl ⟨_, _, rx, ry, k.here s (d := .bl _) rfl w⟩)
    · exact .inr (.inr ⟨rx, ⟨_, ry⟩, k.here s (d := .bl _) rfl w⟩)
    · exact w.elim
  · exact w.elim
end
end FW

set_option Elab.async false
set_option linter.all false
set_option maxRecDepth 100000
/-! DL5: in, subscripts, slices, stores, methods, built-ins over data. -/
namespace FW
open PySem PySem.Spec PyProof.Rows L2
section
variable {c : Cn} {K : PySem.W.Frag} {g : Gs} {H : Hp}
/-! ### dicts -/
theorem zK_len : ∀ {ks : List Str} {vs : List V}, ks.length = vs.length → (zK ks vs).length = ks.length
  | [], [], _ => rfl
  | [], _ :: _, h => by cases h
  | _ :: _, [], h => by cases h
  | k :: ks, v :: vs, h => by show (zK ks vs).length + 1 = ks.length + 1; rw [zK_len (Nat.succ.inj h)]
theorem zT_len : ∀ {ks : List (List Str)} {vs : List V}, ks.length = vs.length → (zT ks vs).length = ks.length
  | [], [], _ => rfl
  | [], _ :: _, h => by cases h
  | _ :: _, [], h => by cases h
  | k :: ks, v :: vs, h => by show (zT ks vs).length + 1 = ks.length + 1; rw [zT_len (Nat.succ.inj h)]
theorem zK_val : ∀ {ks : List Str} {ds : List D} {vs : List V} (x : Str), ks.length = ds.length → RepA K g H ds vs → (lookD ks ds x = none ∧ x ∉ ks ∧ valV (zK ks vs) (Sum.inr x) = none) ∨ ∃ d v, lookD ks ds x = some d ∧ x ∈ ks ∧ valV (zK ks vs) (Sum.inr x) = some v ∧ Rep K g H d v
  | [], [], _, x, _, h => by cases h; exact .inl ⟨rfl, by simp, rfl⟩
  | [], _ :: _, _, _, h, _ => by cases h
  | _ :: _, [], _, _, h, _ => by cases h
  | k :: ks, d :: ds, _, x, h, ⟨v, r, h1, h2, h3⟩ => by
    subst h1
    by_cases e : k = x
    · refine .inr ⟨d, v, ?_, ?_, ?_, h2⟩
      · show (if k = x then some d else _) = _; rw [if_pos e]
      · rw [e]; exact List.mem_cons_self
      · exact valV_pos (p := ((Sum.inr k : Key), v)) (by show (Sum.inr k : Key) = _; rw [e])
    · have e1 : lookD (k :: ks) (d :: ds) x = lookD ks ds x := by show (if k = x then some d else _) = _; rw [if_neg e]
      have e2 : valV (zK (k :: ks) (v :: r)) (Sum.inr x) = valV (zK ks r) (Sum.inr x) := valV_neg (p := ((Sum.inr k : Key), v)) (by intro z; exact e (Sum.inr.inj z))
      have e3 : x ∈ (k :: ks) ↔ x ∈ ks := by rw [List.mem_cons]; exact ⟨fun z => z.elim (fun z => absurd z.symm e) id, .inr⟩
      rw [e1, e2, e3]
      exact zK_val x (Nat.succ.inj h) h3
theorem inr_map_inj : ∀ {a b : List Str}, (a.map (Sum.inr : Str → Key)) = b.map Sum.inr → a = b
  | [], [], _ => rfl
  | [], _ :: _, h => by cases h
  | _ :: _, [], h => by cases h
  | x :: a, y :: b, h => by
    rw [List.map_cons, List.map_cons] at h
    injection h with h1 h2
    rw [Sum.inr.inj h1, inr_map_inj h2]
theorem zT_val : ∀ {ks : List (List Str)} {ds : List D} {vs : List V} (x : List Str), ks.length = ds.length → RepA K g H ds vs → (lookD ks ds x = none ∧ x ∉ ks ∧ valV (zT ks vs) (x.map Sum.inr) = none) ∨ ∃ d v, lookD ks ds x = some d ∧ x ∈ ks ∧ valV (zT ks vs) (x.map Sum.inr) = some v ∧ Rep K g H d v
  | [], [], _, x, _, h => by cases h; exact .inl ⟨rfl, by simp, rfl⟩
  | [], _ :: _, _, _, h, _ => by cases h
  | _ :: _, [], _, _, h, _ => by cases h
  | k :: ks, d :: ds, _, x, h, ⟨v, r, h1, h2, h3⟩ => by
    subst h1
    by_cases e : k = x
    · refine .inr ⟨d, v, ?_, ?_, ?_, h2⟩
      · show (if k = x then some d else _) = _; rw [if_pos e]
      · rw [e]; exact List.mem_cons_self
      · exact valV_pos (p := ((k.map Sum.inr : List Key), v)) (by show (k.map Sum.inr : List Key) = _; rw [e])
    · have e1 : lookD (k :: ks) (d :: ds) x = lookD ks ds x := by show (if k = x then some d else _) = _; rw [if_neg e]
      have e2 : valV (zT (k :: ks) (v :: r)) (x.map Sum.inr) = valV (zT ks r) (x.map Sum.inr) := valV_neg (p := ((k.map Sum.inr : List Key), v)) (by intro z; exact e (inr_map_inj z))
      have e3 : x ∈ (k :: ks) ↔ x ∈ ks := by rw [List.mem_cons]; exact ⟨fun z => z.elim (fun z => absurd z.symm e) id, .inr⟩
      rw [e1, e2, e3]
      exact zT_val x (Nat.succ.inj h) h3
/-- the value behind a store -/
def setV {κ : Type} [DecidableEq κ] : List κ → List V → κ → V → List V
  | k :: ks, v :: vs, x, e => (if k = x then e else v) :: setV ks vs x e
  | _, vs, _, _ => vs
theorem RepA.setK {κ : Type} [DecidableEq κ] {x : κ} {e : D} {w : V} (hw : Rep K g H e w) : ∀ {ks : List κ} {ds : List D} {vs : List V}, RepA K g H ds vs → RepA K g H (setD ks ds x e) (setV ks vs x w)
  | [], [], _, h => by cases h; rfl
  | [], _ :: _, _, ⟨v, r, h1, h2, h3⟩ => by subst h1; exact ⟨v, r, rfl, h2, h3⟩
  | _ :: _, [], _, h => by cases h; rfl
  | k :: ks, d :: ds, _, ⟨v, r, h1, h2, h3⟩ => by
    subst h1
    show RepA K g H ((if k = x then e else d) :: setD ks ds x e) ((if k = x then w else v) :: setV ks r x w)
    refine ⟨_, _, rfl, ?_, RepA.setK hw h3⟩
    by_cases q : k = x
    · rw [if_pos q, if_pos q]; exact hw
    · rw [if_neg q, if_neg q]; exact h2
theorem setD_len {κ : Type} [DecidableEq κ] {x : κ} {e : D} : ∀ (ks : List κ) (ds : List D), (setD ks ds x e).length = ds.length
  | [], ds => rfl
  | _ :: _, [] => rfl
  | k :: ks, d :: ds => by show (setD ks ds x e).length + 1 = ds.length + 1; rw [setD_len ks ds]
theorem zK_map {x : Str} {w : V} : ∀ (ks : List Str) (vs : List V), (zK ks vs).map (fun kv => if kv.1 = Sum.inr x then (kv.1, w) else kv) = zK ks (setV ks vs x w)
  | [], _ => rfl
  | _ :: _, [] => rfl
  | k :: ks, v :: vs => by
    show (if (Sum.inr k : Key) = Sum.inr x then ((Sum.inr k : Key), w) else (Sum.inr k, v)) :: (zK ks vs).map _ = ((Sum.inr k : Key), if k = x then w else v) :: zK ks (setV ks vs x w)
    rw [zK_map ks vs]
    by_cases e : k = x
    · rw [if_pos (by rw [e]), if_pos e]
    · rw [if_neg (by intro z; exact e (Sum.inr.inj z)), if_neg e]
theorem zK_any {x : Str} : ∀ {ks : List Str} {vs : List V}, ks.length = vs.length → ((zK ks vs).any fun kv => decide (kv.1 = Sum.inr x)) = decide (x ∈ ks)
  | [], _, _ => by simp [zK]
  | _ :: _, [], h => by cases h
  | k :: ks, v :: vs, h => by
    show (decide ((Sum.inr k : Key) = Sum.inr x) || (zK ks vs).any _) = _
    rw [zK_any (Nat.succ.inj h)]
    by_cases e : k = x
    · rw [decide_eq_true (by rw [e]), Bool.true_or, decide_eq_true (by rw [e]; exact List.mem_cons_self)]
    · rw [decide_eq_false (by intro z; exact e (Sum.inr.inj z)), Bool.false_or]
      exact decide_eq_decide.mpr ⟨List.mem_cons_of_mem _, fun z => (List.mem_cons.mp z).elim (fun z => absurd z.symm e) id⟩
theorem zK_app {x : Str} {w : V} : ∀ {ks : List Str} {vs : List V}, ks.length = vs.length → zK ks vs ++ [(Sum.inr x, w)] = zK (ks ++ [x]) (vs ++ [w])
  | [], [], _ => rfl
  | [], _ :: _, h => by cases h
  | _ :: _, [], h => by cases h
  | k :: ks, v :: vs, h => by
    show ((Sum.inr k : Key), v) :: (zK ks vs ++ [(Sum.inr x, w)]) = _
    rw [zK_app (Nat.succ.inj h)]
    rfl
/-- a store to a dict, told by its pairs -/
theorem zK_put {x : Str} {e : D} {w : V} (hw : Rep K g H e w) {ks : List Str} {ds : List D} {vs : List V} (hl : ks.length = ds.length) (r : RepA K g H ds vs) :
    ∃ ws, putK (zK ks vs) (Sum.inr x) w = zK (putD ks ds x e).1 ws ∧ RepA K g H (putD ks ds x e).2 ws ∧ (putD ks ds x e).1.length = (putD ks ds x e).2.length := by
  have hv : ks.length = vs.length := by rw [r.length]; exact hl
  unfold putK putD
  rw [zK_any hv]
  by_cases e1 : x ∈ ks
  · rw [if_pos (decide_eq_true e1), if_pos e1]
    exact ⟨_, zK_map ks vs, r.setK hw, by show ks.length = (setD ks ds x e).length; rw [setD_len]; exact hl⟩
  · rw [if_neg (by simpa using e1), if_neg e1]
    exact ⟨_, zK_app hv, r.append (.single hw), by simp [hl]⟩
theorem zT_map {x : List Str} {w : V} : ∀ (ks : List (List Str)) (vs : List V), (zT ks vs).map (fun kv => if kv.1 = x.map Sum.inr then (kv.1, w) else kv) = zT ks (setV ks vs x w)
  | [], _ => rfl
  | _ :: _, [] => rfl
  | k :: ks, v :: vs => by
    show (if (k.map Sum.inr : List Key) = x.map Sum.inr then ((k.map Sum.inr : List Key), w) else (k.map Sum.inr, v)) :: (zT ks vs).map _ = ((k.map Sum.inr : List Key), if k = x then w else v) :: zT ks (setV ks vs x w)
    rw [zT_map ks vs]
    by_cases e : k = x
    · rw [if_pos (by rw [e]), if_pos e]
    · rw [if_neg (by intro z; exact e (inr_map_inj z)), if_neg e]
theorem zT_any {x : List Str} : ∀ {ks : List (List Str)} {vs : List V}, ks.length = vs.length → ((zT ks vs).any fun kv => decide (kv.1 = x.map Sum.inr)) = decide (x ∈ ks)
  | [], _, _ => by simp [zT]
  | _ :: _, [], h => by cases h
  | k :: ks, v :: vs, h => by
    show (decide ((k.map Sum.inr : List Key) = x.map Sum.inr) || (zT ks vs).any _) = _
    rw [zT_any (Nat.succ.inj h)]
    by_cases e : k = x
    · rw [decide_eq_true (by rw [e]), Bool.true_or, decide_eq_true (by rw [e]; exact List.mem_cons_self)]
    · rw [decide_eq_false (by intro z; exact e (inr_map_inj z)), Bool.false_or]
      exact decide_eq_decide.mpr ⟨List.mem_cons_of_mem _, fun z => (List.mem_cons.mp z).elim (fun z => absurd z.symm e) id⟩
theorem zT_app {x : List Str} {w : V} : ∀ {ks : List (List Str)} {vs : List V}, ks.length = vs.length → zT ks vs ++ [(x.map Sum.inr, w)] = zT (ks ++ [x]) (vs ++ [w])
  | [], [], _ => rfl
  | [], _ :: _, h => by cases h
  | _ :: _, [], h => by cases h
  | k :: ks, v :: vs, h => by
    show ((k.map Sum.inr : List Key), v) :: (zT ks vs ++ [(x.map Sum.inr, w)]) = _
    rw [zT_app (Nat.succ.inj h)]
    rfl
theorem zT_put {x : List Str} {e : D} {w : V} (hw : Rep K g H e w) {ks : List (List Str)} {ds : List D} {vs : List V} (hl : ks.length = ds.length) (r : RepA K g H ds vs) :
    ∃ ws, putK (zT ks vs) (x.map Sum.inr) w = zT (putD ks ds x e).1 ws ∧ RepA K g H (putD ks ds x e).2 ws ∧ (putD ks ds x e).1.length = (putD ks ds x e).2.length := by
  have hv : ks.length = vs.length := by rw [r.length]; exact hl
  unfold putK putD
  rw [zT_any hv]
  by_cases e1 : x ∈ ks
  · rw [if_pos (decide_eq_true e1), if_pos e1]
    exact ⟨_, zT_map ks vs, r.setK hw, by show ks.length = (setD ks ds x e).length; rw [setD_len]; exact hl⟩
  · rw [if_neg (by simpa using e1), if_neg e1]
    exact ⟨_, zT_app hv, r.append (.single hw), by simp [hl]⟩
/-- a merge, told by its pairs -/
theorem zK_merge : ∀ (ps : List (Str × D)) (ws : List V) {ks : List Str} {ds : List D} {vs : List V}, ks.length = ds.length → RepA K g H ds vs → RepA K g H (ps.map (·.2)) ws →
    ∃ us, mergeK (zK ks vs) (zK (ps.map (·.1)) ws) = zK (putAll ks ds ps).1 us ∧ RepA K g H (putAll ks ds ps).2 us ∧ (putAll ks ds ps).1.length = (putAll ks ds ps).2.length
  | [], _, ks, ds, vs, hl, r, _ => ⟨vs, rfl, r, hl⟩
  | (x, e) :: ps, _, ks, ds, vs, hl, r, ⟨w, ws, h1, h2, h3⟩ => by
    subst h1
    obtain ⟨us, e1, e2, e3⟩ := zK_put (x := x) h2 hl r
    obtain ⟨ts, f1, f2, f3⟩ := zK_merge ps ws e3 e2 h3
    refine ⟨ts, ?_, f2, f3⟩
    show mergeK (putK (zK ks vs) (Sum.inr x) w) (zK (ps.map (·.1)) ws) = _
    rw [e1]
    exact f1

/-! ### what a dict holds at a key -/
theorem pair_view {a b : Str} {x : V} (r : Rep K g H (.tup [.str a, .str b]) x) : ∃ p, x = .ref p ∧ H p = some (.tup ([a, b].map fun s => kV (Sum.inr s))) := by
  obtain ⟨p, vs, rfl, hp, r1⟩ := r
  obtain ⟨v, r, rfl, h1, r2⟩ := r1
  obtain ⟨w, r, rfl, h2, r3⟩ := r2
  cases r3
  cases h1
  cases h2
  rcases hp with hp | ⟨_, hp⟩
  · exact ⟨p, rfl, hp.1⟩
  · cases hp
theorem rep_str {x : Str} {v : V} (r : Rep K g H (.str x) v) : v = kV (Sum.inr x) := r
/-! ### in -/
def rInP (K : PySem.W.Frag) (neg : Bool) : R2 := fun x y H Q => ∃ d ds, Dp K H x d ∧ (Dp K H y (.list ds) ∨ Dp K H y (.tuple ds)) ∧ d.plain = true ∧ PyData.plainAll ds = true ∧ d.depth ≤ 40 ∧ Q (.bl (xor neg (ds.any fun z => PyData.eqv z d))) H
theorem op_inP {X : Cx} {n : Nat} (hr : Room n X.A) : OpR X (compareOp .In) (rInP X.K false) := by
  intro pins s σ H x y v u Q I rx ry h
  obtain ⟨d, ds, hd, he, p1, p2, hm, q⟩ := h
  obtain ⟨as, r1⟩ := Dp.reads I d x v hd rx
  have hu : X.A.units + 1 + min (PyData.depthAll ds) d.depth < cLine := by have := Room.u40 hr (n := 41) (by omega); omega
  rw [Bool.false_xor] at q
  rcases he with he | he
  · obtain ⟨bs, r2⟩ := Dp.reads I _ y u he ry
    exact SeqAt.in_list_data r2 r1 p2 p1 hu ⟨.bl _, H, I, rfl, q⟩
  · obtain ⟨bs, r2⟩ := Dp.reads I _ y u he ry
    exact SeqAt.in_tuple_data r2 r1 p2 p1 hu ⟨.bl _, H, I, rfl, q⟩
theorem op_ninP {X : Cx} {n : Nat} (hr : Room n X.A) : OpR X (compareOp .NotIn) (rInP X.K true) := by
  intro pins s σ H x y v u Q I rx ry h
  obtain ⟨d, ds, hd, he, p1, p2, hm, q⟩ := h
  obtain ⟨as, r1⟩ := Dp.reads I d x v hd rx
  have hu : X.A.units + 1 + min (PyData.depthAll ds) d.depth < cLine := by have := Room.u40 hr (n := 41) (by omega); omega
  rw [Bool.true_xor] at q
  rcases he with he | he
  · obtain ⟨bs, r2⟩ := Dp.reads I _ y u he ry
    exact SeqAt.notIn_list_data r2 r1 p2 p1 hu ⟨.bl _, H, I, rfl, q⟩
  · obtain ⟨bs, r2⟩ := Dp.reads I _ y u he ry
    exact SeqAt.notIn_tuple_data r2 r1 p2 p1 hu ⟨.bl _, H, I, rfl, q⟩
def rDinP : R2 := fun y x H Q => ∃ a o, x = .ref a ∧ DGet H a y o ∧ Q (.bl o.isSome) H
def rDninP : R2 := fun y x H Q => ∃ a o, x = .ref a ∧ DGet H a y o ∧ Q (.bl (!o.isSome)) H
theorem op_dinP {X : Cx} {n : Nat} (hr : Room n X.A) : OpR X (compareOp .In) rDinP := by
  intro pins s σ H y x u v Q I ry rx h
  obtain ⟨a, o, rfl, gt, q⟩ := h
  obtain rfl : v = Value.ref a := rx
  exact d_in (hu_of hr) I gt ry fun s3 I3 => ⟨.bl _, H, I3, rfl, q⟩
theorem op_dninP {X : Cx} {n : Nat} (hr : Room n X.A) : OpR X (compareOp .NotIn) rDninP := by
  intro pins s σ H y x u v Q I ry rx h
  obtain ⟨a, o, rfl, gt, q⟩ := h
  obtain rfl : v = Value.ref a := rx
  exact d_notIn (hu_of hr) I gt ry fun s3 I3 => ⟨.bl _, H, I3, rfl, q⟩
theorem str_one {c : Str} (h : c.length = 1) : c = ⟨#[c.cps.toList.headD 0]⟩ := by
  obtain ⟨a⟩ := c
  have h : a.size = 1 := h
  obtain ⟨l⟩ := a
  match l, h with
  | [z], _ => rfl
theorem any_py (x : D) : ∀ xs : List D, ((pyA xs).any fun z => PyData.eqv z x.py) = memD x xs
  | [] => rfl
  | y :: ys => by
    show (PyData.eqv y.py x.py || (pyA ys).any _) = (eqD y x || memD x ys)
    rw [any_py x ys]
    rfl
/-- the ways of «in», once for both words -/
theorem in_ways {a b : D} {x y : V} {k : Bool → Prop} (s : StOk K g H) (rx : Rep K g H a x) (ry : Rep K g H b y) (w : memW g.μ a b k) :
    (∃ (c : Nat) (z : Str), x = .str ⟨#[c]⟩ ∧ y = .str z ∧ k (decide (c ∈ z.cps.toList))) ∨
    ((∃ d ds, Dp K H x d ∧ (Dp K H y (.list ds) ∨ Dp K H y (.tuple ds)) ∧ d.plain = true ∧ PyData.plainAll ds = true ∧ d.depth ≤ 40 ∧ k (ds.any fun z => PyData.eqv z d)) ∨
    (∃ p o, y = .ref p ∧ DGet H p x o ∧ k o.isSome)) := by
  have seq : ∀ {xs : List D} {vs : List V} {p : Addr}, y = .ref p → (SqL K H p vs ∨ SqT K H p vs) → RepA K g H xs vs → (a.pl = true ∧ plA xs = true ∧ shal a) ∧ k (memD a xs) →
      ∃ d ds, Dp K H x d ∧ (Dp K H y (.list ds) ∨ Dp K H y (.tuple ds)) ∧ d.plain = true ∧ PyData.plainAll ds = true ∧ d.depth ≤ 40 ∧ k (ds.any fun z => PyData.eqv z d) := by
    rintro xs vs p rfl hq r1 ⟨⟨h1, h2, h3⟩, q⟩
    refine ⟨a.py, pyA xs, Rep.dp _ _ h1 rx, ?_, D.plain _ h1, D.plainA _ h2, h3, by rw [any_py]; exact q⟩
    rcases hq with hq | hq
    · exact .inl (.lst hq (RepA.dp _ _ h2 r1))
    · exact .inr (.tup hq (RepA.dp _ _ h2 r1))
  have dk : ∀ {ks : List Str} {ds : List D} {vs : List V} {p : Addr} {c : Str}, y = .ref p → a = .str c → Rd H p (.dK (zK ks vs)) → ks.length = ds.length → RepA K g H ds vs → k (decide (c ∈ ks)) → ∃ p o, y = .ref p ∧ DGet H p x o ∧ k o.isSome := by
    rintro ks ds vs p c rfl rfl hd hl r1 q
    refine ⟨p, valV (zK ks vs) (Sum.inr c), rfl, .inl ⟨_, _, hd, (show x = kV (Sum.inr c) from rx), rfl⟩, ?_⟩
    rcases zK_val c hl r1 with ⟨_, e1, e2⟩ | ⟨d, v, _, e1, e2, _⟩
    · rw [e2]
      rw [decide_eq_false e1] at q
      exact q
    · rw [e2]
      rw [decide_eq_true e1] at q
      exact q
  unfold memW at w
  split at w
  · split at w
    · exact .inl ⟨_, _, by rw [str_one w.1] at rx; exact rx, ry, w.2⟩
    · exact w.elim
  · split at w
    · obtain ⟨p, vs, h1, h2, h3, h4⟩ := ry
      exact .inr (.inr (dk h1 rfl h2.1 h3 h4 w))
    · exact w.elim
  · split at w
    · rename_i e
      obtain ⟨vs, h1, h2⟩ := s.ob _ _ e
      exact .inr (.inl (seq ry.2 (.inl (.inl (.inl h1))) h2 w))
    · rename_i e
      obtain ⟨vs, h1, h2, h3⟩ := s.ob _ _ e
      split at w
      · exact .inr (.inr (dk ry.2 rfl (.inl h1) h2 h3 w))
      · exact w.elim
    · rename_i e
      obtain ⟨vs, h1, h2, h3⟩ := s.ob _ _ e
      split at w
      · rename_i p q
        obtain ⟨t, rfl, ht⟩ := pair_view rx
        refine .inr (.inr ⟨_, valV (zT _ vs) ([p, q].map Sum.inr), ry.2, .inr ⟨_, _, t, .inl h1, rfl, ?_, rfl⟩, ?_⟩)
        · rw [ht]; rfl
        · rcases zT_val [p, q] h2 h3 with ⟨_, e1, e2⟩ | ⟨d, v, _, e1, e2, _⟩
          · rw [e2]
            rw [decide_eq_false e1] at w
            exact w
          · rw [e2]
            rw [decide_eq_true e1] at w
            exact w
      · exact w.elim
    · exact w.elim
  · obtain ⟨p, vs, h1, h2, h3⟩ := ry
    exact .inr (.inl (seq h1 (.inl h2.sq) h3 w))
  · obtain ⟨p, vs, h1, h2, h3⟩ := ry
    exact .inr (.inl (seq h1 (.inr h2.sq) h3 w))
  · exact w.elim
theorem od_in : OD c (compareOp .In) (cW .In) := by
  refine ⟨fun x y H Q => (∃ (c : Nat) (z : Str), x = .str ⟨#[c]⟩ ∧ y = .str z ∧ Q (.bl (decide (c ∈ z.cps.toList))) H) ∨ (rInP c.K false x y H Q ∨ rDinP x y H Q), fun X W h => op_in_sign.or ((by rw [← h.K]; exact op_inP h.room : OpR X (compareOp .In) (rInP c.K false)).or (op_dinP h.room)), fun H g x y a b Q Qd s rx ry w k => ?_⟩
  rcases in_ways s rx ry (k := fun t => Qd (.bl t) g.μ) w with ⟨p, z, h1, h2, q⟩ | ⟨d, ds, h1, h2, h3, h4, h5, q⟩ | ⟨p, o, h1, h2, q⟩
  · exact .inl ⟨p, z, h1, h2, k.here s (d := .bl _) rfl q⟩
  · exact .inr (.inl ⟨d, ds, h1, h2, h3, h4, h5, by rw [Bool.false_xor]; exact k.here s (d := .bl _) rfl q⟩)
  · exact .inr (.inr ⟨p, o, h1, h2, k.here s (d := .bl _) rfl q⟩)
theorem od_nin : OD c (compareOp .NotIn) (cW .NotIn) := by
  refine ⟨fun x y H Q => (∃ (c : Nat) (z : Str), x = .str ⟨#[c]⟩ ∧ y = .str z ∧ Q (.bl (!decide (c ∈ z.cps.toList))) H) ∨ (rInP c.K true x y H Q ∨ rDninP x y H Q), fun X W h => op_notIn_sign.or ((by rw [← h.K]; exact op_ninP h.room : OpR X (compareOp .NotIn) (rInP c.K true)).or (op_dninP h.room)), fun H g x y a b Q Qd s rx ry w k => ?_⟩
  rcases in_ways s rx ry (k := fun t => Qd (.bl (!t)) g.μ) w with ⟨p, z, h1, h2, q⟩ | ⟨d, ds, h1, h2, h3, h4, h5, q⟩ | ⟨p, o, h1, h2, q⟩
  · exact .inl ⟨p, z, h1, h2, k.here s (d := .bl _) rfl q⟩
  · exact .inr (.inl ⟨d, ds, h1, h2, h3, h4, h5, by rw [Bool.true_xor]; exact k.here s (d := .bl _) rfl q⟩)
  · exact .inr (.inr ⟨p, o, h1, h2, k.here s (d := .bl _) rfl q⟩)
theorem od_cmp : ∀ o : CmpOp, OD c (compareOp o) (cW o)
  | .Eq => od_eq
  | .NotEq => od_ne
  | .Lt => od_lt
  | .LtE => od_le
  | .Gt => od_gt
  | .GtE => od_ge
  | .Is => od_is
  | .IsNot => od_isnot
  | .In => od_in
  | .NotIn => od_nin
end
end FW

set_option Elab.async false
set_option linter.all false
set_option maxRecDepth 100000
/-! DL6: subscripts, slices, stores, methods over data. -/
namespace FW
open PySem PySem.Spec PyProof.Rows L2
section
variable {c : Cn} {Φ : Str → FS} {K : PySem.W.Frag} {g : Gs} {H : Hp}
theorem rep_at {xs : List D} {vs : List V} {i : Int} {d : D} (r : RepA K g H xs vs) (h : atI xs i = some d) : ∃ v, atI vs i = some v ∧ Rep K g H d v := by
  unfold atI at h ⊢
  rw [r.length]
  cases e : ixN xs.length i with
  | none => rw [e] at h; cases h
  | some j => rw [e] at h; exact r.get h
def rIxDi : R2 := fun x y H Q => ∃ a v, x = .ref a ∧ DGet H a y (some v) ∧ Q v H
theorem ix_dict {X : Cx} {n : Nat} (hr : Room n X.A) : IxR X rIxDi := by
  intro value slice pins s σ H x y v u Q I rx ry h hs
  obtain ⟨a, z, rfl, gt, q⟩ := h
  obtain rfl : v = Value.ref a := rx
  exact tail_any (dict_typeIs I gt) PySem.F.slot_dict_getitem.lookup (d_getItem (hu_of hr) I gt ry fun w' s3 I3 rw' => ⟨z, H, I3, rw', q⟩) hs
theorem look_some {ks : List Str} {ds : List D} {vs : List V} {x : Str} {d : D} (hl : ks.length = ds.length) (r : RepA K g H ds vs) (h : lookD ks ds x = some d) : ∃ v, valV (zK ks vs) (Sum.inr x) = some v ∧ Rep K g H d v := by
  rcases zK_val x hl r with ⟨e, _, _⟩ | ⟨d', v, e, _, e2, r2⟩
  · rw [h] at e; cases e
  · rw [h] at e; cases e; exact ⟨v, e2, r2⟩
theorem lookT_some {ks : List (List Str)} {ds : List D} {vs : List V} {x : List Str} {d : D} (hl : ks.length = ds.length) (r : RepA K g H ds vs) (h : lookD ks ds x = some d) : ∃ v, valV (zT ks vs) (x.map Sum.inr) = some v ∧ Rep K g H d v := by
  rcases zT_val x hl r with ⟨e, _, _⟩ | ⟨d', v, e, _, e2, r2⟩
  · rw [h] at e; cases e
  · rw [h] at e; cases e; exact ⟨v, e2, r2⟩
def rIxAll (K : PySem.W.Frag) : R2 := fun x y H Q => rIxL K x y H Q ∨ (rIxT K x y H Q ∨ rIxDi x y H Q)
theorem ix_snd {H : Hp} {g : Gs} {x y : V} {a b : D} {Q : VK} {Qd : QD} (s : StOk c.K g H) (rx : Rep c.K g H a x) (ry : Rep c.K g H b y) (w : ixW a b g.μ Qd) (k : OC c g H Qd Q) : rIxAll c.K x y H Q := by
  have seq : ∀ {xs : List D} {vs : List V} {p : Addr}, x = .ref p → RepA c.K g H xs vs → (asI b fun i => onS (atD xs i) fun d => Qd d g.μ) → ∃ i v, y = .int i ∧ atI vs i = some v ∧ Q v H := by
    rintro xs vs p rfl r1 w
    obtain ⟨i, rfl, w⟩ := asI_of w
    obtain ⟨d, e, w⟩ := onS_of w
    obtain ⟨v, e2, r2⟩ := rep_at r1 e
    exact ⟨i, v, ry, e2, k.here s r2 w⟩
  unfold ixW at w
  split at w
  · obtain ⟨p, vs, e, hp, r1⟩ := rx
    obtain ⟨i, v, e1, e2, q⟩ := seq e r1 w
    exact .inr (.inl ⟨p, vs, i, v, e, e1, hp.sq, e2, q⟩)
  · obtain ⟨p, vs, e, hp, r1⟩ := rx
    obtain ⟨i, v, e1, e2, q⟩ := seq e r1 w
    exact .inl ⟨p, vs, i, v, e, e1, hp.sq, e2, q⟩
  · obtain ⟨p, vs, e, hp, r1⟩ := rx
    obtain ⟨i, v, e1, e2, q⟩ := seq e r1 w
    exact .inl ⟨p, vs, i, v, e, e1, hp.sq, e2, q⟩
  · obtain ⟨p, vs, e, hp, r1⟩ := rx
    obtain ⟨i, v, e1, e2, q⟩ := seq e r1 w
    exact .inr (.inl ⟨p, vs, i, v, e, e1, hp.sq, e2, q⟩)
  · obtain ⟨p, vs, e, hp, hl, r1⟩ := rx
    split at w
    · obtain ⟨d, e1, w⟩ := onS_of w
      obtain ⟨v, e2, r2⟩ := look_some hl r1 e1
      exact .inr (.inr ⟨p, v, e, .inl ⟨_, _, hp.1, rep_str ry, e2.symm⟩, k.here s r2 w⟩)
    · exact w.elim
  · split at w
    · rename_i e0
      obtain ⟨vs, h1, r1⟩ := s.ob _ _ e0
      obtain ⟨i, v, e1, e2, q⟩ := seq rx.2 r1 w
      exact .inl ⟨_, vs, i, v, rx.2, e1, .inl (.inl h1), e2, q⟩
    · rename_i e0
      obtain ⟨vs, h1, hl, r1⟩ := s.ob _ _ e0
      split at w
      · obtain ⟨d, e1, w⟩ := onS_of w
        obtain ⟨v, e2, r2⟩ := look_some hl r1 e1
        exact .inr (.inr ⟨_, v, rx.2, .inl ⟨_, _, .inl h1, rep_str ry, e2.symm⟩, k.here s r2 w⟩)
      · exact w.elim
    · rename_i e0
      obtain ⟨vs, h1, hl, r1⟩ := s.ob _ _ e0
      split at w
      · obtain ⟨d, e1, w⟩ := onS_of w
        obtain ⟨v, e2, r2⟩ := lookT_some hl r1 e1
        obtain ⟨t, rfl, ht⟩ := pair_view ry
        exact .inr (.inr ⟨_, v, rx.2, .inr ⟨_, _, t, .inl h1, rfl, (by rw [ht]; rfl), e2.symm⟩, k.here s r2 w⟩)
      · exact w.elim
    · exact w.elim
  · exact w.elim
theorem se_ix {a b : Expr} {x y : IE} {pos : Pos} (ha : SE c a (wE Φ x)) (hb : SE c b (wE Φ y)) (hp : PlainIx b) : SE c (.Subscript a b pos) (wE Φ (.ix x y)) := by
  obtain ⟨t, ht, hw⟩ := ha
  obtain ⟨u, hu, hw2⟩ := hb
  refine ⟨fun W => tOp (rIxAll c.K) (t W) (u W), fun X W h => pe_ix ((by rw [← h.K]; exact ix_list : IxR X (rIxL c.K)).or ((by rw [← h.K]; exact ix_tup : IxR X (rIxT c.K)).or (ix_dict h.room))) (ht X W h) (hu X W h) hp, fun W σ H g env Q Qd Ed re s w k kx => ?_⟩
  refine hw W σ H g env _ _ Ed re s w (fun d v g1 H1 e1 s1 r1 q1 => ?_) kx
  refine hw2 W σ H1 g1 env _ _ Ed (re.mono e1) s1 q1 (fun d2 v2 g2 H2 e2 s2 r2 q2 => ?_) (kx.mono e1)
  exact ix_snd s2 (Rep.mono e2 _ _ r1) r2 q2 (k.mono (e1.trans e2))
/-! ### slices -/
def SO (c : Cn) (e : Option Expr) (w : En → Mu → (Option Int → Mu → Prop) → XD → Prop) : Prop := ∃ t : WX → TO, (∀ X W, CxIn c X W → PO X e (t W)) ∧
  ∀ (W : WX) (σ : L2.St) (H : Hp) (g : Gs) (env : En) (Q : Option Int → Hp → Prop) (Qd : Option Int → Mu → Prop) (Ed : XD),
    RelE c.K g H σ env → StOk c.K g H → w env g.μ Qd Ed → (∀ o g' H', Ext g H g' H' → StOk c.K g' H' → Qd o g'.μ → Q o H') → XC c g H Ed W σ → t W σ H Q
theorem so_none : SO c none (wO Φ .nil) := ⟨fun _ => tNoPart, fun X W _ => po_none, fun W σ H g env Q Qd Ed r s w k _ => k none g H (Ext.refl _ _) s w⟩
theorem so_some {e : Expr} {x : IE} {r : IEs} (h : SE c e (wE Φ x)) : SO c (some e) (wO Φ (.cons x r)) := by
  obtain ⟨t, ht, hw⟩ := h
  refine ⟨fun W => tPart (t W), fun X W h => po_some (ht X W h), fun W σ H g env Q Qd Ed re s w k kx => ?_⟩
  refine hw W σ H g env _ _ Ed re s w (fun d v g1 H1 e1 s1 r1 q1 => ?_) kx
  obtain ⟨i, rfl, q⟩ := asI_of q1
  exact ⟨i, r1, k (some i) g1 H1 e1 s1 q⟩
theorem cut_rep {xs : List D} {vs : List V} (r : RepA K g H xs vs) (lo hi : Option Int) : RepA K g H (cutD xs lo hi) (cutV vs lo hi) := by
  unfold cutD cutV
  rw [r.length]
  exact RepA.take _ (RepA.drop _ r)
theorem cut_whole {α : Type} (xs : List α) {lo hi : Option Int} (h : HT.sIx xs.length 0 lo = 0 ∧ HT.sIx xs.length xs.length hi = xs.length) : (xs.drop (HT.sIx xs.length 0 lo)).take (HT.sIx xs.length xs.length hi - HT.sIx xs.length 0 lo) = xs := by
  rw [h.1, h.2, List.drop_zero, Nat.sub_zero, List.take_length]
theorem se_sl {m : Bool} {a : Expr} {lo hi : Option Expr} {x : IE} {l h0 : IEs} {p2 pos : Pos} (ha : SE c a (wE Φ x)) (hl : SO c lo (wO Φ l)) (hh : SO c hi (wO Φ h0)) : SE c (.Subscript a (.Slice lo hi none p2) pos) (wE Φ (.sl m x l h0)) := by
  obtain ⟨t, ht, hw⟩ := ha
  obtain ⟨u, hu, hw2⟩ := hl
  obtain ⟨v, hv, hw3⟩ := hh
  refine ⟨fun W => tSl (fun x lo hi H Q => rSlA c.K x lo hi H Q ∨ (rSlS x lo hi H Q ∨ rSlL c.K x lo hi H Q)) (t W) (u W) (v W), fun X W h => pe_slice ((by rw [← h.K]; exact sl_tupA : SlR X (rSlA c.K)).or (sl_str.or (by rw [← h.K]; exact sl_list : SlR X (rSlL c.K)))) (ht X W h) (hu X W h) (hv X W h), fun W σ H g env Q Qd Ed re s w k kx => ?_⟩
  refine hw W σ H g env _ _ Ed re s w (fun d v1 g1 H1 e1 s1 r1 q1 => ?_) kx
  refine hw2 W σ H1 g1 env _ _ Ed (re.mono e1) s1 q1 (fun o1 g2 H2 e2 s2 q2 => ?_) (kx.mono e1)
  refine hw3 W σ H2 g2 env _ _ Ed (re.mono (e1.trans e2)) s2 q2 (fun o2 g3 H3 e3 s3 q3 => ?_) (kx.mono (e1.trans e2))
  have k3 := k.mono ((e1.trans e2).trans e3)
  have r3 := Rep.mono (e2.trans e3) _ _ r1
  replace q3 : slW m d o1 o2 g3.μ Qd := q3
  unfold slW at q3
  split at q3
  · obtain ⟨p, vs, rfl, hp, ra⟩ := r3
    refine .inl ⟨p, vs, rfl, hp.sq, fun hw => ?_, fun _ l hl => k3.tup s3 (cut_rep ra o1 o2) q3 hl⟩
    rw [ra.length] at hw
    have e := cut_whole _ hw
    unfold cutD at q3
    rw [e] at q3
    exact k3.here s3 (d := .tup _) ⟨p, vs, rfl, hp, ra⟩ q3
  · obtain ⟨hz, q3⟩ := q3
    obtain ⟨p, vs, rfl, hp, ra⟩ := r3
    refine .inl ⟨p, vs, rfl, hp.sq, fun hw => ?_, fun _ l hl => k3.tup s3 (cut_rep ra o1 o2) q3 hl⟩
    rw [ra.length] at hw
    have e := cut_whole _ hw
    unfold cutD at hz
    rw [e] at hz
    exact absurd hz (Nat.lt_irrefl _)
  · exact .inr (.inl ⟨_, r3, q3.1.line, k3.here s3 (d := .str _) rfl q3.2⟩)
  · obtain ⟨xs, e, q⟩ := onS_of q3
    obtain ⟨p, vs, rfl, hp, ra⟩ := lst_view s3 r3 e
    exact .inr (.inr ⟨p, vs, rfl, .inl (.inl hp), fun l hl => k3.new s3 (cut_rep ra o1 o2) q hl⟩)
theorem se_rev {a : Expr} {x : IE} {kk : Nat} {p1 p2 p3 pos : Pos} (ha : SE c a (wE Φ x)) : SE c (.Subscript a (.Slice none none (some (.UnaryOp .USub (.Constant (.int 1) kk p1) p2)) p3) pos) (wE Φ (.rev x)) := by
  obtain ⟨t, ht, hw⟩ := ha
  refine ⟨fun W => tRevL c.K (t W), fun X W h => by rw [← h.K]; exact pe_revL (ht X W h), fun W σ H g env Q Qd Ed re s w k kx => ?_⟩
  refine hw W σ H g env _ _ Ed re s w (fun d v1 g1 H1 e1 s1 r1 q1 => ?_) kx
  obtain ⟨xs, e, q⟩ := onS_of q1
  obtain ⟨p, vs, rfl, hp, ra⟩ := lst_view s1 r1 e
  exact ⟨p, vs, rfl, .inl (.inl hp), fun l hl => (k.mono e1).new s1 ra.reverse (m := false) q hl⟩
/-! ### stores -/
def SetD (c : Cn) (t : TSet) : Prop := ∀ (H : Hp) (g : Gs) (o i d : D) (x y v : V) (Q : Hp → Prop) (Qd : Mu → Prop), StOk c.K g H → Rep c.K g H o x → Rep c.K g H i y → Rep c.K g H d v → setW o i d g.μ Qd →
  (∀ g' H', Ext g H g' H' → StOk c.K g' H' → Qd g'.μ → Q H') → t x y v H Q
def rSetAll : TSet := fun o i v H Q => rSetL o i v H Q ∨ (∃ a H', o = .ref a ∧ DPut H a i v H' ∧ Q H')
theorem PSet.or {X : Cx} {t u : TSet} (h : PSet X t) (k : PSet X u) : PSet X (fun o i v H Q => t o i v H Q ∨ u o i v H Q) := by
  intro pins s σ H o i v ov iv u Q I ro ri rv q
  rcases q with q | q
  · exact h pins s σ H o i v ov iv u Q I ro ri rv q
  · exact k pins s σ H o i v ov iv u Q I ro ri rv q
theorem set_dict {X : Cx} {n : Nat} (hr : Room n X.A) : PSet X (fun o i v H Q => ∃ a H', o = .ref a ∧ DPut H a i v H' ∧ Q H') := by
  intro pins s σ H o i v ov iv u Q I ro ri rv h
  obtain ⟨a, H', rfl, p, q⟩ := h
  obtain rfl : ov = Value.ref a := ro
  exact d_setItem (hu_of hr) I p ri rv fun s4 I4 => ⟨H', I4, q⟩
theorem set_all {X : Cx} {n : Nat} (hr : Room n X.A) : PSet X rSetAll := FW.PSet.or set_list (set_dict hr)
theorem set_snd : SetD c rSetAll := by
  intro H g o i d x y v Q Qd s ro ri rd w k
  unfold setW at w
  split at w
  · split at w
    · rename_i e0
      obtain ⟨vs, h1, r1⟩ := s.ob _ _ e0
      obtain ⟨j, rfl, w⟩ := asI_of w
      obtain ⟨q, e, w⟩ := onS_of w
      refine .inl ⟨_, vs, j, q, ro.2, ri, h1, by rw [r1.length]; exact e, ?_⟩
      exact k (g.put _ (.lst _)) _ (Ext.put s e0) (s.put (o := .lst _) e0 ⟨_, rfl, r1.set q rd⟩) w
    · rename_i e0
      obtain ⟨vs, h1, hl, r1⟩ := s.ob _ _ e0
      split at w
      · rename_i cc
        obtain ⟨ws, e1, r2, hl2⟩ := zK_put (x := cc) rd hl r1
        refine .inr ⟨_, _, ro.2, .inl ⟨_, _, h1, rep_str ri, ?_, rfl⟩, ?_⟩
        · rw [zK_len (by rw [r1.length]; exact hl)]; exact w.1.lt
        · rw [e1]
          exact k (g.put _ (.dk _ _)) _ (Ext.put s e0) (s.put (o := .dk _ _) e0 ⟨ws, rfl, hl2, r2⟩) w.2
      · exact w.elim
    · rename_i e0
      obtain ⟨vs, h1, hl, r1⟩ := s.ob _ _ e0
      split at w
      · rename_i p q
        obtain ⟨ws, e1, r2, hl2⟩ := zT_put (x := [p, q]) rd hl r1
        obtain ⟨t, rfl, ht⟩ := pair_view ri
        refine .inr ⟨_, _, ro.2, .inr ⟨_, [p, q].map Sum.inr, t, h1, rfl, (by rw [ht]; rfl), ?_, rfl⟩, ?_⟩
        · rw [zT_len (by rw [r1.length]; exact hl)]; exact w.1.lt
        · rw [e1]
          exact k (g.put _ (.dt _ _)) _ (Ext.put s e0) (s.put (o := .dt _ _) e0 ⟨ws, rfl, hl2, r2⟩) w.2
      · exact w.elim
    · exact w.elim
  · exact w.elim
/-! ### methods -/
def MD (c : Cn) (id : String) (w : D → List D → Mu → QD → Prop) : Prop := ∃ r : V → List V → Hp → VK → Prop, (∀ X W, CxIn c X W → MtR X id r) ∧
  ∀ (H : Hp) (g : Gs) (x : V) (xs : List V) (d : D) (ds : List D) (Q : VK) (Qd : QD), StOk c.K g H → Rep c.K g H d x → RepA c.K g H ds xs → w d ds g.μ Qd → OC c g H Qd Q → r x xs H Q
theorem cellL_of {μ : Mu} {o : D} {k : Nat → List D → Prop} (h : cellL μ o k) : ∃ n xs, o = .cel n ∧ μ[n]? = some (some (.lst xs)) ∧ k n xs := by
  unfold cellL at h
  split at h
  · split at h
    · rename_i e; exact ⟨_, _, rfl, e, h⟩
    · exact h.elim
  · exact h.elim
theorem cellK_of {μ : Mu} {o : D} {k : Nat → List Str → List D → Prop} (h : cellK μ o k) : ∃ n ks xs, o = .cel n ∧ μ[n]? = some (some (.dk ks xs)) ∧ k n ks xs := by
  unfold cellK at h
  split at h
  · split at h
    · rename_i e; exact ⟨_, _, _, rfl, e, h⟩
    · exact h.elim
  · exact h.elim
theorem rep1 {d : D} {vs : List V} (r : RepA K g H [d] vs) : ∃ v, vs = [v] ∧ Rep K g H d v := by
  obtain ⟨v, r, rfl, h, h2⟩ := r
  cases h2
  exact ⟨v, rfl, h⟩
theorem rep2 {d e : D} {vs : List V} (r : RepA K g H [d, e] vs) : ∃ v w, vs = [v, w] ∧ Rep K g H d v ∧ Rep K g H e w := by
  obtain ⟨v, r, rfl, h, h2⟩ := r
  obtain ⟨w, rfl, h3⟩ := rep1 h2
  exact ⟨v, w, rfl, h, h3⟩
theorem ty_list {b : Mt} {x : V} {d : D} (s : StOk c.K g H) (r : Rep c.K g H d x) (h : onS (lstOf g.μ d) fun _ => True) : tyV c.K "list" x H := by
  obtain ⟨xs, e, _⟩ := onS_of h
  obtain ⟨p, vs, rfl, hp, ra⟩ := lst_view s r e
  exact .inl ⟨rfl, vs, .inl (.inl hp)⟩
theorem ty_dict {x : V} {d : D} (s : StOk c.K g H) (r : Rep c.K g H d x) (h : cellK g.μ d fun _ _ _ => True) : tyV c.K "dict" x H := by
  obtain ⟨n, ks, xs, rfl, e, _⟩ := cellK_of h
  obtain ⟨vs, h1, _⟩ := s.ob _ _ e
  rw [r.2]
  exact .inr (.inr (.inl ⟨rfl, .inl ⟨_, h1⟩⟩))
theorem se_me {T id : String} {name : Str} {b : Mt} {o e : Expr} {es : List Expr} {x : IE} {as : IEs} {apos cpos : Pos} (pa : PlainAttrs T) (slot : Slot T name id) (hty : typeOf (.builtin id) = pure (.type "method_descriptor"))
    (hm : MD c id (meW b)) (ht0 : ∀ H g (d : D) (v : V), StOk c.K g H → Rep c.K g H d v → meTy b d g.μ → tyV c.K T v H) (ho : SE c o (wE Φ x)) (ha : SA c (e :: es) (wEs Φ as))
    (hbase : ∀ env, attributeBase o name env (eval o env) = eval o env)
    (hfew : ∀ env, ((backTo cpos (starEach (e :: es) env)).all (fun x => !x.1) && (backToKw cpos (keywordEach [] env)).all (fun x => x.1.isSome)
      && decide ((e :: es).length + ([] : List Keyword).length + (if ([] : List Keyword).isEmpty then 0 else 1) < 30)) = true)
    (hline : (apos.endLine == cpos.line) = true) (hs : ∀ env, starEach (e :: es) env = (false, eval e env) :: starEach es env) (hplain : ∀ env, (backTo cpos (starEach es env)).any (·.1) = false) : SE c (.Call (.Attribute o name apos) (e :: es) [] cpos) (wE Φ (.me b x as)) := by
  obtain ⟨r, hr, hrw⟩ := hm
  obtain ⟨t, ht, hw⟩ := ho
  obtain ⟨u, hu, hw2⟩ := ha
  refine ⟨fun W => tBM c.K T r (t W) (u W), fun X W h => by rw [← h.K]; exact pe_bm pa slot hty (hr X W h) (ht X W h) (hu X W h) (hbase _) (hfew _) hline (hs _) (hplain _), fun W σ H g env Q Qd Ed re s w k kx => ?_⟩
  refine hw W σ H g env _ _ Ed re s w (fun d v g1 H1 e1 s1 r1 q1 => ⟨ht0 H1 g1 d v s1 r1 q1.1, ?_⟩) kx
  refine hw2 W σ H1 g1 env _ _ Ed (re.mono e1) s1 q1.2 (fun ds vs g2 H2 l2 e2 s2 r2 q2 => ?_) (kx.mono e1)
  exact hrw H2 g2 v vs d ds Q Qd s2 (Rep.mono e2 _ _ r1) r2 q2 (k.mono (e1.trans e2))
theorem se_me0 {T id : String} {name : Str} {b : Mt} {o : Expr} {x : IE} {apos cpos : Pos} (pa : PlainAttrs T) (slot : Slot T name id) (hty : typeOf (.builtin id) = pure (.type "method_descriptor"))
    (hm : MD c id (meW b)) (ht0 : ∀ H g (d : D) (v : V), StOk c.K g H → Rep c.K g H d v → meTy b d g.μ → tyV c.K T v H) (ho : SE c o (wE Φ x))
    (hbase : ∀ env, attributeBase o name env (eval o env) = eval o env) (hline : (apos.endLine == cpos.line) = true) : SE c (.Call (.Attribute o name apos) [] [] cpos) (wE Φ (.me b x .nil)) := by
  obtain ⟨r, hr, hrw⟩ := hm
  obtain ⟨t, ht, hw⟩ := ho
  refine ⟨fun W => tBM0 c.K T r (t W), fun X W h => by rw [← h.K]; exact pe_bm0 pa slot hty (hr X W h) (ht X W h) (hbase _) hline, fun W σ H g env Q Qd Ed re s w k kx => ?_⟩
  refine hw W σ H g env _ _ Ed re s w (fun d v g1 H1 e1 s1 r1 q1 => ⟨ht0 H1 g1 d v s1 r1 q1.1, ?_⟩) kx
  exact hrw H1 g1 v [] d [] Q Qd s1 r1 rfl q1.2 (k.mono e1)
theorem OC.put {g : Gs} {H : Hp} {Qd : QD} {Q : VK} (k : OC c g H Qd Q) (s : StOk c.K g H) {n : Nat} {xs ys : List D} {vs : List V} {d : D} {v : V} (h : g.μ[n]? = some (some (.lst xs))) (r : RepA c.K g H ys vs) (rd : Rep c.K g H d v) (q : Qd d (g.μ.set n (some (.lst ys)))) : Q v (upd H (g.ρ n) (.lst vs)) :=
  k d v (g.put n (.lst ys)) _ (Ext.put s h) (s.put (o := .lst _) h ⟨vs, rfl, r⟩) (Rep.mono (Ext.put s h) _ _ rd) q
theorem md_append : MD c "list.append" (meW .append) := by
  refine ⟨rAppend, fun X W h => mt_append, fun H g x xs d ds Q Qd s rx rs w k => ?_⟩
  match ds, w with
  | [e], w =>
    obtain ⟨n, ys, rfl, e0, hz, w⟩ := cellL_of (show cellL g.μ d fun n ys => Sz (ys.length + 1) ∧ Qd .non (g.μ.set n (some (.lst (ys ++ [e])))) from w)
    obtain ⟨v, rfl, rv⟩ := rep1 rs
    obtain ⟨vs, h1, ra⟩ := s.ob _ _ e0
    exact ⟨_, vs, v, rx.2, rfl, h1, by rw [ra.length]; exact hz.lt, k.put s e0 (ra.append (.single rv)) (d := .non) rfl w⟩
  | [], w => exact w.elim
  | _ :: _ :: _, w => exact w.elim
theorem md_extend : MD c "list.extend" (meW .extend) := by
  refine ⟨rExtend, fun X W h => mt_extend, fun H g x xs d ds Q Qd s rx rs w k => ?_⟩
  match ds, w with
  | [e], w =>
    obtain ⟨n, ys, rfl, e0, w⟩ := cellL_of (show cellL g.μ d fun n ys => onS (lstOf g.μ e) fun zs => Sz (ys.length + zs.length) ∧ Qd .non (g.μ.set n (some (.lst (ys ++ zs)))) from w)
    obtain ⟨zs, e1, hz, w⟩ := onS_of w
    obtain ⟨v, rfl, rv⟩ := rep1 rs
    obtain ⟨vs, h1, ra⟩ := s.ob _ _ e0
    obtain ⟨p, ws, rfl, hp, rb⟩ := lst_view s rv e1
    exact ⟨_, p, vs, ws, rx.2, rfl, h1, hp, by rw [ra.length, rb.length]; exact hz.line, k.put s e0 (ra.append rb) (d := .non) rfl w⟩
  | [], w => exact w.elim
  | _ :: _ :: _, w => exact w.elim
theorem md_insert : MD c "list.insert" (meW .insert) := by
  refine ⟨_, fun X W h => mt_insert, fun H g x xs d ds Q Qd s rx rs w k => ?_⟩
  match ds, w with
  | [i, e], w =>
    obtain ⟨n, ys, rfl, e0, w⟩ := cellL_of (show cellL g.μ d fun n ys => asI i fun i => (0 ≤ i ∧ i ≤ ys.length ∧ Sz (ys.length + 1)) ∧ Qd .non (g.μ.set n (some (.lst (ys.take i.toNat ++ e :: ys.drop i.toNat)))) from w)
    obtain ⟨i, rfl, ⟨h1, h2, h3⟩, w⟩ := asI_of w
    obtain ⟨v, u, rfl, rv, ru⟩ := rep2 rs
    obtain ⟨vs, h4, ra⟩ := s.ob _ _ e0
    have h3' : ys.length + 1 ≤ 100000 := h3
    refine ⟨_, vs, i, u, rx.2, by rw [rv.int_of], h4, by rw [ra.length]; exact h3.lt, h1, by omega, ?_⟩
    refine k.put s e0 (ys := ys.take i.toNat ++ e :: ys.drop i.toNat) ?_ (d := .non) rfl w
    have := ((RepA.take i.toNat ra).append (.single ru)).append (RepA.drop i.toNat ra)
    simpa using this
  | [], w => exact w.elim
  | [_], w => exact w.elim
  | _ :: _ :: _ :: _, w => exact w.elim
theorem md_pop : MD c "list.pop" (meW .pop) := by
  refine ⟨rPop, fun X W h => mt_pop, fun H g x xs d ds Q Qd s rx rs w k => ?_⟩
  match ds, w with
  | [], w =>
    obtain ⟨n, ys, rfl, e0, w⟩ := cellL_of (show cellL g.μ d fun n ys => onS ys.getLast? fun d => Qd d (g.μ.set n (some (.lst ys.dropLast))) from w)
    obtain ⟨e, e1, w⟩ := onS_of w
    obtain ⟨vs, h1, ra⟩ := s.ob _ _ e0
    cases rs
    rw [List.getLast?_eq_getElem?] at e1
    obtain ⟨v, e2, rv⟩ := ra.get e1
    refine ⟨_, vs, v, rx.2, rfl, h1, by rw [ra.length]; exact e2, k.put s e0 ?_ rv w⟩
    rw [List.dropLast_eq_take, List.dropLast_eq_take, ra.length]
    exact RepA.take _ ra
  | _ :: _, w => exact w.elim
theorem RepA.eraseIdx : ∀ {ds : List D} {vs : List V} (i : Nat), RepA K g H ds vs → RepA K g H (ds.eraseIdx i) (vs.eraseIdx i)
  | [], _, _, h => by cases h; rfl
  | d :: ds, _, 0, ⟨v, r, h1, h2, h3⟩ => by subst h1; exact h3
  | d :: ds, _, i + 1, ⟨v, r, h1, h2, h3⟩ => by subst h1; exact ⟨v, _, rfl, h2, RepA.eraseIdx i h3⟩
theorem md_popi : MD c "list.pop" (meW .popi) := by
  refine ⟨rPopAt, fun X W h => mt_popAt, fun H g x xs d ds Q Qd s rx rs w k => ?_⟩
  match ds, w with
  | [i], w =>
    obtain ⟨n, ys, rfl, e0, w⟩ := cellL_of (show cellL g.μ d fun n ys => asI i fun i => Sz ys.length ∧ onS (if 0 ≤ i then ys[i.toNat]? else none) fun d => Qd d (g.μ.set n (some (.lst (ys.eraseIdx i.toNat)))) from w)
    obtain ⟨i, rfl, hz, w⟩ := asI_of w
    obtain ⟨e, e1, w⟩ := onS_of w
    by_cases hi : 0 ≤ i
    · rw [if_pos hi] at e1
      obtain ⟨vs, h1, ra⟩ := s.ob _ _ e0
      obtain ⟨v, rfl, rv⟩ := rep1 rs
      obtain ⟨u, e2, ru⟩ := ra.get e1
      obtain ⟨hl, _⟩ := List.getElem?_eq_some_iff.mp e2
      have hz : ys.length ≤ 100000 := hz
      rw [ra.length] at hl
      exact ⟨_, vs, i, i.toNat, u, rx.2, by rw [rv.int_of], h1, by omega, by omega, by rw [ra.length, seqIndex_of hi (by omega)], e2, k.put s e0 (ra.eraseIdx _) ru w⟩
    · rw [if_neg hi] at e1
      cases e1
  | [], w => exact w.elim
  | _ :: _ :: _, w => exact w.elim
theorem asS_of {d : D} {k : Str → Prop} (h : asS d k) : ∃ b, d = .str b ∧ k b := by
  cases d with
  | str b => exact ⟨b, rfl, h⟩
  | _ => exact h.elim
theorem allStr_map : ∀ {ys : List D} {ss : List Str}, allStr ys = some ss → ys = ss.map .str
  | [], _, h => by cases h; rfl
  | .str x :: r, ss, h => by
    have h : (allStr r).map (x :: ·) = some ss := h
    obtain ⟨t, e, rfl⟩ := Option.map_eq_some_iff.mp h
    rw [allStr_map e]
    rfl
  | .non :: _, _, h => by cases h
  | .bl _ :: _, _, h => by cases h
  | .int _ :: _, _, h => by cases h
  | .tup _ :: _, _, h => by cases h
  | .lst _ :: _, _, h => by cases h
  | .rol _ :: _, _, h => by cases h
  | .ptp _ :: _, _, h => by cases h
  | .dct _ _ :: _, _, h => by cases h
  | .cel _ :: _, _, h => by cases h
theorem RepA.strs : ∀ {ss : List Str} {vs : List V}, RepA K g H (ss.map .str) vs → vs = ss.map .str
  | [], _, h => by cases h; rfl
  | x :: r, _, ⟨v, t, h1, h2, h3⟩ => by
    cases h2
    rw [h1, RepA.strs h3]
    rfl
theorem md_index : MD c "list.index" (meW .index) := by
  refine ⟨rIndex c.K, fun X W h => by rw [← h.K]; exact mt_index, fun H g x xs d ds Q Qd s rx rs w k => ?_⟩
  match ds, w with
  | [e], w =>
    obtain ⟨ys, e0, w⟩ := onS_of (show onS (lstOf g.μ d) fun ys => onS (allStr ys) fun ss => asS e fun x => onS (ss.findIdx? fun z => decide (z = x)) fun j => Qd (.int j) g.μ from w)
    obtain ⟨ss, e1, w⟩ := onS_of w
    obtain ⟨z, rfl, w⟩ := asS_of w
    obtain ⟨j, e2, w9⟩ := onS_of w
    have := allStr_map e1
    subst this
    obtain ⟨p, vs, rfl, hp, ra⟩ := lst_view s rx e0
    have := ra.strs
    subst this
    obtain ⟨v, rfl, rv⟩ := rep1 rs
    cases rv
    obtain ⟨hj, h1, h2⟩ := List.findIdx?_eq_some_iff_getElem.mp e2
    refine ⟨p, _, .str z, j, .str ss[j], rfl, rfl, .inl (.inl hp), rfl, ?_, ?_, ?_, fun m z' hm hz => ?_, k.here s (d := .int j) rfl w9⟩
    · rw [List.all_map]; exact List.all_eq_true.mpr fun _ _ => rfl
    · rw [List.getElem?_map, List.getElem?_eq_getElem hj]; rfl
    · show (ss[j] == z) = true
      rw [of_decide_eq_true h1]
      exact beq_self_eq_true z
    · have hm' : m < ss.length := Nat.lt_trans hm hj
      rw [List.getElem?_map, List.getElem?_eq_getElem hm'] at hz
      cases hz
      show (ss[m] == z) = false
      have := h2 m hm
      exact beq_eq_false_iff_ne.mpr fun q => this (decide_eq_true q)
  | [], w => exact w.elim
  | _ :: _ :: _, w => exact w.elim
end
end FW

set_option Elab.async false
set_option linter.all false
set_option maxRecDepth 100000
/-! DL7: built-ins over data. -/
namespace FW
open PySem PySem.Spec PyProof.Rows L2
section
variable {c : Cn} {Φ : Str → FS} {K : PySem.W.Frag} {g : Gs} {H : Hp}
def rLenAll (K : PySem.W.Frag) : List V → Hp → VK → Prop := fun xs H Q => (∃ p ys, xs = [.ref p] ∧ (SqL K H p ys ∨ SqT K H p ys) ∧ Q (.int ys.length) H) ∨ ((∃ z, xs = [.str z] ∧ z.length ≤ sizeLine ∧ Q (.int z.length) H) ∨ ((∃ p kvs, xs = [V.ref p] ∧ Rd H p (.dK kvs) ∧ Q (.int kvs.length) H) ∨ rLenT xs H Q))
theorem rLenAll_ok {X : Cx} : CallR X (.builtin "len") (rLenAll X.K) := by
  refine call_len_seq.or (call_len_str.or (L2.CallR.or ?_ call_len_dT))
  intro pins s σ H xs us Q I r h
  obtain ⟨p, kvs, rfl, hd, q⟩ := h
  obtain ⟨u, rfl, rx⟩ := vals1 r
  cases rx
  exact d_len I hd fun t s' I' => ⟨.int _, H, I', ⟨t, rfl⟩, q⟩
theorem cd_len (m : Bool) : CD c (.builtin "len") (biW .len m) := by
  refine ⟨rLenAll c.K, fun X W h => by rw [← h.K]; exact rLenAll_ok, fun H g xs ds Q Qd s r w k => ?_⟩
  match ds, w with
  | [d], w =>
    obtain ⟨n, e, w⟩ := onS_of (show onS (lenD g.μ d) fun n => Qd (.int n) g.μ from w)
    obtain ⟨v, rfl, rv⟩ := rep1 r
    have seq : ∀ ys, seqOf g.μ d = some ys → n = ys.length → (∃ p ys, [v] = [V.ref p] ∧ (SqL c.K H p ys ∨ SqT c.K H p ys) ∧ Q (.int ys.length) H) := fun ys e1 e2 => by
      obtain ⟨p, vs, rfl, hp, ra⟩ := seq_view s rv e1
      subst e2
      exact ⟨p, vs, rfl, hp, by rw [ra.length]; exact k.here s (d := .int _) rfl w⟩
    cases d with
    | tup ys => cases e; exact .inl (seq ys rfl rfl)
    | lst ys => cases e; exact .inl (seq ys rfl rfl)
    | rol ys => cases e; exact .inl (seq ys rfl rfl)
    | ptp ys => cases e; exact .inl (seq ys rfl rfl)
    | str z =>
      replace e : (if z.length ≤ 100000 then some z.length else none) = some n := e
      by_cases hz : z.length ≤ 100000
      · rw [if_pos hz] at e
        cases e
        exact .inr (.inl ⟨z, by rw [rv.str_of], Sz.line hz, k.here s (d := .int _) rfl w⟩)
      · rw [if_neg hz] at e; cases e
    | dct ks ds =>
      cases e
      obtain ⟨p, vs, rfl, hp, hl, ra⟩ := rv
      exact .inr (.inr (.inl ⟨p, _, rfl, hp.1, by rw [zK_len (by rw [ra.length]; exact hl)]; exact k.here s (d := .int _) rfl w⟩))
    | cel j =>
      have e' : (match g.μ[j]? with
        | some (some (.lst xs)) => some xs.length
        | some (some (.dk ks _)) => some ks.length
        | some (some (.dt ks _)) => some ks.length
        | _ => none) = some n := e
      split at e'
      · rename_i ys e0
        cases e'
        refine .inl (seq ys ?_ rfl)
        show (match g.μ[j]? with
          | some (some (.lst xs)) => some xs
          | _ => none) = some ys
        rw [e0]
      · rename_i ks ds e0
        cases e'
        obtain ⟨vs, h1, hl, ra⟩ := s.ob _ _ e0
        exact .inr (.inr (.inl ⟨_, _, by rw [rv.2], .inl h1, by rw [zK_len (by rw [ra.length]; exact hl)]; exact k.here s (d := .int _) rfl w⟩))
      · rename_i ks ds e0
        cases e'
        obtain ⟨vs, h1, hl, ra⟩ := s.ob _ _ e0
        exact .inr (.inr (.inr ⟨_, _, by rw [rv.2], h1, by rw [zT_len (by rw [ra.length]; exact hl)]; exact k.here s (d := .int _) rfl w⟩))
      · cases e'
    | _ => cases e
  | [], w => exact w.elim
  | _ :: _ :: _, w => exact w.elim
theorem allB_map : ∀ {ys : List D} {bs : List Bool}, allB ys = some bs → ys = bs.map .bl
  | [], _, h => by cases h; rfl
  | .bl x :: r, ss, h => by
    have h : (allB r).map (x :: ·) = some ss := h
    obtain ⟨t, e, rfl⟩ := Option.map_eq_some_iff.mp h
    rw [allB_map e]
    rfl
  | .non :: _, _, h => by cases h
  | .str _ :: _, _, h => by cases h
  | .int _ :: _, _, h => by cases h
  | .tup _ :: _, _, h => by cases h
  | .lst _ :: _, _, h => by cases h
  | .rol _ :: _, _, h => by cases h
  | .ptp _ :: _, _, h => by cases h
  | .dct _ _ :: _, _, h => by cases h
  | .cel _ :: _, _, h => by cases h
theorem RepA.bls : ∀ {ss : List Bool} {vs : List V}, RepA K g H (ss.map .bl) vs → vs = ss.map .bl
  | [], _, h => by cases h; rfl
  | x :: r, _, ⟨v, t, h1, h2, h3⟩ => by
    cases h2
    rw [h1, RepA.bls h3]
    rfl
theorem allI_map : ∀ {ys : List D} {bs : List Int}, allI ys = some bs → ys = bs.map .int
  | [], _, h => by cases h; rfl
  | .int x :: r, ss, h => by
    have h : (allI r).map (x :: ·) = some ss := h
    obtain ⟨t, e, rfl⟩ := Option.map_eq_some_iff.mp h
    rw [allI_map e]
    rfl
  | .non :: _, _, h => by cases h
  | .str _ :: _, _, h => by cases h
  | .bl _ :: _, _, h => by cases h
  | .tup _ :: _, _, h => by cases h
  | .lst _ :: _, _, h => by cases h
  | .rol _ :: _, _, h => by cases h
  | .ptp _ :: _, _, h => by cases h
  | .dct _ _ :: _, _, h => by cases h
  | .cel _ :: _, _, h => by cases h
theorem RepA.ints : ∀ {ss : List Int} {vs : List V}, RepA K g H (ss.map .int) vs → vs = ss.map .int
  | [], _, h => by cases h; rfl
  | x :: r, _, ⟨v, t, h1, h2, h3⟩ => by
    cases h2
    rw [h1, RepA.ints h3]
    rfl
theorem cd_all (m : Bool) : CD c (.builtin "all") (biW .all m) := by
  refine ⟨rAll c.K, fun X W h => by rw [← h.K]; exact cr_all h.calm, fun H g xs ds Q Qd s r w k => ?_⟩
  match ds, w with
  | [d], w =>
    obtain ⟨ys, e, w1⟩ := onS_of (show onS (lstOf g.μ d) fun ys => onS (allB ys) fun bs => Qd (.bl (bs.all id)) g.μ from w)
    obtain ⟨bs, e1, w2⟩ := onS_of w1
    obtain ⟨v, rfl, rv⟩ := rep1 r
    obtain ⟨p, vs, rfl, hp, ra⟩ := lst_view s rv e
    rw [allB_map e1] at ra
    rw [ra.bls] at hp
    exact ⟨p, bs, rfl, .inl (.inl hp), k.here s (d := .bl _) rfl w2⟩
  | [], w => exact w.elim
  | _ :: _ :: _, w => exact w.elim
theorem cd_any (m : Bool) : CD c (.builtin "any") (biW .any m) := by
  refine ⟨rAny c.K, fun X W h => by rw [← h.K]; exact cr_any h.calm, fun H g xs ds Q Qd s r w k => ?_⟩
  match ds, w with
  | [d], w =>
    obtain ⟨ys, e, w1⟩ := onS_of (show onS (lstOf g.μ d) fun ys => onS (allB ys) fun bs => Qd (.bl (bs.any id)) g.μ from w)
    obtain ⟨bs, e1, w2⟩ := onS_of w1
    obtain ⟨v, rfl, rv⟩ := rep1 r
    obtain ⟨p, vs, rfl, hp, ra⟩ := lst_view s rv e
    rw [allB_map e1] at ra
    rw [ra.bls] at hp
    exact ⟨p, bs, rfl, .inl (.inl hp), k.here s (d := .bl _) rfl w2⟩
  | [], w => exact w.elim
  | _ :: _ :: _, w => exact w.elim
theorem cd_sum (m : Bool) : CD c (.builtin "sum") (biW .sum m) := by
  refine ⟨rSum c.K, fun X W h => by rw [← h.K]; exact cr_sum h.calm, fun H g xs ds Q Qd s r w k => ?_⟩
  match ds, w with
  | [d], w =>
    obtain ⟨ys, e, w1⟩ := onS_of (show onS (lstOf g.μ d) fun ys => onS (allI ys) fun bs => Qd (.int bs.sum) g.μ from w)
    obtain ⟨bs, e1, w2⟩ := onS_of w1
    obtain ⟨v, rfl, rv⟩ := rep1 r
    obtain ⟨p, vs, rfl, hp, ra⟩ := lst_view s rv e
    rw [allI_map e1] at ra
    rw [ra.ints] at hp
    exact ⟨p, bs, rfl, .inl (.inl hp), k.here s (d := .int _) rfl w2⟩
  | [], w => exact w.elim
  | _ :: _ :: _, w => exact w.elim
theorem cd_abs (m : Bool) : CD c (.builtin "abs") (biW .abs m) := by
  refine ⟨_, fun X W h => call_abs, fun H g xs ds Q Qd s r w k => ?_⟩
  match ds, w with
  | [d], w =>
    obtain ⟨i, rfl, w1⟩ := asI_of (show asI d fun i => Qd (.int (if i < 0 then -i else i)) g.μ from w)
    obtain ⟨v, rfl, rv⟩ := rep1 r
    exact ⟨i, by rw [rv.int_of], k.here s (d := .int _) rfl w1⟩
  | [], w => exact w.elim
  | _ :: _ :: _, w => exact w.elim
theorem cd_int (m : Bool) : CD c (.type "int") (biW .int m) := by
  refine ⟨_, fun X W h => call_int1, fun H g xs ds Q Qd s r w k => ?_⟩
  match ds, w with
  | [d], w =>
    replace w : intW d g.μ Qd := w
    obtain ⟨v, rfl, rv⟩ := rep1 r
    unfold intW at w
    split at w
    · exact .inl ⟨_, by rw [rv.int_of], k.here s (d := .int _) rfl w⟩
    · exact .inr ⟨_, by rw [show v = V.bl _ from rv], k.here s (d := .int _) rfl w⟩
    · exact w.elim
  | [], w => exact w.elim
  | _ :: _ :: _, w => exact w.elim
theorem cd_list (m : Bool) : CD c (.type "list") (biW .list m) := by
  refine ⟨fun xs H Q => ∃ p ys, xs = [.ref p] ∧ (SqL c.K H p ys ∨ SqT c.K H p ys) ∧ ∀ l, H l = none → Q (.ref l) (upd H l (.lst ys)), fun X W h => by rw [← h.K]; exact call_list_of, fun H g xs ds Q Qd s r w k => ?_⟩
  match ds, w with
  | [d], w =>
    obtain ⟨ys, e, w1⟩ := onS_of (show onS (seqOf g.μ d) fun ys => newL m ys g.μ Qd from w)
    obtain ⟨v, rfl, rv⟩ := rep1 r
    obtain ⟨p, vs, rfl, hp, ra⟩ := seq_view s rv e
    exact ⟨p, vs, rfl, hp, fun l hl => k.new s ra w1 hl⟩
  | [], w => exact w.elim
  | _ :: _ :: _, w => exact w.elim
/-- tuple(xs) of a list: one that is known to be plain -/
def rTupP (K : PySem.W.Frag) : List V → Hp → VK → Prop := fun xs H Q => ∃ p ys, xs = [.ref p] ∧ SqL K H p ys ∧ ∀ l ob, H l = none → ob.dict = none → Q (.ref l) (upd H l (.frz ob (.tup ys)))
theorem call_tupP {X : Cx} : CallR X (.type "tuple") (rTupP X.K) := by
  intro pins s σ H xs us Q I r h
  obtain ⟨p, ys, rfl, hp, q⟩ := h
  obtain ⟨u, rfl, rx⟩ := vals1 r
  cases rx
  obtain ⟨its, r', pl, hz⟩ := I.list hp
  have hlen := r'.length
  refine call_tuple_list pl.isList (fun h' kp => ?_) (by simp only [List.size_toArray] <;> omega)
  have I1 : Inv X pins σ H { s with heap := h' } := I.kept (t' := s.toks) kp
  have I2 : Inv X pins σ (upd H h'.objs.size (.frz { cls := .type "tuple", data := .seq its.toArray } (.tup ys))) { s with heap := h'.push { cls := .type "tuple", data := .seq its.toArray } } :=
    I1.laid (t' := s.toks) (fun b o e => Heap.get?_push_of_some _ e) (Nat.le_refl _) (show ObjOk X.prog X.w _ _ _ (.frz _ (.tup ys)) from ⟨Heap.get?_push_size _ rfl, hz, its, r', IsTup.new _ _⟩)
  exact ⟨.ref h'.objs.size, _, I2, rfl, q _ _ (I1.hok.fresh (Nat.le_refl _)) rfl⟩
theorem cd_tuple (m : Bool) : CD c (.type "tuple") (biW .tuple m) := by
  refine ⟨fun xs H Q => (∃ p ys, xs = [.ref p] ∧ ((SqL c.K H p ys ∧ ∀ l, H l = none → Q (.ref l) (upd H l (.tup ys))) ∨ (SqT c.K H p ys ∧ Q (.ref p) H))) ∨ rTupP c.K xs H Q, fun X W h => by rw [← h.K]; exact call_tuple_of.or call_tupP, fun H g xs ds Q Qd s r w k => ?_⟩
  match ds, w with
  | [d], w =>
    obtain ⟨v, rfl, rv⟩ := rep1 r
    cases m with
    | true =>
      obtain ⟨ys, e, w1⟩ := onS_of (show onS (lstOf g.μ d) fun ys => Qd (.ptp ys) g.μ from w)
      obtain ⟨p, vs, rfl, hp, ra⟩ := lst_view s rv e
      exact .inr ⟨p, vs, rfl, .inl (.inl hp), fun l ob hl hd => k (.ptp ys) _ g _ (Ext.frozen hl) (s.frozen hl) ⟨l, vs, rfl, ⟨⟨ob, upd_same, hd⟩, s.notLive hl⟩, RepA.mono (Ext.frozen hl) _ _ ra⟩ w1⟩
    | false =>
      refine .inl ?_
      cases d with
      | ptp zs =>
        obtain ⟨p, vs, rfl, hp, ra⟩ := rv
        exact ⟨p, vs, rfl, .inr ⟨hp.sq, k.here s (d := .ptp _) ⟨p, vs, rfl, hp, ra⟩ w⟩⟩
      | tup zs =>
        obtain ⟨ys, e, w1⟩ := onS_of (show onS (some zs) fun ys => Qd (.tup ys) g.μ from w)
        cases e
        obtain ⟨p, vs, rfl, hp, ra⟩ := rv
        exact ⟨p, vs, rfl, .inr ⟨hp.sq, k.here s (d := .tup _) ⟨p, vs, rfl, hp, ra⟩ w1⟩⟩
      | lst zs =>
        obtain ⟨ys, e, w1⟩ := onS_of (show onS (some zs) fun ys => Qd (.tup ys) g.μ from w)
        cases e
        obtain ⟨p, vs, rfl, hp, ra⟩ := rv
        exact ⟨p, vs, rfl, .inl ⟨hp.sq, fun l hl => k.tup s ra w1 hl⟩⟩
      | rol zs =>
        obtain ⟨ys, e, w1⟩ := onS_of (show onS (some zs) fun ys => Qd (.tup ys) g.μ from w)
        cases e
        obtain ⟨p, vs, rfl, hp, ra⟩ := rv
        exact ⟨p, vs, rfl, .inl ⟨hp.sq, fun l hl => k.tup s ra w1 hl⟩⟩
      | cel j =>
        obtain ⟨ys, e, w1⟩ := onS_of (show onS (lstOf g.μ (.cel j)) fun ys => Qd (.tup ys) g.μ from w)
        obtain ⟨p, vs, rfl, hp, ra⟩ := lst_view s rv e
        exact ⟨p, vs, rfl, .inl ⟨.inl (.inl hp), fun l hl => k.tup s ra w1 hl⟩⟩
      | _ => exact w.elim
  | [], w => exact w.elim
  | _ :: _ :: _, w => exact w.elim
/-! ### isinstance -/
theorem kit_all (t T : String) (ht : t = "bool" ∨ t = "int" ∨ t = "str" ∨ t = "tuple" ∨ t = "list") (hT : T = "int" ∨ T = "bool" ∨ T = "str" ∨ T = "tuple" ∨ T = "list") :
    PySem.W.kitOne K (.type t) (.type T) = some (if t = "bool" then (T == "bool" || T == "int") else T == t) := by
  rcases ht with rfl | rfl | rfl | rfl | rfl <;> rcases hT with rfl | rfl | rfl | rfl | rfl <;> exact kit_ty (by decide +kernel)
theorem kit_non (T : String) (hT : T = "int" ∨ T = "bool" ∨ T = "str" ∨ T = "tuple" ∨ T = "list") : PySem.W.kitOne K (.type "NoneType") (.type T) = some false := by
  rcases hT with rfl | rfl | rfl | rfl | rfl <;> exact kit_ty (by decide +kernel)
theorem isi_snd {T : String} (hT : T = "int" ∨ T = "bool" ∨ T = "str" ∨ T = "tuple" ∨ T = "list") {d : D} {v : V} {b : Bool} (s : StOk K g H) (r : Rep K g H d v) (h : isiB T g.μ d = some b) : ∃ t, TyX K H v t ∧ PySem.W.kitOne K t (.type T) = some b := by
  cases d with
  | non =>
    cases h
    rw [show v = V.non from r]
    exact ⟨_, .base .non, kit_non T hT⟩
  | bl x =>
    cases h
    rw [show v = V.bl x from r]
    exact ⟨_, .base (.bl x), kit_all "bool" T (.inl rfl) hT⟩
  | int x =>
    cases h
    rw [show v = V.int x from r]
    exact ⟨_, .base (.int x), kit_all "int" T (.inr (.inl rfl)) hT⟩
  | str x =>
    cases h
    rw [show v = V.str x from r]
    exact ⟨_, .base (.str x), kit_all "str" T (.inr (.inr (.inl rfl))) hT⟩
  | tup xs =>
    cases h
    obtain ⟨a, vs, rfl, hp, _⟩ := r
    rcases hp with hp | ⟨⟨o, its, n, h1, h2, _⟩, _⟩
    · exact ⟨_, .base (.tup hp.1), kit_all "tuple" T (.inr (.inr (.inr (.inl rfl)))) hT⟩
    · exact ⟨_, .kTuple h1 h2, kit_all "tuple" T (.inr (.inr (.inr (.inl rfl)))) hT⟩
  | ptp xs =>
    cases h
    obtain ⟨a, vs, rfl, ⟨⟨ob, hp, _⟩, _⟩, _⟩ := r
    exact ⟨_, .fTuple hp, kit_all "tuple" T (.inr (.inr (.inr (.inl rfl)))) hT⟩
  | lst xs =>
    cases h
    obtain ⟨a, vs, rfl, hp, _⟩ := r
    exact ⟨_, .base (.lst hp.1), kit_all "list" T (.inr (.inr (.inr (.inr rfl)))) hT⟩
  | cel j =>
    have e' : (match g.μ[j]? with
      | some (some (.lst _)) => some (T == "list")
      | _ => none) = some b := h
    split at e'
    · rename_i ys e0
      cases e'
      obtain ⟨vs, h1, _⟩ := s.ob _ _ e0
      rw [r.2]
      exact ⟨_, .base (.lst h1), kit_all "list" T (.inr (.inr (.inr (.inr rfl)))) hT⟩
    · cases e'
  | dct ks ds => cases h
  | rol xs => cases h
/-- isinstance(e, T) -/
theorem se_isi {I T : Str} {t : String} {m : Bool} {e : Expr} {x : IE} {p p2 pos : Pos} (ok : c.Ok Φ) (hx : I ∈ c.t.frees) (hg : c.t.sc.names.lookup I = some .globalImplicit) (hv : bootBuiltins I = some (.builtin "isinstance")) (hnI : I ≠ "__name__") (hdbI : (I == ("__debug__" : Str)) = false)
    (hT : T ∈ c.t.frees) (hgT : c.t.sc.names.lookup T = some .globalImplicit)
    (hvT : bootBuiltins T = some (.type t)) (ht : t = "int" ∨ t = "bool" ∨ t = "str" ∨ t = "tuple" ∨ t = "list") (hn : T ≠ "__name__") (hdb : (T == ("__debug__" : Str)) = false) (he : SE c e (wE Φ x))
    (hs : ∀ env, starEach [e, .Name T p2] env = (false, eval e env) :: starEach [.Name T p2] env) :
    SE c (.Call (.Name I p) [e, .Name T p2] [] pos) (wE Φ (.bi (.isi t) m (.cons x .nil))) := by
  obtain ⟨u, hu, hw⟩ := he
  refine ⟨fun W => tCB (rIsi c.K) (tCons (u W) (tCons (tC (.ty t)) tNil)), fun X W h => ?_, fun W σ H g env Q Qd Ed r s w k kx => ?_⟩
  · exact pe_callB (by rw [← h.K]; exact call_isi) (show X.env.kindOf _ = _ from by unfold Env.kindOf; rw [h.sc]; exact hg) (by rw [h.mg]; exact ok.frees _ hx) hv
      (pa_cons (hu X W h) (pa_cons (pe_bltn (show X.env.kindOf _ = _ from by unfold Env.kindOf; rw [h.sc]; exact hgT) (by rw [h.mg]; exact ok.frees _ hT) hvT rfl hn hdb) pa_nil rfl) (hs _)) hnI hdbI (hs _) rfl
  · refine hw W σ H g env _ _ Ed r s (show wE Φ x env g.μ (fun d μ1 => onS (isiB t μ1 d) fun b => Qd (.bl b) μ1) Ed from w) (fun d v g1 H1 e1 s1 r1 q1 => ?_) kx
    obtain ⟨b, eb, q⟩ := onS_of q1
    obtain ⟨ty, h1, h2⟩ := isi_snd ht s1 r1 eb
    exact ⟨v, .ty t, ty, .type t, b, rfl, .ty t, h1, h2, (k.mono e1).here s1 (d := .bl b) rfl q⟩
/-! ### sorted -/
def rSortAll (K : PySem.W.Frag) : List V → Hp → VK → Prop := fun xs H Q => ∃ (p : Addr) (vs : List V) (R : V → D → Prop) (ds : List D), xs = [.ref p] ∧ SqL K H p vs ∧ PySem.W.EachIs R vs ds ∧ (∀ v d, R v d → d.pl = true → Dp K H v d.py) ∧ sortable ds ∧
  ∀ l ys, H l = none → PySem.W.EachIs R ys (sortD ds) → Q (.ref l) (upd H l (.lst ys))
theorem plA_mem : ∀ {ds : List D}, plA ds = true → ∀ d ∈ ds, d.pl = true
  | e :: ds, h, d, hm => by
    have h' : (e.pl && plA ds) = true := h
    rw [Bool.and_eq_true] at h'
    rcases List.mem_cons.mp hm with rfl | hm
    · exact h'.1
    · exact plA_mem h'.2 d hm
theorem each_vals {R : V → D → Prop} : ∀ {vs : List V} {us : List Value} {ds : List D}, Vals vs us → PySem.W.EachIs R vs ds → PySem.W.EachIs (fun u d => ∃ v, RelV v u ∧ R v d ∧ d ∈ ds) us ds := by
  intro vs us ds r e
  have gen : ∀ {vs : List V} {us : List Value} {ds0 ds : List D}, Vals vs us → PySem.W.EachIs R vs ds0 → (∀ d ∈ ds0, d ∈ ds) → PySem.W.EachIs (fun u d => ∃ v, RelV v u ∧ R v d ∧ d ∈ ds) us ds0 := by
    intro vs us ds0 ds r e
    induction e generalizing us with
    | nil => intro _; cases r; exact .nil
    | cons h t ih =>
      intro hm
      cases r with
      | cons a b => exact .cons ⟨_, a, h, hm _ List.mem_cons_self⟩ (ih b fun d hd => hm d (List.mem_cons_of_mem _ hd))
  exact gen r e fun _ h => h
theorem each_back {R : V → D → Prop} : ∀ {us : List Value} {ds ds0 : List D}, PySem.W.EachIs (fun u d => ∃ v, RelV v u ∧ R v d ∧ d ∈ ds0) us ds → ∃ vs, Vals vs us ∧ PySem.W.EachIs R vs ds := by
  intro us ds ds0 e
  induction e with
  | nil => exact ⟨[], .nil, .nil⟩
  | cons h t ih =>
    obtain ⟨v, h1, h2, _⟩ := h
    obtain ⟨vs, h3, h4⟩ := ih
    exact ⟨v :: vs, .cons h1 h3, .cons h2 h4⟩
theorem cr_sortAll {X : Cx} {n : Nat} (hr : Room n X.A) : CallR X (.builtin "sorted") (rSortAll X.K) := by
  intro pins s σ H xs us Q I r h
  obtain ⟨p, vs, R, ds, rfl, hs, he, hd, hst, q⟩ := h
  obtain ⟨its, rv, hl, hz⟩ := I.list hs
  obtain ⟨u, rfl, ru⟩ := vals1 r
  obtain rfl : u = Value.ref p := ru
  obtain ⟨h1, h2, h3, h4, h5⟩ := hst
  have e1 := each_vals rv he
  have hlen : its.length = ds.length := e1.length
  refine PySem.W.sorted_data (R := fun u d => ∃ v, RelV v u ∧ R v d ∧ d ∈ ds) (enc := D.py) hl.isList e1 (e1.mono fun u d ⟨v, a, b, m⟩ => Dp.reads I d.py v u (hd v d b (plA_mem h1 d m)) a) ?_ ?_ h5.line ?_ ?_
  · intro a ha b hb
    obtain ⟨a', ha', rfl⟩ := List.mem_map.mp ha
    obtain ⟨b', hb', rfl⟩ := List.mem_map.mp hb
    exact h2 a' ha' b' hb'
  · rcases h4 with h4 | h4 | h4
    · refine .inl fun d hd => ?_
      obtain ⟨d', hd', rfl⟩ := List.mem_map.mp hd
      obtain ⟨y, r, rfl⟩ := h4 d' hd'
      exact ⟨y.py, pyA r, rfl⟩
    · refine .inr fun d hd => ?_
      obtain ⟨d', hd', rfl⟩ := List.mem_map.mp hd
      obtain ⟨x, rfl⟩ := h4 d' hd'
      exact ⟨fun z => (by cases z), fun xs z => (by cases z)⟩
    · refine .inr fun d hd => ?_
      obtain ⟨d', hd', rfl⟩ := List.mem_map.mp hd
      obtain ⟨x, rfl⟩ := h4 d' hd'
      exact ⟨fun z => (by cases z), fun xs z => (by cases z)⟩
  · intro d hd'
    have z : d.py.depth ≤ 40 := h3 d hd'
    have := hr.un
    omega
  · intro out hl2 e2
    have e3 : PySem.W.EachIs (fun u d => ∃ v, RelV v u ∧ R v d ∧ d ∈ ds) out (sortD ds) := e2
    obtain ⟨ys, h6, h7⟩ := each_back e3
    obtain ⟨e, he'⟩ := PyProof.Rows.sortedAll_at s.heap its (List.toArray out)
    have hle : s.heap.objs.size ≤ s.heap.objs.size + 1 := Nat.le_succ _
    refine ⟨.ref (s.heap.objs.size + 1), upd H (s.heap.objs.size + 1) (.lst ys), I.laid (t' := s.toks) (fun b o z => PyProof.Rows.sortedAll_old z) hle ⟨?_, out, e, h6, he'⟩, rfl, q _ ys (I.hok.fresh hle) h7⟩
    rw [h6.length, hl2]
    exact h5.line
theorem RepA.each : ∀ {ds : List D} {vs : List V}, RepA K g H ds vs → PySem.W.EachIs (fun v d => Rep K g H d v) vs ds
  | [], _, h => by cases h; exact .nil
  | d :: ds, _, ⟨v, r, h1, h2, h3⟩ => by subst h1; exact .cons h2 (RepA.each h3)
theorem RepA.ofEach : ∀ {ds : List D} {vs : List V}, PySem.W.EachIs (fun v d => Rep K g H d v) vs ds → RepA K g H ds vs := by
  intro ds vs e
  induction e with
  | nil => rfl
  | cons h t ih => exact ⟨_, _, rfl, h, ih⟩
theorem cd_sorted (m : Bool) : CD c (.builtin "sorted") (biW .sorted m) := by
  refine ⟨rSortAll c.K, fun X W h => by rw [← h.K]; exact cr_sortAll h.room, fun H g xs ds Q Qd s r w k => ?_⟩
  match ds, w with
  | [d], w =>
    obtain ⟨ys, e, w1, w2⟩ := onS_of (show onS (lstOf g.μ d) fun ys => sortable ys ∧ newL m (sortD ys) g.μ Qd from w)
    obtain ⟨v, rfl, rv⟩ := rep1 r
    obtain ⟨p, vs, rfl, hp, ra⟩ := lst_view s rv e
    exact ⟨p, vs, fun v d => Rep c.K g H d v, ys, rfl, .inl (.inl hp), ra.each, fun v d r hpl => Rep.dp d v hpl r, w1, fun l zs hl hz => k.new s (RepA.ofEach hz) w2 hl⟩
  | [], w => exact w.elim
  | _ :: _ :: _, w => exact w.elim
end
end FW

set_option Elab.async false
set_option linter.all false
set_option maxRecDepth 100000
/-! DL8: dict(..), min, max over data. -/
namespace FW
open PySem PySem.Spec PyProof.Rows L2
section
variable {c : Cn} {Φ : Str → FS} {K : PySem.W.Frag} {g : Gs} {H : Hp}
/-! ### dict -/
/-- dict(t) of a plain tuple of pairs -/
def rDictT (K : PySem.W.Frag) : List V → Hp → VK → Prop := fun xs H Q => ∃ (a : Addr) (ob : Obj) (ps : List Addr) (kvs : List (Key × V)), xs = [.ref a] ∧ H a = some (.frz ob (.tup (ps.map V.ref))) ∧ ob.dict = none ∧ Paired (fun p kv => SqT K H p [kV kv.1, kv.2]) ps kvs ∧
  ∀ p, H p = none → Q (.ref p) (upd H p (.dK (mergeK [] kvs)))
theorem get_range {α : Type} [Inhabited α] (ps : List α) {j : Nat} {b : α} (h : ps[j]? = some b) : ps.getD j default = b := by
  rw [List.getD_eq_getElem?_getD, h]; rfl
theorem call_dictT {X : Cx} (hcalm : X.calm = true) : CallR X (.type "dict") (rDictT X.K) := by
  intro pins s σ H xs us Q I r q
  obtain ⟨a, ob, ps, kvs, rfl, hq, hob, hp, q⟩ := q
  obtain ⟨u, rfl, rx⟩ := vals1 r
  cases rx
  obtain ⟨ho, hz, its, rv, o, ho', hc, n, hd⟩ := (show ObjOk X.prog X.w H s.heap a (.frz ob (.tup (ps.map V.ref))) from I.hok a _ hq)
  have e : ob = o := by rw [ho] at ho'; exact Option.some.inj ho'
  subst e
  have ei := refs_at rv
  subst ei
  rw [List.length_map] at hz
  obtain ⟨prs, rel, hl, hpr⟩ := pairs_of I hp
  let prs2 : List (Value × Value) := (List.range ps.length).map fun j => (((ps[j]?).bind fun b => (s.heap.get? b).bind fun o => match o.data with
    | .seq items _ => items[0]?
    | _ => none).getD .none, ((prs[j]?).map (·.2)).getD .none)
  have h2 : prs2.length = ps.length := by simp [prs2]
  have get2 : ∀ j k v, prs2[j]? = some (k, v) → ∃ kk b, prs[j]? = some (kk, v) ∧ ps[j]? = some b ∧ IsTup s.heap b #[k, v] ∧ keyIs kk k = true := fun j k v e => by
    have hj : j < ps.length := by rw [← h2]; exact (List.getElem?_eq_some_iff.mp e).1
    obtain ⟨q', e'⟩ : ∃ q', prs[j]? = some q' := ⟨prs[j], List.getElem?_eq_getElem (by rw [hl]; exact hj)⟩
    obtain ⟨b, u, e1, e2, e3⟩ := hpr j q' e'
    have e4 : prs2[j]? = some (u, q'.2) := by
      obtain ⟨oo, g1, _, n2, g2⟩ := e2
      simp only [prs2, List.getElem?_map, List.getElem?_range hj, Option.map_some, e1, e', Option.bind_some, g1, g2]
      rfl
    rw [e4] at e
    cases e
    exact ⟨q'.1, b, e', e1, e2, e3⟩
  refine PySem.call_dict_pairs (knd := mixKind X.prog X.w) (kvs := prs) (PairArg.tuple a (ps.map Value.ref).toArray (fun j => ps.getD j default) prs2) (I.ok.hd hcalm) ⟨⟨ob, n, ho, hc, hob, hd⟩, ?_, ?_⟩ ⟨by rw [hl, h2], fun j k v e => ?_⟩ (by rw [h2]; exact hz) fun h' tk hd' k => ?_
  · rw [List.size_toArray, List.length_map, h2]
  · intro j k v e
    obtain ⟨kk, b, e1, e2, e3, e4⟩ := get2 j k v e
    refine ⟨?_, ?_⟩
    · show (ps.map Value.ref).toArray[j]? = some (.ref (ps.getD j default))
      rw [get_range _ e2]
      simp [e2]
    · show PairAt s.heap (ps.getD j default) k v
      rw [get_range _ e2]
      exact .inl e3
  · obtain ⟨kk, b, e1, e2, e3, e4⟩ := get2 j k v e
    exact ⟨kk, e1, e4⟩
  · have hm : (s.heap.objs.size == sysModules) = false := beq_eq_false_iff_ne.mpr (Nat.ne_of_gt I.big)
    have hlen : (mergeK [] kvs).length ≤ sizeLine := by
      refine Nat.le_trans (length_mergeK kvs []) ?_
      rw [List.length_nil, Nat.zero_add, rel.length, hl]
      exact hz
    exact ⟨.ref s.heap.objs.size, upd H s.heap.objs.size (.dK (mergeK [] kvs)), I.laid (t' := tk) (fun b o e => k b o (by simp) e) (Nat.le_refl _) (show ObjOk X.prog X.w _ _ _ (.dK (mergeK [] kvs)) from ⟨hlen, hm, merged [] prs, KV.merge rel .nil, hd'⟩), rfl, q _ (I.hok.fresh (Nat.le_refl _))⟩
theorem pair_reps : ∀ {ys : List D} {ps : List (Str × D)} {vs : List V}, allPr ys = some ps → RepA K g H ys vs →
    ∃ (as : List Addr) (ws : List V), vs = as.map V.ref ∧ RepA K g H (ps.map (·.2)) ws ∧ Paired (fun p (kv : Key × V) => SqT K H p [kV kv.1, kv.2]) as (zK (ps.map (·.1)) ws)
  | [], _, _, h, r => by
    cases h
    cases r
    exact ⟨[], [], rfl, rfl, .nil⟩
  | d :: r, ps, _, h, ⟨v, t, h1, h2, h3⟩ => by
    subst h1
    have key : ∃ x d', d = .tup [.str x, d'] ∧ ∃ ps', allPr r = some ps' ∧ ps = (x, d') :: ps' := by
      unfold allPr at h
      split at h
      · rename_i e; cases e
      · rename_i x d' r' e
        cases e
        obtain ⟨ps', e1, rfl⟩ := Option.map_eq_some_iff.mp h
        exact ⟨x, d', rfl, ps', e1, rfl⟩
      · cases h
    obtain ⟨x, d', rfl, ps', e1, rfl⟩ := key
    obtain ⟨as, ws, e2, e3, e4⟩ := pair_reps e1 h3
    obtain ⟨a, us, rfl, ha, ra⟩ := h2
    obtain ⟨v1, v2, rfl, r1, r2⟩ := rep2 ra
    refine ⟨a :: as, v2 :: ws, by rw [e2]; rfl, ⟨v2, ws, rfl, r2, e3⟩, ?_⟩
    have e5 : v1 = kV (Sum.inr x) := rep_str r1
    subst e5
    exact .cons ha.sq e4
theorem cd_dict (m : Bool) : CD c (.type "dict") (biW .dict m) := by
  refine ⟨fun xs H Q => (∃ (a : Addr) (kvs : List (Key × V)), xs = [.ref a] ∧ Rd H a (.dK kvs) ∧ ∀ p, H p = none → Q (.ref p) (upd H p (.dK kvs))) ∨ ((∃ (a : Addr) (ps : List Addr) (kvs : List (Key × V)), xs = [.ref a] ∧ SqL c.K H a (ps.map V.ref) ∧ Paired (fun p kv => SqT c.K H p [kV kv.1, kv.2]) ps kvs ∧
    ∀ p, H p = none → Q (.ref p) (upd H p (.dK (mergeK [] kvs)))) ∨ rDictT c.K xs H Q), fun X W h => by rw [← h.K]; exact call_dictD.or ((call_dictP h.calm).or (call_dictT h.calm)), fun H g xs ds Q Qd s r w k => ?_⟩
  match ds, w with
  | [d], w =>
    obtain ⟨v, rfl, rv⟩ := rep1 r
    replace w : dictW m d g.μ Qd := w
    unfold dictW at w
    split at w
    · rename_i ks es e
      obtain ⟨a, vs, rfl, h1, h2, h3⟩ := dic_view s rv e
      exact .inl ⟨a, _, rfl, h1, fun p hp => k.newDk s h2 h3 w hp⟩
    · obtain ⟨ys, e1, w⟩ := onS_of w
      obtain ⟨ps, e2, hz, w⟩ := onS_of w
      have fin : ∀ (ws : List V), RepA c.K g H (ps.map (·.2)) ws → ∀ p, H p = none → Q (.ref p) (upd H p (.dK (mergeK [] (zK (ps.map (·.1)) ws)))) := fun ws h p hp => by
        obtain ⟨us, f1, f2, f3⟩ := zK_merge (K := c.K) (g := g) (H := H) ps ws (ks := []) (ds := []) (vs := []) rfl rfl h
        rw [show (mergeK [] (zK (ps.map (·.1)) ws)) = _ from f1]
        exact k.newDk s f3 f2 w hp
      cases d with
      | lst zs =>
        cases e1
        obtain ⟨a, vs, rfl, hp, ra⟩ := rv
        obtain ⟨as, ws, rfl, h2, h3⟩ := pair_reps e2 ra
        exact .inr (.inl ⟨a, as, _, rfl, hp.sq, h3, fin ws h2⟩)
      | cel j =>
        obtain ⟨a, vs, rfl, hp, ra⟩ := lst_view s rv (show lstOf g.μ (.cel j) = some ys from e1)
        obtain ⟨as, ws, rfl, h2, h3⟩ := pair_reps e2 ra
        exact .inr (.inl ⟨a, as, _, rfl, .inl (.inl hp), h3, fin ws h2⟩)
      | ptp zs =>
        cases e1
        obtain ⟨a, vs, rfl, ⟨⟨ob, hp, ho⟩, _⟩, ra⟩ := rv
        obtain ⟨as, ws, rfl, h2, h3⟩ := pair_reps e2 ra
        exact .inr (.inr ⟨a, ob, as, _, rfl, hp, ho, h3, fin ws h2⟩)
      | _ => cases e1
  | [], w => exact w.elim
  | _ :: _ :: _, w => exact w.elim
/-! ### min, max -/
theorem strs_lt {prog : Program} {w : World} {A : Around} {P : Nat → Value → Prop} (val : Nat → Str) (hval : ∀ i v, P i v → ∃ t, v = .str (val i) t) :
    CmpOf prog w A .Lt P (fun i j => decide ((val i).cps.toList < (val j).cps.toList)) := fun i j vi vj s Q E hi hj h => by
  obtain ⟨t, rfl⟩ := hval i vi hi
  obtain ⟨u, rfl⟩ := hval j vj hj
  exact richCompare_gives (op := .Lt) (typeIs_str s _ t) (typeIs_str s _ u) F.slot_str_lt F.entry_str_lt (F.args_str_lt_2 _ _) (gives_str_lt _ _ t u) (fun x => nomatch x) h
theorem min_two_strs {prog : Program} {w : World} {A : Around} {E : Value → Shared → Prop} {s : Shared} {a b : Str} {t u : Tok} {Q : Value → Shared → Prop} (hh : A.handled = none)
    (h : ∀ h' tk, (∀ c o, s.heap.get? c = some o → h'.get? c = some o) → Q (if decide (b.cps.toList < a.cps.toList) = true then .str b u else .str a t) { s with heap := h', toks := tk }) :
    wpAny (model prog w) A (call (.builtin "min") [.str a t, .str b u]) Q E s := by
  have hT : (s.heap.push { cls := .type "tuple", data := .seq #[.str a t, .str b u] }).IsTuple s.heap.objs.size #[.str a t, .str b u] := ⟨_, Heap.get?_push_size _ rfl, rfl, 0, rfl⟩
  let val : Nat → Str := fun i => if i = 0 then a else b
  have hval : ∀ (i : Nat) (v : Value), (#[Value.str a t, .str b u] : Array Value)[i]? = some v → ∃ t', v = .str (val i) t' := fun i v e => by
    match i, e with
    | 0, e => exact ⟨t, by simpa [val] using e.symm⟩
    | 1, e => exact ⟨u, by simpa [val] using e.symm⟩
    | i + 2, e => simp at e
  refine call_min_two (wpAny_pyIter_tuple hT ?_)
  have hsz : (s.heap.push { cls := .type "tuple", data := .seq #[.str a t, .str b u] }).objs.size = s.heap.objs.size + 1 := Heap.size_push ..
  refine ⟨_, [_, s.heap.objs.size], [_], _, _, _, _, rfl, Walks.tuple (A := A.in1) hh _ s.heap.objs.size (by rw [hsz]; exact Nat.ne_of_lt (Nat.lt_succ_self _)) #[.str a t, .str b u],
    ⟨⟨_, Heap.get?_push_size _ rfl, rfl, rfl⟩, hT.push _⟩, fun c hc => ?_, by simp, strs_lt val hval, fun v h' tk hP hk => ?_⟩
  · show c < ((s.heap.push _).push _).objs.size
    rw [Heap.size_push, hsz]
    rcases List.mem_cons.mp hc with rfl | hc
    · rw [hsz]; exact Nat.lt_succ_self _
    · rcases List.mem_cons.mp hc with rfl | hc
      · exact Nat.lt_succ_of_lt (Nat.lt_succ_self _)
      · cases hc
  · have hold : ∀ c o, s.heap.get? c = some o → h'.get? c = some o := fun c o e => by
      refine hk c o (fun hm => ?_) (Heap.get?_push_of_some _ (Heap.get?_push_of_some _ e))
      rcases List.mem_cons.mp hm with e1 | hm
      · have := Heap.lt_size e; rw [e1, hsz] at this; exact Nat.lt_irrefl _ (Nat.lt_of_succ_lt this)
      · cases hm
    have := h h' tk hold
    have hv : v = if decide (b.cps.toList < a.cps.toList) = true then Value.str b u else Value.str a t := by
      have hP' : (#[Value.str a t, .str b u] : Array Value)[argBest (fun i j => decide ((val i).cps.toList < (val j).cps.toList)) 1]? = some v := hP
      by_cases hba : b.cps.toList < a.cps.toList
      · have e : argBest (fun i j => decide ((val i).cps.toList < (val j).cps.toList)) 1 = 1 := by simp only [argBest, val]; rw [if_pos]; simpa using hba
        rw [e] at hP'
        rw [if_pos (decide_eq_true hba)]
        simpa using hP'.symm
      · have e : argBest (fun i j => decide ((val i).cps.toList < (val j).cps.toList)) 1 = 0 := by simp only [argBest, val]; rw [if_neg]; simpa using hba
        rw [e] at hP'
        rw [if_neg (by simpa using hba)]
        simpa using hP'.symm
    rw [hv]; exact this
theorem call_min2S {X : Cx} (hc : X.calm = true) : CallR X (.builtin "min") (fun xs H Q => ∃ a b, xs = [.str a, .str b] ∧ Q (.str (if decide (b.cps.toList < a.cps.toList) = true then b else a)) H) := by
  intro pins s σ H xs us Q I r h
  obtain ⟨i, j, rfl, q⟩ := h
  obtain ⟨u, w', rfl, ⟨t, rfl⟩, ⟨t', rfl⟩⟩ := vals2 r
  refine min_two_strs (I.ok.hd hc) fun h' tk k => ⟨_, H, I.kept k, ?_, q⟩
  by_cases hj : decide (j.cps.toList < i.cps.toList) = true
  · rw [if_pos hj, if_pos hj]; exact ⟨_, rfl⟩
  · rw [if_neg hj, if_neg hj]; exact ⟨_, rfl⟩

theorem strs_gt {prog : Program} {w : World} {A : Around} {P : Nat → Value → Prop} (val : Nat → Str) (hval : ∀ i v, P i v → ∃ t, v = .str (val i) t) :
    CmpOf prog w A .Gt P (fun i j => decide ((val i).cps.toList > (val j).cps.toList)) := fun i j vi vj s Q E hi hj h => by
  obtain ⟨t, rfl⟩ := hval i vi hi
  obtain ⟨u, rfl⟩ := hval j vj hj
  exact richCompare_gives (op := .Gt) (typeIs_str s _ t) (typeIs_str s _ u) F.slot_str_gt F.entry_str_gt (F.args_str_gt_2 _ _) (gives_str_gt _ _ t u) (fun x => nomatch x) h
theorem max_two_strs {prog : Program} {w : World} {A : Around} {E : Value → Shared → Prop} {s : Shared} {a b : Str} {t u : Tok} {Q : Value → Shared → Prop} (hh : A.handled = none)
    (h : ∀ h' tk, (∀ c o, s.heap.get? c = some o → h'.get? c = some o) → Q (if decide (b.cps.toList > a.cps.toList) = true then .str b u else .str a t) { s with heap := h', toks := tk }) :
    wpAny (model prog w) A (call (.builtin "max") [.str a t, .str b u]) Q E s := by
  have hT : (s.heap.push { cls := .type "tuple", data := .seq #[.str a t, .str b u] }).IsTuple s.heap.objs.size #[.str a t, .str b u] := ⟨_, Heap.get?_push_size _ rfl, rfl, 0, rfl⟩
  let val : Nat → Str := fun i => if i = 0 then a else b
  have hval : ∀ (i : Nat) (v : Value), (#[Value.str a t, .str b u] : Array Value)[i]? = some v → ∃ t', v = .str (val i) t' := fun i v e => by
    match i, e with
    | 0, e => exact ⟨t, by simpa [val] using e.symm⟩
    | 1, e => exact ⟨u, by simpa [val] using e.symm⟩
    | i + 2, e => simp at e
  refine call_max_two (wpAny_pyIter_tuple hT ?_)
  have hsz : (s.heap.push { cls := .type "tuple", data := .seq #[.str a t, .str b u] }).objs.size = s.heap.objs.size + 1 := Heap.size_push ..
  refine ⟨_, [_, s.heap.objs.size], [_], _, _, _, _, rfl, Walks.tuple (A := A.in1) hh _ s.heap.objs.size (by rw [hsz]; exact Nat.ne_of_lt (Nat.lt_succ_self _)) #[.str a t, .str b u],
    ⟨⟨_, Heap.get?_push_size _ rfl, rfl, rfl⟩, hT.push _⟩, fun c hc => ?_, by simp, strs_gt val hval, fun v h' tk hP hk => ?_⟩
  · show c < ((s.heap.push _).push _).objs.size
    rw [Heap.size_push, hsz]
    rcases List.mem_cons.mp hc with rfl | hc
    · rw [hsz]; exact Nat.lt_succ_self _
    · rcases List.mem_cons.mp hc with rfl | hc
      · exact Nat.lt_succ_of_lt (Nat.lt_succ_self _)
      · cases hc
  · have hold : ∀ c o, s.heap.get? c = some o → h'.get? c = some o := fun c o e => by
      refine hk c o (fun hm => ?_) (Heap.get?_push_of_some _ (Heap.get?_push_of_some _ e))
      rcases List.mem_cons.mp hm with e1 | hm
      · have := Heap.lt_size e; rw [e1, hsz] at this; exact Nat.lt_irrefl _ (Nat.lt_of_succ_lt this)
      · cases hm
    have := h h' tk hold
    have hv : v = if decide (b.cps.toList > a.cps.toList) = true then Value.str b u else Value.str a t := by
      have hP' : (#[Value.str a t, .str b u] : Array Value)[argBest (fun i j => decide ((val i).cps.toList > (val j).cps.toList)) 1]? = some v := hP
      by_cases hba : b.cps.toList > a.cps.toList
      · have e : argBest (fun i j => decide ((val i).cps.toList > (val j).cps.toList)) 1 = 1 := by simp only [argBest, val]; rw [if_pos]; simpa using hba
        rw [e] at hP'
        rw [if_pos (decide_eq_true hba)]
        simpa using hP'.symm
      · have e : argBest (fun i j => decide ((val i).cps.toList > (val j).cps.toList)) 1 = 0 := by simp only [argBest, val]; rw [if_neg]; simpa using hba
        rw [e] at hP'
        rw [if_neg (by simpa using hba)]
        simpa using hP'.symm
    rw [hv]; exact this
theorem call_max2S {X : Cx} (hc : X.calm = true) : CallR X (.builtin "max") (fun xs H Q => ∃ a b, xs = [.str a, .str b] ∧ Q (.str (if decide (b.cps.toList > a.cps.toList) = true then b else a)) H) := by
  intro pins s σ H xs us Q I r h
  obtain ⟨i, j, rfl, q⟩ := h
  obtain ⟨u, w', rfl, ⟨t, rfl⟩, ⟨t', rfl⟩⟩ := vals2 r
  refine max_two_strs (I.ok.hd hc) fun h' tk k => ⟨_, H, I.kept k, ?_, q⟩
  by_cases hj : decide (j.cps.toList > i.cps.toList) = true
  · rw [if_pos hj, if_pos hj]; exact ⟨_, rfl⟩
  · rw [if_neg hj, if_neg hj]; exact ⟨_, rfl⟩

theorem cd_min2 (m : Bool) : CD c (.builtin "min") (biW .min2 m) := by
  refine ⟨fun xs H Q => (∃ i j, xs = [.int i, .int j] ∧ Q (.int (if j < i then j else i)) H) ∨ (∃ a b, xs = [.str a, .str b] ∧ Q (.str (if decide (b.cps.toList < a.cps.toList) = true then b else a)) H), fun X W h => (call_min2 h.calm).or (call_min2S h.calm), fun H g xs ds Q Qd s r w k => ?_⟩
  match ds, w with
  | [d, e], w =>
    obtain ⟨v, v', rfl, rv, rv'⟩ := rep2 r
    replace w : minW d e g.μ Qd := w
    unfold minW at w
    split at w
    · exact .inl ⟨_, _, by rw [rv.int_of, rv'.int_of], k.here s (d := .int _) rfl w⟩
    · exact .inr ⟨_, _, by rw [rv.str_of, rv'.str_of], k.here s (d := .str _) rfl w⟩
    · exact w.elim
  | [], w => exact w.elim
  | [_], w => exact w.elim
  | _ :: _ :: _ :: _, w => exact w.elim

theorem cd_max2 (m : Bool) : CD c (.builtin "max") (biW .max2 m) := by
  refine ⟨fun xs H Q => (∃ i j, xs = [.int i, .int j] ∧ Q (.int (if j > i then j else i)) H) ∨ (∃ a b, xs = [.str a, .str b] ∧ Q (.str (if decide (b.cps.toList > a.cps.toList) = true then b else a)) H), fun X W h => (call_max2 h.calm).or (call_max2S h.calm), fun H g xs ds Q Qd s r w k => ?_⟩
  match ds, w with
  | [d, e], w =>
    obtain ⟨v, v', rfl, rv, rv'⟩ := rep2 r
    replace w : maxW d e g.μ Qd := w
    unfold maxW at w
    split at w
    · exact .inl ⟨_, _, by rw [rv.int_of, rv'.int_of], k.here s (d := .int _) rfl w⟩
    · exact .inr ⟨_, _, by rw [rv.str_of, rv'.str_of], k.here s (d := .str _) rfl w⟩
    · exact w.elim
  | [], w => exact w.elim
  | [_], w => exact w.elim
  | _ :: _ :: _ :: _, w => exact w.elim
end
end FW

set_option Elab.async false
set_option linter.all false
set_option maxRecDepth 100000
/-! DL9: dict.update, zip as a value, sets of texts. -/
namespace FW
open PySem PySem.Spec PyProof.Rows L2
section
variable {c : Cn} {Φ : Str → FS} {K : PySem.W.Frag} {g : Gs} {H : Hp}
def rUpd : V → List V → Hp → VK → Prop := fun x xs H Q => ∃ (d o : Addr) (kvs more : List (Key × V)), x = .ref d ∧ xs = [.ref o] ∧ H d = some (.dK kvs) ∧ Rd H o (.dK more) ∧ d ≠ o ∧ kvs.length + more.length ≤ sizeLine ∧ Q .non (upd H d (.dK (mergeK kvs more)))
theorem mt_update {X : Cx} : MtR X "dict.update" rUpd := by
  intro pins s σ H x xs v us Q I rx rs h
  obtain ⟨d, o, kvs, more, rfl, rfl, hd, ho, hne, hz, q⟩ := h
  obtain rfl : v = Value.ref d := rx
  obtain ⟨u, rfl, ru⟩ := vals1 rs
  obtain rfl : u = Value.ref o := ru
  obtain ⟨z, h1, vs, rel, dd⟩ := dk_of I.hok hd
  obtain ⟨z2, h2, ws, rel2, dd2⟩ := dk_rd I.hok ho
  refine call_meetsIn PySem.F.slot_dict_update dd.typeIs PySem.F.entry_dict_update (PySem.F.args_dict_update_2 _ _) (meets_dict_update (mixKind X.prog X.w) d o hne h2)
    ⟨vs, ws, dd, dd2, by rw [← rel.length, ← rel2.length]; exact hz, fun h' dd' _ hs => ?_⟩
  have he : ∃ q, h'.get? d = some q := let ⟨q, _, _, hq, _⟩ := dd'; ⟨q, hq⟩
  refine ⟨.non, _, d_write I (by rw [hd]; exact True.intro) hs he (dk_new ?_ h1 (KV.merge rel2 rel) dd'), rfl, q⟩
  exact Nat.le_trans (length_mergeK more kvs) hz
theorem putAll_len (ks : List Str) : ∀ (ps : List (Str × D)) (ds : List D), True := fun _ _ => True.intro
theorem zip_maps : ∀ {ks : List Str} {ds : List D}, ks.length = ds.length → (ks.zip ds).map (·.1) = ks ∧ (ks.zip ds).map (·.2) = ds
  | [], [], _ => ⟨rfl, rfl⟩
  | k :: ks, d :: ds, h => by
    obtain ⟨h1, h2⟩ := zip_maps (ks := ks) (ds := ds) (by simpa using h)
    exact ⟨congrArg (k :: ·) h1, congrArg (d :: ·) h2⟩
theorem md_update : MD c "dict.update" (meW .update) := by
  refine ⟨rUpd, fun X W h => mt_update, fun H g x xs d ds Q Qd s rx rs w k => ?_⟩
  match ds, w with
  | [e], w =>
    obtain ⟨n, ks, ys, rfl, e0, w⟩ := cellK_of (show cellK g.μ d fun n ks ds => (match (generalizing := false) e with
      | .dct k2 d2 => Sz (ks.length + k2.length) ∧ Qd .non (g.μ.set n (some (.dk (putAll ks ds (k2.zip d2)).1 (putAll ks ds (k2.zip d2)).2)))
      | _ => False) from w)
    obtain ⟨v, rfl, rv⟩ := rep1 rs
    obtain ⟨vs, h1, hl, ra⟩ := s.ob _ _ e0
    cases e with
    | dct k2 d2 =>
      obtain ⟨hz, w⟩ := w
      obtain ⟨p, ws, rfl, hp, hl2, ra2⟩ := rv
      obtain ⟨z1, z2⟩ := zip_maps hl2
      obtain ⟨us, f1, f2, f3⟩ := zK_merge (K := c.K) (g := g) (H := H) (k2.zip d2) ws hl ra (by rw [z2]; exact ra2)
      rw [z1] at f1
      refine ⟨_, p, _, _, rx.2, rfl, h1, hp.1, fun z => ?_, ?_, ?_⟩
      · exact hp.2 (.inl ⟨n, _, e0, z⟩)
      · rw [zK_len (by rw [ra.length]; exact hl), zK_len (by rw [ra2.length]; exact hl2)]
        exact hz.line
      · rw [f1]
        exact k .non .non (g.put n (.dk _ _)) _ (Ext.put s e0) (s.put (o := .dk _ _) e0 ⟨us, rfl, f3, f2⟩) rfl w
    | _ => exact w.elim
  | [], w => exact w.elim
  | _ :: _ :: _, w => exact w.elim
/-! ### dict(zip(xs, ys)) -/
def tDZ (K : PySem.W.Frag) (ta : TA) : TE := fun σ H Q => ta σ H fun vs H1 => ∃ (a b : Addr) (ks : List Str) (ys : List V), vs = [.ref a, .ref b] ∧ SqL K H1 a (ks.map V.str) ∧ SqL K H1 b ys ∧ ks.length = ys.length ∧ ∀ p, H1 p = none → Q (.ref p) (upd H1 p (.dK (mergeK [] (zK ks ys))))
theorem strs_back : ∀ {ks : List Str} {us : List Value}, Vals (ks.map V.str) us → ∀ (i : Nat) (u : Value), us[i]? = some u → ∃ k, ks[i]? = some k ∧ keyIs (Sum.inr k) u = true
  | [], _, .nil, i, u, e => by simp at e
  | k :: ks, _, .cons r t, 0, u, e => by
    obtain ⟨t', rfl⟩ := r
    cases e
    exact ⟨k, rfl, keyIs_str k t'⟩
  | k :: ks, _, .cons r t, i + 1, u, e => by
    obtain ⟨k', h1, h2⟩ := strs_back t i u (by simpa using e)
    exact ⟨k', by simpa using h1, h2⟩
def zV : List Str → List Value → List (Key × Value)
  | k :: ks, v :: vs => (Sum.inr k, v) :: zV ks vs
  | _, _ => []
theorem zV_kv : ∀ {ks : List Str} {ys : List V} {us : List Value}, ks.length = ys.length → Vals ys us → KV (zK ks ys) (zV ks us)
  | [], [], _, _, .nil => .nil
  | k :: ks, y :: ys, _, h, .cons r t => .cons ⟨rfl, r⟩ (zV_kv (by simpa using h) t)
theorem zV_len : ∀ {ks : List Str} {us : List Value}, ks.length = us.length → (zV ks us).length = ks.length
  | [], [], _ => rfl
  | k :: ks, u :: us, h => congrArg (· + 1) (zV_len (by simpa using h))
theorem zV_get : ∀ {ks : List Str} {us : List Value} {i : Nat} {k : Str} {u : Value}, ks[i]? = some k → us[i]? = some u → (zV ks us)[i]? = some (Sum.inr k, u)
  | [], _, _, _, _, e, _ => by simp at e
  | _ :: _, [], _, _, _, _, e => by simp at e
  | k :: ks, u :: us, 0, _, _, e, e' => by cases e; cases e'; rfl
  | k :: ks, u :: us, i + 1, _, _, e, e' => by
    show (zV ks us)[i]? = _
    exact zV_get (by simpa using e) (by simpa using e')
theorem pe_dictZip {X : Cx} {x z : Str} {e e2 : Expr} {ta : TA} {p p2 q pos : Pos} (hc : X.calm = true) (hg : Gl X x) (hm : X.mg x = none) (hv : bootBuiltins x = some (.type "dict")) (hn : x ≠ "__name__") (hdb : (x == ("__debug__" : Str)) = false)
    (hgz : Gl X z) (hmz : X.mg z = none) (hvz : bootBuiltins z = some (.type "zip")) (hnz : z ≠ "__name__") (hdbz : (z == ("__debug__" : Str)) = false) (ha : PA X [e, e2] ta)
    (hs : starEach [e, e2] X.env = (false, eval e X.env) :: starEach [e2] X.env) (hpl : (backTo q (starEach [e2] X.env)).any (·.1) = false) :
    PE X (.Call (.Name x p) [.Call (.Name z p2) [e, e2] [] q] [] pos) (tDZ X.K ta) := by
  refine ⟨fun pins s σ H Q I h => ?_⟩
  refine Call_ (ld_blt I hg hm hv ?_ hn hdb)
  refine PyProof.Rows.callWith_type1 (PyProof.Rows.args_cons ?_ rfl) rfl rfl
  refine Call_ (ld_blt I hgz hmz hvz ?_ hnz hdbz)
  refine PyProof.Rows.callWith_type1 (thn (ha.run q pins s σ H _ I h) fun us s1 ⟨vs, H1, I1, r1, q1⟩ => ?_) hs hpl
  obtain ⟨a, b, ks, ys, rfl, hqx, hqy, hl, q1⟩ := q1
  obtain ⟨u1, u2, rfl, rx, ry⟩ := vals2 r1
  cases rx
  cases ry
  obtain ⟨its, rv, p1, hz1⟩ := I1.list hqx
  obtain ⟨its2, rv2, p2, hz2⟩ := I1.list hqy
  refine call_zip_2 p1.isList p2.isList fun h' hz hTI hTO h1 h2 hsz hk => PyProof.Rows.args_nil ?_
  have I2 : Inv X pins σ H1 { s1 with heap := h' } := I1.kept (t' := s1.toks) hk
  have l1 : its.length = ks.length := by rw [← rv.length, List.length_map]
  have l2 : its2.length = ys.length := rv2.length.symm
  have hmin : min its.toArray.size its2.toArray.size = ks.length := by simp only [List.size_toArray]; omega
  refine PySem.call_dict_pairs (knd := mixKind X.prog X.w) (kvs := zV ks its2) (PairArg.zip _ _ _ _ _ a b (PySem.W.ktu_apart s1.heap.objs.size a b p1.lt p2.lt) its.toArray its2.toArray) (I1.ok.hd hc)
    ⟨hz, hTI, ⟨_, _, hTO⟩, h1, h2, p1.isList.at fun o e => hk _ o e, p2.isList.at fun o e => hk _ o e⟩ ⟨?_, fun i k v e => ?_⟩ (by rw [hmin]; rw [List.length_map] at hz1; exact hz1) fun h3 tk hd' k3 => ?_
  · rw [hmin, zV_len (by omega)]
  · obtain ⟨k', f1, f2⟩ := strs_back rv i k (by simpa using e.1)
    exact ⟨_, zV_get f1 (by simpa using e.2), f2⟩
  · have hm : (h'.objs.size == sysModules) = false := beq_eq_false_iff_ne.mpr (Nat.ne_of_gt I2.big)
    have rel : KV (zK ks ys) (zV ks its2) := zV_kv hl rv2
    have hlen : (mergeK [] (zK ks ys)).length ≤ sizeLine := by
      refine Nat.le_trans (length_mergeK _ []) ?_
      rw [List.length_nil, Nat.zero_add, zK_len hl]
      rw [List.length_map] at hz1
      exact hz1
    have hkk : ∀ b' o, s1.heap.get? b' = some o → h3.get? b' = some o := fun b' o e => by
      have hlt : b' < s1.heap.objs.size := Heap.lt_size e
      refine k3 b' o ?_ (hk _ o e)
      simp only [List.mem_cons, List.not_mem_nil, or_false, not_or]
      refine ⟨?_, ?_, ?_, ?_⟩ <;> first | exact Nat.ne_of_lt hlt | exact Nat.ne_of_lt (Nat.lt_of_lt_of_le hlt (Nat.le_add_right _ _))
    have hle : s1.heap.objs.size ≤ h'.objs.size := by omega
    exact ⟨.ref h'.objs.size, upd H1 h'.objs.size (.dK (mergeK [] (zK ks ys))), I1.laid (t' := tk) hkk hle (show ObjOk X.prog X.w _ _ _ (.dK (mergeK [] (zK ks ys))) from ⟨hlen, hm, merged [] (zV ks its2), KV.merge rel .nil, hd'⟩), rfl, q1 _ (I1.hok.fresh hle)⟩
theorem se_dictZip {x z : Str} {m : Bool} {e e2 : Expr} {as : IEs} {p p2 q pos : Pos} (ok : c.Ok Φ) (hx : x ∈ c.t.frees) (hg : c.t.sc.names.lookup x = some .globalImplicit) (hv : bootBuiltins x = some (.type "dict")) (hn : x ≠ "__name__") (hdb : (x == ("__debug__" : Str)) = false)
    (hz : z ∈ c.t.frees) (hgz : c.t.sc.names.lookup z = some .globalImplicit) (hvz : bootBuiltins z = some (.type "zip")) (hnz : z ≠ "__name__") (hdbz : (z == ("__debug__" : Str)) = false) (ha : SA c [e, e2] (wEs Φ as))
    (hs : ∀ env, starEach [e, e2] env = (false, eval e env) :: starEach [e2] env) (hpl : ∀ env, (backTo q (starEach [e2] env)).any (·.1) = false) :
    SE c (.Call (.Name x p) [.Call (.Name z p2) [e, e2] [] q] [] pos) (wE Φ (.bi .dictZip m as)) := by
  obtain ⟨t, ht, hw⟩ := ha
  refine ⟨fun W => tDZ c.K (t W), fun X W h => ?_, fun W σ H g env Q Qd Ed r s w k kx => ?_⟩
  · rw [← h.K]
    exact pe_dictZip h.calm (show X.env.kindOf x = _ from by unfold Env.kindOf; rw [h.sc]; exact hg) (by rw [h.mg]; exact ok.frees x hx) hv hn hdb (show X.env.kindOf z = _ from by unfold Env.kindOf; rw [h.sc]; exact hgz) (by rw [h.mg]; exact ok.frees z hz) hvz hnz hdbz (ht X W h) (hs _) (hpl _)
  · refine hw W σ H g env _ _ Ed r s (show wEs Φ as env g.μ (fun ds μ1 => biW .dictZip m ds μ1 Qd) Ed from w) (fun ds vs g1 H1 l1 e1 s1 r1 q1 => ?_) kx
    have k1 := k.mono e1
    match ds, q1 with
    | [a, b], q1 =>
      obtain ⟨v, v', rfl, rv, rv'⟩ := rep2 r1
      obtain ⟨xs, f1, q2⟩ := onS_of (show onS (lstOf g1.μ a) fun xs => onS (lstOf g1.μ b) fun ys => onS (allStr xs) fun ss => (xs.length = ys.length ∧ Sz xs.length) ∧ FW.newDk m (putAll [] [] (ss.zip ys)).1 (putAll [] [] (ss.zip ys)).2 g1.μ Qd from q1)
      obtain ⟨ys, f2, q3⟩ := onS_of q2
      obtain ⟨ss, f3, ⟨hl, hz⟩, q4⟩ := onS_of q3
      obtain ⟨pa, va, rfl, hpa, ra⟩ := lst_view s1 rv f1
      obtain ⟨pb, vb, rfl, hpb, rb⟩ := lst_view s1 rv' f2
      rw [allStr_map f3] at ra hl
      rw [List.length_map] at hl
      rw [ra.strs] at hpa
      obtain ⟨z1, z2⟩ := zip_maps hl
      refine ⟨pa, pb, ss, vb, rfl, .inl (.inl hpa), .inl (.inl hpb), by rw [rb.length]; exact hl, fun l hl0 => ?_⟩
      obtain ⟨us, g1', g2', g3'⟩ := zK_merge (K := c.K) (g := g1) (H := H1) (ss.zip ys) vb (ks := []) (ds := []) (vs := []) rfl rfl (by rw [z2]; exact rb)
      rw [z1] at g1'
      rw [show mergeK [] (zK ss vb) = _ from g1']
      exact k1.newDk s1 g3' g2' q4 hl0
    | [], q1 => exact q1.elim
    | [_], q1 => exact q1.elim
    | _ :: _ :: _ :: _, q1 => exact q1.elim
end
end FW

set_option Elab.async false
set_option linter.all false
set_option maxRecDepth 100000
/-! DLz: the pairs of a zip as a list: list(zip(xs, ys)), sorted(zip(xs, ys)). -/
namespace FW
open PySem PySem.Spec PyProof.Rows L2

theorem zip_no_len : typeLookup (.type "zip") "__len__" = pure none := by rw [typeLookup_type, builtinLookup_eq_fast]; kernel_rfl
theorem zip_no_hint : typeLookup (.type "zip") "__length_hint__" = pure none := by rw [typeLookup_type, builtinLookup_eq_fast]; kernel_rfl

/-- the zip at z stands at pair i; S is another object -/
structure ZSt (h : Heap) (z TI TO i1 i2 l1 l2 S : Addr) (xs ys : Array Value) (i : Nat) : Prop where
  ti : IsPair h TI (.ref i1) (.ref i2)
  a1 : h.IsListIter i1 l1 i
  a2 : h.IsListIter i2 l2 i
  b1 : h.IsList l1 xs
  b2 : h.IsList l2 ys
  to_ : ∃ o, h.get? TO = some o
  hz : (IsZip h z TI TO .none ∧ ∃ a b, IsPair h TO a b) ∨ ∃ T f oT, IsZipHeld h z TI TO T f ∧ h.get? T = some oT ∧ T ≠ z ∧ T ≠ i1 ∧ T ≠ i2 ∧ T ≠ S
structure ZOff (z TI TO i1 i2 l1 l2 S : Addr) : Prop where
  z : S ≠ z
  TI : S ≠ TI
  TO : S ≠ TO
  i1 : S ≠ i1
  i2 : S ≠ i2
  l1 : S ≠ l1
  l2 : S ≠ l2
theorem ZSt.but {h h' : Heap} {z TI TO i1 i2 l1 l2 S : Addr} {xs ys : Array Value} {i : Nat} (O : ZOff z TI TO i1 i2 l1 l2 S) (st : ZSt h z TI TO i1 i2 l1 l2 S xs ys i) (hk : ∀ b o, b ≠ S → h.get? b = some o → h'.get? b = some o) : ZSt h' z TI TO i1 i2 l1 l2 S xs ys i where
  ti := hk _ _ (Ne.symm O.TI) st.ti
  a1 := st.a1.at fun o e => hk _ o (Ne.symm O.i1) e
  a2 := st.a2.at fun o e => hk _ o (Ne.symm O.i2) e
  b1 := st.b1.at fun o e => hk _ o (Ne.symm O.l1) e
  b2 := st.b2.at fun o e => hk _ o (Ne.symm O.l2) e
  to_ := let ⟨o, e⟩ := st.to_; ⟨o, hk _ o (Ne.symm O.TO) e⟩
  hz := by
    rcases st.hz with ⟨h1, a, b, h2⟩ | ⟨T, f, oT, h1, h2, r1, r2, r3, r4⟩
    · exact .inl ⟨hk _ _ (Ne.symm O.z) h1, a, b, hk _ _ (Ne.symm O.TO) h2⟩
    · exact .inr ⟨T, f, oT, hk _ _ (Ne.symm O.z) h1, hk _ _ r4 h2, r1, r2, r3, r4⟩
/-- the pairs that were taken -/
def ZAcc (h : Heap) (S : Addr) (ex : List Addr) (xs ys acc : Array Value) (i : Nat) : Prop := (acc.size = i ∧ acc.toList.Nodup) ∧ ∀ j, j < i → ∃ T x y, acc[j]? = some (.ref T) ∧ xs[j]? = some x ∧ ys[j]? = some y ∧ IsPair h T x y ∧ T ∉ ex ∧ S < T
theorem ZAcc.but {h h' : Heap} {S : Addr} {ex : List Addr} {xs ys acc : Array Value} {i : Nat} (a : ZAcc h S ex xs ys acc i) (hk : ∀ b o, b ∉ ex → h.get? b = some o → h'.get? b = some o) : ZAcc h' S ex xs ys acc i :=
  ⟨a.1, fun j hj => let ⟨T, x, y, h1, h2, h3, h4, h5⟩ := a.2 j hj; ⟨T, x, y, h1, h2, h3, hk _ _ h5.1 h4, h5⟩⟩
theorem ZAcc.push {h h0 : Heap} {S : Addr} {ex : List Addr} {xs ys acc : Array Value} {i : Nat} {T : Addr} {x y : Value} (a : ZAcc h S ex xs ys acc i) (a0 : ZAcc h0 S ex xs ys acc i) (hT0 : h0.get? T = none) (hx : xs[i]? = some x) (hy : ys[i]? = some y) (hT : IsPair h T x y) (hn : T ∉ ex) (hS : S < T) : ZAcc h S ex xs ys (acc.push (.ref T)) (i + 1) := by
  refine ⟨⟨by rw [Array.size_push, a.1.1], ?_⟩, fun j hj => ?_⟩
  · rw [Array.toList_push, List.nodup_append]
    refine ⟨a.1.2, by simp, fun v hv u hu => ?_⟩
    rw [List.mem_singleton] at hu
    subst hu
    intro e
    subst e
    obtain ⟨j, hj⟩ := List.mem_iff_getElem?.mp hv
    have hlt : j < i := by
      have := (List.getElem?_eq_some_iff.mp hj).1
      rw [Array.length_toList, a.1.1] at this
      exact this
    obtain ⟨T', x', y', h1, h2, h3, h4, h5⟩ := a0.2 j hlt
    rw [Array.getElem?_toList, h1] at hj
    cases hj
    rw [show h0.get? T = some _ from h4] at hT0
    cases hT0
  · by_cases e : j = i
    · subst e
      exact ⟨T, x, y, by rw [Array.getElem?_push, if_pos a.1.1.symm], hx, hy, hT, hn, hS⟩
    · obtain ⟨T', x', y', h1, h2, h3, h4, h5⟩ := a.2 j (by omega)
      exact ⟨T', x', y', by rw [Array.getElem?_push, if_neg (by rw [a.1.1]; exact e)]; exact h1, h2, h3, h4, h5⟩
section
variable {prog : Program} {w : World} {A : Around} {R : Result → Shared → Prop} {z TI TO i1 i2 l1 l2 S : Addr} {xs ys : Array Value}
theorem zip_loop (D : ZipApart z TI TO i1 i2 l1 l2) (O : ZOff z TI TO i1 i2 l1 l2 S) (hh : A.handled = none) (hl : xs.size = ys.size) (hn : xs.size ≤ sizeLine) (res : Value) :
    ∀ (k i : Nat) (s : Shared) (acc : Array Value) (c : Nat), xs.size - i = k → i ≤ xs.size → ZSt s.heap z TI TO i1 i2 l1 l2 S xs ys i → s.heap.get? S = some { cls := .type "list", dict := none, data := .seq acc c, slots := #[] } → ZAcc s.heap S [S, z, TO, i1, i2] xs ys acc i →
    (∀ h' acc' c', (∀ b o, b ∉ [S, z, TO, i1, i2] → s.heap.get? b = some o → h'.get? b = some o) → h'.get? S = some { cls := .type "list", dict := none, data := .seq acc' c', slots := #[] } → ZAcc h' S [S, z, TO, i1, i2] xs ys acc' xs.size → R (.ok (.ret res)) { s with heap := h' }) →
    codeAny (model prog w) A (.builtin "list.extend.loop" ⟨[.ref S, .ref z, res], []⟩) R s := by
  intro k
  induction k with
  | zero =>
    intro i s acc c hk hi st hS ha hR
    have hin : i = xs.size := by omega
    subst hin
    refine codeAny_builtin PySem.F.entry_extend_loop ?_
    rw [Around.under_plainId PySem.F.plain_extend_loop _]
    show wpAny _ A.in1 (pyNext (.ref z) >>= _) _ _ s
    refine wpAny_bind ?_
    have hend : xs[xs.size]? = none ∨ ys[xs.size]? = none := .inl (Array.getElem?_eq_none (Nat.le_refl _))
    rcases st.hz with ⟨h1, a, b, h2⟩ | ⟨T, f, oT, h1, h2, r1, r2, r3, r4⟩
    · refine wpAny_pyNext_zip_end hh D h1 st.ti h2 st.a1 st.a2 st.b1 st.b2 hend fun h' hk' => wpAny_pure (hR h' acc c (fun b o hb e => ?_) ?_ ?_)
      · simp only [List.mem_cons, List.not_mem_nil, or_false, not_or] at hb
        exact hk' b o hb.2.1 hb.2.2.1 hb.2.2.2.1 hb.2.2.2.2 e
      · exact hk' S _ O.z O.TO O.i1 O.i2 hS
      · exact ha.but fun b o hb e => by
          simp only [List.mem_cons, List.not_mem_nil, or_false, not_or] at hb
          exact hk' b o hb.2.1 hb.2.2.1 hb.2.2.2.1 hb.2.2.2.2 e
    · refine wpAny_pyNext_zip_end_held hh D h1 h2 st.ti st.a1 st.a2 st.b1 st.b2 hend fun h' hk' => wpAny_pure (hR h' acc c (fun b o hb e => ?_) ?_ ?_)
      · simp only [List.mem_cons, List.not_mem_nil, or_false, not_or] at hb
        exact hk' b o hb.2.1 hb.2.2.2.1 hb.2.2.2.2 e
      · exact hk' S _ O.z O.i1 O.i2 hS
      · exact ha.but fun b o hb e => by
          simp only [List.mem_cons, List.not_mem_nil, or_false, not_or] at hb
          exact hk' b o hb.2.1 hb.2.2.2.1 hb.2.2.2.2 e
  | succ k ih =>
    intro i s acc c hk hi st hS ha hR
    have hlt : i < xs.size := by omega
    have ex := Array.getElem?_eq_getElem hlt
    have ey := Array.getElem?_eq_getElem (xs := ys) (i := i) (by omega)
    have lt : ∀ {c o}, s.heap.get? c = some o → s.heap.objs.size ≠ c := fun e => Nat.ne_of_gt (Heap.lt_size e)
    have n1 : s.heap.objs.size ≠ i1 := let ⟨_, e, _⟩ := st.a1; lt e
    have n2 : s.heap.objs.size ≠ i2 := let ⟨_, e, _⟩ := st.a2; lt e
    have n3 : s.heap.objs.size ≠ S := lt hS
    -- what follows a step
    have step : ∀ h', (∀ b o, b ≠ z → b ≠ TO → b ≠ i1 → b ≠ i2 → s.heap.get? b = some o → h'.get? b = some o) → IsPair h' s.heap.objs.size xs[i] ys[i] → s.heap.objs.size ≠ z → s.heap.objs.size ≠ TO → ZSt h' z TI TO i1 i2 l1 l2 S xs ys (i + 1) →
        wpAny (model prog w) A.in1 (updateSeq S (·.push (.ref s.heap.objs.size)) >>= fun _ => again (.builtin "list.extend.loop" ⟨[.ref S, .ref z, res], []⟩)) (fun fin s' => match fin with | .done f => R (.ok f) s' | .again c' => c'.quiet = true ∧ codeAny (model prog w) A c' R s') (fun e s' => R (.error e) s') { s with heap := h' } := fun h' hk' hp nz nTO st' => by
      have hS' : h'.get? S = some { cls := .type "list", dict := none, data := .seq acc c, slots := #[] } := hk' S _ O.z O.TO O.i1 O.i2 hS
      have keep : ∀ b o, b ∉ [S, z, TO, i1, i2] → s.heap.get? b = some o → h'.get? b = some o := fun b o hb e => by
        simp only [List.mem_cons, List.not_mem_nil, or_false, not_or] at hb
        exact hk' b o hb.2.1 hb.2.2.1 hb.2.2.2.1 hb.2.2.2.2 e
      have oth : ∀ b o, b ≠ S → h'.get? b = some o → (h'.update S (Obj.mapSeq (·.push (.ref s.heap.objs.size)))).get? b = some o := fun b o hb e => (Heap.get?_update_other _ _ (Ne.symm hb)).trans e
      have nex : s.heap.objs.size ∉ [S, z, TO, i1, i2] := by
        simp only [List.mem_cons, List.not_mem_nil, or_false, not_or]
        exact ⟨n3, nz, nTO, n1, n2⟩
      refine wpAny_bind ?_
      refine wpAny_updateSeq hS' rfl (wpAny_pure ⟨plainId_quiet PySem.F.plain_extend_loop _, ih (i + 1) _ (acc.push (.ref s.heap.objs.size)) _ (by omega) hlt (st'.but O oth) (Heap.get?_update_self _ hS' rfl) ?_ fun h'' acc' c' hk'' hS'' ha'' => ?_⟩)
        (by rw [ha.1.1]; omega) (by show (acc.push _).size ≤ sizeLine + 1; rw [Array.size_push, ha.1.1]; omega)
      · exact ZAcc.but ((ha.but keep).push ha (Heap.get?_none_of_le (Nat.le_refl _)) ex ey hp nex (Heap.lt_size hS)) fun b o hb e => oth b o (fun q => hb (by rw [q]; exact List.mem_cons_self)) e
      · exact hR h'' acc' c' (fun b o hb e => hk'' b o hb (oth b o (fun q => hb (by rw [q]; exact List.mem_cons_self)) (keep b o hb e))) hS'' ha''
    refine codeAny_builtin PySem.F.entry_extend_loop ?_
    rw [Around.under_plainId PySem.F.plain_extend_loop _]
    show wpAny _ A.in1 (pyNext (.ref z) >>= _) _ _ s
    refine wpAny_bind ?_
    rcases st.hz with ⟨h1, a, b, h2⟩ | ⟨T, f, oT, h1, h2, r1, r2, r3, r4⟩
    · refine wpAny_pyNext_zip_item D h1 st.ti h2 st.a1 st.a2 st.b1 st.b2 ex ey fun h' a1 a2 a3 a4 a5 a6 hk' => ?_
      refine step h' hk' a5 (lt h1) (lt h2) ⟨hk' _ _ D.TIz D.TITO D.TIi1 D.TIi2 st.ti, a3, a4, st.b1.at fun o e => hk' _ o D.l1z D.l1TO D.l1i1 D.l1i2 e, st.b2.at fun o e => hk' _ o D.l2z D.l2TO D.l2i1 D.l2i2 e, ⟨_, a2⟩, .inr ⟨s.heap.objs.size, false, _, a1, a5, lt h1, n1, n2, n3⟩⟩
    · refine wpAny_pyNext_zip_item_held D h1 h2 st.ti st.a1 st.a2 st.b1 st.b2 ex ey fun h' a1 a3 a4 a5 a6 hk' => ?_
      obtain ⟨oTO, eTO⟩ := st.to_
      refine step h' (fun b o c1 _ c3 c4 e => hk' b o c1 c3 c4 e) a5 (lt h1) (lt eTO) ⟨hk' _ _ D.TIz D.TIi1 D.TIi2 st.ti, a3, a4, st.b1.at fun o e => hk' _ o D.l1z D.l1i1 D.l1i2 e, st.b2.at fun o e => hk' _ o D.l2z D.l2i1 D.l2i2 e, ⟨oTO, hk' _ _ D.TOz D.TOi1 D.TOi2 eTO⟩, .inr ⟨T, true, oT, a1, hk' _ _ r1 r2 r3 h2, r1, r2, r3, r4⟩⟩
variable {E : Value → Shared → Prop} {s : Shared}
/-- the list at S is made longer by the zip's pairs -/
theorem zip_extend (D : ZipApart z TI TO i1 i2 l1 l2) (O : ZOff z TI TO i1 i2 l1 l2 S) (hh : A.handled = none) (hl : xs.size = ys.size) (hn : xs.size ≤ sizeLine) (res : Value) (st : ZSt s.heap z TI TO i1 i2 l1 l2 S xs ys 0) (hz : IsZip s.heap z TI TO .none) (c₀ : Nat)
    (hS : s.heap.get? S = some { cls := .type "list", data := .seq #[] c₀ })
    (hR : ∀ h' acc' c', (∀ b o, b ∉ [S, z, TO, i1, i2] → s.heap.get? b = some o → h'.get? b = some o) → h'.get? S = some { cls := .type "list", dict := none, data := .seq acc' c', slots := #[] } → ZAcc h' S [S, z, TO, i1, i2] xs ys acc' xs.size → R (.ok (.ret res)) { s with heap := h' }) :
    wpAny (model prog w) A.in1 (Builtin.List.listExtendWith (.ref S) (.ref z) res)
      (fun fin s' => match fin with | .done f => R (.ok f) s' | .again c' => c'.quiet = true ∧ codeAny (model prog w) A c' R s') (fun e s' => R (.error e) s') s := by
  have hT : s.TypeIs (.ref z) "zip" := ⟨_, hz, rfl⟩
  unfold Builtin.List.listExtendWith
  refine wpAny_bind (wpAny_typeOf hT ?_)
  have h1 : Builtin.List.listSameRef (.ref S) (.ref z) = false := by simp [Builtin.List.listSameRef, O.z]
  have h2 : (Value.type "zip" == Value.type "list") = false := by decide
  have h3 : (Value.type "zip" == Value.type "tuple") = false := by decide
  simp only [h1, h2, h3, Bool.or_false, Bool.false_eq_true, if_false]
  refine wpAny_bind (wpAny_pyIter_zip hz ?_)
  refine wpAny_bind (wpAny_holding ?_)
  unfold Builtin.List.listLengthHint
  refine wpAny_bind (wpAny_specialOf hT zip_no_len ?_)
  show wpAny _ A.in1 (specialOf (Value.ref z) (Str.ofString "__length_hint__") >>= _) _ _ _
  refine wpAny_bind (wpAny_specialOf hT zip_no_hint ?_)
  refine wpAny_pure ?_
  show wpAny _ A.in1 (rule "list.extend.makes-room" >>= fun _ => Builtin.List.listTouch (.ref S) >>= fun _ =>
    again (.builtin "list.extend.loop" ⟨[.ref S, .ref z, res], []⟩)) _ _ _
  refine wpAny_bind (wpAny_rule ?_)
  refine wpAny_bind ?_
  show wpAny _ A.in1 (updateSeq S (·.push .none) >>= fun _ => updateSeq S (·.pop)) _ _ _
  refine wpAny_bind (wpAny_updateSeq hS rfl ?_)
  have hS₂ := Heap.get?_update_self (Obj.mapSeq (·.push Value.none)) hS rfl
  refine wpAny_updateSeq (hz := by seq_fits) hS₂ rfl ?_
  have hS₃ := Heap.get?_update_self (Obj.mapSeq (·.pop)) hS₂ rfl
  have oth : ∀ b o, b ≠ S → s.heap.get? b = some o → ((s.heap.update S (Obj.mapSeq (·.push Value.none))).update S (Obj.mapSeq (·.pop))).get? b = some o :=
    fun b o hb e => (Heap.get?_update_other _ _ (Ne.symm hb)).trans ((Heap.get?_update_other _ _ (Ne.symm hb)).trans e)
  refine wpAny_pure ⟨plainId_quiet PySem.F.plain_extend_loop _, zip_loop D O hh hl hn res (xs.size - 0) 0 _ #[] _ rfl (Nat.zero_le _) (st.but O oth) hS₃ ⟨⟨rfl, List.nodup_nil⟩, fun j hj => absurd hj (Nat.not_lt_zero _)⟩ fun h' acc' c' hk hS' ha => ?_⟩
  exact hR h' acc' c' (fun b o hb e => hk b o hb (oth b o (fun q => hb (by rw [q]; exact List.mem_cons_self)) e)) hS' ha
/-- the zip at z, new; S above all -/
def ZNew (h : Heap) (z TI TO i1 i2 l1 l2 : Addr) (xs ys : Array Value) : Prop :=
  IsZip h z TI TO .none ∧ IsPair h TI (.ref i1) (.ref i2) ∧ IsPair h TO .none .none ∧ h.IsListIter i1 l1 0 ∧ h.IsListIter i2 l2 0 ∧ h.IsList l1 xs ∧ h.IsList l2 ys
theorem ZNew.push {h : Heap} {z TI TO i1 i2 l1 l2 : Addr} {xs ys : Array Value} (n : ZNew h z TI TO i1 i2 l1 l2 xs ys) (o : Obj) : ZSt (h.push o) z TI TO i1 i2 l1 l2 h.objs.size xs ys 0 ∧ ZOff z TI TO i1 i2 l1 l2 h.objs.size ∧ IsZip (h.push o) z TI TO .none := by
  obtain ⟨hz, hTI, hTO, h1, h2, b1, b2⟩ := n
  have k : ∀ {b : Addr} {q : Obj}, h.get? b = some q → (h.push o).get? b = some q := fun e => Heap.get?_push_of_some _ e
  have lt : ∀ {c o}, h.get? c = some o → h.objs.size ≠ c := fun e => Nat.ne_of_gt (Heap.lt_size e)
  refine ⟨⟨k hTI, h1.at fun o e => k e, h2.at fun o e => k e, b1.at fun o e => k e, b2.at fun o e => k e, ⟨_, k hTO⟩, .inl ⟨k hz, _, _, k hTO⟩⟩, ⟨lt hz, lt hTI, lt hTO, ?_, ?_, ?_, ?_⟩, k hz⟩
  · obtain ⟨_, e, _⟩ := h1; exact lt e
  · obtain ⟨_, e, _⟩ := h2; exact lt e
  · obtain ⟨_, e, _⟩ := b1; exact lt e
  · obtain ⟨_, e, _⟩ := b2; exact lt e
/-- list(z) -/
theorem call_list_zip {Q : Value → Shared → Prop} (D : ZipApart z TI TO i1 i2 l1 l2) (hh : A.handled = none) (hl : xs.size = ys.size) (hn : xs.size ≤ sizeLine) (n : ZNew s.heap z TI TO i1 i2 l1 l2 xs ys)
    (hQ : ∀ h' acc' c', (∀ b o, b ∉ [z, TO, i1, i2] → s.heap.get? b = some o → h'.get? b = some o) → h'.get? s.heap.objs.size = some { cls := .type "list", dict := none, data := .seq acc' c', slots := #[] } → ZAcc h' s.heap.objs.size [s.heap.objs.size, z, TO, i1, i2] xs ys acc' xs.size → Q (.ref s.heap.objs.size) { s with heap := h' }) :
    wpAny (model prog w) A (call (.type "list") [.ref z]) Q E s := by
  refine callType_codes (Q₁ := fun obj s₁ => obj = .ref s.heap.objs.size ∧ s₁ = { s with heap := s.heap.push { cls := .type "list", data := .seq #[] } }) PySem.F.called_list (PySem.F.typeCall_list_1 _) PySem.F.entry_list_init
    (code_list_new _ ⟨rfl, rfl⟩) fun obj s₁ h₁ => ?_
  obtain ⟨rfl, rfl⟩ := h₁
  have hS : (s.heap.push { cls := .type "list", data := .seq #[] }).get? s.heap.objs.size = some { cls := .type "list", data := .seq #[] } := Heap.get?_push_size _ rfl
  obtain ⟨st, O, hz⟩ := n.push { cls := .type "list", data := .seq #[] }
  refine ⟨⟨_, hS, rfl⟩, PySem.F.args_list_init_2 _ _, ?_⟩
  show wpAny _ _ (do let old ← Builtin.List.listItems (.ref s.heap.objs.size); Builtin.List.listUpdate (.ref s.heap.objs.size) (fun _ => #[]); letGo old.toList.reverse; Builtin.List.listExtendWith (.ref s.heap.objs.size) (.ref z) .none) _ _ _
  refine wpAny_bind ?_
  unfold Builtin.List.listItems
  refine wpAny_bind (wpAny_seqItems hS rfl (wpAny_pure ?_))
  show wpAny _ _ (updateSeq s.heap.objs.size (fun _ => #[]) >>= fun _ => letGo (#[] : Array Value).toList.reverse >>= fun _ => Builtin.List.listExtendWith (.ref s.heap.objs.size) (.ref z) .none) _ _ _
  refine wpAny_bind (wpAny_updateSeq hS rfl ?_)
  obtain ⟨c₁, hS₂⟩ : ∃ c₁, ((s.heap.push { cls := .type "list", data := .seq #[] }).update s.heap.objs.size (Obj.mapSeq (fun _ => (#[] : Array Value)))).get? s.heap.objs.size = some { cls := .type "list", data := .seq #[] c₁ } := ⟨_, Heap.get?_update_self (Obj.mapSeq (fun _ => (#[] : Array Value))) hS rfl⟩
  have oth : ∀ b o, b ≠ s.heap.objs.size → (s.heap.push { cls := .type "list", data := .seq #[] }).get? b = some o → ((s.heap.push { cls := .type "list", data := .seq #[] }).update s.heap.objs.size (Obj.mapSeq (fun _ => (#[] : Array Value)))).get? b = some o :=
    fun b o hb e => (Heap.get?_update_other _ _ (Ne.symm hb)).trans e
  refine wpAny_bind (wpAny_letGo ?_)
  refine zip_extend (A := A.in1) (R := wants (fun r s₂ => r = Value.none ∧ Q (Value.ref s.heap.objs.size) s₂) E) (s := { s with heap := (s.heap.push { cls := .type "list", data := .seq #[] }).update s.heap.objs.size (Obj.mapSeq (fun _ => (#[] : Array Value))) }) D O hh hl hn .none (st.but O oth) (oth _ _ (Ne.symm O.z) hz) c₁ hS₂ fun h' acc' c' hk hS' ha => ⟨rfl, hQ h' acc' c' (fun b o hb e => ?_) hS' ha⟩
  have hne : b ≠ s.heap.objs.size := Nat.ne_of_lt (Heap.lt_size e)
  exact hk b o (by simp only [List.mem_cons, List.not_mem_nil, or_false, not_or] at hb ⊢; exact ⟨hne, hb⟩) (oth b o hne (Heap.get?_push_of_some _ e))
/-- collect(z) -/
theorem collect_zip {Q : List Value → Shared → Prop} (D : ZipApart z TI TO i1 i2 l1 l2) (hh : A.handled = none) (hl : xs.size = ys.size) (hn : xs.size ≤ sizeLine) (n : ZNew s.heap z TI TO i1 i2 l1 l2 xs ys)
    (h : ∀ (h' : Heap) (acc : Array Value), (∀ b o, b ∉ [z, TO, i1, i2] → s.heap.get? b = some o → h'.get? b = some o) → ZAcc h' s.heap.objs.size [s.heap.objs.size, z, TO, i1, i2] xs ys acc xs.size → s.heap.objs.size < h'.objs.size → Q acc.toList { s with heap := h' }) :
    wpAny (model prog w) A (collect (.ref z)) Q E s := by
  unfold collect
  refine wpAny_bind (wpAny_runValue (codeAny_builtin PyProof.Rows.entry_proto_collect' ?_))
  rw [Around.under_plainId PySem.F.plain_proto_collect _]
  show wpAny _ A.in1 (newList [] >>= fun l => again (.builtin "list.__iadd__" ⟨[l, .ref z], []⟩)) _ _ s
  refine wpAny_bind (wpAny_newObj_type ?_)
  refine wpAny_pure ⟨plainId_quiet PySem.F.plain_list_iadd _, codeAny_builtin PyProof.Rows.entry_list_iadd' ?_⟩
  rw [Around.under_plainId PySem.F.plain_list_iadd _]
  have hS₁ : (s.heap.push { cls := .type "list", data := .seq ([] : List Value).toArray }).get? s.heap.objs.size = some { cls := .type "list", data := .seq #[] } := Heap.get?_push_size _ rfl
  obtain ⟨st, O, hz⟩ := n.push { cls := .type "list", data := .seq ([] : List Value).toArray }
  show wpAny _ A.in1 (Builtin.List.listExtendWith (.ref s.heap.objs.size) (.ref z) (.ref s.heap.objs.size)) _ _ _
  have key := zip_extend (prog := prog) (w := w) (A := A) (s := { s with heap := s.heap.push { cls := .type "list", data := .seq ([] : List Value).toArray } })
    (R := fun (q : Result) (s' : Shared) => ∃ (h' : Heap) (acc' : Array Value) (c' : Nat), q = .ok (.ret (.ref s.heap.objs.size)) ∧ s' = { s with heap := h' } ∧
      (∀ b o, b ∉ [z, TO, i1, i2] → s.heap.get? b = some o → h'.get? b = some o) ∧ h'.get? s.heap.objs.size = some { cls := .type "list", dict := none, data := .seq acc' c', slots := #[] } ∧ ZAcc h' s.heap.objs.size [s.heap.objs.size, z, TO, i1, i2] xs ys acc' xs.size)
    D O hh hl hn (.ref s.heap.objs.size) st hz 0 hS₁ fun h' acc' c' hk hS' ha => ⟨h', acc', c', rfl, rfl, fun b o hb e => by
      have hne : b ≠ s.heap.objs.size := Nat.ne_of_lt (Heap.lt_size e)
      exact hk b o (by simp only [List.mem_cons, List.not_mem_nil, or_false, not_or] at hb ⊢; exact ⟨hne, hb⟩) (Heap.get?_push_of_some _ e), hS', ha⟩
  refine wpAny_mono key (fun fin s' x => ?_) fun e s' x => ?_
  · cases fin with
    | done f =>
      obtain ⟨h', acc', c', e, rfl, hk, hS', ha⟩ := x
      cases e
      show wpAny _ A (load s.heap.objs.size >>= _) _ _ _
      refine wpAny_bind (wpAny_load hS' ?_)
      exact wpAny_pure (h h' acc' hk ha (Heap.lt_size hS'))
    | again c₁ =>
      refine ⟨x.1, codeAny_mono x.2 fun q s₂ y => ?_⟩
      obtain ⟨h', acc', c', rfl, rfl, hk, hS', ha⟩ := y
      show wpAny _ A (load s.heap.objs.size >>= _) _ _ _
      refine wpAny_bind (wpAny_load hS' ?_)
      exact wpAny_pure (h h' acc' hk ha (Heap.lt_size hS'))
  · obtain ⟨_, _, _, e', _⟩ := x
    cases e'
end
/-! ### tracked -/
def layT : Hp → List Addr → List V → List V → Hp
  | H, p :: ps, x :: xs, y :: ys => layT (upd H p (.tup [x, y])) ps xs ys
  | H, _, _, _ => H
theorem layT_ne {b : Addr} : ∀ (ps : List Addr) (xs ys : List V) (H : Hp), b ∉ ps → layT H ps xs ys b = H b
  | [], _, _, _, _ => rfl
  | _ :: _, [], _, _, _ => rfl
  | _ :: _, _ :: _, [], _, _ => rfl
  | p :: ps, x :: xs, y :: ys, H, h => by
    simp only [List.mem_cons, not_or] at h
    show layT (upd H p (.tup [x, y])) ps xs ys b = H b
    rw [layT_ne ps xs ys _ h.2, upd_ne h.1]
theorem layT_at : ∀ (ps : List Addr) (xs ys : List V) (H : Hp) (j : Nat) (p : Addr) (x y : V), ps.Nodup → ps[j]? = some p → xs[j]? = some x → ys[j]? = some y → layT H ps xs ys p = some (.tup [x, y])
  | [], _, _, _, _, _, _, _, _, e, _, _ => by simp at e
  | _ :: _, [], _, _, _, _, _, _, _, _, e, _ => by simp at e
  | _ :: _, _ :: _, [], _, _, _, _, _, _, _, _, e => by simp at e
  | q :: ps, u :: xs, v :: ys, H, 0, p, x, y, n, e1, e2, e3 => by
    cases e1; cases e2; cases e3
    show layT (upd H q (.tup [u, v])) ps xs ys q = _
    rw [layT_ne ps xs ys _ (List.nodup_cons.mp n).1, upd_same]
  | q :: ps, u :: xs, v :: ys, H, j + 1, p, x, y, n, e1, e2, e3 => layT_at ps xs ys _ j p x y (List.nodup_cons.mp n).2 (by simpa using e1) (by simpa using e2) (by simpa using e3)
section
variable {X : Cx} {pins : List (Addr × Obj)} {σ : L2.St} {H H' : Hp} {s : Shared} {h' : Heap}
/-- many objects laid and tracked at once -/
theorem Inv.lays {t' : Nat} (I : Inv X pins σ H s) (k : ∀ b u, s.heap.get? b = some u → h'.get? b = some u) (lo : ∀ b, b < s.heap.objs.size → H' b = H b) (new : ∀ a o, s.heap.objs.size ≤ a → H' a = some o → ObjOk X.prog X.w H' h' a o) : Inv X pins σ H' { s with heap := h', toks := t' } := by
  have old : ∀ b u, H b = some u → H' b = some u := fun b u q => by rw [lo b (I.hok.lt q)]; exact q
  refine I.un ⟨fun b u q _ _ _ => k b u q, fun b u q _ _ _ => ⟨u.slots, k b u q⟩, fun b u q n _ => by rw [lo b (Heap.lt_size q)]; exact n, fun b u q _ => ⟨u, k b u q⟩, fun b xs q => old b _ q, fun b u xs q => old b _ q, fun b ps q => ⟨#[], by rw [old b _ q]; simp⟩⟩ fun a o e => ?_
  rcases Nat.lt_or_ge a s.heap.objs.size with ha | ha
  · rw [lo a ha] at e
    exact (I.hok a o e).stay (fun c v _ q => k c v q) (fun c q => old c _ q) fun c xs q => old c _ q
  · exact new a o ha e
/-- the zip of two lists, taken whole, and the list of its pairs -/
theorem zip_tracked {lo : Addr} {ex : List Addr} {its its2 acc : Array Value} {xs ys : List V} (I : Inv X pins σ H s) (r1 : Vals xs its.toList) (r2 : Vals ys its2.toList) (hl : xs.length = ys.length) (ha : ZAcc h' lo ex its its2 acc its.size) (hlo : s.heap.objs.size ≤ lo) :
    ∃ as : List Addr, as.length = xs.length ∧ as.Nodup ∧ (∀ p ∈ as, lo < p) ∧ acc.toList = as.map Value.ref ∧ ∀ b, b ∈ as → ∃ x y, layT H as xs ys b = some (.tup [x, y]) ∧ ObjOk X.prog X.w (layT H as xs ys) h' b (.tup [x, y]) := by
  let ad : Value → Addr := fun v => match v with
    | .ref a => a
    | _ => 0
  have isz : its.size = xs.length := by rw [← Array.length_toList, ← r1.length]
  have h1 : acc.toList = (acc.toList.map ad).map Value.ref := by
    rw [List.map_map]
    refine List.ext_getElem? fun j => ?_
    rw [List.getElem?_map]
    cases e : acc.toList[j]? with
    | none => rfl
    | some v =>
      have hj : j < its.size := by
        have := (List.getElem?_eq_some_iff.mp e).1
        rw [Array.length_toList, ha.1.1] at this
        exact this
      obtain ⟨T, x, y, q1, _⟩ := ha.2 j hj
      rw [Array.getElem?_toList, q1] at e
      cases e
      rfl
  have nd : (acc.toList.map ad).Nodup := by
    have n := ha.1.2
    rw [h1] at n
    exact (List.pairwise_map.mp n).imp fun {a b} h e => h (by rw [e])
  have get : ∀ j p, (acc.toList.map ad)[j]? = some p → ∃ x y, acc[j]? = some (Value.ref p) ∧ its[j]? = some x ∧ its2[j]? = some y ∧ IsPair h' p x y ∧ lo < p := fun j p e => by
    rw [List.getElem?_map, Array.getElem?_toList] at e
    obtain ⟨v, e1, e2⟩ := Option.map_eq_some_iff.mp e
    have hj : j < its.size := by
      have := (Array.getElem?_eq_some_iff.mp e1).1
      rw [ha.1.1] at this
      exact this
    obtain ⟨T, x, y, q1, q2, q3, q4, _, q5⟩ := ha.2 j hj
    rw [q1] at e1
    cases e1
    cases e2
    exact ⟨x, y, q1, q2, q3, q4, q5⟩
  refine ⟨acc.toList.map ad, by rw [List.length_map, Array.length_toList, ha.1.1, isz], nd, fun p hp => ?_, h1, fun b hb => ?_⟩
  · obtain ⟨j, e⟩ := List.mem_iff_getElem?.mp hp
    obtain ⟨_, _, _, _, _, _, q⟩ := get j p e
    exact q
  · obtain ⟨j, e⟩ := List.mem_iff_getElem?.mp hb
    obtain ⟨x, y, q1, q2, q3, q4, q5⟩ := get j b e
    have hj : j < xs.length := by rw [← isz]; exact (Array.getElem?_eq_some_iff.mp q2).1
    have ex := List.getElem?_eq_getElem hj
    have ey := List.getElem?_eq_getElem (l := ys) (i := j) (by omega)
    obtain ⟨u, f1, f2⟩ := r1.get ex
    obtain ⟨v, f3, f4⟩ := r2.get ey
    rw [Array.getElem?_toList, q2] at f1
    rw [Array.getElem?_toList, q3] at f3
    cases f1
    cases f3
    exact ⟨_, _, layT_at _ xs ys H j b _ _ nd e ex ey, by show 2 ≤ sizeLine; decide, [x, y], .cons f2 (.cons f4 .nil), ⟨_, q4, rfl, 0, rfl⟩⟩
end
/-! ### list(zip(xs, ys)) -/
def tLZ (K : PySem.W.Frag) (ta : TA) : TE := fun σ H Q => ta σ H fun vs H1 => ∃ (a b : Addr) (xs ys : List V), vs = [.ref a, .ref b] ∧ SqL K H1 a xs ∧ SqL K H1 b ys ∧ xs.length = ys.length ∧
  ∀ (as : List Addr) (l : Addr), as.length = xs.length → as.Nodup → (∀ p ∈ as, H1 p = none) → H1 l = none → l ∉ as → Q (.ref l) (upd (layT H1 as xs ys) l (.lst (as.map V.ref)))
theorem refs_vals : ∀ as : List Addr, Vals (as.map V.ref) (as.map Value.ref)
  | [] => .nil
  | a :: as => .cons rfl (refs_vals as)
theorem pe_listZip {X : Cx} {x z : Str} {e e2 : Expr} {ta : TA} {p p2 q pos : Pos} (hc : X.calm = true) (hg : Gl X x) (hm : X.mg x = none) (hv : bootBuiltins x = some (.type "list")) (hn : x ≠ "__name__") (hdb : (x == ("__debug__" : Str)) = false)
    (hgz : Gl X z) (hmz : X.mg z = none) (hvz : bootBuiltins z = some (.type "zip")) (hnz : z ≠ "__name__") (hdbz : (z == ("__debug__" : Str)) = false) (ha : PA X [e, e2] ta)
    (hs : starEach [e, e2] X.env = (false, eval e X.env) :: starEach [e2] X.env) (hpl : (backTo q (starEach [e2] X.env)).any (·.1) = false) :
    PE X (.Call (.Name x p) [.Call (.Name z p2) [e, e2] [] q] [] pos) (tLZ X.K ta) := by
  refine ⟨fun pins s σ H Q I h => ?_⟩
  refine Call_ (ld_blt I hg hm hv ?_ hn hdb)
  refine PyProof.Rows.callWith_type1 (PyProof.Rows.args_cons ?_ rfl) rfl rfl
  refine Call_ (ld_blt I hgz hmz hvz ?_ hnz hdbz)
  refine PyProof.Rows.callWith_type1 (thn (ha.run q pins s σ H _ I h) fun us s1 ⟨vs, H1, I1, r1, q1⟩ => ?_) hs hpl
  obtain ⟨a, b, xs, ys, rfl, hqx, hqy, hl, q1⟩ := q1
  obtain ⟨u1, u2, rfl, rx, ry⟩ := vals2 r1
  cases rx
  cases ry
  obtain ⟨its, rv, p1, hz1⟩ := I1.list hqx
  obtain ⟨its2, rv2, p2, hz2⟩ := I1.list hqy
  refine call_zip_2 p1.isList p2.isList fun h' hz hTI hTO h1 h2 hsz hk => PyProof.Rows.args_nil ?_
  have l1 : its.toArray.size = xs.length := by rw [List.size_toArray, ← rv.length]
  have l2 : its2.toArray.size = ys.length := by rw [List.size_toArray, ← rv2.length]
  have hlt : ∀ {b' : Addr} {o : Obj}, s1.heap.get? b' = some o → b' ∉ [s1.heap.objs.size + 4, s1.heap.objs.size + 3, s1.heap.objs.size, s1.heap.objs.size + 1] := fun {b' o} e hm => by
    have hlt : b' < s1.heap.objs.size := Heap.lt_size e
    simp only [List.mem_cons, List.not_mem_nil, or_false] at hm
    rcases hm with q | q | q | q <;> (rw [q] at hlt; first | exact Nat.lt_irrefl _ hlt | exact absurd (Nat.lt_of_le_of_lt (Nat.le_add_right _ _) hlt) (Nat.lt_irrefl _))
  refine call_list_zip (PySem.W.ktu_apart s1.heap.objs.size a b p1.lt p2.lt) (I1.ok.hd hc) (by rw [l1, l2]; exact hl) (by rw [l1]; exact hz1) ⟨hz, hTI, hTO, h1, h2, p1.isList.at fun o e => hk _ o e, p2.isList.at fun o e => hk _ o e⟩ fun h3 acc c' hk3 hS ha => ?_
  have kk : ∀ b' o, s1.heap.get? b' = some o → h3.get? b' = some o := fun b' o e => hk3 b' o (hlt e) (hk b' o e)
  have hle : s1.heap.objs.size ≤ h'.objs.size := by omega
  obtain ⟨as, e1, e2, e3, e4, e5⟩ := zip_tracked I1 (by simpa using rv) (by simpa using rv2) hl ha hle
  have hne : h'.objs.size ∉ as := fun hm => Nat.lt_irrefl _ (e3 _ hm)
  have fr : ∀ p ∈ as, s1.heap.objs.size ≤ p := fun p hp => Nat.le_trans hle (Nat.le_of_lt (e3 p hp))
  refine ⟨.ref h'.objs.size, upd (layT H1 as xs ys) h'.objs.size (.lst (as.map V.ref)), FW.Inv.lays (s := s1) (h' := h3) (t' := s1.toks) I1 kk (fun b' hb => ?_) (fun b' o hb eo => ?_), rfl, q1 as _ e1 e2 (fun p hp => I1.hok.fresh (fr p hp)) (I1.hok.fresh hle) hne⟩
  · rw [upd_ne (Nat.ne_of_lt (Nat.lt_of_lt_of_le hb hle)), layT_ne _ _ _ _ fun hm => Nat.lt_irrefl _ (Nat.lt_of_lt_of_le hb (fr b' hm))]
  · by_cases hb' : b' = h'.objs.size
    · subst hb'
      rw [upd_same] at eo
      cases eo
      exact ⟨by rw [List.length_map, e1]; exact hz1, as.map Value.ref, c', refs_vals as, by rw [← e4, Array.toArray_toList]; exact hS⟩
    · rw [upd_ne hb'] at eo
      by_cases hm : b' ∈ as
      · obtain ⟨x, y, f1, f2⟩ := e5 b' hm
        rw [f1] at eo
        cases eo
        exact f2
      · rw [layT_ne _ _ _ _ hm, I1.hok.fresh hb] at eo
        cases eo
/-! ### sorted(zip(xs, ys)) -/
section
variable {h : Heap}
mutual
theorem reads_there : ∀ {v : Value} {d : PyData} {as : List Addr}, Reads h v d as → ∀ x ∈ as, ∃ o, h.get? x = some o
  | _, _, _, .none, x, hx => nomatch hx
  | _, _, _, .bool _, x, hx => nomatch hx
  | _, _, _, .int _ _, x, hx => nomatch hx
  | _, _, _, .str _ _, x, hx => nomatch hx
  | _, _, _, .list e _ _ r, x, hx => by
    rcases List.mem_cons.mp hx with rfl | hx
    · exact ⟨_, e⟩
    · exact readsAll_there r x hx
  | _, _, _, .tuple e _ _ r, x, hx => readsAll_there r x hx
  | _, _, _, .dict e _ _ r1 r2, x, hx => by
    rcases List.mem_append.mp hx with hx | hx
    · rcases List.mem_cons.mp hx with rfl | hx
      · exact ⟨_, e⟩
      · exact readsAll_there r1 x hx
    · exact readsAll_there r2 x hx
theorem readsAll_there : ∀ {vs : List Value} {ds : List PyData} {as : List Addr}, ReadsAll h vs ds as → ∀ x ∈ as, ∃ o, h.get? x = some o
  | _, _, _, .nil, x, hx => nomatch hx
  | _, _, _, .cons r t, x, hx => by
    rcases List.mem_append.mp hx with hx | hx
    · exact reads_there r x hx
    · exact readsAll_there t x hx
end
end
theorem sortable_ok {ds : List D} (h : sortable ds) : PySem.W.AllAlike (ds.map D.py) ∧ PySem.W.Sortable (ds.map D.py) := by
  obtain ⟨h1, h2, h3, h4, h5⟩ := h
  refine ⟨?_, ?_⟩
  · intro a ha b hb
    obtain ⟨a', ha', rfl⟩ := List.mem_map.mp ha
    obtain ⟨b', hb', rfl⟩ := List.mem_map.mp hb
    exact h2 a' ha' b' hb'
  · rcases h4 with h4 | h4 | h4
    · refine .inl fun d hd => ?_
      obtain ⟨d', hd', rfl⟩ := List.mem_map.mp hd
      obtain ⟨y, r, rfl⟩ := h4 d' hd'
      exact ⟨y.py, pyA r, rfl⟩
    · refine .inr fun d hd => ?_
      obtain ⟨d', hd', rfl⟩ := List.mem_map.mp hd
      obtain ⟨x, rfl⟩ := h4 d' hd'
      exact ⟨fun z => (by cases z), fun xs z => (by cases z)⟩
    · refine .inr fun d hd => ?_
      obtain ⟨d', hd', rfl⟩ := List.mem_map.mp hd
      obtain ⟨x, rfl⟩ := h4 d' hd'
      exact ⟨fun z => (by cases z), fun xs z => (by cases z)⟩
def tSZ (K : PySem.W.Frag) (ta : TA) : TE := fun σ H Q => ta σ H fun vs H1 => ∃ (a b : Addr) (xs ys : List V) (R : Hp → V → D → Prop) (ds : List D), vs = [.ref a, .ref b] ∧ SqL K H1 a xs ∧ SqL K H1 b ys ∧ xs.length = ys.length ∧ sortable ds ∧
  (∀ as : List Addr, as.length = xs.length → as.Nodup → (∀ p ∈ as, H1 p = none) → PySem.W.EachIs (R (layT H1 as xs ys)) (as.map V.ref) ds ∧ ∀ v d, R (layT H1 as xs ys) v d → d.pl = true → Dp K (layT H1 as xs ys) v d.py) ∧
  ∀ (as : List Addr) (l : Addr) (out : List V), as.length = xs.length → as.Nodup → (∀ p ∈ as, H1 p = none) → H1 l = none → l ∉ as → PySem.W.EachIs (R (layT H1 as xs ys)) out (sortD ds) → Q (.ref l) (upd (layT H1 as xs ys) l (.lst out))
theorem pe_sortedZip {X : Cx} {k : Nat} {x z : Str} {e e2 : Expr} {ta : TA} {p p2 q pos : Pos} (hc : X.calm = true) (hr : Room k X.A) (hg : Gl X x) (hm : X.mg x = none) (hv : bootBuiltins x = some (.builtin "sorted")) (hn : x ≠ "__name__") (hdb : (x == ("__debug__" : Str)) = false)
    (hgz : Gl X z) (hmz : X.mg z = none) (hvz : bootBuiltins z = some (.type "zip")) (hnz : z ≠ "__name__") (hdbz : (z == ("__debug__" : Str)) = false) (ha : PA X [e, e2] ta)
    (hs : starEach [e, e2] X.env = (false, eval e X.env) :: starEach [e2] X.env) (hpl : (backTo q (starEach [e2] X.env)).any (·.1) = false) :
    PE X (.Call (.Name x p) [.Call (.Name z p2) [e, e2] [] q] [] pos) (tSZ X.K ta) := by
  refine ⟨fun pins s σ H Q I h => ?_⟩
  refine Call_ (ld_blt I hg hm hv ?_ hn hdb)
  refine PyProof.Rows.callWith_builtin1 (PyProof.Rows.args_cons ?_ rfl) rfl rfl
  refine Call_ (ld_blt I hgz hmz hvz ?_ hnz hdbz)
  refine PyProof.Rows.callWith_type1 (thn (ha.run q pins s σ H _ I h) fun us s1 ⟨vs, H1, I1, r1, q1⟩ => ?_) hs hpl
  obtain ⟨a, b, xs, ys, R, ds, rfl, hqx, hqy, hl, hst, hR, q1⟩ := q1
  obtain ⟨u1, u2, rfl, rx, ry⟩ := vals2 r1
  cases rx
  cases ry
  obtain ⟨its, rv, p1, hz1⟩ := I1.list hqx
  obtain ⟨its2, rv2, p2, hz2⟩ := I1.list hqy
  refine call_zip_2 p1.isList p2.isList fun h' hz hTI hTO h1 h2 hsz hk => PyProof.Rows.args_nil ?_
  have l1 : its.toArray.size = xs.length := by rw [List.size_toArray, ← rv.length]
  have l2 : its2.toArray.size = ys.length := by rw [List.size_toArray, ← rv2.length]
  have hlt : ∀ {b' : Addr} {o : Obj}, s1.heap.get? b' = some o → b' ∉ [s1.heap.objs.size + 4, s1.heap.objs.size + 3, s1.heap.objs.size, s1.heap.objs.size + 1] := fun {b' o} e hm => by
    have hlt : b' < s1.heap.objs.size := Heap.lt_size e
    simp only [List.mem_cons, List.not_mem_nil, or_false] at hm
    rcases hm with q | q | q | q <;> (rw [q] at hlt; first | exact Nat.lt_irrefl _ hlt | exact absurd (Nat.lt_of_le_of_lt (Nat.le_add_right _ _) hlt) (Nat.lt_irrefl _))
  refine Calls.call_function_entry PyProof.Rows.kind_sorted PyProof.Rows.plain_sorted PyProof.Rows.entry_sorted (PyProof.Rows.args_sorted1 _) ?_
  unfold Builtin.«sorted»
  refine wpAny_bind (m := checkCount "sorted" 1 1 _) (wpAny_pure ?_)
  refine wpAny_bind (collect_zip (A := X.A.in1) (PySem.W.ktu_apart s1.heap.objs.size a b p1.lt p2.lt) (I1.ok.hd hc) (by rw [l1, l2]; exact hl) (by rw [l1]; exact hz1) ⟨hz, hTI, hTO, h1, h2, p1.isList.at fun o e => hk _ o e, p2.isList.at fun o e => hk _ o e⟩ fun h3 acc hk3 ha hlt3 => ?_)
  have kk : ∀ b' o, s1.heap.get? b' = some o → h3.get? b' = some o := fun b' o e => hk3 b' o (hlt e) (hk b' o e)
  have hle : s1.heap.objs.size ≤ h'.objs.size := by omega
  obtain ⟨as, e1, e2, e3, e4, e5⟩ := zip_tracked I1 (by simpa using rv) (by simpa using rv2) hl ha hle
  have fr : ∀ p ∈ as, s1.heap.objs.size ≤ p := fun p hp => Nat.le_trans hle (Nat.le_of_lt (e3 p hp))
  have fr' : ∀ p ∈ as, H1 p = none := fun p hp => I1.hok.fresh (fr p hp)
  -- the tuples tracked
  have I3 : Inv X pins σ (layT H1 as xs ys) { s1 with heap := h3 } := FW.Inv.lays (s := s1) (h' := h3) (t' := s1.toks) I1 kk (fun b' hb => layT_ne _ _ _ _ fun hm => Nat.lt_irrefl _ (Nat.lt_of_lt_of_le hb (fr b' hm))) (fun b' o hb eo => by
    by_cases hm : b' ∈ as
    · obtain ⟨x, y, f1, f2⟩ := e5 b' hm
      rw [f1] at eo
      cases eo
      exact f2
    · rw [layT_ne _ _ _ _ hm, I1.hok.fresh hb] at eo
      cases eo)
  obtain ⟨g1, g2⟩ := hR as e1 e2 fr'
  rw [e4]
  have hal : (as.map Value.ref).length ≤ sizeLine := by rw [List.length_map, e1]; exact hz1
  refine wpAny_bind (wpAny_newList ?_ (by simpa using hal))
  have hoL : (h3.push (seqObj "list" (as.map Value.ref).toArray 0)).get? h3.objs.size = some (seqObj "list" (as.map Value.ref).toArray 0) := Heap.get?_push_size _ rfl
  show wpAny _ _ _ _ _ { s1 with heap := h3.push (seqObj "list" (as.map Value.ref).toArray 0) }
  have ev := each_vals (refs_vals as) g1
  have hsl : ds.length = as.length := by have := g1.length; rw [List.length_map] at this; exact this.symm
  obtain ⟨ho1, ho2⟩ := sortable_ok hst
  refine wpAny_bind (wpAny_holding (PySem.W.list_sort_data (R := fun u d => ∃ v, RelV v u ∧ R (layT H1 as xs ys) v d ∧ d ∈ ds) (enc := D.py) hoL ev (ev.mono fun u d ⟨v, f1, f2, f3⟩ => ?er) ho1 ho2 hst.2.2.2.2.line (fun d hd => ?hu) fun out hl2 e6 => ?fin))
  case er =>
    obtain ⟨as', rd⟩ := Dp.reads I3 d.py v u (g2 v d f2 (plA_mem hst.1 d f3)) f1
    refine ⟨as', PyProof.Rows.Reads.keeps (fun b o e => Heap.get?_push_of_some _ e) rd, fun hm => ?_⟩
    obtain ⟨o, eo⟩ := reads_there rd _ hm
    exact Nat.lt_irrefl _ (Heap.lt_size eo)
  case hu =>
    have z1 : d.py.depth ≤ 40 := hst.2.2.1 d hd
    have := hr.un
    show X.A.units + 1 + 1 + _ < _
    omega
  case fin =>
    obtain ⟨ys', h6, h7⟩ := each_back e6
    obtain ⟨c', hc'⟩ := PyProof.Rows.sortedHeap_at (vs := as.map Value.ref) (out := List.toArray out) hoL
    have hne : h3.objs.size ∉ as := fun hm => by
      obtain ⟨x, y, f1, _⟩ := e5 _ hm
      exact Nat.lt_irrefl _ (I3.hok.lt f1)
    have hl3 : s1.heap.objs.size ≤ h3.objs.size := Nat.le_trans hle (Nat.le_of_lt hlt3)
    refine wpAny_pure ⟨_, rfl, .ref h3.objs.size, upd (layT H1 as xs ys) h3.objs.size (.lst ys'), I3.laid (t' := s1.toks) (fun b u e => ?_) (Nat.le_refl _)
      (show ObjOk X.prog X.w _ _ _ (.lst ys') from ⟨by rw [h6.length, hl2]; exact hst.2.2.2.2.line, out, c', h6, hc'⟩), rfl, q1 as _ ys' e1 e2 fr' (I1.hok.fresh hl3) hne h7⟩
    have hb : b < h3.objs.size := Heap.lt_size e
    rw [PyProof.Rows.sortedHeap_old (Nat.ne_of_lt hb) (by rw [PyProof.Rows.size_push']; exact Nat.lt_succ_of_lt hb)]
    exact Heap.get?_push_of_some _ e
end FW

set_option Elab.async false
set_option linter.all false
set_option maxRecDepth 100000
/-! DLzs: list(zip(..)), sorted(zip(..)) over data. -/
namespace FW
open PySem PySem.Spec PyProof.Rows L2
section
variable {c : Cn} {Φ : Str → FS} {K : PySem.W.Frag} {g : Gs}
theorem lay_ext : ∀ (as : List Addr) (xs ys : List V) (H : Hp), as.Nodup → (∀ p ∈ as, H p = none) → StOk K g H → Ext g H g (layT H as xs ys) ∧ StOk K g (layT H as xs ys)
  | [], _, _, H, _, _, s => ⟨Ext.refl _ _, s⟩
  | _ :: _, [], _, H, _, _, s => ⟨Ext.refl _ _, s⟩
  | _ :: _, _ :: _, [], H, _, _, s => ⟨Ext.refl _ _, s⟩
  | p :: ps, x :: xs, y :: ys, H, n, h, s => by
    obtain ⟨n1, n2⟩ := List.nodup_cons.mp n
    have hp := h p List.mem_cons_self
    obtain ⟨e, s'⟩ := lay_ext ps xs ys (upd H p (.tup [x, y])) n2 (fun q hq => by rw [upd_ne (fun z : q = p => n1 (by rw [← z]; exact hq))]; exact h q (List.mem_cons_of_mem _ hq)) (s.frozen hp)
    exact ⟨(Ext.frozen hp).trans e, s'⟩
theorem lay_rep : ∀ (as : List Addr) (xs ys : List V) (ds es : List D) (H : Hp), as.Nodup → (∀ p ∈ as, H p = none) → StOk K g H → RepA K g H ds xs → RepA K g H es ys → xs.length = ys.length → as.length = xs.length → RepA K g (layT H as xs ys) (zipD ds es) (as.map V.ref)
  | [], [], [], ds, es, H, _, _, s, r1, r2, _, _ => by
    have : ds = [] := List.eq_nil_of_length_eq_zero r1.length.symm
    subst this
    rfl
  | [], _ :: _, _, _, _, _, _, _, _, _, _, _, hl => by simp at hl
  | [], [], _ :: _, _, _, _, _, _, _, _, _, hl, _ => by simp at hl
  | _ :: _, [], _, _, _, _, _, _, _, _, _, _, hl => by simp at hl
  | _ :: _, _ :: _, [], _, _, _, _, _, _, _, _, hl, _ => by simp at hl
  | p :: ps, x :: xs, y :: ys, [], es, H, n, h, s, r1, r2, hl, hl2 => by cases r1
  | p :: ps, x :: xs, y :: ys, _ :: _, [], H, n, h, s, r1, r2, hl, hl2 => by cases r2
  | p :: ps, x :: xs, y :: ys, d :: ds, e :: es, H, n, h, s, ⟨v, r, q1, q2, q3⟩, ⟨v', r', q1', q2', q3'⟩, hl, hl2 => by
    cases q1
    cases q1'
    obtain ⟨n1, n2⟩ := List.nodup_cons.mp n
    have hp := h p List.mem_cons_self
    have hf : ∀ q ∈ ps, upd H p (HO.tup [x, y]) q = none := fun q hq => by rw [upd_ne (fun z : q = p => n1 (by rw [← z]; exact hq))]; exact h q (List.mem_cons_of_mem _ hq)
    have s1 := s.frozen (o := .tup [x, y]) hp
    have e1 : Ext g H g (upd H p (HO.tup [x, y])) := Ext.frozen hp
    obtain ⟨e2, s2⟩ := lay_ext ps xs ys (upd H p (.tup [x, y])) n2 hf s1
    refine ⟨.ref p, ps.map V.ref, rfl, ?_, lay_rep ps xs ys ds es _ n2 hf s1 (RepA.mono e1 _ _ q3) (RepA.mono e1 _ _ q3') (by simpa using hl) (by simpa using hl2)⟩
    refine Rep.mono e2 _ _ ⟨p, [x, y], rfl, .inl ⟨upd_same, s.notLive hp⟩, x, [y], rfl, Rep.mono e1 _ _ q2, y, [], rfl, Rep.mono e1 _ _ q2', rfl⟩
theorem se_listZip {x z : Str} {m : Bool} {e e2 : Expr} {as : IEs} {p p2 q pos : Pos} (ok : c.Ok Φ) (hx : x ∈ c.t.frees) (hg : c.t.sc.names.lookup x = some .globalImplicit) (hv : bootBuiltins x = some (.type "list")) (hn : x ≠ "__name__") (hdb : (x == ("__debug__" : Str)) = false)
    (hz : z ∈ c.t.frees) (hgz : c.t.sc.names.lookup z = some .globalImplicit) (hvz : bootBuiltins z = some (.type "zip")) (hnz : z ≠ "__name__") (hdbz : (z == ("__debug__" : Str)) = false) (ha : SA c [e, e2] (wEs Φ as))
    (hs : ∀ env, starEach [e, e2] env = (false, eval e env) :: starEach [e2] env) (hpl : ∀ env, (backTo q (starEach [e2] env)).any (·.1) = false) :
    SE c (.Call (.Name x p) [.Call (.Name z p2) [e, e2] [] q] [] pos) (wE Φ (.bi .listZip m as)) := by
  obtain ⟨t, ht, hw⟩ := ha
  refine ⟨fun W => tLZ c.K (t W), fun X W h => ?_, fun W σ H g env Q Qd Ed r s w k kx => ?_⟩
  · rw [← h.K]
    exact pe_listZip h.calm (show X.env.kindOf x = _ from by unfold Env.kindOf; rw [h.sc]; exact hg) (by rw [h.mg]; exact ok.frees x hx) hv hn hdb (show X.env.kindOf z = _ from by unfold Env.kindOf; rw [h.sc]; exact hgz) (by rw [h.mg]; exact ok.frees z hz) hvz hnz hdbz (ht X W h) (hs _) (hpl _)
  · refine hw W σ H g env _ _ Ed r s (show wEs Φ as env g.μ (fun ds μ1 => biW .listZip m ds μ1 Qd) Ed from w) (fun ds vs g1 H1 l1 e1 s1 r1 q1 => ?_) kx
    have k1 := k.mono e1
    match ds, q1 with
    | [a, b], q1 =>
      obtain ⟨v, v', rfl, rv, rv'⟩ := rep2 r1
      obtain ⟨xs, f1, q2⟩ := onS_of (show onS (lstOf g1.μ a) fun xs => onS (lstOf g1.μ b) fun ys => (xs.length = ys.length ∧ Sz xs.length) ∧ newL m (zipD xs ys) g1.μ Qd from q1)
      obtain ⟨ys, f2, ⟨hl, hz⟩, q3⟩ := onS_of q2
      obtain ⟨pa, va, rfl, hpa, ra⟩ := lst_view s1 rv f1
      obtain ⟨pb, vb, rfl, hpb, rb⟩ := lst_view s1 rv' f2
      have hl' : va.length = vb.length := by rw [ra.length, rb.length]; exact hl
      refine ⟨pa, pb, va, vb, rfl, .inl (.inl hpa), .inl (.inl hpb), hl', fun as l h1 h2 h3 h4 h5 => ?_⟩
      obtain ⟨e2, s2⟩ := lay_ext (K := c.K) (g := g1) as va vb H1 h2 h3 s1
      exact (k1.mono e2).new s2 (lay_rep as va vb xs ys H1 h2 h3 s1 ra rb hl' h1) q3 (by rw [layT_ne _ _ _ _ h5]; exact h4)
    | [], q1 => exact q1.elim
    | [_], q1 => exact q1.elim
    | _ :: _ :: _ :: _, q1 => exact q1.elim
theorem se_sortedZip {x z : Str} {m : Bool} {e e2 : Expr} {as : IEs} {p p2 q pos : Pos} (ok : c.Ok Φ) (hx : x ∈ c.t.frees) (hg : c.t.sc.names.lookup x = some .globalImplicit) (hv : bootBuiltins x = some (.builtin "sorted")) (hn : x ≠ "__name__") (hdb : (x == ("__debug__" : Str)) = false)
    (hz : z ∈ c.t.frees) (hgz : c.t.sc.names.lookup z = some .globalImplicit) (hvz : bootBuiltins z = some (.type "zip")) (hnz : z ≠ "__name__") (hdbz : (z == ("__debug__" : Str)) = false) (ha : SA c [e, e2] (wEs Φ as))
    (hs : ∀ env, starEach [e, e2] env = (false, eval e env) :: starEach [e2] env) (hpl : ∀ env, (backTo q (starEach [e2] env)).any (·.1) = false) :
    SE c (.Call (.Name x p) [.Call (.Name z p2) [e, e2] [] q] [] pos) (wE Φ (.bi .sortedZip m as)) := by
  obtain ⟨t, ht, hw⟩ := ha
  refine ⟨fun W => tSZ c.K (t W), fun X W h => ?_, fun W σ H g env Q Qd Ed r s w k kx => ?_⟩
  · rw [← h.K]
    exact pe_sortedZip h.calm h.room (show X.env.kindOf x = _ from by unfold Env.kindOf; rw [h.sc]; exact hg) (by rw [h.mg]; exact ok.frees x hx) hv hn hdb (show X.env.kindOf z = _ from by unfold Env.kindOf; rw [h.sc]; exact hgz) (by rw [h.mg]; exact ok.frees z hz) hvz hnz hdbz (ht X W h) (hs _) (hpl _)
  · refine hw W σ H g env _ _ Ed r s (show wEs Φ as env g.μ (fun ds μ1 => biW .sortedZip m ds μ1 Qd) Ed from w) (fun ds vs g1 H1 l1 e1 s1 r1 q1 => ?_) kx
    have k1 := k.mono e1
    match ds, q1 with
    | [a, b], q1 =>
      obtain ⟨v, v', rfl, rv, rv'⟩ := rep2 r1
      obtain ⟨xs, f1, q2⟩ := onS_of (show onS (lstOf g1.μ a) fun xs => onS (lstOf g1.μ b) fun ys => (xs.length = ys.length ∧ sortable (zipD xs ys)) ∧ newL m (sortD (zipD xs ys)) g1.μ Qd from q1)
      obtain ⟨ys, f2, ⟨hl, hz⟩, q3⟩ := onS_of q2
      obtain ⟨pa, va, rfl, hpa, ra⟩ := lst_view s1 rv f1
      obtain ⟨pb, vb, rfl, hpb, rb⟩ := lst_view s1 rv' f2
      have hl' : va.length = vb.length := by rw [ra.length, rb.length]; exact hl
      refine ⟨pa, pb, va, vb, fun H2 v d => Rep c.K g1 H2 d v, zipD xs ys, rfl, .inl (.inl hpa), .inl (.inl hpb), hl', hz, fun as h1 h2 h3 => ⟨(lay_rep as va vb xs ys H1 h2 h3 s1 ra rb hl' h1).each, fun v d r hp => Rep.dp d v hp r⟩, fun as l out h1 h2 h3 h4 h5 h6 => ?_⟩
      obtain ⟨e2, s2⟩ := lay_ext (K := c.K) (g := g1) as va vb H1 h2 h3 s1
      exact (k1.mono e2).new s2 (RepA.ofEach h6) q3 (by rw [layT_ne _ _ _ _ h5]; exact h4)
    | [], q1 => exact q1.elim
    | [_], q1 => exact q1.elim
    | _ :: _ :: _ :: _, q1 => exact q1.elim
end
end FW

set_option Elab.async false
set_option linter.all false
set_option maxRecDepth 100000
/-! DLs: len(set(xs)) of texts. -/
namespace FW
open PySem PySem.Spec PyProof.Rows L2
theorem dedupS_succ {xs : List Str} {i : Nat} {x : Str} (h : xs[i]? = some x) : dedupS (xs.take (i + 1)) = ddStep (dedupS (xs.take i)) x := by
  unfold dedupS
  rw [List.take_add_one, h, List.foldl_append]
  rfl
theorem dedupS_le : ∀ (i : Nat) (xs : List Str), (dedupS (xs.take i)).length ≤ i
  | 0, xs => by simp [dedupS]
  | i + 1, xs => by
    have ih := dedupS_le i xs
    cases e : xs[i]? with
    | none =>
      have : xs.length ≤ i := List.getElem?_eq_none_iff.mp e
      rw [List.take_of_length_le (by omega)]
      rw [List.take_of_length_le this] at ih
      omega
    | some x =>
      rw [dedupS_succ e]
      unfold ddStep
      split
      · omega
      · rw [List.length_append, List.length_singleton]; omega
section
variable {prog : Program} {w : World} {A : Around} {R : Result → Shared → Prop} {I : Addr} {fp wr : List Addr} {G : Array GenState → Array GenState → Prop} {n : Nat} {P : Nat → Value → Prop} {St : Nat → Shared → Prop}
theorem loopStrs (W : WalksS prog w A.in1 I fp wr G n P St) (S : Addr) (hSf : S ∉ fp) (xs : List Str) (hsz : xs.length = n) (hval : ∀ i v, P i v → ∃ t, v = .str (xs.getD i Str.empty) t) (hb : n + 1 < scanBound) :
    ∀ (k i : Nat) (s : Shared), n - i = k → i ≤ n → St i s →
      s.heap.SetOf (PySem.strKind prog w) S (fun k' => decide (k' ∈ dedupS (xs.take i))) (dedupS (xs.take i)).length →
      (∀ s', Moved (S :: wr) G s s' → s'.heap.SetOf (PySem.strKind prog w) S (fun k' => decide (k' ∈ dedupS xs)) (dedupS xs).length → R (.ok (.ret .none)) s') →
      codeAny (model prog w) A (.builtin "set.update.loop" ⟨[.ref S, .ref I], []⟩) R s := by
  have hSw : S ∉ wr := fun h => hSf (W.sub _ h)
  have hsub : ∀ b ∈ wr, b ∈ S :: wr := fun b hb => List.mem_cons_of_mem _ hb
  intro k
  induction k with
  | zero =>
    intro i s hk hi hst hS hR
    have hin : i = n := by omega
    subst hin
    refine codeAny_builtin PyProof.Rows.F.entry_set_update_loop ?_
    rw [Around.under_plainId PyProof.Rows.F.plain_set_update_loop _]
    show wpAny _ A.in1 (pyNext (.ref I) >>= _) _ _ s
    refine wpAny_bind (W.done s _ _ hst fun s' hm => ?_)
    show wpAny _ A.in1 (ret Value.none) _ _ s'
    rw [← hsz, List.take_length] at hS
    exact wpAny_pure (hR s' (hm.mono hsub) (by
      obtain ⟨o, es, ep, t, ho, rest⟩ := hS
      exact ⟨o, es, ep, t, hm.heap S _ hSw ho, rest⟩))
  | succ k ih =>
    intro i s hk hi hst hS hR
    have hlt : i < n := by omega
    refine codeAny_builtin PyProof.Rows.F.entry_set_update_loop ?_
    rw [Around.under_plainId PyProof.Rows.F.plain_set_update_loop _]
    show wpAny _ A.in1 (pyNext (.ref I) >>= _) _ _ s
    refine wpAny_bind (W.item i s _ _ hlt hst fun v s' hP hst' hm => ?_)
    obtain ⟨t, rfl⟩ := hval i v hP
    have hx : xs[i]? = some (xs.getD i Str.empty) := by rw [List.getD_eq_getElem?_getD, List.getElem?_eq_getElem (by omega)]; rfl
    have hS' : s'.heap.SetOf (PySem.strKind prog w) S (fun k' => decide (k' ∈ dedupS (xs.take i))) (dedupS (xs.take i)).length := by
      obtain ⟨o, es, ep, tb, ho, rest⟩ := hS
      exact ⟨o, es, ep, tb, hm.heap S _ hSw ho, rest⟩
    show wpAny _ A.in1 (holding [Value.str (xs.getD i Str.empty) t] (setAdd S (.str (xs.getD i Str.empty) t)) >>= _) _ _ s'
    refine wpAny_bind (wpAny_holding ?_)
    unfold setAdd
    refine wpAny_holding ?_
    refine wpAny_bind ((PySem.strKind prog w).pyHash (k := xs.getD i Str.empty) (strKind_is _ _ _ _) ?_)
    have hroom : (dedupS (xs.take i)).length + 1 < scanBound := by have := dedupS_le i xs; omega
    refine wpAny_setAddHashed_of (knd := PySem.strKind prog w) (s := { s' with toks := s'.toks + 1 }) (strKind_is _ _ _ _) rfl hS' hroom fun h' hsb hS2 => ?_
    have hSi : h'.SetOf (PySem.strKind prog w) S (fun k' => decide (k' ∈ dedupS (xs.take (i + 1)))) (dedupS (xs.take (i + 1))).length := by
      refine SetOf_congr hS2 (fun k' => ?_) ?_
      · rw [dedupS_succ hx]
        unfold ddStep
        by_cases h : xs.getD i Str.empty ∈ dedupS (xs.take i)
        · rw [if_pos h]
          by_cases e : k' = xs.getD i Str.empty
          · rw [e, decide_eq_true h]; rfl
          · rw [decide_eq_false e, Bool.or_false]
        · rw [if_neg h]
          simp [List.mem_append, Bool.decide_or]
      · rw [dedupS_succ hx]
        unfold ddStep
        by_cases h : xs.getD i Str.empty ∈ dedupS (xs.take i)
        · rw [if_pos h, if_pos (decide_eq_true h)]
        · rw [if_neg h, if_neg (by simpa using h), List.length_append]
          rfl
    refine wpAny_pure ⟨plainId_quiet PyProof.Rows.F.plain_set_update_loop _, ih (i + 1) _ (by omega) hlt (W.frame _ s' _ _ hst' (Nat.le_succ _) fun b hb o e => ?_) hSi fun s'' hm'' hS'' => ?_⟩
    · rw [hsb.2 b (fun h : b = S => hSf (by rw [← h]; exact hb))]; exact e
    · refine hR s'' (Moved.trans W.gtrans ((hm.mono hsub).then_heap (Nat.le_succ _) fun b o hb e => ?_) hm'') hS''
      rw [hsb.2 b (fun h : b = S => hb (by rw [h]; exact List.mem_cons_self))]; exact e
end
section
variable {prog : Program} {w : World} {A : Around} {E : Value → Shared → Prop} {s : Shared}
/-- the new set, before its loop -/
abbrev newSet (led : Bool) : Obj := { cls := .type "set", dict := none, data := .set #[] 0 (.fresh 0 0 led) }
abbrev listIt (l : Addr) : Obj := { cls := .type "list_iterator", data := .fields #[.ref l, .int 0 0] }
set_option maxHeartbeats 3200000 in
/-- set(xs) of a list: what the loop over its items ends with -/
theorem call_set_by {l : Addr} {items : Array Value} {Q : Value → Shared → Prop} {Pst : Heap → Prop} (hl : s.heap.IsList l items)
    (loop : ∀ (led : Bool) (R : Result → Shared → Prop), (∀ h' tk, Pst h' → R (.ok (.ret .none)) { s with heap := h', toks := tk }) →
      codeAny (model prog w) A.in1.in1 (.builtin "set.update.loop" ⟨[.ref s.heap.objs.size, .ref (s.heap.push (newSet led)).objs.size], []⟩) R { s with heap := (s.heap.push (newSet led)).push (listIt l) })
    (h : ∀ h' tk, Pst h' → Q (.ref s.heap.objs.size) { s with heap := h', toks := tk }) : wpAny (model prog w) A (call (.type "set") [.ref l]) Q E s := by
  obtain ⟨c, tl, hmro⟩ := PySem.F.called_set.mro
  have hmade := PySem.F.called_set.made
  have hsub := PySem.F.called_set.sub
  have h1 := PySem.F.called_set.notType
  have h2 := PySem.F.called_set.canCreate
  have hct := PySem.F.typeCall_set_1 (.ref l)
  refine wpAny_call (codeAny_of_tree ?_)
  show wpAny _ _ (callAny (.type "set") _) _ _ _
  refine wpAny_pure ⟨Code.quiet_builtin _ (by decide +kernel), codeAny_builtin PySem.F.entry_type_call ?_⟩
  rw [Around.under_plain (weight_type_call_type "set" [.ref l] []) rfl]
  repeat (any_goals (first | assumption | wp_step))
  refine codeAny_mono (code_set_new_1 (.ref l) (E := E) (Q₁ := fun obj s₁ => ∃ led : Bool, obj = .ref s.heap.objs.size ∧ s₁ = { s with heap := s.heap.push (newSet led) }) fun led => ⟨led, rfl, rfl⟩) fun r s₁ hr => ?_
  match r, hr with
  | .error _, hr => exact hr
  | .ok (.ret obj), ⟨led, e1, e2⟩ =>
    subst e1 e2
    have hS : (s.heap.push (newSet led)).get? s.heap.objs.size = some (newSet led) := Heap.get?_push_size _ rfl
    have hT : Shared.TypeIs { s with heap := s.heap.push (newSet led) } (.ref s.heap.objs.size) "set" := ⟨_, hS, rfl⟩
    have hli := PySem.F.called_set.init.lookup
    have hbi := PySem.F.called_set.init.bind (.ref s.heap.objs.size)
    repeat (any_goals (first | assumption | wp_step))
    refine codeAny_mono (codeAny_call_builtin (R := wants (fun r s₂ => r = .none ∧ ∃ h' tk, s₂ = { s with heap := h', toks := tk } ∧ Pst h') E) PySem.F.called_set.init.plain PySem.F.entry_set_init (check_set_init_1 hT ?_)) fun r₂ s₂ hr₂ => ?_
    · obtain ⟨ol, hol, hcl, nl, hdl⟩ := id hl
      obtain ⟨ocls, odict, odata, oslots⟩ := ol
      simp only at hcl hdl
      subst hcl hdl
      have hol' : (s.heap.push (newSet led)).get? l = some { cls := .type "list", dict := odict, data := .seq items nl, slots := oslots } := Heap.get?_push_of_some _ hol
      have hl1 : (s.heap.push (newSet led)).IsList l items := ⟨_, hol', rfl, nl, rfl⟩
      have hsls := PySem.F.sub_list_set
      have hslf := PySem.F.sub_list_frozenset
      have hne : (Value.type "list" == Value.type "dict") = false := by decide
      unfold Builtin.«set.__init__» noKeywords Builtin.Frozenset.updateFrom
      generalize hPI : pyIter = PI
      wp_walk
      subst hPI
      refine wpAny_pyIter_list hl1 (wpAny_bind (wpAny_runValue (loop led _ fun h' tk hp => ?_)))
      show wpAny _ _ _ _ _ _
      refine wpAny_pure ?_
      show wpAny _ _ (ret Value.none) _ _ _
      exact wpAny_pure ⟨rfl, h', tk, rfl, hp⟩
    · match r₂, hr₂ with
      | .error _, hr₂ => exact hr₂
      | .ok (.ret r), hr₂ =>
        obtain ⟨rfl, h', tk, rfl, hp⟩ := hr₂
        repeat (any_goals (first | assumption | wp_step))
        exact h _ _ hp
/-- set(xs), xs a list of texts -/
theorem call_set_strs {l : Addr} {items : Array Value} {ns : List Str} {Q : Value → Shared → Prop} (hh : A.handled = none) (hl : s.heap.IsList l items) (hi : PyProof.Rows.StrsAre items.toList ns) (hb : items.size + 1 < scanBound)
    (h : ∀ (h' : Heap) (tk : Nat), h'.SetOf (PySem.strKind prog w) s.heap.objs.size (fun k' => decide (k' ∈ dedupS ns)) (dedupS ns).length → (∀ b o, b < s.heap.objs.size → s.heap.get? b = some o → h'.get? b = some o) → Q (.ref s.heap.objs.size) { s with heap := h', toks := tk }) :
    wpAny (model prog w) A (call (.type "set") [.ref l]) Q E s := by
  refine call_set_by hl (Pst := fun h' => h'.SetOf (PySem.strKind prog w) s.heap.objs.size (fun k' => decide (k' ∈ dedupS ns)) (dedupS ns).length ∧ ∀ b o, b < s.heap.objs.size → s.heap.get? b = some o → h'.get? b = some o) (fun led R hR => ?_) fun h' tk hp => h h' tk hp.1 hp.2
  obtain ⟨ol, hol, _⟩ := id hl
  have hlS : l < s.heap.objs.size := Heap.lt_size hol
  have hI : (s.heap.push (newSet led)).objs.size = s.heap.objs.size + 1 := Heap.size_push ..
  have hl1 : (s.heap.push (newSet led)).IsList l items := hl.push _
  have hneI : l ≠ (s.heap.push (newSet led)).objs.size := by rw [hI]; exact Nat.ne_of_lt (Nat.lt_succ_of_lt hlS)
  have hSf : s.heap.objs.size ∉ [(s.heap.push (newSet led)).objs.size, l] := by
    rw [hI]
    simp only [List.mem_cons, List.not_mem_nil, or_false, not_or]
    exact ⟨Nat.ne_of_lt (Nat.lt_succ_self _), Nat.ne_of_gt hlS⟩
  have hsz : ns.length = items.size := by rw [← StrsAre.len_eq hi, Array.length_toList]
  have hval : ∀ (i : Nat) (v : Value), items[i]? = some v → ∃ t, v = .str (ns.getD i Str.empty) t := fun i v hv => SS.strs_at hi i v (by rw [Array.getElem?_toList]; exact hv)
  have hS : ((s.heap.push (newSet led)).push (listIt l)).get? s.heap.objs.size = some (newSet led) := Heap.get?_push_of_some _ (Heap.get?_push_size _ rfl)
  refine loopStrs ((Walks.list (A := A.in1.in1.in1) (by simp [hh]) _ l hneI items).toS) s.heap.objs.size hSf ns hsz hval hb (items.size - 0) 0 _ (by omega) (Nat.zero_le _) ⟨⟨_, Heap.get?_push_size _ rfl, rfl, rfl⟩, hl1.push _⟩
    (SetOf_congr ((setObjOf_fresh (knd := PySem.strKind prog w) led).setOf hS (by unfold scanBound; omega)) (fun _ => rfl) rfl) fun s' hm hS' => ?_
  obtain ⟨h', g', d', tk', os'⟩ := s'
  have eg : g' = s.gens := hm.gens
  have ed : d' = s.drawn := hm.drawn
  have eo : os' = s.os := hm.os
  subst eg ed eo
  refine hR h' tk' ⟨hS', fun b o hb e => hm.heap b o ?_ (Heap.get?_push_of_some _ (Heap.get?_push_of_some _ e))⟩
  rw [hI]
  simp only [List.mem_cons, List.not_mem_nil, or_false, not_or]
  exact ⟨Nat.ne_of_lt hb, Nat.ne_of_lt (Nat.lt_succ_of_lt hb)⟩
end
def tLenSetA (K : PySem.W.Frag) (ta : TE) : TE := fun σ H Q => ta σ H fun x H1 => ∃ (l : Addr) (xs : List Str), x = .ref l ∧ SqL K H1 l (xs.map V.str) ∧ xs.length ≤ 1000 ∧ Q (.int (dedupS xs).length) H1
theorem pe_lenSetA {X : Cx} {x z : Str} {a : Expr} {ta : TE} {p p2 q pos : Pos} (hc : X.calm = true) (hg : Gl X x) (hm : X.mg x = none) (hv : bootBuiltins x = some (.builtin "len")) (hn : x ≠ "__name__") (hdb : (x == ("__debug__" : Str)) = false)
    (hgz : Gl X z) (hmz : X.mg z = none) (hvz : bootBuiltins z = some (.type "set")) (hnz : z ≠ "__name__") (hdbz : (z == ("__debug__" : Str)) = false) (ha : PE X a ta)
    (na : starEach [a] X.env = (false, eval a X.env) :: starEach [] X.env) : PE X (.Call (.Name x p) [.Call (.Name z p2) [a] [] q] [] pos) (tLenSetA X.K ta) := by
  refine ⟨fun pins s σ H Q I h => ?_⟩
  refine Call_ (ld_blt I hg hm hv ?_ hn hdb)
  refine PyProof.Rows.callWith_builtin1 (PyProof.Rows.args_cons ?_ rfl) rfl rfl
  refine Call_ (ld_blt I hgz hmz hvz ?_ hnz hdbz)
  refine PyProof.Rows.callWith_type1 (PyProof.Rows.args_cons (thn (ha.run pins s σ H _ I h) fun v s1 ⟨x, H1, I1, r1, q1⟩ => PyProof.Rows.args_nil ?_) na) na rfl
  obtain ⟨l, xs, rfl, hq, hl, q1⟩ := q1
  cases r1
  obtain ⟨its, r, pl, hz⟩ := I1.list hq
  have hlen : its.toArray.size = xs.length := by rw [List.size_toArray, ← r.length, List.length_map]
  refine call_set_strs (I1.ok.hd hc) pl.isList (by simpa using strsAre_of r) (by rw [hlen]; unfold scanBound; omega) fun h' tk hS hk => ?_
  refine PyProof.Rows.args_nil ?_
  obtain ⟨o, es, ep, t, ho, hex, hd, _, _, _, hf, hn⟩ := hS
  have I2 : Inv X pins σ H1 { s1 with heap := h', toks := tk } := I1.kept fun b o e => hk b o (Heap.lt_size e) e
  have hle : (dedupS xs).length ≤ 1000 := by have := dedupS_le xs.length xs; rw [List.take_length] at this; omega
  exact call_len_set ho hex hd hf (by rw [hn] <;> omega) ⟨.int (dedupS xs).length, H1, I2.tok _, ⟨_, by rw [hn]⟩, q1⟩
section
variable {c : Cn} {Φ : Str → FS}
theorem se_lenSet {x z : Str} {m : Bool} {a : Expr} {e : IE} {p p2 q pos : Pos} (ok : c.Ok Φ) (hx : x ∈ c.t.frees) (hg : c.t.sc.names.lookup x = some .globalImplicit) (hv : bootBuiltins x = some (.builtin "len")) (hn : x ≠ "__name__") (hdb : (x == ("__debug__" : Str)) = false)
    (hz : z ∈ c.t.frees) (hgz : c.t.sc.names.lookup z = some .globalImplicit) (hvz : bootBuiltins z = some (.type "set")) (hnz : z ≠ "__name__") (hdbz : (z == ("__debug__" : Str)) = false) (ha : SE c a (wE Φ e))
    (na : ∀ env, starEach [a] env = (false, eval a env) :: starEach [] env) :
    SE c (.Call (.Name x p) [.Call (.Name z p2) [a] [] q] [] pos) (wE Φ (.bi .lenSet m (.cons e .nil))) := by
  obtain ⟨t, ht, hw⟩ := ha
  refine ⟨fun W => tLenSetA c.K (t W), fun X W h => ?_, fun W σ H g env Q Qd Ed r s w k kx => ?_⟩
  · rw [← h.K]
    exact pe_lenSetA h.calm (show X.env.kindOf x = _ from by unfold Env.kindOf; rw [h.sc]; exact hg) (by rw [h.mg]; exact ok.frees x hx) hv hn hdb (show X.env.kindOf z = _ from by unfold Env.kindOf; rw [h.sc]; exact hgz) (by rw [h.mg]; exact ok.frees z hz) hvz hnz hdbz (ht X W h) (na _)
  · refine hw W σ H g env _ _ Ed r s (show wE Φ e env g.μ (fun d μ1 => onS (lstOf μ1 d) fun ys => onS (allStr ys) fun ss => ss.length ≤ 1000 ∧ Qd (.int (dedupS ss).length) μ1) Ed from w) (fun d v g1 H1 e1 s1 r1 q1 => ?_) kx
    obtain ⟨ys, f1, q2⟩ := onS_of q1
    obtain ⟨ss, f2, hl, q3⟩ := onS_of q2
    obtain ⟨pa, va, rfl, hpa, ra⟩ := lst_view s1 r1 f1
    rw [allStr_map f2] at ra
    rw [ra.strs] at hpa
    exact ⟨pa, ss, rfl, .inl (.inl hpa), hl, (k.mono e1).here s1 (d := .int _) rfl q3⟩
end
end FW

set_option Elab.async false
set_option linter.all false
set_option maxRecDepth 100000
/-! DLd: sorted(d) of a dict with keys of tuples of texts. -/
namespace FW
open PySem PySem.Spec PyProof.Rows L2
def rSortDT (K : PySem.W.Frag) : List V → Hp → VK → Prop := fun xs H Q => ∃ (d : Addr) (kvs : List (List Key × V)), xs = [.ref d] ∧ H d = some (.dT kvs) ∧ ∀ bs : List Addr, IsKeys H kvs bs → ∃ (R : V → D → Prop) (ds : List D), PySem.W.EachIs R (bs.map V.ref) ds ∧ (∀ v d, R v d → d.pl = true → Dp K H v d.py) ∧ sortable ds ∧
  ∀ l ys, H l = none → PySem.W.EachIs R ys (sortD ds) → Q (.ref l) (upd H l (.lst ys))
theorem cr_sortDT {X : Cx} {n : Nat} (hcm : X.calm = true) (hr : Room n X.A) : CallR X (.builtin "sorted") (rSortDT X.K) := by
  intro pins s σ H xs us Q I r h
  obtain ⟨d, kvs, rfl, hd, hq⟩ := h
  obtain ⟨u, rfl, ru⟩ := vals1 r
  obtain rfl : u = Value.ref d := ru
  obtain ⟨z, hs, ks, pr, o, es, ep, ho, hx, hdt, he, hn⟩ := (show ObjOk X.prog X.w H s.heap d (.dT kvs) from I.hok d _ hd)
  have l1 : es.size = ks.length := size_of_entries he
  have l2 : kvs.length = ks.length := Paired.length pr
  refine Calls.call_function_entry PyProof.Rows.kind_sorted PyProof.Rows.plain_sorted PyProof.Rows.entry_sorted (PyProof.Rows.args_sorted1 _) ?_
  unfold Builtin.«sorted»
  refine wpAny_bind (m := checkCount "sorted" 1 1 _) (wpAny_pure ?_)
  refine wpAny_bind (PySem.W.kdu_collect (A := X.A.in1) (kdl_raw hs hx hdt) (I.ok.hd hcm) ho (by omega) fun h' tk acc kp it => ?_)
  have eb : acc.toList = (ks.map fun x => x.2.1).map Value.ref := by
    rw [List.map_map]
    have hl : acc.toList.length = ks.length := by rw [Array.length_toList, it.1]; exact l1
    apply List.ext_getElem?
    intro j
    rw [List.getElem?_map]
    cases hj : acc.toList[j]? with
    | none =>
      have h1 := List.getElem?_eq_none_iff.mp hj
      rw [List.getElem?_eq_none (by omega)]
      rfl
    | some v =>
      obtain ⟨en, hen, hv⟩ := it.2 j v (by rw [← Array.getElem?_toList]; exact hj)
      have qe := entry_at he j
      rw [hen] at qe
      cases hb : ks[j]? with
      | none =>
        rw [hb] at qe
        exact nomatch (show some en = none from qe)
      | some b =>
        rw [hb] at qe
        have e2 : en = entryOfKey (tupleKind (mixKind X.prog X.w)) b := Option.some.inj qe
        rw [hv, e2]
        rfl
  generalize hbs : (ks.map fun x => x.2.1) = bs at eb
  have ik : IsKeys H kvs bs := by rw [← hbs]; exact isKeys_of pr
  obtain ⟨R, ds, g1, g2, hst, q⟩ := hq bs ik
  have I3 : Inv X pins σ H { s with heap := h', toks := tk } := I.kept kp
  rw [eb]
  have hlen : bs.length = ks.length := by rw [← hbs, List.length_map]
  have hal : (bs.map Value.ref).length ≤ sizeLine := by rw [List.length_map, hlen]; omega
  refine wpAny_bind (wpAny_newList ?_ (by simpa using hal))
  have hoL : (h'.push (seqObj "list" (bs.map Value.ref).toArray 0)).get? h'.objs.size = some (seqObj "list" (bs.map Value.ref).toArray 0) := Heap.get?_push_size _ rfl
  show wpAny _ _ _ _ _ { s with heap := h'.push (seqObj "list" (bs.map Value.ref).toArray 0), toks := tk }
  have ev := each_vals (refs_vals bs) g1
  obtain ⟨ho1, ho2⟩ := sortable_ok hst
  refine wpAny_bind (wpAny_holding (PySem.W.list_sort_data (R := fun u d => ∃ v, RelV v u ∧ R v d ∧ d ∈ ds) (enc := D.py) hoL ev (ev.mono fun u d ⟨v, f1, f2, f3⟩ => ?er) ho1 ho2 hst.2.2.2.2.line (fun d hd => ?hu) fun out hl2 e6 => ?fin))
  case er =>
    obtain ⟨as', rd⟩ := Dp.reads I3 d.py v u (g2 v d f2 (plA_mem hst.1 d f3)) f1
    refine ⟨as', PyProof.Rows.Reads.keeps (fun b o e => Heap.get?_push_of_some _ e) rd, fun hm => ?_⟩
    obtain ⟨o, eo⟩ := reads_there rd _ hm
    exact Nat.lt_irrefl _ (Heap.lt_size eo)
  case hu =>
    have z1 : d.py.depth ≤ 40 := hst.2.2.1 d hd
    have := hr.un
    show X.A.units + 1 + 1 + _ < _
    omega
  case fin =>
    obtain ⟨ys', h6, h7⟩ := each_back e6
    obtain ⟨c', hc'⟩ := PyProof.Rows.sortedHeap_at (vs := bs.map Value.ref) (out := List.toArray out) hoL
    refine wpAny_pure ⟨_, rfl, .ref h'.objs.size, upd H h'.objs.size (.lst ys'), I3.laid (t' := tk) (fun b u e => ?_) (Nat.le_refl _)
      (show ObjOk X.prog X.w _ _ _ (.lst ys') from ⟨by rw [h6.length, hl2]; exact hst.2.2.2.2.line, out, c', h6, hc'⟩), rfl, q _ ys' (I3.hok.fresh (Nat.le_refl _)) h7⟩
    have hb : b < h'.objs.size := Heap.lt_size e
    rw [PyProof.Rows.sortedHeap_old (Nat.ne_of_lt hb) (by rw [PyProof.Rows.size_push']; exact Nat.lt_succ_of_lt hb)]
    exact Heap.get?_push_of_some _ e
section
variable {c : Cn} {Φ : Str → FS} {K : PySem.W.Frag} {g : Gs} {H : Hp}
theorem tup_notLive {b : Addr} {xs : List V} (s : StOk K g H) (h : H b = some (.tup xs)) : ¬ g.live b := by
  intro l
  rcases l with ⟨k, o, e, rfl⟩ | l
  case inr =>
    obtain ⟨⟨o, e, z⟩, _⟩ := s.hd b l
    rw [h] at e
    cases e
    cases z
  have r := s.ob k o e
  rw [h] at r
  cases o with
  | lst _ => obtain ⟨_, q, _⟩ := r; cases q
  | dk _ _ => obtain ⟨_, q, _⟩ := r; cases q
  | dt _ _ => obtain ⟨_, q, _⟩ := r; cases q
theorem rep_strs (K : PySem.W.Frag) (g : Gs) (H : Hp) : ∀ ks : List Str, RepA K g H (ks.map .str) ((ks.map (Sum.inr : Str → Key)).map kV)
  | [] => rfl
  | k :: ks => ⟨kV (Sum.inr k), _, rfl, rfl, rep_strs K g H ks⟩
theorem dt_keys (s : StOk K g H) : ∀ {ks : List (List Str)} {vs : List V} {bs : List Addr}, ks.length = vs.length → IsKeys H (zT ks vs) bs → PySem.W.EachIs (fun v d => Rep K g H d v) (bs.map V.ref) (ks.map fun k => .tup (k.map .str))
  | [], [], bs, _, h => by
    cases (show Paired _ [] bs from h)
    exact .nil
  | k :: ks, v :: vs, bs, hl, h => by
    cases (show Paired _ ((k.map Sum.inr, v) :: zT ks vs) bs from h) with
    | cons a b => exact .cons ⟨_, _, rfl, .inl ⟨a, tup_notLive s a⟩, rep_strs K g H k⟩ (dt_keys s (by simpa using hl) b)
theorem cd_sortedDk (m : Bool) : CD c (.builtin "sorted") (biW .sortedDk m) := by
  refine ⟨rSortDT c.K, fun X W h => by rw [← h.K]; exact cr_sortDT h.calm h.room, fun H g xs ds Q Qd s r w k => ?_⟩
  match ds, w with
  | [.cel n], w =>
    obtain ⟨ks, e, hz, w⟩ := onS_of (show onS (dtKeys g.μ n) fun ks => (Sz ks.length ∧ sortable (ks.map fun k => .tup (k.map .str))) ∧ newL m (sortD (ks.map fun k => .tup (k.map .str))) g.μ Qd from w)
    obtain ⟨v, rfl, rv⟩ := rep1 r
    have e' : ∃ ds, g.μ[n]? = some (some (.dt ks ds)) := by
      unfold dtKeys at e
      split at e
      · rename_i ks' ds' q
        cases e
        exact ⟨ds', q⟩
      · cases e
    obtain ⟨ds, e'⟩ := e'
    obtain ⟨vs, h1, hl, ra⟩ := s.ob _ _ e'
    refine ⟨_, zT ks vs, by rw [rv.2], h1, fun bs hb => ⟨fun v d => Rep c.K g H d v, _, dt_keys s (by rw [ra.length]; exact hl) hb, fun v d r hp => Rep.dp d v hp r, hz.2, fun l ys h4 h6 => k.new s (RepA.ofEach h6) w h4⟩⟩
  | [.non], w => exact w.elim
  | [.bl _], w => exact w.elim
  | [.int _], w => exact w.elim
  | [.str _], w => exact w.elim
  | [.tup _], w => exact w.elim
  | [.lst _], w => exact w.elim
  | [.dct _ _], w => exact w.elim
  | [.rol _], w => exact w.elim
  | [.ptp _], w => exact w.elim
  | [], w => exact w.elim
  | _ :: _ :: _, w => exact w.elim
end
end FW

set_option Elab.async false
set_option linter.all false
set_option maxRecDepth 100000
/-! DLi: what is walked, targets, comprehensions over data. -/
namespace FW
open PySem PySem.Spec PyProof.Rows L2
abbrev WI := En → Mu → (List D → (Mu → Prop) → Mu → Prop) → XD → Prop
/-- what J gives: the things ds, one after another, as long as src holds -/
def ItD (K : PySem.W.Frag) (g0 : Gs) (H0 : Hp) (src : Mu → Prop) (ds : List D) (J : It) : Prop := ∃ (G : Hp → Prop) (Y : Nat → Hp → V → Hp → Prop), Walk J ds.length G Y ∧
  (∀ g H, Ext g0 H0 g H → StOk K g H → src g.μ → G H) ∧
  ∀ i g H x H', Ext g0 H0 g H → StOk K g H → src g.μ → i < ds.length → Y i H x H' → ∃ d, ds[i]? = some d ∧ Ext g H g H' ∧ StOk K g H' ∧ Rep K g H' d x
def SI (c : Cn) (tg iter : Expr) (w : WI) : Prop := ∃ t : WX → TI, (∀ X W, CxIn c X W → PI X tg iter (t W)) ∧ (∀ env x, foldedSetIterable iter env x = pure x) ∧
  ∀ (W : WX) (σ : L2.St) (H : Hp) (g : Gs) (env : En) (R : It → Hp → Prop) (Qd : List D → (Mu → Prop) → Mu → Prop) (Ed : XD), RelE c.K g H σ env → StOk c.K g H → w env g.μ Qd Ed →
    (∀ ds src g' H' J, Ext g H g' H' → StOk c.K g' H' → src g'.μ → Qd ds src g'.μ → ItD c.K g' H' src ds J → R J H') → XC c g H Ed W σ → t W σ H R
section
variable {c : Cn} {Φ : Str → FS} {K : PySem.W.Frag} {g : Gs} {H : Hp}
/-! ### lists, tuples -/
def iSeq (K : PySem.W.Frag) (tl : TE) : TI := fun σ H R => tl σ H fun x H1 => (∃ a, x = .ref a ∧ (∃ xs, SqL K H1 a xs) ∧ R (Itl K a) H1) ∨ (∃ a, x = .ref a ∧ (∃ xs, SqT K H1 a xs) ∧ R (Itt K a) H1)
theorem pi_seq {X : Cx} {tg l : Expr} {tl : TE} (hl : PE X l tl) : PI X tg l (iSeq X.K tl) := by
  refine ⟨fun pins s σ H R I h => ?_⟩
  refine thn (hl.run pins s σ H _ I h) fun v s1 ⟨x, H1, I1, r1, q1⟩ => ?_
  rcases q1 with ⟨a, e, ⟨xs, hq⟩, q⟩ | ⟨a, e, ⟨xs, hq⟩, q⟩
  · subst e
    cases r1
    obtain ⟨its, rv, p, hz⟩ := I1.list hq
    refine wpAny_pyIter_list p.isList ?_
    refine ⟨s1.heap.objs.size, [s1.heap.objs.size], _, _, H1, rfl, I1.kept (t' := s1.toks) fun b o e => Heap.get?_push_of_some _ e, turn_list a _, ⟨_, Heap.get?_push_size _ rfl, rfl, rfl⟩, fun b hb => ?_, q⟩
    have e : b = s1.heap.objs.size := by simpa using hb
    subst e
    exact I1.fpOk (Nat.le_refl _) (I1.hok.fresh (Nat.le_refl _))
  · subst e
    cases r1
    obtain ⟨its, rv, p, hz⟩ := I1.tuple hq
    refine wpAny_pyIter_tuple (show s1.heap.IsTuple a its.toArray from p) ?_
    refine ⟨s1.heap.objs.size, [s1.heap.objs.size], _, _, H1, rfl, I1.kept (t' := s1.toks) fun b o e => Heap.get?_push_of_some _ e, turn_tuple a _, ⟨_, Heap.get?_push_size _ rfl, rfl, rfl⟩, fun b hb => ?_, q⟩
    have e : b = s1.heap.objs.size := by simpa using hb
    subst e
    exact I1.fpOk (Nat.le_refl _) (I1.hok.fresh (Nat.le_refl _))
theorem itd_list {a : Addr} {ds : List D} {src : Mu → Prop} (h : ∀ g' H', Ext g H g' H' → StOk K g' H' → src g'.μ → ∃ vs, SqL K H' a vs ∧ RepA K g' H' ds vs) : ItD K g H src ds (Itl K a) := by
  refine ⟨fun H' => ∃ g', Ext g H g' H' ∧ StOk K g' H' ∧ src g'.μ, fun i H x H' => H' = H ∧ ∀ xs, SqL K H a xs → xs[i]? = some x, ⟨fun i H' hi ⟨g', e, s, q⟩ => ?_, fun H' ⟨g', e, s, q⟩ => ?_, fun _ _ _ _ _ _ y => y⟩, fun g' H' e s q => ⟨g', e, s, q⟩, fun i g' H' x H'' e s q hi y => ?_⟩
  · obtain ⟨vs, h1, h2⟩ := h g' H' e s q
    have hl : i < vs.length := by rw [h2.length]; exact hi
    exact ⟨vs, vs[i], h1, List.getElem?_eq_getElem hl⟩
  · obtain ⟨vs, h1, h2⟩ := h g' H' e s q
    exact ⟨vs, h1, by rw [h2.length]; exact Nat.le_refl _⟩
  · obtain ⟨rfl, y⟩ := y
    obtain ⟨vs, h1, h2⟩ := h g' _ e s q
    obtain ⟨d, h3, h4⟩ := h2.getV (y vs h1)
    exact ⟨d, h3, Ext.refl _ _, s, h4⟩
theorem itd_tup {a : Addr} {ds : List D} {src : Mu → Prop} (h : ∀ g' H', Ext g H g' H' → StOk K g' H' → src g'.μ → ∃ vs, SqT K H' a vs ∧ RepA K g' H' ds vs) : ItD K g H src ds (Itt K a) := by
  refine ⟨fun H' => ∃ g', Ext g H g' H' ∧ StOk K g' H' ∧ src g'.μ, fun i H x H' => H' = H ∧ ∀ xs, SqT K H a xs → xs[i]? = some x, ⟨fun i H' hi ⟨g', e, s, q⟩ => ?_, fun H' ⟨g', e, s, q⟩ => ?_, fun _ _ _ _ _ _ y => y⟩, fun g' H' e s q => ⟨g', e, s, q⟩, fun i g' H' x H'' e s q hi y => ?_⟩
  · obtain ⟨vs, h1, h2⟩ := h g' H' e s q
    have hl : i < vs.length := by rw [h2.length]; exact hi
    exact ⟨vs, vs[i], h1, List.getElem?_eq_getElem hl⟩
  · obtain ⟨vs, h1, h2⟩ := h g' H' e s q
    exact ⟨vs, h1, by rw [h2.length]; exact Nat.le_refl _⟩
  · obtain ⟨rfl, y⟩ := y
    obtain ⟨vs, h1, h2⟩ := h g' _ e s q
    obtain ⟨d, h3, h4⟩ := h2.getV (y vs h1)
    exact ⟨d, h3, Ext.refl _ _, s, h4⟩
/-- for x in xs -/
theorem si_seq {tg e : Expr} {x : IE} (he : SE c e (wE Φ x)) (hf : ∀ env v, foldedSetIterable e env v = pure v) : SI c tg e (wI Φ (.seq x)) := by
  obtain ⟨t, ht, hw⟩ := he
  refine ⟨fun W => iSeq c.K (t W), fun X W h => by rw [← h.K]; exact pi_seq (ht X W h), hf, fun W σ H g env R Qd Ed r s w k kx => ?_⟩
  refine hw W σ H g env _ _ Ed r s (show wE Φ x env g.μ (fun d μ1 => onS (seqOf μ1 d) fun xs => Qd xs (srcOf d xs) μ1) Ed from w) (fun d v g1 H1 e1 s1 r1 q1 => ?_) kx
  obtain ⟨xs, e, q⟩ := onS_of q1
  cases d with
  | tup ys =>
    cases e
    obtain ⟨a, vs, rfl, hp, ra⟩ := r1
    exact .inr ⟨a, rfl, ⟨vs, hp.sq⟩, k _ _ g1 H1 _ e1 s1 True.intro q (itd_tup fun g' H' e s _ => ⟨vs, (hp.mono e.toExt0).sq, RepA.mono e _ _ ra⟩)⟩
  | ptp ys =>
    cases e
    obtain ⟨a, vs, rfl, hp, ra⟩ := r1
    exact .inr ⟨a, rfl, ⟨vs, hp.sq⟩, k _ _ g1 H1 _ e1 s1 True.intro q (itd_tup fun g' H' e s _ => ⟨vs, (hp.mono e.toExt0).sq, RepA.mono e _ _ ra⟩)⟩
  | lst ys =>
    cases e
    obtain ⟨a, vs, rfl, hp, ra⟩ := r1
    exact .inl ⟨a, rfl, ⟨vs, hp.sq⟩, k _ _ g1 H1 _ e1 s1 True.intro q (itd_list fun g' H' e s _ => ⟨vs, (hp.mono e.toExt0).sq, RepA.mono e _ _ ra⟩)⟩
  | rol ys =>
    cases e
    obtain ⟨a, vs, rfl, hp, ra⟩ := r1
    exact .inl ⟨a, rfl, ⟨vs, hp.sq⟩, k _ _ g1 H1 _ e1 s1 True.intro q (itd_list fun g' H' e s _ => ⟨vs, (hp.mono e.toExt0).sq, RepA.mono e _ _ ra⟩)⟩
  | cel n =>
    have e' := lstOf_cel (k := n) e
    obtain ⟨vs, h1, ra⟩ := s1.ob _ _ e'
    refine .inl ⟨_, r1.2, ⟨vs, .inl (.inl h1)⟩, k _ _ g1 H1 _ e1 s1 e' q (itd_list fun g' H' e s hq => ?_)⟩
    obtain ⟨vs', h1', ra'⟩ := s.ob n _ hq
    rw [e.rho n r1.1] at h1'
    exact ⟨vs', .inl (.inl h1'), ra'⟩
  | _ => cases e
/-! ### range, text, enumerate, zip -/
theorem intsD_len (lo : Int) : ∀ n : Nat, (intsD lo n).length = n
  | 0 => rfl
  | n + 1 => congrArg (· + 1) (intsD_len (lo + 1) n)
theorem intsD_get : ∀ (lo : Int) (n i : Nat), i < n → (intsD lo n)[i]? = some (.int (lo + i))
  | lo, n + 1, 0, _ => by show some (D.int lo) = _; simp
  | lo, n + 1, i + 1, h => by
    show (intsD (lo + 1) n)[i]? = _
    rw [intsD_get (lo + 1) n i (by omega)]
    congr 2
    omega
theorem itd_range (lo : Int) (n : Nat) : ItD K g H (fun _ => True) (intsD lo n) (Itr lo n) := by
  refine ⟨fun _ => True, fun i H x H' => H' = H ∧ x = .int (lo + i), ?_, fun _ _ _ _ _ => True.intro, fun i g' H' x H'' e s q hi y => ?_⟩
  · rw [intsD_len]
    exact ⟨fun _ _ hi _ => hi, fun _ _ => Nat.le_refl _, fun _ _ _ _ _ _ y => y⟩
  · obtain ⟨rfl, rfl⟩ := y
    rw [intsD_len] at hi
    exact ⟨_, intsD_get lo n i hi, Ext.refl _ _, s, rfl⟩
theorem si_rng1 {tg a : Expr} {as : IEs} {p pos : Pos} (ok : c.Ok Φ) (hx : ("range" : Str) ∈ c.t.frees) (hg : c.t.sc.names.lookup ("range" : Str) = some .globalImplicit) (ha : SA c [a] (wEs Φ as)) (hs : ∀ env, starEach [a] env = [(false, eval a env)]) :
    SI c tg (.Call (.Name "range" p) [a] [] pos) (wI Φ (.rng as)) := by
  obtain ⟨t, ht, hw⟩ := ha
  refine ⟨fun W => iRng1 (t W), fun X W h => pi_range1 (show X.env.kindOf _ = _ from by unfold Env.kindOf; rw [h.sc]; exact hg) (by rw [h.mg]; exact ok.frees _ hx) (ht X W h) (hs _), fun _ _ => rfl, fun W σ H g env R Qd Ed r s w k kx => ?_⟩
  refine hw W σ H g env _ _ Ed r s (show wEs Φ as env g.μ (fun ds μ1 => rngW ds fun xs => Qd xs (fun _ => True) μ1) Ed from w) (fun ds vs g1 H1 l1 e1 s1 r1 q1 => ?_) kx
  unfold rngW at q1
  split at q1
  · rename_i j
    obtain ⟨⟨q2, q3⟩, q1⟩ := q1
    obtain ⟨v, rfl, rv⟩ := rep1 r1
    exact ⟨j, by rw [rv.int_of], by omega, by omega, k _ _ g1 H1 _ e1 s1 True.intro q1 (itd_range _ _)⟩
  · cases l1
  · exact q1.elim
theorem si_rng2 {tg a b : Expr} {as : IEs} {p pos : Pos} (ok : c.Ok Φ) (hx : ("range" : Str) ∈ c.t.frees) (hg : c.t.sc.names.lookup ("range" : Str) = some .globalImplicit) (ha : SA c [a, b] (wEs Φ as)) (hs : ∀ env, starEach [a, b] env = [(false, eval a env), (false, eval b env)]) (hs2 : ∀ env, starEach [b] env = [(false, eval b env)]) :
    SI c tg (.Call (.Name "range" p) [a, b] [] pos) (wI Φ (.rng as)) := by
  obtain ⟨t, ht, hw⟩ := ha
  refine ⟨fun W => iRng2 (t W), fun X W h => pi_range2 (show X.env.kindOf _ = _ from by unfold Env.kindOf; rw [h.sc]; exact hg) (by rw [h.mg]; exact ok.frees _ hx) (ht X W h) (hs _) (hs2 _), fun _ _ => rfl, fun W σ H g env R Qd Ed r s w k kx => ?_⟩
  refine hw W σ H g env _ _ Ed r s (show wEs Φ as env g.μ (fun ds μ1 => rngW ds fun xs => Qd xs (fun _ => True) μ1) Ed from w) (fun ds vs g1 H1 l1 e1 s1 r1 q1 => ?_) kx
  unfold rngW at q1
  split at q1
  · cases l1
  · rename_i i j
    obtain ⟨⟨q2, q3, q4, q5⟩, q1⟩ := q1
    obtain ⟨v, v', rfl, rv, rv'⟩ := rep2 r1
    exact ⟨i, j, by rw [rv.int_of, rv'.int_of], ⟨by omega, by omega, by omega, by omega⟩, k _ _ g1 H1 _ e1 s1 True.intro q1 (itd_range _ _)⟩
  · exact q1.elim
theorem itd_str (z : Str) : ItD K g H (fun _ => True) (z.cps.toList.map fun c => .str ⟨#[c]⟩) (Its z) := by
  refine ⟨fun _ => True, fun i H v H' => H' = H ∧ ∃ c, z.cps[i]? = some c ∧ v = .str ⟨#[c]⟩, ?_, fun _ _ _ _ _ => True.intro, fun i g' H' x H'' e s q hi y => ?_⟩
  · rw [List.length_map, Array.length_toList]
    exact walk_str
  · obtain ⟨rfl, c, h1, rfl⟩ := y
    exact ⟨.str ⟨#[c]⟩, by rw [List.getElem?_map, Array.getElem?_toList, h1]; rfl, Ext.refl _ _, s, rfl⟩
theorem si_str {tg e : Expr} {x : IE} (he : SE c e (wE Φ x)) (hf : ∀ env v, foldedSetIterable e env v = pure v) : SI c tg e (wI Φ (.str x)) := by
  obtain ⟨t, ht, hw⟩ := he
  refine ⟨fun W => iStr (t W), fun X W h => pi_str (ht X W h), hf, fun W σ H g env R Qd Ed r s w k kx => ?_⟩
  refine hw W σ H g env _ _ Ed r s (show wE Φ x env g.μ (fun d μ1 => strW d fun xs => Qd xs (fun _ => True) μ1) Ed from w) (fun d v g1 H1 e1 s1 r1 q1 => ?_) kx
  cases d with
  | str z => exact ⟨z, r1.str_of, k _ _ g1 H1 _ e1 s1 True.intro q1 (itd_str z)⟩
  | _ => exact q1.elim
theorem enumD_len (i : Int) : ∀ ds : List D, (enumD i ds).length = ds.length
  | [] => rfl
  | d :: ds => congrArg (· + 1) (enumD_len (i + 1) ds)
theorem enumD_get : ∀ (lo : Int) (ds : List D) (i : Nat) (d : D), ds[i]? = some d → (enumD lo ds)[i]? = some (.tup [.int (lo + i), d])
  | _, [], _, _, h => by simp at h
  | lo, e :: ds, 0, d, h => by cases h; show some (D.tup [.int lo, _]) = _; simp
  | lo, e :: ds, i + 1, d, h => by
    show (enumD (lo + 1) ds)[i]? = _
    rw [enumD_get (lo + 1) ds i d (by simpa using h)]
    congr 4
    omega
/-- the pair just laid -/
theorem pair_new {g' : Gs} {H' : Hp} {T : Addr} {x y : V} {d e : D} (s : StOk K g' H') (hT : H' T = none) (r1 : Rep K g' H' d x) (r2 : Rep K g' H' e y) :
    Ext g' H' g' (upd H' T (.tup [x, y])) ∧ StOk K g' (upd H' T (.tup [x, y])) ∧ Rep K g' (upd H' T (.tup [x, y])) (.tup [d, e]) (.ref T) :=
  ⟨Ext.frozen hT, s.frozen hT, T, [x, y], rfl, .inl ⟨upd_same, s.notLive hT⟩, x, [y], rfl, Rep.mono (Ext.frozen hT) _ _ r1, y, [], rfl, Rep.mono (Ext.frozen hT) _ _ r2, rfl⟩
theorem itd_enum {a : Addr} {ds : List D} {vs : List V} (hp : FzL g H a vs) (ra : RepA K g H ds vs) : ItD K g H (fun _ => True) (enumD 0 ds) (Ite K a) := by
  refine ⟨fun H' => SqL K H' a vs, YPair (fun i => some (.int (i : Nat))) (fun i => vs[i]?), ?_, fun g' H' e s _ => (hp.mono e.toExt0).sq, fun i g' H' x H'' e s q hi y => ?_⟩
  · rw [enumD_len, ← ra.length]
    exact walk_enum
  · obtain ⟨T, u, v, rfl, hT, rfl, h1, h2⟩ := y
    cases h1
    obtain ⟨d, h3, h4⟩ := (RepA.mono e _ _ ra).getV h2
    obtain ⟨z1, z2, z3⟩ := pair_new (d := .int (i : Nat)) s hT rfl h4
    exact ⟨_, by rw [enumD_get 0 ds i d h3, Int.zero_add], z1, z2, z3⟩
theorem si_enu {a : Expr} {x : IE} {p pos tpos : Pos} {elts : List Expr} {kk : Nat} (ok : c.Ok Φ) (hx : ("enumerate" : Str) ∈ c.t.frees) (hg : c.t.sc.names.lookup ("enumerate" : Str) = some .globalImplicit) (ha : SE c a (wE Φ x)) (hs : ∀ env, starEach [a] env = [(false, eval a env)]) :
    SI c (.Tuple elts kk tpos) (.Call (.Name "enumerate" p) [a] [] pos) (wI Φ (.enu x)) := by
  obtain ⟨t, ht, hw⟩ := ha
  refine ⟨fun W => iEnum c.K (tCons (t W) tNil), fun X W h => by rw [← h.K]; exact pi_enum (show X.env.kindOf _ = _ from by unfold Env.kindOf; rw [h.sc]; exact hg) (by rw [h.mg]; exact ok.frees _ hx) (pa_cons (ht X W h) pa_nil (hs _)) (hs _), fun _ _ => rfl, fun W σ H g env R Qd Ed r s w k kx => ?_⟩
  refine hw W σ H g env _ _ Ed r s (show wE Φ x env g.μ (fun d μ1 => enuW d fun xs => Qd xs (fun _ => True) μ1) Ed from w) (fun d v g1 H1 e1 s1 r1 q1 => ?_) kx
  cases d with
  | lst ds =>
    obtain ⟨a, vs, rfl, hp, ra⟩ := r1
    exact ⟨a, vs, rfl, hp.sq, k _ _ g1 H1 _ e1 s1 True.intro q1 (itd_enum hp ra)⟩
  | _ => exact q1.elim
theorem zipD_len : ∀ {xs ys : List D}, xs.length = ys.length → (zipD xs ys).length = xs.length
  | [], [], _ => rfl
  | x :: xs, y :: ys, h => congrArg (· + 1) (zipD_len (by simpa using h))
theorem zipD_get : ∀ {xs ys : List D} {i : Nat} {d e : D}, xs[i]? = some d → ys[i]? = some e → (zipD xs ys)[i]? = some (.tup [d, e])
  | [], _, _, _, _, h, _ => by simp at h
  | _ :: _, [], _, _, _, _, h => by simp at h
  | x :: xs, y :: ys, 0, _, _, h, h' => by cases h; cases h'; rfl
  | x :: xs, y :: ys, i + 1, _, _, h, h' => by
    show (zipD xs ys)[i]? = _
    exact zipD_get (by simpa using h) (by simpa using h')
theorem walk_zipT {a b : Addr} {xs ys : List V} {n : Nat} (hn : n = min xs.length ys.length) : Walk (RZ.ItzT K a b) n (fun H => SqT K H a xs ∧ SqT K H b ys) (YPair (fun i => xs[i]?) (fun i => ys[i]?)) := by
  subst hn
  refine ⟨fun i _ hi q => ?_, fun _ q => ⟨xs, ys, q.1, q.2, by omega⟩, fun i H v H' _ q y => ?_⟩
  · have h1 : i < xs.length := by omega
    have h2 : i < ys.length := by omega
    exact ⟨xs, ys, xs[i], ys[i], q.1, q.2, by simp [h1], by simp [h2]⟩
  · obtain ⟨T, x, z, h1, h2, h3, h4, h5⟩ := y
    exact ⟨T, x, z, h1, h2, h3, h4 xs q.1, h5 ys q.2⟩
theorem itd_zip {J : It} {G : Hp → Prop} {xs ys : List D} {vs ws : List V} (hl : xs.length = ys.length) (wk : Walk J xs.length G (YPair (fun i => vs[i]?) (fun i => ws[i]?))) (hG : ∀ g' H', Ext g H g' H' → StOk K g' H' → G H') (ra : RepA K g H xs vs) (rb : RepA K g H ys ws) : ItD K g H (fun _ => True) (zipD xs ys) J := by
  refine ⟨G, _, by rw [zipD_len hl]; exact wk, fun g' H' e s _ => hG g' H' e s, fun i g' H' x H'' e s q hi y => ?_⟩
  obtain ⟨T, u, v, rfl, hT, rfl, h1, h2⟩ := y
  obtain ⟨d, h3, h4⟩ := (RepA.mono e _ _ ra).getV h1
  obtain ⟨d', h5, h6⟩ := (RepA.mono e _ _ rb).getV h2
  obtain ⟨z1, z2, z3⟩ := pair_new s hT h4 h6
  exact ⟨_, zipD_get h3 h5, z1, z2, z3⟩
theorem si_zip {a b : Expr} {x y : IE} {p pos tpos : Pos} {elts : List Expr} {kk : Nat} (ok : c.Ok Φ) (hx : ("zip" : Str) ∈ c.t.frees) (hg : c.t.sc.names.lookup ("zip" : Str) = some .globalImplicit) (ha : SE c a (wE Φ x)) (hb : SE c b (wE Φ y)) (hs : ∀ env, starEach [a, b] env = (false, eval a env) :: starEach [b] env) (hs2 : ∀ env, starEach [b] env = [(false, eval b env)]) (hpl : ∀ env, (backTo pos (starEach [b] env)).any (·.1) = false) :
    SI c (.Tuple elts kk tpos) (.Call (.Name "zip" p) [a, b] [] pos) (wI Φ (.zip x y)) := by
  obtain ⟨t, ht, hw⟩ := ha
  obtain ⟨u, hu, hw2⟩ := hb
  refine ⟨fun W => RZ.iZipA c.K (tCons (t W) (tCons (u W) tNil)), fun X W h => by rw [← h.K]; exact RZ.pi_zipA (show X.env.kindOf _ = _ from by unfold Env.kindOf; rw [h.sc]; exact hg) (by rw [h.mg]; exact ok.frees _ hx) (pa_cons (ht X W h) (pa_cons (hu X W h) pa_nil (hs2 _)) (hs _)) (hs _) (hpl _), fun _ _ => rfl, fun W σ H g env R Qd Ed r s w k kx => ?_⟩
  refine hw W σ H g env _ _ Ed r s (show wE Φ x env g.μ (fun d μ1 => wE Φ y env μ1 (fun e μ2 => zipW d e fun xs => Qd xs (fun _ => True) μ2) Ed) Ed from w) (fun d v g1 H1 e1 s1 r1 q1 => ?_) kx
  refine hw2 W σ H1 g1 env _ _ Ed (r.mono e1) s1 q1 (fun d2 v2 g2 H2 e2 s2 r2 q2 => ?_) (kx.mono e1)
  have r1' := Rep.mono e2 _ _ r1
  unfold zipW at q2
  split at q2
  · obtain ⟨hl, q2⟩ := q2
    obtain ⟨pa, vs, rfl, hpa, ra⟩ := r1'
    obtain ⟨pb, ws, rfl, hpb, rb⟩ := r2
    exact ⟨pa, pb, vs, ws, rfl, .inl ⟨hpa.sq, hpb.sq, k _ _ g2 H2 _ (e1.trans e2) s2 True.intro q2 (itd_zip hl (walk_zip (by rw [ra.length, rb.length, hl, Nat.min_self])) (fun g' H' e s => ⟨(hpa.mono e.toExt0).sq, (hpb.mono e.toExt0).sq⟩) ra rb)⟩⟩
  · obtain ⟨hl, q2⟩ := q2
    obtain ⟨pa, vs, rfl, hpa, ra⟩ := r1'
    obtain ⟨pb, ws, rfl, hpb, rb⟩ := r2
    exact ⟨pa, pb, vs, ws, rfl, .inr ⟨hpa.sq, hpb.sq, k _ _ g2 H2 _ (e1.trans e2) s2 True.intro q2 (itd_zip hl (walk_zipT (by rw [ra.length, rb.length, hl, Nat.min_self])) (fun g' H' e s => ⟨(hpa.mono e.toExt0).sq, (hpb.mono e.toExt0).sq⟩) ra rb)⟩⟩
  · obtain ⟨hl, q2⟩ := q2
    obtain ⟨pa, vs, rfl, hpa, ra⟩ := r1'
    obtain ⟨pb, ws, rfl, hpb, rb⟩ := r2
    exact ⟨pa, pb, vs, ws, rfl, .inr ⟨hpa.sq, hpb.sq, k _ _ g2 H2 _ (e1.trans e2) s2 True.intro q2 (itd_zip hl (walk_zipT (by rw [ra.length, rb.length, hl, Nat.min_self])) (fun g' H' e s => ⟨(hpa.mono e.toExt0).sq, (hpb.mono e.toExt0).sq⟩) ra rb)⟩⟩
  · obtain ⟨hl, q2⟩ := q2
    obtain ⟨pa, vs, rfl, hpa, ra⟩ := r1'
    obtain ⟨pb, ws, rfl, hpb, rb⟩ := r2
    exact ⟨pa, pb, vs, ws, rfl, .inr ⟨hpa.sq, hpb.sq, k _ _ g2 H2 _ (e1.trans e2) s2 True.intro q2 (itd_zip hl (walk_zipT (by rw [ra.length, rb.length, hl, Nat.min_self])) (fun g' H' e s => ⟨(hpa.mono e.toExt0).sq, (hpb.mono e.toExt0).sq⟩) ra rb)⟩⟩
  · obtain ⟨hl, q2⟩ := q2
    obtain ⟨pa, vs, rfl, hpa, ra⟩ := r1'
    obtain ⟨pb, ws, rfl, hpb, rb⟩ := r2
    exact ⟨pa, pb, vs, ws, rfl, .inr ⟨hpa.sq, hpb.sq, k _ _ g2 H2 _ (e1.trans e2) s2 True.intro q2 (itd_zip hl (walk_zipT (by rw [ra.length, rb.length, hl, Nat.min_self])) (fun g' H' e s => ⟨(hpa.mono e.toExt0).sq, (hpb.mono e.toExt0).sq⟩) ra rb)⟩⟩
  · exact q2.elim
end
end FW

set_option Elab.async false
set_option linter.all false
set_option maxRecDepth 100000
/-! DLt: targets, comprehensions over data. -/
namespace FW
open PySem PySem.Spec PyProof.Rows L2
def Tg.ids : Tg → List Nat
  | .n i => [i]
  | .t is => is
/-- an expression with its own rule for name = e -/
def SEC (c : Cn) (e : Expr) (w : WX1) : Prop := ∃ t : WX → TE, (∀ X W, CxIn c X W → PE X e (t W)) ∧
  (∀ X W, CxIn c X W → ∀ (i : Nat) (y : Str) (py spos : Pos), c.t.N[i]? = some y → c.t.sc.names.lookup y = some .local → swapsWith e (some (.Name y py)) spos.line X.env = pure true → PS X (.Assign [.Name y py] e spos) (tAsg (t W) (gName i))) ∧ SndE c t w
theorem SEC.se {c : Cn} {e : Expr} {w : WX1} (h : SEC c e w) : SE c e w := let ⟨t, h1, _, h3⟩ := h; ⟨t, h1, h3⟩
/-- what a target does -/
def ST0 (c : Cn) (tg : Expr) (T : Tg) : Prop := ∃ t : TG, (∀ X W, CxIn c X W → PG X tg t) ∧
  ∀ (H : Hp) (g : Gs) (σ : L2.St) (env : En) (d : D) (v : V) (Q : L2.St → Hp → Prop) (k : En → Prop), RelE c.K g H σ env → Rep c.K g H d v → tgW T d g.μ env k →
    (∀ σ' env', RelE c.K g H σ' env' → (∀ vs : List Nat, (∀ i ∈ T.ids, i ∈ vs) → wipe σ' vs = wipe σ vs) → k env' → Q σ' H) → t v σ H Q
section
variable {c : Cn} {Φ : Str → FS} {K : PySem.W.Frag} {g : Gs} {H : Hp}
theorem st_len : ∀ (env : En) (i : Nat) (d : D), (st env i d).length = env.length
  | [], _, _ => rfl
  | _ :: r, 0, _ => rfl
  | _ :: r, i + 1, d => congrArg (· + 1) (st_len r i d)
theorem lk_st : ∀ (env : En) (i j : Nat) (d : D), i < env.length → lk (st env i d) j = if j = i then some d else lk env j
  | [], _, _, _, h => by simp at h
  | o :: r, 0, 0, d, _ => rfl
  | o :: r, 0, j + 1, d, _ => by rw [if_neg (by omega)]; rfl
  | o :: r, i + 1, 0, d, _ => by rw [if_neg (by omega)]; rfl
  | o :: r, i + 1, j + 1, d, h => by
    show lk (st r i d) j = _
    rw [lk_st r i j d (by simpa using h)]
    by_cases e : j = i
    · rw [if_pos e, if_pos (by omega)]
    · rw [if_neg e, if_neg (by omega)]
      rfl
theorem st_out : ∀ (env : En) (i : Nat) (d : D), env.length ≤ i → st env i d = env
  | [], _, _, _ => rfl
  | o :: r, 0, d, h => by simp at h
  | o :: r, i + 1, d, h => by show o :: st r i d = _; rw [st_out r i d (by simpa using h)]
theorem RelE.set {σ : L2.St} {env : En} {i : Nat} {d : D} {v : V} (r : RelE K g H σ env) (h : Rep K g H d v) : RelE K g H (σ.set i (some v)) (st env i d) := by
  refine ⟨by rw [List.length_set, st_len]; exact r.len, fun j e hj => ?_⟩
  rcases Nat.lt_or_ge i env.length with hi | hi
  · rw [lk_st env i j d hi] at hj
    by_cases q : j = i
    · rw [if_pos q] at hj
      cases hj
      rw [q, List.getElem?_set_self (by rw [r.len]; exact hi)]
      exact ⟨v, rfl, h⟩
    · rw [if_neg q] at hj
      rw [List.getElem?_set_ne (Ne.symm q)]
      exact r.at_ j e hj
  · rw [st_out env i d hi] at hj
    rw [List.set_eq_of_length_le (by rw [r.len]; exact hi)]
    exact r.at_ j e hj
theorem wipe_ext {σ σ' : L2.St} {vs : List Nat} (hl : σ'.length = σ.length) (h : ∀ i, i ∉ vs → σ'[i]? = σ[i]?) : wipe σ' vs = wipe σ vs := by
  have key : ∀ (vs : List Nat) (σ : L2.St) (i : Nat), (wipe σ vs)[i]? = if i ∈ vs then (if i < σ.length then some none else none) else σ[i]? := by
    intro vs
    induction vs with
    | nil => intro σ i; rw [if_neg (by simp)]; rfl
    | cons v vs ih =>
      intro σ i
      show ((wipe σ vs).set v none)[i]? = _
      by_cases e : v = i
      · subst e
        rw [if_pos List.mem_cons_self]
        by_cases hv : v < (wipe σ vs).length
        · rw [List.getElem?_set_self hv, if_pos (by rw [← wipe_length σ vs]; exact hv)]
        · rw [List.getElem?_eq_none (by simpa using hv), if_neg (by rw [← wipe_length σ vs]; exact hv)]
      · rw [List.getElem?_set_ne e, ih]
        by_cases q : i ∈ vs
        · rw [if_pos q, if_pos (List.mem_cons_of_mem _ q)]
        · rw [if_neg q, if_neg (by simp only [List.mem_cons, not_or]; exact ⟨Ne.symm e, q⟩)]
  refine List.ext_getElem? fun i => ?_
  rw [key, key]
  by_cases q : i ∈ vs
  · rw [if_pos q, if_pos q, hl]
  · rw [if_neg q, if_neg q]
    exact h i q
theorem wipe_set {σ : L2.St} {i : Nat} {v : Option V} {vs : List Nat} (h : i ∈ vs) : wipe (σ.set i v) vs = wipe σ vs :=
  wipe_ext (by simp) fun j hj => List.getElem?_set_ne fun z : i = j => hj (by rw [← z]; exact h)
theorem wipe_wipe {σ : L2.St} {vs : List Nat} : wipe (wipe σ vs) vs = wipe σ vs := wipe_ext (wipe_length _ _) fun i hi => wipe_out hi
/-- a name that may be stored to -/
def locC (t : Ct) (x : Str) : Bool := decide (t.sc.names.lookup x = some .local) || (!t.inb && decide (t.sc.names.lookup x = some .cell))
theorem locC_ok {X : Cx} {W : WX} {x : Str} (h : CxIn c X W) (hl : locC c.t x = true) : Loc X.env.scope x ∧ (X.fn x = true ∨ X.env.scope.names.lookup x = some .local) := by
  rw [h.sc]
  rcases Bool.or_eq_true_iff.mp hl with q | q
  · exact ⟨.inl (of_decide_eq_true q), .inr (of_decide_eq_true q)⟩
  · obtain ⟨q1, q2⟩ := Bool.and_eq_true_iff.mp q
    exact ⟨.inr (of_decide_eq_true q2), .inl (h.fn (by simpa using q1) x)⟩
theorem gt_name {x : Str} {i : Nat} {pos : Pos} (hN : c.t.N[i]? = some x) (hl : locC c.t x = true) : ST0 c (.Name x pos) (.n i) := by
  refine ⟨gName i, fun X W h => pg_name (by rw [h.N]; exact h.nd) (by rw [h.N]; exact hN) (locC_ok h hl).1 (locC_ok h hl).2, fun H g σ env d v Q k r rd w h => ?_⟩
  exact h _ _ (r.set rd) (fun vs hv => wipe_set (hv i (by simp [Tg.ids]))) w
/-- the names of a tuple -/
def STs (c : Cn) (es : List Expr) (is : List Nat) : Prop := ∃ t : TGs, (∀ X W, CxIn c X W → PGs X es t) ∧
  ∀ (H : Hp) (g : Gs) (σ : L2.St) (env : En) (ds : List D) (vs : List V) (Q : L2.St → Hp → Prop) (env' : En), RelE c.K g H σ env → RepA c.K g H ds vs → stAll env is ds = some env' →
    (∀ σ', RelE c.K g H σ' env' → (∀ vs : List Nat, (∀ i ∈ is, i ∈ vs) → wipe σ' vs = wipe σ vs) → Q σ' H) → t vs σ H Q
theorem gts_nil : STs c [] [] := by
  refine ⟨gNil, fun X W h => pgs_nil, fun H g σ env ds vs Q env' r ra e h => ?_⟩
  cases ds with
  | nil => cases e; cases ra; exact ⟨rfl, h σ r fun _ _ => rfl⟩
  | cons d ds => cases e
theorem gts_cons {x : Str} {i : Nat} {pos : Pos} {es : List Expr} {is : List Nat} (hN : c.t.N[i]? = some x) (hl : locC c.t x = true) (hr : STs c es is)
    (hs : ∀ env, (assignEach (.Name x pos :: es) env).map (·.2) = assign (.Name x pos) env :: (assignEach es env).map (·.2)) : STs c (.Name x pos :: es) (i :: is) := by
  obtain ⟨t, ht, hw⟩ := hr
  refine ⟨gCons (gName i) t, fun X W h => pgs_cons (pg_name (by rw [h.N]; exact h.nd) (by rw [h.N]; exact hN) (locC_ok h hl).1 (locC_ok h hl).2) (ht X W h) (hs _), fun H g σ env ds vs Q env' r ra e h => ?_⟩
  cases ds with
  | nil => cases e
  | cons d ds =>
    obtain ⟨v, vr, rfl, h1, h2⟩ := ra
    refine ⟨v, vr, rfl, hw H g _ _ ds vr Q env' (r.set h1) h2 e fun σ' r' wv => h σ' r' fun vs hv => ?_⟩
    rw [wv vs fun j hj => hv j (List.mem_cons_of_mem _ hj), wipe_set (hv i List.mem_cons_self)]
theorem stAll_len : ∀ {is : List Nat} {ds : List D} {env env' : En}, stAll env is ds = some env' → ds.length = is.length
  | [], [], _, _, _ => rfl
  | [], _ :: _, _, _, h => by cases h
  | _ :: _, [], _, _, h => by cases h
  | i :: is, d :: ds, env, _, h => congrArg (· + 1) (stAll_len (is := is) (ds := ds) h)
theorem gt_tup {es : List Expr} {is : List Nat} {kk : Nat} {pos : Pos} (h : STs c es is) (hl : es.length = is.length) (hn : ∀ env, (assignEach es env).length = es.length) (hst : ∀ env, (assignEach es env).findIdx? (·.1) = none) : ST0 c (.Tuple es kk pos) (.t is) := by
  obtain ⟨t, ht, hw⟩ := h
  refine ⟨gTup c.K is.length t, fun X W hx => by rw [← hx.K, ← hl]; exact pg_tup hx.calm (ht X W hx) (hn _) (hst _), fun H g σ env d v Q k r rd w hq => ?_⟩
  cases d with
  | tup xs =>
    obtain ⟨env', e, w⟩ := onS_of (show onS (stAll env is xs) k from w)
    obtain ⟨a, vs, rfl, hp, ra⟩ := rd
    refine ⟨a, vs, rfl, hp.sq, by rw [ra.length]; exact stAll_len e, hw H g σ env xs vs Q env' r ra e fun σ' r' wv => hq σ' env' r' wv w⟩
  | _ => exact w.elim
/-! ### comprehensions -/
theorem CxIn.blk {X : Cx} {W : WX} (h : CxIn c X W) (s : Shared) (H : Hp) (scope : Scope) (cl : List (Str × Addr)) (C : Addr) (fp : List Addr) : CxIn (c.blk scope) (X.blk s H scope (compEnvC scope cl C X.env) fp) (fun _ _ _ _ => False) where
  P := h.P
  w := h.w
  K := h.K
  mg := h.mg
  base := h.base
  N := h.N
  sc := by show relS scope X.env.scope = relS scope c.t.sc; rw [h.sc]
  calm := h.calm
  room := h.room
  nd := h.nd
  tk := fun u s' ⟨a, B, sI, pins, σ, H, cls, d, e, I, nb, up, sky, na, os, ag, w⟩ => w.elim
  po := PassesOwn.never
  fn := fun z => by cases z
theorem wp0_lk : ∀ (vs : List Nat) (env : En) (i : Nat) (d : D), lk (wp0 env vs) i = some d → lk env i = some d ∧ i ∉ vs
  | [], env, i, d, h => ⟨h, by simp⟩
  | v :: vs, env, i, d, h => by
    have w1 : ∀ (e : En) (v i : Nat) (d : D), lk (wp0.wipe1 e v) i = some d → lk e i = some d ∧ i ≠ v := by
      intro e
      induction e with
      | nil => intro v i d h; cases v <;> cases h
      | cons o r ih =>
        intro v i d h
        cases v with
        | zero =>
          cases i with
          | zero => cases h
          | succ i => exact ⟨h, by omega⟩
        | succ v =>
          cases i with
          | zero => exact ⟨h, by omega⟩
          | succ i =>
            obtain ⟨h1, h2⟩ := ih v i d h
            exact ⟨h1, by omega⟩
    obtain ⟨h1, h2⟩ := w1 _ v i d h
    obtain ⟨h3, h4⟩ := wp0_lk vs env i d h1
    exact ⟨h3, by simp only [List.mem_cons, not_or]; exact ⟨h2, h4⟩⟩
theorem wp0_len : ∀ (vs : List Nat) (env : En), (wp0 env vs).length = env.length
  | [], env => rfl
  | v :: vs, env => by
    have w1 : ∀ (e : En) (v : Nat), (wp0.wipe1 e v).length = e.length := by
      intro e
      induction e with
      | nil => intro v; cases v <;> rfl
      | cons o r ih =>
        intro v
        cases v with
        | zero => rfl
        | succ v => exact congrArg (· + 1) (ih v)
    show (wp0.wipe1 (wp0 env vs) v).length = _
    rw [w1, wp0_len vs env]
theorem RelE.wipe {σ : L2.St} {env : En} (r : RelE K g H σ env) (vs : List Nat) : RelE K g H (wipe σ vs) (wp0 env vs) := by
  refine ⟨by rw [wipe_length, wp0_len]; exact r.len, fun i d h => ?_⟩
  obtain ⟨h1, h2⟩ := wp0_lk vs env i d h
  rw [wipe_out h2]
  exact r.at_ i d h1
/-- the conditions of a comprehension -/
def SC (c : Cn) (ifs : List Expr) (w : En → Mu → (Bool → Mu → Prop) → Prop) : Prop := ∃ t : TT, (∀ X, CxIn c X (fun _ _ _ _ => False) → PTs X ifs t) ∧
  ∀ (σ : L2.St) (H : Hp) (g : Gs) (env : En) (Q : Bool → Hp → Prop) (k : Bool → Mu → Prop), RelE c.K g H σ env → StOk c.K g H → w env g.μ k → (∀ b g' H', Ext g H g' H' → StOk c.K g' H' → k b g'.μ → Q b H') → t σ H Q
theorem xc_no {σ : L2.St} : XC c g H NoX (fun _ _ _ _ => False) σ := fun _ _ _ _ _ _ h _ => h
theorem sc_nil : SC c [] (wC Φ .nil) := ⟨tYes, fun X h => pts_nil, fun σ H g env Q k r s w h => h true g H (Ext.refl _ _) s w⟩
theorem sc_one {e : Expr} {x : IE} {es : IEs} (h : ST c e (wE Φ x)) : SC c [e] (wC Φ (.cons x es)) := by
  obtain ⟨t, ht, hw⟩ := h
  refine ⟨t fun _ _ _ _ => False, fun X h => pts_one (ht X _ h), fun σ H g env Q k r s w h => ?_⟩
  exact ST.use (e := e) hw r s (show wE Φ x env g.μ (fun x μ1 => asB x fun b => k b μ1) NoX from w) h xc_no
theorem rep_hid {p : Addr} (hp : g.hid p) {d : D} : True := True.intro
/-- [e for tg in it if ..] -/
theorem sec_lc {elt tg iter : Expr} {ifs : List Expr} {scope : Scope} {own : List (Str × Nat)} {pos : Pos} {m : Bool} {e : IE} {T : Tg} {it : II} {cs : IEs} (hi : SI c tg iter (wI Φ it)) (ok : BlkOk c.t.N c.t.sc scope own) (hT : ∀ i ∈ T.ids, i ∈ own.map (·.2))
    (hg : ST0 (c.blk scope) tg T) (hc : SC (c.blk scope) ifs (wC Φ cs)) (he : SE (c.blk scope) elt (wE Φ e)) : SEC c (.ListComp elt [⟨tg, iter, ifs, 0⟩] scope pos) (wE Φ (.lc m (own.map (·.2)) e T it cs)) := by
  obtain ⟨ti, hti, hfold, hwi⟩ := hi
  obtain ⟨tg', htg, hwg⟩ := hg
  obtain ⟨tt, htt, hwt⟩ := hc
  obtain ⟨te, hte, hwe⟩ := he
  refine ⟨fun W => tLc (ti W) tg' tt (te fun _ _ _ _ => False) (own.map (·.2)), fun X W h => ?_, fun X W h i y py spos hy hl hsw => ?_, fun W σ H g env Q Qd Ed r s w k kx => ?_⟩
  · exact pe_lc h.calm (by rw [h.N]; exact h.nd) (hti X W h) (by rw [h.N, h.sc]; exact ok) (fun s H C cl fp => htg _ _ (h.blk s H scope cl C fp)) (fun s H C cl fp => htt _ (h.blk s H scope cl C fp)) (fun s H C cl fp => hte _ _ (h.blk s H scope cl C fp)) (hfold _)
  · exact ps_setLc h.calm (by rw [h.N]; exact h.nd) (by rw [h.N]; exact hy) (by rw [h.sc]; exact hl) hsw (hti X W h) (by rw [h.N, h.sc]; exact ok) (fun s H C cl fp => htg _ _ (h.blk s H scope cl C fp)) (fun s H C cl fp => htt _ (h.blk s H scope cl C fp)) (fun s H C cl fp => hte _ _ (h.blk s H scope cl C fp)) (hfold _)
  · refine hwi W σ H g env _ _ Ed r s (show wI Φ it env g.μ (fun ds src μ1 => lcW src T (fun env' μ2 k => wC Φ cs env' μ2 k) (fun env' μ2 k => wE Φ e env' μ2 k NoX) (wp0 env (own.map (·.2))) ds [] μ1 fun ys μ3 => newL m ys μ3 Qd) Ed from w) (fun ds src g1 H1 J e1 s1 hsrc w1 ij => ?_) kx
    intro D hD
    obtain ⟨G, Y, wk, hG, hY⟩ := ij
    have r1 := (r.mono e1).wipe (own.map (·.2))
    let kont : List FW.D → Mu → Prop := fun ys μ3 => newL m ys μ3 Qd
    let rest : List FW.D → List FW.D → Mu → Prop := fun ds acc μ => lcW src T (fun env' μ2 k => wC Φ cs env' μ2 k) (fun env' μ2 k => wE Φ e env' μ2 k NoX) (wp0 env (own.map (·.2))) ds acc μ kont
    -- the state of a turn
    let Pv : Nat → Hp → Prop := fun i H' => ∃ (g' : Gs) (acc : List FW.D) (vs : List V), Ext g1 H1 g' H' ∧ StOk c.K g' H' ∧ g'.hid D ∧ H' D = some (.lst vs) ∧ RepA c.K g' H' acc vs ∧ src g'.μ ∧ rest (ds.drop i) acc g'.μ
    refine lc_it wk Pv ?h0 ?hG ?hs ?hd
    case hG =>
      rintro i H' _ ⟨g', _, _, e', s', _, _, _, q', _⟩
      exact hG g' H' e' s' q'
    case h0 => exact ⟨g1.hide D, [], [], Ext.hide hD, s1.hide hD rfl, .inr rfl, upd_same, rfl, hsrc, by rw [List.drop_zero]; exact w1⟩
    case hs =>
      rintro i x H' H'' hi ⟨g', acc, vs, e', s', hid, hDv, ra, q', w'⟩ y
      obtain ⟨d, hd, e2, s2, rd⟩ := hY i g' H' x H'' e' s' q' hi y
      have hdrop : ds.drop i = d :: ds.drop (i + 1) := by
        obtain ⟨hlt, e⟩ := List.getElem?_eq_some_iff.mp hd
        rw [List.drop_eq_getElem_cons hlt, e]
      rw [hdrop] at w'
      have e12 := e'.trans e2
      have w' : tgW T d g'.μ (wp0 env (own.map (·.2))) fun env' => wC Φ cs env' g'.μ fun b μ1 => onB b
        (wE Φ e env' μ1 (fun y μ2 => (src μ2 ∧ Sz (acc.length + 1)) ∧ rest (ds.drop (i + 1)) (acc ++ [y]) μ2) NoX)
        (src μ1 ∧ rest (ds.drop (i + 1)) acc μ1) := w'
      refine hwg H'' g' _ (wp0 env (own.map (·.2))) d x _ _ (r1.mono e12) rd w' fun σ' env' r' wv w3 => ⟨(wv _ hT).trans wipe_wipe, ?_⟩
      refine hwt σ' H'' g' env' _ _ r' s2 w3 fun b g3 H3 e3 s3 w4 => ?_
      obtain ⟨hid3, hD3⟩ := e3.hd D _ hid (show H'' D = some (.lst vs) from (e2.hd D _ hid hDv).2)
      have ra3 := RepA.mono (e2.trans e3) _ _ ra
      have e13 := e12.trans e3
      cases b with
      | true =>
        refine iteT (hwe _ σ' H3 g3 env' _ _ NoX (r'.mono e3) s3 (w4.1 rfl) (fun yd yv g4 H4 e4 s4 r4 w5 => ?_) xc_no)
        obtain ⟨hid4, hD4⟩ := e4.hd D _ hid3 hD3
        obtain ⟨⟨q5, hz⟩, w5⟩ := w5
        have ra4 := RepA.mono e4 _ _ ra3
        have e14 := e13.trans e4
        exact ⟨vs, hD4, by rw [ra4.length]; exact hz.lt, g4, acc ++ [yd], vs ++ [yv], e14.write hD hid4, s4.write hid4 rfl, hid4, upd_same, RepA.mono0 (Ext0.write hid4) _ _ (ra4.append (.single r4)), q5, w5⟩
      | false =>
        refine iteF ?_
        obtain ⟨q5, w5⟩ := w4.2 rfl
        exact ⟨g3, acc, vs, e13, s3, hid3, hD3, ra3, q5, w5⟩
    case hd =>
      rintro H' ⟨g', acc, vs, e', s', hid, hDv, ra, q', w'⟩
      rw [List.drop_length] at w'
      have w' : newL m acc g'.μ Qd := w'
      have e2 := e1.trans (e'.unhide hD)
      cases m with
      | false => exact k (.lst acc) _ (g'.unhide D) H' e2 s'.unhide ⟨D, vs, rfl, ⟨hDv, unhide_not s' hid⟩, RepA.mono0 Ext0.unhide _ _ ra⟩ w'
      | true =>
        refine k (.cel g'.μ.length) _ (g'.done D (.lst acc)) H' ?_ (s'.done hid ⟨vs, hDv, ra⟩) (Rep.newCell (g := g'.unhide D)) w'
        exact e1.trans ((e'.unhide hD).cellAt hD)
/-- name = {..} on one line, the name a local -/
theorem ps_setDc {X : Cx} {i : Nat} {y : Str} {py : Pos} {kx vx tg iter : Expr} {ifs : List Expr} {scope : Scope} {own : List (Str × Nat)} {pos spos : Pos} {wi : TI} {g : TG} {tt : TT} {tk tv : TE} (hc : X.calm = true) (hN : X.N.Nodup) (hy : X.N[i]? = some y) (hyl : X.env.scope.names.lookup y = some .local)
    (hsw : swapsWith (.DictComp kx vx [⟨tg, iter, ifs, 0⟩] scope pos) (some (.Name y py)) spos.line X.env = pure true) (hi : PI X tg iter wi) (ok : BlkOk X.N X.env.scope scope own)
    (hg : ∀ (s : Shared) (H : Hp) (C : Addr) (cl : List (Str × Addr)) (fp : List Addr), PG (X.blk s H scope (compEnvC scope cl C X.env) fp) tg g) (ht : ∀ (s : Shared) (H : Hp) (C : Addr) (cl : List (Str × Addr)) (fp : List Addr), PTs (X.blk s H scope (compEnvC scope cl C X.env) fp) ifs tt)
    (hk : ∀ (s : Shared) (H : Hp) (C : Addr) (cl : List (Str × Addr)) (fp : List Addr), PE (X.blk s H scope (compEnvC scope cl C X.env) fp) kx tk)
    (he : ∀ (s : Shared) (H : Hp) (C : Addr) (cl : List (Str × Addr)) (fp : List Addr), PE (X.blk s H scope (compEnvC scope cl C X.env) fp) vx tv) (hs : ∀ x, foldedSetIterable iter X.env x = pure x) :
    PS X (.Assign [.Name y py] (.DictComp kx vx [⟨tg, iter, ifs, 0⟩] scope pos) spos) (tAsg (tDc wi g tt tk tv (own.map (·.2))) (gName i)) := by
  refine ⟨fun pins s σ H D I h => ?_⟩
  rw [exec_Assign_Name_used _ _ _ _ hsw]
  refine wpAny_bind (wpAny_standAt (wpAny_bind ?_))
  show wpAny _ X.A (do let _ ← comprehension (.DictComp kx vx [⟨tg, iter, ifs, 0⟩] scope pos) scope X.env (firstIterPos [⟨tg, iter, ifs, 0⟩] pos) newDict false (eval iter X.env) (some (assign (.Name y py) X.env))) _ _ s
  have h : tDc wi g tt tk tv (own.map (·.2)) σ H (fun x H1 => gName i x σ H1 D.nx) := h
  refine wpAny_bind (thn (dc_core (Qf := fun _ s' => SP X pins D .next s') hc hN I hi ok hg ht hk he hs h fun L C s' m H' I' q hn f => ?_) fun _ s' hq => wpAny_pure (wpAny_pure hq))
  show wpAny _ _ (assign (.Name y py) X.env (.ref L)) _ _ _
  refine wpAny_assign_Name (store_ok2 (v := V.ref L) I' hN hy (.inl hyl) rfl (fun s2 I2 ⟨a, sb, ha⟩ => ?_) (.inr hyl))
  obtain ⟨f0, f1, f2, f3, f4, f5⟩ := f
  have haC : C ≠ a := by
    rcases ha with z | z
    · rw [z]; exact f1
    · exact fun e => f4 y a z e.symm
  refine ⟨m, hn.sameBut sb haC, fun h3 sb3 => ?_⟩
  exact ⟨_, H', I2.turned (t' := s2.toks) (fun b o hb e => (sb3.2 b hb).trans e) f0 f1 f3 f4 f5, q⟩
/-- {k: e for tg in it} -/
theorem sec_dc {kx elt tg iter : Expr} {scope : Scope} {own : List (Str × Nat)} {pos : Pos} {m : Bool} {kk e : IE} {T : Tg} {it : II} (hi : SI c tg iter (wI Φ it)) (ok : BlkOk c.t.N c.t.sc scope own) (hT : ∀ i ∈ T.ids, i ∈ own.map (·.2))
    (hg : ST0 (c.blk scope) tg T) (hk : SE (c.blk scope) kx (wE Φ kk)) (he : SE (c.blk scope) elt (wE Φ e)) : SEC c (.DictComp kx elt [⟨tg, iter, [], 0⟩] scope pos) (wE Φ (.dc m (own.map (·.2)) kk e T it)) := by
  obtain ⟨ti, hti, hfold, hwi⟩ := hi
  obtain ⟨tg', htg, hwg⟩ := hg
  obtain ⟨tk, htk, hwk⟩ := hk
  obtain ⟨te, hte, hwe⟩ := he
  refine ⟨fun W => tDc (ti W) tg' tYes (tk fun _ _ _ _ => False) (te fun _ _ _ _ => False) (own.map (·.2)), fun X W h => ?_, fun X W h i y py spos hy hl hsw => ?_, fun W σ H g env Q Qd Ed r s w k kx => ?_⟩
  · exact pe_dc h.calm (by rw [h.N]; exact h.nd) (hti X W h) (by rw [h.N, h.sc]; exact ok) (fun s H C cl fp => htg _ _ (h.blk s H scope cl C fp)) (fun s H C cl fp => pts_nil) (fun s H C cl fp => htk _ _ (h.blk s H scope cl C fp)) (fun s H C cl fp => hte _ _ (h.blk s H scope cl C fp)) (hfold _)
  · exact ps_setDc h.calm (by rw [h.N]; exact h.nd) (by rw [h.N]; exact hy) (by rw [h.sc]; exact hl) hsw (hti X W h) (by rw [h.N, h.sc]; exact ok) (fun s H C cl fp => htg _ _ (h.blk s H scope cl C fp)) (fun s H C cl fp => pts_nil) (fun s H C cl fp => htk _ _ (h.blk s H scope cl C fp)) (fun s H C cl fp => hte _ _ (h.blk s H scope cl C fp)) (hfold _)
  · refine hwi W σ H g env _ _ Ed r s (show wI Φ it env g.μ (fun ds src μ1 => dcW src T (fun env' μ2 q => wE Φ kk env' μ2 q NoX) (fun env' μ2 q => wE Φ e env' μ2 q NoX) (wp0 env (own.map (·.2))) ds [] [] μ1 fun ks ys μ3 => FW.newDk m ks ys μ3 Qd) Ed from w) (fun ds src g1 H1 J e1 s1 hsrc w1 ij => ?_) kx
    intro D hD
    obtain ⟨G, Y, wk, hG, hY⟩ := ij
    have r1 := (r.mono e1).wipe (own.map (·.2))
    let kont : List Str → List FW.D → Mu → Prop := fun ks ys μ3 => FW.newDk m ks ys μ3 Qd
    let rest : List FW.D → List Str → List FW.D → Mu → Prop := fun ds ks acc μ => dcW src T (fun env' μ2 q => wE Φ kk env' μ2 q NoX) (fun env' μ2 q => wE Φ e env' μ2 q NoX) (wp0 env (own.map (·.2))) ds ks acc μ kont
    let Pv : Nat → Hp → Prop := fun i H' => ∃ (g' : Gs) (ks : List Str) (acc : List FW.D) (vs : List V), Ext g1 H1 g' H' ∧ StOk c.K g' H' ∧ g'.hid D ∧ H' D = some (.dK (zK ks vs)) ∧ ks.length = acc.length ∧ RepA c.K g' H' acc vs ∧ src g'.μ ∧ rest (ds.drop i) ks acc g'.μ
    refine ⟨fun i m H' => m = ds.length - i ∧ i ≤ ds.length ∧ Pv i H', ⟨ds.length, by simp, Nat.zero_le _, ?_⟩, ?_⟩
    · exact ⟨g1.hide D, [], [], [], Ext.hide hD, s1.hide hD rfl, .inr rfl, upd_same, rfl, rfl, hsrc, by rw [List.drop_zero]; exact w1⟩
    rintro i mm H' ⟨rfl, hi', g', ks, acc, vs, e', s', hid, hDv, hl, ra, q', w'⟩
    by_cases hi : i < ds.length
    · refine .inr ⟨wk.goes i H' hi (hG g' H' e' s' q'), Pv (i + 1), fun H2 p' => ⟨ds.length - (i + 1), by omega, rfl, hi, p'⟩, fun x H'' y => ?_⟩
      obtain ⟨d, hd, e2, s2, rd⟩ := hY i g' H' x H'' e' s' q' hi (wk.yields i H' x H'' hi (hG g' H' e' s' q') y)
      have hdrop : ds.drop i = d :: ds.drop (i + 1) := by
        obtain ⟨hlt, e⟩ := List.getElem?_eq_some_iff.mp hd
        rw [List.drop_eq_getElem_cons hlt, e]
      rw [hdrop] at w'
      have e12 := e'.trans e2
      have w' : tgW T d g'.μ (wp0 env (own.map (·.2))) fun env' => wE Φ kk env' g'.μ (fun x μ1 => asS x fun c =>
        wE Φ e env' μ1 (fun y μ2 => (src μ2 ∧ Sz (ks.length + 1)) ∧ rest (ds.drop (i + 1)) (putD ks acc c y).1 (putD ks acc c y).2 μ2) NoX) NoX := w'
      refine hwg H'' g' _ (wp0 env (own.map (·.2))) d x _ _ (r1.mono e12) rd w' fun σ' env' r' wv w3 => ⟨(wv _ hT).trans wipe_wipe, ?_⟩
      show if true = true then _ else Pv (i + 1) H''
      rw [if_pos rfl]
      refine hwk _ σ' H'' g' env' _ _ NoX r' s2 w3 (fun kd kv g3 H3 e3 s3 r3 w4 => ?_) xc_no
      obtain ⟨x, rfl, w4⟩ := asS_of w4
      obtain ⟨hid3, hD3⟩ := e3.hd D _ hid (show H'' D = some (.dK (zK ks vs)) from (e2.hd D _ hid hDv).2)
      have e13 := e12.trans e3
      refine hwe _ σ' H3 g3 env' _ _ NoX (r'.mono e3) s3 w4 (fun yd yv g4 H4 e4 s4 r4 w5 => ?_) xc_no
      obtain ⟨hid4, hD4⟩ := e4.hd D _ hid3 hD3
      obtain ⟨⟨q5, hz⟩, w5⟩ := w5
      have ra4 := RepA.mono ((e2.trans e3).trans e4) _ _ ra
      have e14 := e13.trans e4
      obtain ⟨ws, f1, f2, f3⟩ := zK_put (x := x) r4 hl ra4
      refine ⟨zK ks vs, Sum.inr x, rep_str r3, hD4, ?_, g4, _, _, ws, e14.write hD hid4, s4.write hid4 rfl, hid4, ?_, f3, RepA.mono0 (Ext0.write hid4) _ _ f2, q5, w5⟩
      · rw [zK_len (by rw [ra4.length]; exact hl)]; exact hz.lt
      · rw [upd_same, f1]
    · have ei : i = ds.length := by omega
      subst ei
      rw [List.drop_length] at w'
      have w' : FW.newDk m ks acc g'.μ Qd := w'
      refine .inl ⟨wk.stops H' (hG g' H' e' s' q'), ?_⟩
      have e2 := e1.trans (e'.unhide hD)
      cases m with
      | false => exact k (.dct ks acc) _ (g'.unhide D) H' e2 s'.unhide ⟨D, vs, rfl, ⟨.inl hDv, unhide_not s' hid⟩, hl, RepA.mono0 Ext0.unhide _ _ ra⟩ w'
      | true =>
        refine k (.cel g'.μ.length) _ (g'.done D (.dk ks acc)) H' ?_ (s'.done hid ⟨vs, hDv, hl, ra⟩) (Rep.newCell (g := g'.unhide D)) w'
        exact e1.trans ((e'.unhide hD).cellAt hD)
end
end FW

set_option Elab.async false
set_option linter.all false
set_option maxRecDepth 100000
/-! DLp: statements over data. -/
namespace FW
open PySem PySem.Spec PyProof.Rows L2
abbrev WS := En → Mu → EnD → Prop
/-- what follows a statement -/
structure EC (c : Cn) (g : Gs) (H : Hp) (D : Ends) (Dn : EnD) (W : WX) : Prop where
  nx : ∀ σ' env' g' H', Ext g H g' H' → StOk c.K g' H' → RelE c.K g' H' σ' env' → Dn.nx env' g'.μ → D.nx σ' H'
  rt : ∀ d v g' H', Ext g H g' H' → StOk c.K g' H' → Rep c.K g' H' d v → Dn.rt d g'.μ → D.rt v H'
  bk : ∀ σ' env' g' H', Ext g H g' H' → StOk c.K g' H' → RelE c.K g' H' σ' env' → Dn.bk env' g'.μ → D.bk σ' H'
  ct : ∀ σ' env' g' H', Ext g H g' H' → StOk c.K g' H' → RelE c.K g' H' σ' env' → Dn.ct env' g'.μ → D.ct σ' H'
  ex : ∀ x a σ' env' g' H', Ext g H g' H' → StOk c.K g' H' → RelE c.K g' H' σ' env' → Dn.ex x env' g'.μ → c.mg x = some (.ref a) → W (.ref a) none σ' H'
theorem EC.mono {c : Cn} {g g1 : Gs} {H H1 : Hp} {D : Ends} {Dn : EnD} {W : WX} (k : EC c g H D Dn W) (e : Ext g H g1 H1) : EC c g1 H1 D Dn W :=
  ⟨fun σ' env' g' H' e' => k.nx σ' env' g' H' (e.trans e'), fun d v g' H' e' => k.rt d v g' H' (e.trans e'), fun σ' env' g' H' e' => k.bk σ' env' g' H' (e.trans e'), fun σ' env' g' H' e' => k.ct σ' env' g' H' (e.trans e'), fun x a σ' env' g' H' e' => k.ex x a σ' env' g' H' (e.trans e')⟩
theorem EC.xc {c : Cn} {g : Gs} {H : Hp} {D : Ends} {Dn : EnD} {W : WX} (k : EC c g H D Dn W) {σ : L2.St} {env : En} (r : RelE c.K g H σ env) : XC c g H (fun x m => Dn.ex x env m) W σ := fun x a g' H' e s q m => k.ex x a σ env g' H' e s (r.mono e) q m
def SndS (c : Cn) (t : WX → TS) (w : WS) : Prop := ∀ (W : WX) (σ : L2.St) (H : Hp) (g : Gs) (env : En) (D : Ends) (Dn : EnD), RelE c.K g H σ env → StOk c.K g H → w env g.μ Dn → EC c g H D Dn W → t W D σ H
def SS (c : Cn) (s : Stmt) (w : WS) : Prop := ∃ t : WX → TS, (∀ X W, CxIn c X W → PS X s (t W)) ∧ SndS c t w
def SSs (c : Cn) (ss : List Stmt) (w : WS) : Prop := ∃ t : WX → TS, (∀ X W, CxIn c X W → PSs X ss (t W)) ∧ SndS c t w
section
variable {c : Cn} {Φ : Str → FS} {K : PySem.W.Frag} {g : Gs} {H : Hp}
theorem sss_nil : SSs c [] (wSs Φ .nil) := ⟨fun _ => tNext, fun X W h => pss_nil, fun W σ H g env D Dn r s w k => k.nx σ env g H (Ext.refl _ _) s r w⟩
theorem sss_cons {st : Stmt} {rest : List Stmt} {s : IS} {ss : ISs} (h1 : SS c st (wS Φ s)) (h2 : SSs c rest (wSs Φ ss)) : SSs c (st :: rest) (wSs Φ (.cons s ss)) := by
  obtain ⟨t, ht, hw⟩ := h1
  obtain ⟨u, hu, hw2⟩ := h2
  refine ⟨fun W => tSeq (t W) (u W), fun X W h => pss_cons (ht X W h) (hu X W h), fun W σ H g env D Dn r s w k => ?_⟩
  refine hw W σ H g env { D with nx := u W D } { Dn with nx := fun e m => wSs Φ ss e m Dn } r s w ⟨fun σ' env' g' H' e' s' r' w' => ?_, k.rt, k.bk, k.ct, k.ex⟩
  exact hw2 W σ' H' g' env' D Dn r' s' w' (k.mono e')
/-- a thing that was a cell stands still -/
theorem rep_st {i : Nat} {env : En} {σ : L2.St} {d : D} (r : RelE K g H σ env) {v : V} (hv : σ[i]? = some (some v)) (h : Rep K g H d v) : RelE K g H σ (st env i d) := by
  refine ⟨by rw [st_len]; exact r.len, fun j e hj => ?_⟩
  rcases Nat.lt_or_ge i env.length with hi | hi
  · rw [lk_st env i j d hi] at hj
    by_cases q : j = i
    · rw [if_pos q] at hj
      cases hj
      rw [q]
      exact ⟨v, hv, h⟩
    · rw [if_neg q] at hj
      exact r.at_ j e hj
  · rw [st_out env i d hi] at hj
    exact r.at_ j e hj
def Gs.kill (g : Gs) (n : Nat) : Gs := ⟨g.ρ, g.μ.set n none, g.hid⟩
theorem kill_get {n j : Nat} {m : MO} (h : (g.kill n).μ[j]? = some (some m)) : j ≠ n ∧ g.μ[j]? = some (some m) := by
  have h : (g.μ.set n none)[j]? = some (some m) := h
  by_cases e : n = j
  · subst e
    by_cases l : n < g.μ.length
    · rw [List.getElem?_set_self l] at h; cases h
    · rw [List.getElem?_eq_none (by simpa using l)] at h; cases h
  · rw [List.getElem?_set_ne e] at h
    exact ⟨Ne.symm e, h⟩
theorem kill_live {n : Nat} {a : Addr} (h : (g.kill n).live a) : g.live a := by
  rcases h with ⟨k, m, h1, h2⟩ | l
  · exact .inl ⟨k, m, (kill_get h1).2, h2⟩
  · exact .inr l
theorem kill_len {n : Nat} : (g.kill n).μ.length = g.μ.length := by show (g.μ.set n none).length = _; rw [List.length_set]
theorem Ext.kill {n : Nat} : Ext g H (g.kill n) H :=
  ⟨⟨fun _ _ h k => ⟨h, fun l => k (kill_live l)⟩, fun _ _ _ h _ => h, fun _ _ => rfl, by rw [kill_len]; exact Nat.le_refl _⟩, fun _ _ h e => ⟨h, e⟩⟩
theorem StOk.kill {n : Nat} (s : StOk K g H) : StOk K (g.kill n) H :=
  ⟨fun k m h => RepO.mono Ext.kill _ (s.ob k m (kill_get h).2), fun i j m m' h1 h2 e => s.inj i j m m' (kill_get h1).2 (kill_get h2).2 e, fun a l => ⟨(s.hd a l).1, fun k m h => (s.hd a l).2 k m (kill_get h).2⟩⟩
theorem kill_not {n : Nat} {m : MO} (s : StOk K g H) (h : g.μ[n]? = some (some m)) : ¬ (g.kill n).live (g.ρ n) := by
  rintro (⟨k, m', h1, h2⟩ | l)
  · obtain ⟨h3, h4⟩ := kill_get h1
    exact h3 (s.inj k n m' m h4 h h2)
  · exact (s.hd _ l).2 n m h rfl
theorem sss_fz {i : Nat} {rest : List Stmt} {ss : ISs} (h2 : SSs c rest (wSs Φ ss)) : SSs c rest (wSs Φ (.fz i ss)) := by
  obtain ⟨u, hu, hw2⟩ := h2
  refine ⟨u, hu, fun W σ H g env D Dn r s w k => ?_⟩
  have w : fzW i env g.μ fun e m => wSs Φ ss e m Dn := w
  unfold fzW at w
  split at w
  · rename_i n e0
    obtain ⟨v, hv, rv⟩ := r.at_ i _ e0
    have r' := r.mono (Ext.kill (n := n))
    split at w
    · rename_i xs e1
      obtain ⟨vs, h1, ra⟩ := s.ob _ _ e1
      refine hw2 W σ H (g.kill n) _ D Dn (rep_st (d := .lst xs) r' hv ⟨_, vs, rv.2, ⟨h1, kill_not s e1⟩, RepA.mono Ext.kill _ _ ra⟩) s.kill w (k.mono Ext.kill)
    · rename_i ks ds e1
      obtain ⟨vs, h1, hl, ra⟩ := s.ob _ _ e1
      refine hw2 W σ H (g.kill n) _ D Dn (rep_st (d := .dct ks ds) r' hv ⟨_, vs, rv.2, ⟨.inl h1, kill_not s e1⟩, hl, RepA.mono Ext.kill _ _ ra⟩) s.kill w (k.mono Ext.kill)
    · exact w.elim
  · exact w.elim
/-! ### small statements -/
theorem ss_ex {e : Expr} {x : IE} {pos : Pos} (he : SE c e (wE Φ x)) (hs : ∀ env, swapsWith e none pos.line env = pure false) : SS c (.Expr e pos) (wS Φ (.ex x)) := by
  obtain ⟨t, ht, hw⟩ := he
  refine ⟨fun W => tDrop (t W), fun X W h => ps_expr (ht X W h) (hs _), fun W σ H g env D Dn r s w k => ?_⟩
  exact hw W σ H g env _ _ _ r s (show wE Φ x env g.μ (fun _ μ1 => Dn.nx env μ1) (fun x m => Dn.ex x env m) from w) (fun d v g1 H1 e1 s1 r1 q1 => k.nx σ env g1 H1 e1 s1 (r.mono e1) q1) (k.xc r)
theorem ss_ret {e : Expr} {x : IE} {pos : Pos} (he : SE c e (wE Φ x)) : SS c (.Return (some e) pos) (wS Φ (.ret x)) := by
  obtain ⟨t, ht, hw⟩ := he
  refine ⟨fun W => tRet (t W), fun X W h => ps_ret (ht X W h), fun W σ H g env D Dn r s w k => ?_⟩
  exact hw W σ H g env _ _ _ r s (show wE Φ x env g.μ Dn.rt (fun x m => Dn.ex x env m) from w) (fun d v g1 H1 e1 s1 r1 q1 => k.rt d v g1 H1 e1 s1 r1 q1) (k.xc r)
theorem ss_iff {e : Expr} {x : IE} {p q : List Stmt} {a b : ISs} {pos : Pos} (he : ST c e (wE Φ x)) (ha : SSs c p (wSs Φ a)) (hb : SSs c q (wSs Φ b)) : SS c (.If e p q pos) (wS Φ (.iff x a b)) := by
  obtain ⟨t, ht, hw⟩ := he
  obtain ⟨u, hu, hw2⟩ := ha
  obtain ⟨v, hv, hw3⟩ := hb
  refine ⟨fun W => tIfS (t W) (u W) (v W), fun X W h => ps_if (ht X W h) (hu X W h) (hv X W h), fun W σ H g env D Dn r s w k => ?_⟩
  refine ST.use (e := e) hw r s (show wE Φ x env g.μ (fun x μ1 => asB x fun t => onB t (wSs Φ a env μ1 Dn) (wSs Φ b env μ1 Dn)) (fun x m => Dn.ex x env m) from w) (fun b g1 H1 e1 s1 q1 => ?_) (k.xc r)
  cases b with
  | true => exact iteT (hw2 W σ H1 g1 env D Dn (r.mono e1) s1 (q1.1 rfl) (k.mono e1))
  | false => exact iteF (hw3 W σ H1 g1 env D Dn (r.mono e1) s1 (q1.2 rfl) (k.mono e1))
theorem ss_cont {pos : Pos} : SS c (.Continue pos) (wS Φ .cont) := ⟨fun _ => tCont, fun X W h => ps_continue, fun W σ H g env D Dn r s w k => k.ct σ env g H (Ext.refl _ _) s r w⟩
theorem ss_nev {st : Stmt} : SS c st (wS Φ .nev) := ⟨fun _ => tNever, fun X W h => ps_never, fun W σ H g env D Dn r s w k => w⟩
theorem ss_set {x : Str} {i : Nat} {e : Expr} {y : IE} {pos' pos : Pos} (hN : c.t.N[i]? = some x) (hl : locC c.t x = true) (he : SE c e (wE Φ y)) (hs : ∀ env : Env, env.scope = c.t.sc → swapsWith e (some (.Name x pos')) pos.line env = pure false) : SS c (.Assign [.Name x pos'] e pos) (wS Φ (.asg (.n i) y)) := by
  obtain ⟨t, ht, hw⟩ := he
  refine ⟨fun W => tAsg (t W) (gName i), fun X W h => ps_set (by rw [h.N]; exact h.nd) (by rw [h.N]; exact hN) (locC_ok h hl).1 (ht X W h) (hs _ h.sc) (locC_ok h hl).2, fun W σ H g env D Dn r s w k => ?_⟩
  exact hw W σ H g env _ _ _ r s (show wE Φ y env g.μ (fun d μ1 => Dn.nx (st env i d) μ1) (fun x m => Dn.ex x env m) from w) (fun d v g1 H1 e1 s1 r1 q1 => k.nx _ _ g1 H1 e1 s1 ((r.mono e1).set r1) q1) (k.xc r)
theorem ss_setC {x : Str} {i : Nat} {e : Expr} {y : IE} {pos' pos : Pos} (hN : c.t.N[i]? = some x) (hl : c.t.sc.names.lookup x = some .local) (he : SEC c e (wE Φ y)) (hs : ∀ env : Env, env.scope = c.t.sc → swapsWith e (some (.Name x pos')) pos.line env = pure true) : SS c (.Assign [.Name x pos'] e pos) (wS Φ (.asg (.n i) y)) := by
  obtain ⟨t, _, ht, hw⟩ := he
  refine ⟨fun W => tAsg (t W) (gName i), fun X W h => ht X W h i x pos' pos hN hl (hs _ h.sc), fun W σ H g env D Dn r s w k => ?_⟩
  exact hw W σ H g env _ _ _ r s (show wE Φ y env g.μ (fun d μ1 => Dn.nx (st env i d) μ1) (fun x m => Dn.ex x env m) from w) (fun d v g1 H1 e1 s1 r1 q1 => k.nx _ _ g1 H1 e1 s1 ((r.mono e1).set r1) q1) (k.xc r)
theorem ss_tup {tg e : Expr} {is : List Nat} {y : IE} {pos : Pos} (hg : ST0 c tg (.t is)) (he : SE c e (wE Φ y)) (hs : ∀ env, swapsWithSole [tg] e pos.line env = pure false) (hw' : ∀ env : Env, env.scope = c.t.sc → swappedStores [tg] e env = pure none)
    (h1 : ∀ env, (assignEach [tg] env).map (·.2) = [assign tg env]) : SS c (.Assign [tg] e pos) (wS Φ (.asg (.t is) y)) := by
  obtain ⟨t, ht, hw⟩ := he
  obtain ⟨u, hu, hw2⟩ := hg
  refine ⟨fun W => tAsg (t W) u, fun X W h => ps_asg (ht X W h) (hu X W h) (hs _) (hw' _ h.sc) (h1 _), fun W σ H g env D Dn r s w k => ?_⟩
  refine hw W σ H g env _ _ _ r s (show wE Φ y env g.μ (fun d μ1 => tgW (.t is) d μ1 env fun env' => Dn.nx env' μ1) (fun x m => Dn.ex x env m) from w) (fun d v g1 H1 e1 s1 r1 q1 => ?_) (k.xc r)
  exact hw2 H1 g1 σ env d v _ _ (r.mono e1) r1 q1 fun σ' env' r' _ q => k.nx σ' env' g1 H1 e1 s1 r' q
theorem ss_par {x y : Str} {i j : Nat} {a b : Expr} {p q : IE} {px py pt pt2 pos : Pos} {kt k2 : Nat} (hi : c.t.N[i]? = some x) (hj : c.t.N[j]? = some y) (hij : i ≠ j) (hx : c.t.sc.names.lookup x = some .local) (hy : c.t.sc.names.lookup y = some .local) (ha : SE c a (wE Φ p)) (hb : SE c b (wE Φ q))
    (hs0 : ∀ env, starEach [a, b] env = (false, eval a env) :: starEach [b] env) (hs1 : ∀ env, starEach [b] env = [(false, eval b env)])
    (hw' : ∀ env : Env, env.scope = c.t.sc → swappedStores [.Tuple [.Name x px, .Name y py] kt pt] (.Tuple [a, b] k2 pt2) env = pure (some [x, y])) : SS c (.Assign [.Tuple [.Name x px, .Name y py] kt pt] (.Tuple [a, b] k2 pt2) pos) (wS Φ (.par i j p q)) := by
  obtain ⟨t, ht, hw⟩ := ha
  obtain ⟨u, hu, hw2⟩ := hb
  refine ⟨fun W => tPar i j (tCons (t W) (tCons (u W) tNil)), fun X W h => L2.ps_par h.calm (by rw [h.N]; exact h.nd) (by rw [h.N]; exact hi) (by rw [h.N]; exact hj) hij (by rw [h.sc]; exact hx) (by rw [h.sc]; exact hy) (pa_cons (ht X W h) (pa_cons (hu X W h) pa_nil (hs1 _)) (hs0 _)) (hw' _ h.sc), fun W σ H g env D Dn r s w k => ?_⟩
  refine hw W σ H g env _ _ _ r s (show wE Φ p env g.μ (fun x μ1 => wE Φ q env μ1 (fun y μ2 => Dn.nx (st (st env i x) j y) μ2) fun x m => Dn.ex x env m) (fun x m => Dn.ex x env m) from w) (fun d v g1 H1 e1 s1 r1 q1 => ?_) (k.xc r)
  refine hw2 W σ H1 g1 env _ _ _ (r.mono e1) s1 q1 (fun d2 v2 g2 H2 e2 s2 r2 q2 => ?_) ((k.xc r).mono e1)
  exact ⟨v, v2, rfl, k.nx _ _ g2 H2 (e1.trans e2) s2 (((r.mono (e1.trans e2)).set (Rep.mono e2 _ _ r1)).set r2) q2⟩
/-- o[i] = .. as a target -/
theorem ss_sub {o i e : Expr} {x y z : IE} {p pos : Pos} (ho : SE c o (wE Φ x)) (hi : SE c i (wE Φ y)) (he : SE c e (wE Φ z)) (hs : ∀ env, swapsWithSole [.Subscript o i p] e pos.line env = pure false)
    (ha : ∀ (env : Env) v, assign (.Subscript o i p) env v = (do
      let ov ← holding [v] (eval o env)
      let iv ← holding [v, ov] (eval i env)
      standAt p
      holding [v, ov, iv] (setItem ov iv v)
      release [v, ov, iv] [])) (hw' : ∀ env, swappedStores [.Subscript o i p] e env = pure none) (h1 : ∀ env, (assignEach [.Subscript o i p] env).map (·.2) = [assign (.Subscript o i p) env]) : SS c (.Assign [.Subscript o i p] e pos) (wS Φ (.asg (.sub x y) z)) := by
  obtain ⟨t, ht, hw⟩ := ho
  obtain ⟨u, hu, hw2⟩ := hi
  obtain ⟨v, hv, hw3⟩ := he
  refine ⟨fun W => tAsg (v W) (gSub (t W) (u W) rSetAll), fun X W h => ps_asg (hv X W h) (pg_sub (ht X W h) (hu X W h) (set_all h.room) (ha _)) (hs _) (hw' _) (h1 _), fun W σ H g env D Dn r s w k => ?_⟩
  refine hw3 W σ H g env _ _ _ r s (show wE Φ z env g.μ (fun d μ1 => wE Φ x env μ1 (fun x μ2 => wE Φ y env μ2 (fun y μ3 => setW x y d μ3 fun μ4 => Dn.nx env μ4) fun x m => Dn.ex x env m) fun x m => Dn.ex x env m) (fun x m => Dn.ex x env m) from w) (fun d vv g1 H1 e1 s1 r1 q1 => ?_) (k.xc r)
  refine hw W σ H1 g1 env _ _ _ (r.mono e1) s1 q1 (fun d2 v2 g2 H2 e2 s2 r2 q2 => ?_) ((k.xc r).mono e1)
  refine hw2 W σ H2 g2 env _ _ _ (r.mono (e1.trans e2)) s2 q2 (fun d3 v3 g3 H3 e3 s3 r3 q3 => ?_) ((k.xc r).mono (e1.trans e2))
  exact set_snd H3 g3 d2 d3 d v2 v3 vv _ _ s3 (Rep.mono e3 _ _ r2) r3 (Rep.mono (e2.trans e3) _ _ r1) q3 fun g4 H4 e4 s4 q4 => k.nx σ env g4 H4 (((e1.trans e2).trans e3).trans e4) s4 (r.mono (((e1.trans e2).trans e3).trans e4)) q4
/-- o1[i1], o2[i2] = a, b -/
theorem ss_swp {o1 i1 o2 i2 a b : Expr} {x1 y1 x2 y2 p q : IE} {p1 p2 pt pt2 pos : Pos} {kt k2 : Nat} (h1 : SE c o1 (wE Φ x1)) (h2 : SE c i1 (wE Φ y1)) (h3 : SE c o2 (wE Φ x2)) (h4 : SE c i2 (wE Φ y2)) (ha : SE c a (wE Φ p)) (hb : SE c b (wE Φ q))
    (hs0 : ∀ env, starEach [a, b] env = (false, eval a env) :: starEach [b] env) (hs1 : ∀ env, starEach [b] env = [(false, eval b env)])
    (hA : ∀ (env : Env) v, assign (.Subscript o1 i1 p1) env v = (do
      let ov ← holding [v] (eval o1 env)
      let iv ← holding [v, ov] (eval i1 env)
      standAt p1
      holding [v, ov, iv] (setItem ov iv v)
      release [v, ov, iv] []))
    (hB : ∀ (env : Env) v, assign (.Subscript o2 i2 p2) env v = (do
      let ov ← holding [v] (eval o2 env)
      let iv ← holding [v, ov] (eval i2 env)
      standAt p2
      holding [v, ov, iv] (setItem ov iv v)
      release [v, ov, iv] []))
    (hs : ∀ env, swapsWithSole [.Tuple [.Subscript o1 i1 p1, .Subscript o2 i2 p2] kt pt] (.Tuple [a, b] k2 pt2) pos.line env = pure false)
    (hw' : ∀ env, swappedStores [.Tuple [.Subscript o1 i1 p1, .Subscript o2 i2 p2] kt pt] (.Tuple [a, b] k2 pt2) env = pure none)
    (g1 : ∀ env, (assignEach [.Tuple [.Subscript o1 i1 p1, .Subscript o2 i2 p2] kt pt] env).map (·.2) = [assign (.Tuple [.Subscript o1 i1 p1, .Subscript o2 i2 p2] kt pt) env])
    (g2 : ∀ env, (assignEach [.Subscript o1 i1 p1, .Subscript o2 i2 p2] env).map (·.2) = assign (.Subscript o1 i1 p1) env :: (assignEach [.Subscript o2 i2 p2] env).map (·.2)) (g3 : ∀ env, (assignEach [.Subscript o2 i2 p2] env).map (·.2) = assign (.Subscript o2 i2 p2) env :: (assignEach [] env).map (·.2))
    (g4 : ∀ env, (assignEach [.Subscript o1 i1 p1, .Subscript o2 i2 p2] env).length = 2) (g5 : ∀ env, (assignEach [.Subscript o1 i1 p1, .Subscript o2 i2 p2] env).findIdx? (·.1) = none) :
    SS c (.Assign [.Tuple [.Subscript o1 i1 p1, .Subscript o2 i2 p2] kt pt] (.Tuple [a, b] k2 pt2) pos) (wS Φ (.swp x1 y1 x2 y2 p q)) := by
  obtain ⟨t1, ht1, hw1⟩ := h1
  obtain ⟨t2, ht2, hw2⟩ := h2
  obtain ⟨t3, ht3, hw3⟩ := h3
  obtain ⟨t4, ht4, hw4⟩ := h4
  obtain ⟨ta, hta, hwa⟩ := ha
  obtain ⟨tb, htb, hwb⟩ := hb
  refine ⟨fun W => tAsg (tTup (tCons (ta W) (tCons (tb W) tNil))) (gTup c.K 2 (gCons (gSub (t1 W) (t2 W) rSetAll) (gCons (gSub (t3 W) (t4 W) rSetAll) gNil))), fun X W h => ?_, fun W σ H g env D Dn r s w k => ?_⟩
  · refine ps_asg (pe_tup (pa_cons (hta X W h) (pa_cons (htb X W h) pa_nil (hs1 _)) (hs0 _))) ?_ (hs _) (hw' _) (g1 _)
    rw [← h.K]
    exact pg_tup h.calm (pgs_cons (pg_sub (ht1 X W h) (ht2 X W h) (set_all h.room) (hA _)) (pgs_cons (pg_sub (ht3 X W h) (ht4 X W h) (set_all h.room) (hB _)) pgs_nil (g3 _)) (g2 _)) (g4 _) (g5 _)
  · have w : wE Φ p env g.μ (fun x μ1 => wE Φ q env μ1 (fun y μ2 =>
      wE Φ x1 env μ2 (fun p μ3 => wE Φ y1 env μ3 (fun q μ4 => setW p q x μ4 fun μ5 =>
      wE Φ x2 env μ5 (fun p' μ6 => wE Φ y2 env μ6 (fun q' μ7 => setW p' q' y μ7 fun μ8 => Dn.nx env μ8) fun x m => Dn.ex x env m) fun x m => Dn.ex x env m)
      fun x m => Dn.ex x env m) fun x m => Dn.ex x env m) fun x m => Dn.ex x env m) (fun x m => Dn.ex x env m) := w
    have kx := k.xc r
    refine hwa W σ H g env _ _ _ r s w (fun d v g1 H1 e1 s1 r1 q1 => ?_) kx
    refine hwb W σ H1 g1 env _ _ _ (r.mono e1) s1 q1 (fun d2 v2 g2 H2 e2 s2 r2 q2 => ⟨by show 2 ≤ sizeLine; decide, fun tp htp => ?_⟩) (kx.mono e1)
    have e12 := e1.trans e2
    -- the pair
    have ef : Ext g2 H2 g2 (upd H2 tp (.tup [v, v2])) := Ext.frozen htp
    have sf := s2.frozen (o := .tup [v, v2]) htp
    refine ⟨tp, [v, v2], rfl, .inl (.inl upd_same), rfl, v, [v2], rfl, ?_⟩
    have r1' := Rep.mono (e2.trans ef) _ _ r1
    have r2' := Rep.mono ef _ _ r2
    have e2f := e12.trans ef
    refine hw1 W σ _ g2 env _ _ _ (r.mono e2f) sf q2 (fun d3 v3 g3 H3 e3 s3 r3 q3 => ?_) (kx.mono e2f)
    have e13 := e2f.trans e3
    refine hw2 W σ H3 g3 env _ _ _ (r.mono e13) s3 q3 (fun d4 v4 g4 H4 e4 s4 r4 q4 => ?_) (kx.mono e13)
    have e14 := e13.trans e4
    refine set_snd H4 g4 d3 d4 d v3 v4 v _ _ s4 (Rep.mono e4 _ _ r3) r4 (Rep.mono (e3.trans e4) _ _ r1') q4 fun g5 H5 e5 s5 q5 => ?_
    have e15 := e14.trans e5
    refine ⟨v2, [], rfl, ?_⟩
    refine hw3 W σ H5 g5 env _ _ _ (r.mono e15) s5 q5 (fun d6 v6 g6 H6 e6 s6 r6 q6 => ?_) (kx.mono e15)
    have e16 := e15.trans e6
    refine hw4 W σ H6 g6 env _ _ _ (r.mono e16) s6 q6 (fun d7 v7 g7 H7 e7 s7 r7 q7 => ?_) (kx.mono e16)
    have e17 := e16.trans e7
    refine set_snd H7 g7 d6 d7 d2 v6 v7 v2 _ _ s7 (Rep.mono e7 _ _ r6) r7 (Rep.mono (((((e3.trans e4).trans e5).trans e6).trans e7)) _ _ r2') q7 fun g8 H8 e8 s8 q8 => ?_
    exact ⟨rfl, k.nx σ env g8 H8 (e17.trans e8) s8 (r.mono (e17.trans e8)) q8⟩
/-! ### loops -/
theorem ss_whl {e : Expr} {x : IE} {body : List Stmt} {a : ISs} {pos : Pos} (he : ST c e (wE Φ x)) (hb : SSs c body (wSs Φ a)) : SS c (.While e body [] pos) (wS Φ (.whl x a)) := by
  obtain ⟨t, ht, hw⟩ := he
  obtain ⟨u, hu, hw2⟩ := hb
  refine ⟨fun W => tWhile (t W) (u W), fun X W h => ps_while h.po (ht X W h) (hu X W h), fun W σ H g env D Dn r s w k => ?_⟩
  let turn : Nat → En → Mu → Prop := fun n env μ => whlW (fun env' μ1 k E => wE Φ x env' μ1 (fun x μ2 => asB x fun b => k b μ2) E) (fun env' μ1 Dn' => wSs Φ a env' μ1 Dn') n env μ Dn
  obtain ⟨n, w⟩ := (show ∃ n, turn n env g.μ from w)
  refine ⟨fun m σ' H' => ∃ g' env', Ext g H g' H' ∧ StOk c.K g' H' ∧ RelE c.K g' H' σ' env' ∧ turn m env' g'.μ, ⟨n, g, env, Ext.refl _ _, s, r, w⟩, ?_⟩
  rintro m σ' H' ⟨g', env', e', s', r', w'⟩
  cases m with
  | zero => exact w'.elim
  | succ m =>
    have w' : wE Φ x env' g'.μ (fun x μ2 => asB x fun b => onB b (wSs Φ a env' μ2 { Dn with nx := fun e μ => turn m e μ, ct := fun e μ => turn m e μ, bk := Dn.nx }) (Dn.nx env' μ2)) (fun x μ => Dn.ex x env' μ) := w'
    refine ST.use (e := e) hw r' s' w' (fun b g1 H1 e1 s1 q1 => ?_) ((k.mono e').xc r')
    have e01 := e'.trans e1
    cases b with
    | true =>
      refine iteT ⟨fun σ2 H2 => ∃ g' env', Ext g H g' H2 ∧ StOk c.K g' H2 ∧ RelE c.K g' H2 σ2 env' ∧ turn m env' g'.μ, fun σ2 H2 q => ⟨m, Nat.lt_succ_self _, q⟩, ?_⟩
      exact hw2 W σ' H1 g1 env' _ _ (r'.mono e1) s1 (q1.1 rfl) ⟨fun σ2 env2 g2 H2 e2 s2 r2 q2 => ⟨g2, env2, e01.trans e2, s2, r2, q2⟩, fun d v g2 H2 e2 => k.rt d v g2 H2 (e01.trans e2), fun σ2 env2 g2 H2 e2 => k.nx σ2 env2 g2 H2 (e01.trans e2), fun σ2 env2 g2 H2 e2 s2 r2 q2 => ⟨g2, env2, e01.trans e2, s2, r2, q2⟩, fun x a σ2 env2 g2 H2 e2 => k.ex x a σ2 env2 g2 H2 (e01.trans e2)⟩
    | false => exact iteF (k.nx σ' env' g1 H1 e01 s1 (r'.mono e1) (q1.2 rfl))
theorem ss_for {tg iter : Expr} {T : Tg} {it : II} {body : List Stmt} {a : ISs} {pos : Pos} (hi : SI c tg iter (wI Φ it)) (hg : ST0 c tg T) (hb : SSs c body (wSs Φ a)) : SS c (.For tg iter body [] pos) (wS Φ (.for_ T it a)) := by
  obtain ⟨ti, hti, hfold, hwi⟩ := hi
  obtain ⟨tg', htg, hwg⟩ := hg
  obtain ⟨u, hu, hw2⟩ := hb
  refine ⟨fun W => tFor (ti W) tg' (u W), fun X W h => ps_for h.po h.calm (hti X W h) (htg X W h) (hu X W h) (hfold _), fun W σ H g env D Dn r s w k => ?_⟩
  refine hwi W σ H g env _ _ _ r s (show wI Φ it env g.μ (fun ds src μ1 => forW src T (fun env' μ2 Dn' => wSs Φ a env' μ2 Dn') ds env μ1 Dn) (fun x m => Dn.ex x env m) from w) (fun ds src g1 H1 J e1 s1 hsrc w1 ij => ?_) (k.xc r)
  obtain ⟨G, Y, wk, hG, hY⟩ := ij
  let rest : List FW.D → En → Mu → Prop := fun ds env μ => forW src T (fun env' μ2 Dn' => wSs Φ a env' μ2 Dn') ds env μ Dn
  let Pv : Nat → L2.St → Hp → Prop := fun i σ' H' => ∃ (g' : Gs) (env' : En), Ext g1 H1 g' H' ∧ StOk c.K g' H' ∧ RelE c.K g' H' σ' env' ∧ src g'.μ ∧ rest (ds.drop i) env' g'.μ
  refine for_it wk Pv ?h0 ?hG ?hs ?hd
  case h0 => exact ⟨g1, env, Ext.refl _ _, s1, r.mono e1, hsrc, by rw [List.drop_zero]; exact w1⟩
  case hG =>
    rintro i σ' H' _ ⟨g', env', e', s', _, q', _⟩
    exact hG g' H' e' s' q'
  case hs =>
    rintro i x σ' H' H'' hi ⟨g', env', e', s', r', q', w'⟩ y
    obtain ⟨d, hd, e2, s2, rd⟩ := hY i g' H' x H'' e' s' q' hi y
    have hdrop : ds.drop i = d :: ds.drop (i + 1) := by
      obtain ⟨hlt, e⟩ := List.getElem?_eq_some_iff.mp hd
      rw [List.drop_eq_getElem_cons hlt, e]
    rw [hdrop] at w'
    have w' : tgW T d g'.μ env' fun env2 => wSs Φ a env2 g'.μ { Dn with nx := fun e m => src m ∧ rest (ds.drop (i + 1)) e m, ct := fun e m => src m ∧ rest (ds.drop (i + 1)) e m, bk := Dn.nx } := w'
    have e12 := e'.trans e2
    have e02 := e1.trans e12
    refine hwg H'' g' σ' env' d x _ _ (r'.mono e2) rd w' fun σ2 env2 r2 _ w2 => ?_
    exact hw2 W σ2 H'' g' env2 _ _ r2 s2 w2 ⟨fun σ3 env3 g3 H3 e3 s3 r3 q3 => ⟨g3, env3, e12.trans e3, s3, r3, q3.1, q3.2⟩, fun d v g2 H2 e2 => k.rt d v g2 H2 (e02.trans e2), fun σ2 env2 g2 H2 e2 => k.nx σ2 env2 g2 H2 (e02.trans e2), fun σ3 env3 g3 H3 e3 s3 r3 q3 => ⟨g3, env3, e12.trans e3, s3, r3, q3.1, q3.2⟩, fun x a σ2 env2 g2 H2 e2 => k.ex x a σ2 env2 g2 H2 (e02.trans e2)⟩
  case hd =>
    rintro σ' H' ⟨g', env', e', s', r', q', w'⟩
    rw [List.drop_length] at w'
    exact k.nx σ' env' g' H' (e1.trans e') s' r' w'
end
end FW

set_option Elab.async false
set_option linter.all false
set_option maxRecDepth 100000
/-! DLk: the check of a compact text against the def's text. -/
namespace FW
open PySem PySem.Spec PyProof.Rows L2
/-! ### what is asked of the syntax -/
def noStar : Expr → Bool
  | .Starred _ _ => false
  | _ => true
def noSl : Expr → Bool
  | .Slice _ _ _ _ => false
  | _ => true
def noSet : Expr → Bool
  | .Set _ _ _ => false
  | _ => true
def noComp : Expr → Bool
  | .ListComp _ _ _ _ => false
  | .SetComp _ _ _ _ => false
  | .DictComp _ _ _ _ _ => false
  | _ => true
def noTup : Expr → Bool
  | .Tuple _ _ _ => false
  | _ => true
def noCall0 : Expr → Bool
  | .Call (.Name _ _) [] [] _ => false
  | _ => true
def plainT : Expr → Bool
  | .UnaryOp .Not _ _ => false
  | .BoolOp _ _ _ => false
  | .IfExp _ _ _ _ => false
  | .Compare _ _ _ _ => false
  | _ => true
theorem star_ok {e : Expr} (h : noStar e = true) : ∀ (rest : List Expr) (env : Env), starEach (e :: rest) env = (false, eval e env) :: starEach rest env := by
  intro rest env
  cases e <;> first | rfl | cases h
theorem asgE_ok {e : Expr} (h : noStar e = true) : ∀ (rest : List Expr) (env : Env), assignEach (e :: rest) env = (false, assign e env) :: assignEach rest env := by
  intro rest env
  cases e <;> first | rfl | cases h
theorem stars_ok : ∀ {es : List Expr}, es.all noStar = true → ∀ (pos : Pos) (env : Env), (backTo pos (starEach es env)).any (·.1) = false
  | [], _, _, _ => rfl
  | e :: es, h, pos, env => by
    obtain ⟨h1, h2⟩ := Bool.and_eq_true_iff.mp (show (noStar e && es.all noStar) = true from h)
    rw [star_ok h1]
    show (false || (backTo pos (starEach es env)).any (·.1)) = false
    rw [stars_ok h2]
    rfl
theorem stars_all : ∀ {es : List Expr}, es.all noStar = true → ∀ (pos : Pos) (env : Env), (backTo pos (starEach es env)).all (fun x => !x.1) = true
  | [], _, _, _ => rfl
  | e :: es, h, pos, env => by
    obtain ⟨h1, h2⟩ := Bool.and_eq_true_iff.mp (show (noStar e && es.all noStar) = true from h)
    rw [star_ok h1]
    show (true && (backTo pos (starEach es env)).all (fun x => !x.1)) = true
    rw [stars_all h2]
    rfl
theorem plainIx_ok {b : Expr} (h : noSl b = true) : PlainIx b := by
  intro o i
  cases b <;> first | rfl | cases h
theorem fold_ok {e : Expr} (h : noSet e = true) : ∀ env x, foldedSetIterable e env x = pure x := by
  intro env x
  cases e <;> first | rfl | cases h
theorem base_ok {o : Expr} (h : noCall0 o = true) (attr : Str) : ∀ env, attributeBase o attr env (eval o env) = eval o env := by
  intro env
  unfold attributeBase
  cases o with
  | Call f as ks pos =>
    cases f with
    | Name _ _ =>
      cases as with
      | nil =>
        cases ks with
        | nil => cases h
        | cons _ _ => rfl
      | cons _ _ => rfl
    | _ => rfl
  | _ => rfl
theorem swap_ok {e : Expr} (h : noComp e = true) (t : Option Expr) (l : Nat) : ∀ env, swapsWith e t l env = pure false := by
  intro env
  cases e <;> first | rfl | cases h
theorem test_ok {e : Expr} (h : plainT e = true) : ∀ (env : Env) (whole : Sem Value), isTrue e env whole = (do let v ← whole; standAt e.pos; holding [v] (truthy v)) := by
  intro env whole
  cases e with
  | UnaryOp o x pos => cases o <;> first | rfl | cases h
  | _ => first | rfl | cases h
theorem few_ok {es : List Expr} (h : es.all noStar = true) (hl : es.length < 30) (cpos : Pos) : ∀ env, ((backTo cpos (starEach es env)).all (fun x => !x.1) && (backToKw cpos (keywordEach [] env)).all (fun x => x.1.isSome)
      && decide (es.length + ([] : List Keyword).length + (if ([] : List Keyword).isEmpty then 0 else 1) < 30)) = true := by
  intro env
  rw [stars_all h]
  show (true && true && decide (es.length + 0 + 0 < 30)) = true
  rw [decide_eq_true (by omega)]
  rfl
theorem sub_ok {o i : Expr} (h : noSl i = true) (p : Pos) : ∀ (env : Env) v, assign (.Subscript o i p) env v = (do
      let ov ← holding [v] (eval o env)
      let iv ← holding [v, ov] (eval i env)
      standAt p
      holding [v, ov, iv] (setItem ov iv v)
      release [v, ov, iv] []) := by
  intro env v
  cases i <;> first | rfl | cases h
/-- a, b = .., told apart -/
def parC (sc : Scope) (x y : Str) (px py : Pos) (a b : Expr) : Bool :=
  (match sc.kind with
  | .function => true
  | _ => false) && noStar a && noStar b && decide (sc.names.lookup x = some .local) && decide (sc.names.lookup y = some .local) && (py.line == px.line) && !(x == y) && !(y == x) && !(foldedForSure 8 a && foldedForSure 8 b) && !(constantsAlone 8 a && constantsAlone 8 b)
theorem par_ok {sc : Scope} {x y : Str} {px py pt pt2 : Pos} {kt k2 : Nat} {a b : Expr} (h : parC sc x y px py a b = true) : ∀ env : Env, env.scope = sc → swappedStores [.Tuple [.Name x px, .Name y py] kt pt] (.Tuple [a, b] k2 pt2) env = pure (some [x, y]) := by
  intro env he
  unfold parC at h
  simp only [Bool.and_eq_true, decide_eq_true_eq] at h
  obtain ⟨⟨⟨⟨⟨⟨⟨⟨⟨h1, h2⟩, h3⟩, h4⟩, h5⟩, h6⟩, h7⟩, h7'⟩, h8⟩, h9⟩ := h
  have hk : env.blockKind = .function := by
    unfold Env.blockKind
    rw [he]
    split at h1
    · rename_i q; rw [q]; rfl
    · cases h1
  have kx : env.kindOf x = some .local := by unfold Env.kindOf; rw [he]; exact h4
  have ky : env.kindOf y = some .local := by unfold Env.kindOf; rw [he]; exact h5
  unfold swappedStores
  have h6' : py.line = px.line := eq_of_beq h6
  have q1 : (Expr.Name x px).pos.line = px.line := rfl
  have e7 : (y == x) = false := by simpa using h7'
  have e8 : ¬ (foldedForSure 8 a = true ∧ foldedForSure 8 b = true) := by
    rintro ⟨u, v⟩
    rw [u, v] at h8
    cases h8
  have e9 : ¬ (constantsAlone 8 a = true ∧ constantsAlone 8 b = true) := by
    rintro ⟨u, v⟩
    rw [u, v] at h9
    cases h9
  simp [hk, kx, ky, h6', q1, e8, e9, List.eraseDups_cons, e7]
  rintro (u | u)
  · cases a <;> first | (cases h2; done) | (cases u; done)
  · cases b <;> first | (cases h3; done) | (cases u; done)
/-- .. told as one thing -/
theorem nopar_ok {e : Expr} (h : noTup e = true) (tg : Expr) : ∀ env : Env, swappedStores [tg] e env = pure none := by
  intro env
  cases e <;> first | (cases tg <;> rfl) | cases h
/-- constants alone -/
def allConst : List Expr → Bool
  | [] => true
  | .Constant _ _ _ :: r => allConst r
  | _ => false
theorem allConst_fold : ∀ {es : List Expr}, allConst es = true → es.all (foldedForSure 8) = true
  | [], _ => rfl
  | .Constant v k p :: r, h => by
    show (true && r.all (foldedForSure 8)) = true
    rw [allConst_fold (es := r) h]
    rfl
theorem noparC_ok {es ts : List Expr} {k kt : Nat} {pos pt : Pos} (h : allConst es = true) : ∀ env : Env, swappedStores [.Tuple ts kt pt] (.Tuple es k pos) env = pure none := by
  intro env
  have := allConst_fold h
  simp only [swappedStores, this]
  simp
theorem noparS_ok {o1 i1 o2 i2 a b : Expr} {p1 p2 pt pt2 : Pos} {kt k2 : Nat} : ∀ env : Env, swappedStores [.Tuple [.Subscript o1 i1 p1, .Subscript o2 i2 p2] kt pt] (.Tuple [a, b] k2 pt2) env = pure none := by
  intro env
  simp [swappedStores]
/-! ### the check -/
def glC (t : Ct) (x : Str) : Bool := decide (t.sc.names.lookup x = some .globalImplicit) && !(x == ("__debug__" : Str))
def frC (t : Ct) (x : Str) : Bool := decide (x ∈ t.frees) && glC t x
def visC (sc : Scope) (x : Str) : Bool := match sc.names.lookup x with
  | some .local => true
  | some .cell => true
  | some .free => true
  | _ => false
theorem visC_ok {sc : Scope} {x : Str} (h : visC sc x = true) : Vis sc x := by
  unfold visC at h
  split at h
  · rename_i e; exact .inl e
  · rename_i e; exact .inr (.inl e)
  · rename_i e; exact .inr (.inr e)
  · cases h
/-- equal constants of the module -/
def intsEq : List D → List D → Bool
  | [], [] => true
  | .int i :: r, .int j :: s => decide (i = j) && intsEq r s
  | _, _ => false
theorem intsEq_ok : ∀ {a b : List D}, intsEq a b = true → a = b
  | [], [], _ => rfl
  | .int i :: r, .int j :: s, h => by
    obtain ⟨h1, h2⟩ := Bool.and_eq_true_iff.mp (show (decide (i = j) && intsEq r s) = true from h)
    rw [of_decide_eq_true h1, intsEq_ok h2]
def gEq : D → D → Bool
  | .int i, .int j => decide (i = j)
  | .str i, .str j => decide (i = j)
  | .tup a, .tup b => intsEq a b
  | _, _ => false
theorem gEq_ok : ∀ {a b : D}, gEq a b = true → a = b
  | .int i, .int j, h => by rw [of_decide_eq_true (show decide (i = j) = true from h)]
  | .str i, .str j, h => by rw [of_decide_eq_true (show decide (i = j) = true from h)]
  | .tup a, .tup b, h => by rw [intsEq_ok (show intsEq a b = true from h)]
def globC : List (Str × D) → Str → D → Bool
  | [], _, _ => false
  | (y, e) :: r, x, d => (decide (y = x) && gEq e d) || globC r x d
theorem globC_ok : ∀ {l : List (Str × D)} {x : Str} {d : D}, globC l x d = true → (x, d) ∈ l
  | (y, e) :: r, x, d, h => by
    rcases Bool.or_eq_true_iff.mp (show ((decide (y = x) && gEq e d) || globC r x d) = true from h) with h | h
    · obtain ⟨h1, h2⟩ := Bool.and_eq_true_iff.mp h
      rw [← of_decide_eq_true h1, ← gEq_ok h2]
      exact List.mem_cons_self
    · exact List.mem_cons_of_mem _ (globC_ok h)
def constC : D → Const → Bool
  | .non, .none => true
  | .bl a, .bool b => a == b
  | .int a, .int b => decide (a = b)
  | .str a, .str b => decide (a = b)
  | _, _ => false
/-- built-ins by their names -/
inductive BiK where
  | fn (x : Str) (id : String) | ty (x : Str) (T : String) | no
def biN : Bi → BiK
  | .len => .fn "len" "len"
  | .all => .fn "all" "all"
  | .any => .fn "any" "any"
  | .abs => .fn "abs" "abs"
  | .sum => .fn "sum" "sum"
  | .sorted => .fn "sorted" "sorted"
  | .sortedDk => .fn "sorted" "sorted"
  | .min2 => .fn "min" "min"
  | .max2 => .fn "max" "max"
  | .list => .ty "list" "list"
  | .tuple => .ty "tuple" "tuple"
  | .dict => .ty "dict" "dict"
  | .int => .ty "int" "int"
  | _ => .no
def meN : Mt → Option Str
  | .append => some "append"
  | .extend => some "extend"
  | .insert => some "insert"
  | .pop => some "pop"
  | .popi => some "pop"
  | .index => some "index"
  | .update => some "update"
  | _ => none
def tyC : String → Bool
  | "int" => true
  | "bool" => true
  | "str" => true
  | "tuple" => true
  | "list" => true
  | _ => false
theorem tyC_ok {t : String} (h : tyC t = true) : t = "int" ∨ t = "bool" ∨ t = "str" ∨ t = "tuple" ∨ t = "list" := by
  unfold tyC at h
  split at h
  · exact .inl rfl
  · exact .inr (.inl rfl)
  · exact .inr (.inr (.inl rfl))
  · exact .inr (.inr (.inr (.inl rfl)))
  · exact .inr (.inr (.inr (.inr rfl)))
  · cases h
def ownP (N : List Str) (own : List Nat) : List (Str × Nat) := own.map fun i => ((N[i]?).getD ("" : Str), i)
theorem ownP_snd (N : List Str) (own : List Nat) : (ownP N own).map (·.2) = own := by
  unfold ownP
  rw [List.map_map]
  exact List.map_id own
/-- targets -/
def nameC (t : Ct) (i : Nat) (e : Expr) : Bool := match e with
  | .Name x _ => decide (t.N[i]? = some x) && locC t x
  | _ => false
def namesC (t : Ct) : List Nat → List Expr → Bool
  | [], [] => true
  | i :: is, e :: es => nameC t i e && namesC t is es
  | _, _ => false
def tgC (t : Ct) (T : Tg) (e : Expr) : Bool := match T, e with
  | .n i, e => nameC t i e
  | .t is, .Tuple es _ _ => namesC t is es
  | _, _ => false
def subC (a b : List Nat) : Bool := a.all fun i => decide (i ∈ b)
def isiArgs : List Expr → Option (Expr × Str)
  | [e, .Name y _] => some (e, y)
  | _ => none
theorem isiArgs_ok {xs : List Expr} {e : Expr} {y : Str} (h : isiArgs xs = some (e, y)) : ∃ p, xs = [e, .Name y p] := by
  unfold isiArgs at h
  split at h
  · cases h; exact ⟨_, rfl⟩
  · cases h
def zipArgs : List Expr → Option (Str × Expr × Expr)
  | [.Call (.Name z _) [e, e2] [] _] => some (z, e, e2)
  | _ => none
theorem zipArgs_ok {xs : List Expr} {z : Str} {e e2 : Expr} (h : zipArgs xs = some (z, e, e2)) : ∃ p q, xs = [.Call (.Name z p) [e, e2] [] q] := by
  unfold zipArgs at h
  split at h
  · cases h; exact ⟨_, _, rfl⟩
  · cases h
def setArg : List Expr → Option (Str × Expr)
  | [.Call (.Name z _) [e] [] _] => some (z, e)
  | _ => none
theorem setArg_ok {xs : List Expr} {z : Str} {e : Expr} (h : setArg xs = some (z, e)) : ∃ p q, xs = [.Call (.Name z p) [e] [] q] := by
  unfold setArg at h
  split at h
  · cases h; exact ⟨_, _, rfl⟩
  · cases h
def opC : Operator → Bool
  | .Add => true
  | .Sub => true
  | .Mult => true
  | .FloorDiv => true
  | .Mod => true
  | .Pow => true
  | _ => false
mutual
def okP (t : Ct) : IE → Expr → Bool × Bool
  | .v i, .Name x _ => let b := decide (t.N[i]? = some x) && visC t.sc x && !(x == ("__debug__" : Str)) && !(x == ("__classdict__" : Str)); (b, b)
  | .g y d, .Name x _ => let b := decide (x = y) && globC t.globs x d && glC t x; (b, b)
  | .k d, .Constant v _ _ => let b := constC d v; (b, b)
  | .tup es, .Tuple xs _ _ => (okEs t es xs && decide (xs.length ≤ 1000), false)
  | .lst _ es, .List xs _ => (okEs t es xs && decide (xs.length ≤ 1000), false)
  | .op o _ a b, .BinOp x p y _ => (decide (o = p) && opC o && (okP t a x).1 && (okP t b y).1, false)
  | .neg a, .UnaryOp .USub x _ => ((okP t a x).1, false)
  | .not a, .UnaryOp .Not x _ => ((okP t a x).1, (okP t a x).2)
  | .bop o es, .BoolOp p xs _ => let b := decide (o = p); (b && (okBs t es xs).1, b && (okBs t es xs).2)
  | .ife c a b, .IfExp z x y _ => ((okP t c z).2 && (okP t a x).1 && (okP t b y).1, false)
  | .cmp o a b, .Compare x ps ys _ => let q := (match ps, ys with
      | [p], [y] => decide (o = p) && !behindInMarks o y && (okP t a x).1 && (okP t b y).1
      | _, _ => false); (q, q)
  | .chn o o' a b c, .Compare x ps ys _ => let q := (match ps, ys with
      | [p, p'], [y, z] => decide (o = p) && decide (o' = p') && !lastMarks [o, o'] [y, z] && (okP t a x).1 && (okP t b y).1 && (okP t c z).1
      | _, _ => false); (q, q)
  | .ix a b, .Subscript x y _ => let q := noSl y && (okP t a x).1 && (okP t b y).1; (q, q)
  | .sl _ a lo hi, .Subscript x y _ => ((match y with
      | .Slice l h none _ => (okP t a x).1 && okO t lo l && okO t hi h
      | _ => false), false)
  | .rev a, .Subscript x y _ => ((match y with
      | .Slice none none (some (.UnaryOp .USub (.Constant (.int i) _ _) _)) _ => decide (i = 1) && (okP t a x).1
      | _ => false), false)
  | .call f _ es, .Call g xs ks _ => let q := (match g, ks with
      | .Name x _, [] => decide (f = x) && decide ((f, xs.length) ∈ t.fns) && glC t x && !xs.isEmpty && okEs t es xs
      | _, _ => false); (q, q)
  | .bi b _ es, .Call g xs ks _ => let q := (match g, ks with
      | .Name x _, [] => (match b with
        | .isi T => (match es with
          | .cons a .nil => (match isiArgs xs with
            | some (e, y) => decide (x = "isinstance") && frC t x && frC t y && decide (y = Str.ofString T) && tyC T && noStar e && (okP t a e).1
            | none => false)
          | _ => false)
        | .dictZip => (match zipArgs xs with
          | some (z, e, e2) => decide (x = "dict") && decide (z = "zip") && frC t x && frC t z && okEs t es [e, e2]
          | none => false)
        | .listZip => (match zipArgs xs with
          | some (z, e, e2) => decide (x = "list") && decide (z = "zip") && frC t x && frC t z && okEs t es [e, e2]
          | none => false)
        | .sortedZip => (match zipArgs xs with
          | some (z, e, e2) => decide (x = "sorted") && decide (z = "zip") && frC t x && frC t z && okEs t es [e, e2]
          | none => false)
        | .lenSet => (match es with
          | .cons a .nil => (match setArg xs with
            | some (z, e) => decide (x = "len") && decide (z = "set") && frC t x && frC t z && noStar e && (okP t a e).1
            | none => false)
          | _ => false)
        | b => (match biN b with
          | .fn y _ => decide (x = y) && frC t x && !xs.isEmpty && okEs t es xs
          | .ty y _ => decide (x = y) && frC t x && !xs.isEmpty && okEs t es xs
          | .no => false))
      | _, _ => false); (q, q)
  | .me b a es, .Call g xs ks pos => let q := (match g, ks with
      | .Attribute o n apos, [] => decide (meN b = some n) && (apos.endLine == pos.line) && noCall0 o && decide (xs.length < 30) && (match b, xs with
        | .pop, [] => true
        | .pop, _ => false
        | _, [] => false
        | _, _ => true) && (okP t a o).1 && okEs t es xs
      | _, _ => false); (q, q)
  | .lc _ own e T it cs, .ListComp elt gs scope _ => ((match gs with
      | [⟨tg, iter, ifs, 0⟩] => blkC t.N t.sc scope (ownP t.N own) && subC T.ids own && tgC (t.blk scope) T tg && okI t it iter && okC (t.blk scope) cs ifs && (okP (t.blk scope) e elt).1 && (match it, tg with
        | .enu _, .Tuple _ _ _ => true
        | .zip _ _, .Tuple _ _ _ => true
        | .enu _, _ => false
        | .zip _ _, _ => false
        | _, _ => true)
      | _ => false), false)
  | .dc _ own k e T it, .DictComp kx elt gs scope _ => ((match gs with
      | [⟨tg, iter, [], 0⟩] => blkC t.N t.sc scope (ownP t.N own) && subC T.ids own && tgC (t.blk scope) T tg && okI t it iter && (okP (t.blk scope) k kx).1 && (okP (t.blk scope) e elt).1 && (match it, tg with
        | .enu _, .Tuple _ _ _ => true
        | .zip _ _, .Tuple _ _ _ => true
        | .enu _, _ => false
        | .zip _ _, _ => false
        | _, _ => true)
      | _ => false), false)
  | .d0 _, .Dict ks vs _ => (ks.isEmpty && vs.isEmpty, false)
  | _, _ => (false, false)
def okEs (t : Ct) : IEs → List Expr → Bool
  | .nil, [] => true
  | .cons a as, x :: xs => noStar x && (okP t a x).1 && okEs t as xs
  | _, _ => false
def okBs (t : Ct) : IEs → List Expr → Bool × Bool
  | .cons a as, x :: xs => (match as, xs with
    | .nil, [] => ((okP t a x).1, (okP t a x).2)
    | .cons _ _, _ :: _ => ((okP t a x).1 && (okBs t as xs).1, (okP t a x).2 && (okBs t as xs).2)
    | _, _ => (false, false))
  | _, _ => (false, false)
def okO (t : Ct) : IEs → Option Expr → Bool
  | .nil, none => true
  | .cons a .nil, some x => (okP t a x).1
  | _, _ => false
def okC (t : Ct) : IEs → List Expr → Bool
  | .nil, [] => true
  | .cons a .nil, [x] => (okP t a x).2
  | _, _ => false
def okI (t : Ct) : II → Expr → Bool
  | .seq a, e => noSet e && (okP t a e).1
  | .str a, e => noSet e && (okP t a e).1
  | .rng as, .Call (.Name x _) xs [] _ => decide (x = "range") && frC t x && okEs t as xs && (decide (xs.length = 1) || decide (xs.length = 2))
  | .enu a, .Call (.Name x _) xs [] _ => (match xs with
    | [e] => decide (x = "enumerate") && frC t x && noStar e && (okP t a e).1
    | _ => false)
  | .zip a b, .Call (.Name x _) xs [] _ => (match xs with
    | [e, f] => decide (x = "zip") && frC t x && noStar e && noStar f && (okP t a e).1 && (okP t b f).1
    | _ => false)
  | _, _ => false
end
end FW

set_option Elab.async false
set_option linter.all false
set_option maxRecDepth 100000
/-! DLm: the check is sound (expressions). -/
namespace FW
open PySem PySem.Spec PyProof.Rows L2
section
variable {c : Cn} {Φ : Str → FS}
theorem band {a b : Bool} (h : (a && b) = true) : a = true ∧ b = true := Bool.and_eq_true_iff.mp h
theorem gl_ok {t : Ct} {x : Str} (h : glC t x = true) : t.sc.names.lookup x = some .globalImplicit ∧ (x == ("__debug__" : Str)) = false := by
  obtain ⟨h1, h2⟩ := band h
  exact ⟨of_decide_eq_true h1, by simpa using h2⟩
theorem fr_ok {t : Ct} {x : Str} (h : frC t x = true) : x ∈ t.frees ∧ t.sc.names.lookup x = some .globalImplicit ∧ (x == ("__debug__" : Str)) = false := by
  obtain ⟨h1, h2⟩ := band h
  exact ⟨of_decide_eq_true h1, gl_ok h2⟩
theorem fn_bi (b : Bi) (m : Bool) (x : Str) (id : String) (h : biN b = .fn x id) : CD c (.builtin id) (biW b m) ∧ bootBuiltins x = some (.builtin id) ∧ x ≠ "__name__" := by
  cases b <;> first
    | (cases h; exact ⟨cd_len m, by decide +kernel, by decide⟩)
    | (cases h; exact ⟨cd_all m, by decide +kernel, by decide⟩)
    | (cases h; exact ⟨cd_any m, by decide +kernel, by decide⟩)
    | (cases h; exact ⟨cd_abs m, by decide +kernel, by decide⟩)
    | (cases h; exact ⟨cd_sum m, by decide +kernel, by decide⟩)
    | (cases h; exact ⟨cd_sorted m, by decide +kernel, by decide⟩)
    | (cases h; exact ⟨cd_sortedDk m, by decide +kernel, by decide⟩)
    | (cases h; exact ⟨cd_min2 m, by decide +kernel, by decide⟩)
    | (cases h; exact ⟨cd_max2 m, by decide +kernel, by decide⟩)
    | (cases h; done)
theorem ty_bi (b : Bi) (m : Bool) (x : Str) (id : String) (h : biN b = .ty x id) : CD c (.type id) (biW b m) ∧ bootBuiltins x = some (.type id) ∧ x ≠ "__name__" := by
  cases b <;> first
    | (cases h; exact ⟨cd_list m, by decide +kernel, by decide⟩)
    | (cases h; exact ⟨cd_tuple m, by decide +kernel, by decide⟩)
    | (cases h; exact ⟨cd_dict m, by decide +kernel, by decide⟩)
    | (cases h; exact ⟨cd_int m, by decide +kernel, by decide⟩)
    | (cases h; done)
end
end FW

set_option Elab.async false
set_option linter.all false
set_option maxRecDepth 100000
/-! DLm: the check is sound (expressions). -/
namespace FW
open PySem PySem.Spec PyProof.Rows L2
section
variable {c : Cn} {Φ : Str → FS}
/-- what a checked expression is -/
structure OkE (c : Cn) (Φ : Str → FS) (x : IE) (e : Expr) : Prop where
  se : (okP c.t x e).1 = true → SE c e (wE Φ x)
  st : (okP c.t x e).2 = true → ST c e (wE Φ x)
theorem OkE.no {x : IE} {e : Expr} (h : okP c.t x e = (false, false)) : OkE c Φ x e := ⟨fun k => (by rw [h] at k; cases k), fun k => (by rw [h] at k; cases k)⟩
theorem OkE.val {x : IE} {e : Expr} {b : Bool} (h : okP c.t x e = (b, false)) (k : b = true → SE c e (wE Φ x)) : OkE c Φ x e := ⟨fun q => k (by rw [h] at q; exact q), fun q => (by rw [h] at q; cases q)⟩
/-- as a value, and as a test by it -/
theorem OkE.both {x : IE} {e : Expr} {b : Bool} (h : okP c.t x e = (b, b)) (hp : plainT e = true) (k : b = true → SE c e (wE Φ x)) : OkE c Φ x e :=
  ⟨fun q => k (by rw [h] at q; exact q), fun q => st_val (k (by rw [h] at q; exact q)) (test_ok hp)⟩
theorem ok_v (i : Nat) (e : Expr) : OkE c Φ (.v i) e := by
  cases e with
  | Name x pos =>
    refine .both (okP.eq_1 ..) rfl fun h => ?_
    obtain ⟨h, h4⟩ := band h
    obtain ⟨h, h3⟩ := band h
    obtain ⟨h1, h2⟩ := band h
    exact se_v (of_decide_eq_true h1) (visC_ok h2) (by simpa using h3) (by simpa using h4)
  | _ => exact .no rfl
theorem ok_g (ok : c.Ok Φ) (y : Str) (d : D) (e : Expr) : OkE c Φ (.g y d) e := by
  cases e with
  | Name x pos =>
    refine .both (okP.eq_2 ..) rfl fun h => ?_
    obtain ⟨h, h3⟩ := band h
    obtain ⟨h1, h2⟩ := band h
    obtain ⟨h4, h5⟩ := gl_ok h3
    have := of_decide_eq_true h1
    subst this
    exact se_g ok (globC_ok h2) h4 h5
  | _ => exact .no rfl
theorem const_ok {d : D} {v : Const} (h : constC d v = true) (k : Nat) (pos : Pos) : SE c (.Constant v k pos) (wE Φ (.k d)) := by
  unfold constC at h
  split at h
  · exact se_const (v := .non) (fun X => pe_non) fun _ _ => rfl
  · rename_i a b
    have e : a = b := by simpa using h
    subst e
    exact se_const (v := .bl a) (fun X => pe_bl) fun _ _ => rfl
  · have e := of_decide_eq_true h
    subst e
    exact se_const (v := .int _) (fun X => pe_int) fun _ _ => rfl
  · have e := of_decide_eq_true h
    subst e
    exact se_const (v := .str _) (fun X => pe_str) fun _ _ => rfl
  · cases h
theorem ok_k (d : D) (e : Expr) : OkE c Φ (.k d) e := by
  cases e with
  | Constant v k pos => exact .both (okP.eq_3 ..) rfl fun h => const_ok h k pos
  | _ => exact .no rfl
theorem od_opC {o : Operator} (h : opC o = true) (m : Bool) : OD c (binaryOp o) (bopW o m) := by
  cases o with
  | Add => exact od_add m
  | Sub => exact od_sub m
  | Mult => exact od_mul m
  | FloorDiv => exact od_fdiv m
  | Mod => exact od_mod m
  | Pow => exact od_pow m
  | _ => cases h
/-! methods -/
theorem me_ok {b : Mt} {n : Str} (h : meN b = some n) : ∃ T id, PlainAttrs T ∧ Slot T n id ∧ typeOf (.builtin id) = pure (.type "method_descriptor") ∧ MD c id (meW b) ∧ ∀ H g (d : D) (v : V), StOk c.K g H → Rep c.K g H d v → meTy b d g.μ → tyV c.K T v H := by
  cases b with
  | append => cases h; exact ⟨"list", "list.append", F.plainAttrs_list, F.slot_list_append, F.type_list_append, md_append, fun H g d v s r q => ty_list (b := .append) s r q⟩
  | extend => cases h; exact ⟨"list", "list.extend", F.plainAttrs_list, F.slot_list_extend, F.type_list_extend, md_extend, fun H g d v s r q => ty_list (b := .extend) s r q⟩
  | insert => cases h; exact ⟨"list", "list.insert", F.plainAttrs_list, F.slot_list_insert, F.type_list_insert, md_insert, fun H g d v s r q => ty_list (b := .insert) s r q⟩
  | pop => cases h; exact ⟨"list", "list.pop", F.plainAttrs_list, F.slot_list_pop, F.type_list_pop, md_pop, fun H g d v s r q => ty_list (b := .pop) s r q⟩
  | popi => cases h; exact ⟨"list", "list.pop", F.plainAttrs_list, F.slot_list_pop, F.type_list_pop, md_popi, fun H g d v s r q => ty_list (b := .popi) s r q⟩
  | index => cases h; exact ⟨"list", "list.index", F.plainAttrs_list, F.slot_list_index, F.type_list_index, md_index, fun H g d v s r q => ty_list (b := .index) s r q⟩
  | update => cases h; exact ⟨"dict", "dict.update", F.plainAttrs_dict, F.slot_dict_update, F.type_dict_update, md_update, fun H g d v s r q => ty_dict s r q⟩
  | updateDZ => cases h
  | split => cases h
/-! ### one node at a time -/
theorem ok_tup {es : IEs} (hs : ∀ xs, okEs c.t es xs = true → SA c xs (wEs Φ es)) (e : Expr) : OkE c Φ (.tup es) e := by
  cases e with
  | Tuple xs k pos =>
    refine .val (okP.eq_4 ..) fun h => ?_
    obtain ⟨h1, h2⟩ := band h
    exact se_tup (hs xs h1) (of_decide_eq_true h2)
  | _ => exact .no rfl
theorem ok_lst {m : Bool} {es : IEs} (hs : ∀ xs, okEs c.t es xs = true → SA c xs (wEs Φ es)) (e : Expr) : OkE c Φ (.lst m es) e := by
  cases e with
  | List xs pos =>
    refine .val (okP.eq_5 ..) fun h => ?_
    obtain ⟨h1, h2⟩ := band h
    exact se_lst (hs xs h1) (of_decide_eq_true h2)
  | _ => exact .no rfl
theorem ok_op {o : Operator} {m : Bool} {a b : IE} (ha : ∀ e, OkE c Φ a e) (hb : ∀ e, OkE c Φ b e) (e : Expr) : OkE c Φ (.op o m a b) e := by
  cases e with
  | BinOp x p y pos =>
    refine .val (okP.eq_6 ..) fun h => ?_
    obtain ⟨h, h4⟩ := band h
    obtain ⟨h, h3⟩ := band h
    obtain ⟨h1, h2⟩ := band h
    have := of_decide_eq_true h1
    subst this
    exact se_op (od_opC h2 m) ((ha x).se h3) ((hb y).se h4)
  | _ => exact .no rfl
theorem ok_neg {a : IE} (ha : ∀ e, OkE c Φ a e) (e : Expr) : OkE c Φ (.neg a) e := by
  cases e with
  | UnaryOp o x pos =>
    cases o with
    | USub => exact .val (okP.eq_7 ..) fun h => se_neg ((ha x).se h)
    | _ => exact .no rfl
  | _ => exact .no rfl
theorem ok_not {a : IE} (ha : ∀ e, OkE c Φ a e) (e : Expr) : OkE c Φ (.not a) e := by
  cases e with
  | UnaryOp o x pos =>
    cases o with
    | Not => exact ⟨fun h => se_not ((ha x).se h), fun h => st_not ((ha x).st h)⟩
    | _ => exact .no rfl
  | _ => exact .no rfl
theorem ok_ife {z a b : IE} (hz : ∀ e, OkE c Φ z e) (ha : ∀ e, OkE c Φ a e) (hb : ∀ e, OkE c Φ b e) (e : Expr) : OkE c Φ (.ife z a b) e := by
  cases e with
  | IfExp t x y pos =>
    refine .val (okP.eq_10 ..) fun h => ?_
    obtain ⟨h, h3⟩ := band h
    obtain ⟨h1, h2⟩ := band h
    exact se_ife ((hz t).st h1) ((ha x).se h2) ((hb y).se h3)
  | _ => exact .no rfl
theorem ok_ix {a b : IE} (ha : ∀ e, OkE c Φ a e) (hb : ∀ e, OkE c Φ b e) (e : Expr) : OkE c Φ (.ix a b) e := by
  cases e with
  | Subscript x y pos =>
    refine .both (b := noSl y && (okP c.t a x).1 && (okP c.t b y).1) rfl rfl fun h => ?_
    obtain ⟨h, h3⟩ := band h
    obtain ⟨h1, h2⟩ := band h
    exact se_ix ((ha x).se h2) ((hb y).se h3) (plainIx_ok h1)
  | _ => exact .no rfl
theorem ok_cmp {o : CmpOp} {a b : IE} (ha : ∀ e, OkE c Φ a e) (hb : ∀ e, OkE c Φ b e) (e : Expr) : OkE c Φ (.cmp o a b) e := by
  cases e with
  | Compare x ps ys pos =>
    match ps, ys with
    | [p], [y] =>
      have key : (decide (o = p) && !behindInMarks o y && (okP c.t a x).1 && (okP c.t b y).1) = true → o = p ∧ behindInMarks o y = false ∧ SE c x (wE Φ a) ∧ SE c y (wE Φ b) := fun h => by
        obtain ⟨h, h4⟩ := band h
        obtain ⟨h, h3⟩ := band h
        obtain ⟨h1, h2⟩ := band h
        exact ⟨of_decide_eq_true h1, by simpa using h2, (ha x).se h3, (hb y).se h4⟩
      refine ⟨fun h => ?_, fun h => ?_⟩
      · obtain ⟨rfl, h2, h3, h4⟩ := key h
        exact se_cmp (od_cmp o) h3 h4 h2
      · obtain ⟨rfl, h2, h3, h4⟩ := key h
        exact st_cmp (od_cmp o) h3 h4 h2
    | [], _ => exact .no rfl
    | [_], [] => exact .no rfl
    | [_], _ :: _ :: _ => exact .no rfl
    | _ :: _ :: _, _ => exact .no rfl
  | _ => exact .no rfl
theorem ok_chn {o o' : CmpOp} {a b d : IE} (ha : ∀ e, OkE c Φ a e) (hb : ∀ e, OkE c Φ b e) (hd : ∀ e, OkE c Φ d e) (e : Expr) : OkE c Φ (.chn o o' a b d) e := by
  cases e with
  | Compare x ps ys pos =>
    match ps, ys with
    | [p, p'], [y, z] =>
      have key : (decide (o = p) && decide (o' = p') && !lastMarks [o, o'] [y, z] && (okP c.t a x).1 && (okP c.t b y).1 && (okP c.t d z).1) = true → o = p ∧ o' = p' ∧ lastMarks [o, o'] [y, z] = false ∧ SE c x (wE Φ a) ∧ SE c y (wE Φ b) ∧ SE c z (wE Φ d) := fun h => by
        obtain ⟨h, h6⟩ := band h
        obtain ⟨h, h5⟩ := band h
        obtain ⟨h, h4⟩ := band h
        obtain ⟨h, h3⟩ := band h
        obtain ⟨h1, h2⟩ := band h
        exact ⟨of_decide_eq_true h1, of_decide_eq_true h2, by simpa using h3, (ha x).se h4, (hb y).se h5, (hd z).se h6⟩
      refine ⟨fun h => ?_, fun h => ?_⟩
      · obtain ⟨rfl, rfl, h2, h3, h4, h5⟩ := key h
        exact se_chn (od_cmp o) (od_cmp o') h3 h4 h5 h2
      · obtain ⟨rfl, rfl, h2, h3, h4, h5⟩ := key h
        exact st_chn (od_cmp o) (od_cmp o') h3 h4 h5 h2
    | [], _ => exact .no rfl
    | [_], _ => exact .no rfl
    | [_, _], [] => exact .no rfl
    | [_, _], [_] => exact .no rfl
    | [_, _], _ :: _ :: _ :: _ => exact .no rfl
    | _ :: _ :: _ :: _, _ => exact .no rfl
  | _ => exact .no rfl
theorem ok_sl {m : Bool} {a : IE} {lo hi : IEs} (ha : ∀ e, OkE c Φ a e) (hl : ∀ o, okO c.t lo o = true → SO c o (wO Φ lo)) (hh : ∀ o, okO c.t hi o = true → SO c o (wO Φ hi)) (e : Expr) : OkE c Φ (.sl m a lo hi) e := by
  cases e with
  | Subscript x y pos =>
    cases y with
    | Slice l h s p2 =>
      cases s with
      | none =>
        refine .val (b := (okP c.t a x).1 && okO c.t lo l && okO c.t hi h) rfl fun q => ?_
        obtain ⟨q, q3⟩ := band q
        obtain ⟨q1, q2⟩ := band q
        exact se_sl ((ha x).se q1) (hl l q2) (hh h q3)
      | some _ => exact .no rfl
    | _ => exact .no rfl
  | _ => exact .no rfl
theorem ok_rev {a : IE} (ha : ∀ e, OkE c Φ a e) (e : Expr) : OkE c Φ (.rev a) e := by
  cases e with
  | Subscript x y pos =>
    cases y with
    | Slice l h s p3 =>
      cases l with
      | some _ => exact .no rfl
      | none =>
        cases h with
        | some _ => exact .no rfl
        | none =>
          cases s with
          | none => exact .no rfl
          | some st =>
            cases st with
            | UnaryOp o z p2 =>
              cases o with
              | USub =>
                cases z with
                | Constant v kk p1 =>
                  cases v with
                  | int i =>
                    refine .val (b := decide (i = 1) && (okP c.t a x).1) rfl fun q => ?_
                    obtain ⟨q1, q2⟩ := band q
                    have := of_decide_eq_true q1
                    subst this
                    exact se_rev ((ha x).se q2)
                  | _ => exact .no rfl
                | _ => exact .no rfl
              | _ => exact .no rfl
            | _ => exact .no rfl
    | _ => exact .no rfl
  | _ => exact .no rfl
theorem ok_d0 (t : Bool) (e : Expr) : OkE c Φ (.d0 t) e := by
  cases e with
  | Dict ks vs pos =>
    cases ks with
    | nil =>
      cases vs with
      | nil =>
        refine .val (b := true) rfl fun _ => ?_
        cases t with
        | false => exact ⟨fun _ => tDNewK, fun X W h => pe_dnewK, fun W σ H g env Q Qd Ed r s w k kx p hp => k.newDk (m := true) (ks := []) (xs := []) (vs := []) s rfl rfl w hp⟩
        | true => exact ⟨fun _ => tDNewT, fun X W h => pe_dnewT, fun W σ H g env Q Qd Ed r s w k kx p hp => k (.cel g.μ.length) _ (g.add p (.dt [] [])) _ (Ext.cell hp) (s.cell hp ⟨[], rfl, rfl, rfl⟩) Rep.newCell w⟩
      | cons _ _ => exact .no rfl
    | cons _ _ => exact .no rfl
  | _ => exact .no rfl
theorem ok_bop {o : BoolOp} {es : IEs} (hs : ∀ xs, ((okBs c.t es xs).1 = true → ∀ pos, SE c (.BoolOp o xs pos) (wB Φ o es)) ∧ ((okBs c.t es xs).2 = true → ∀ pos, SW c (.BoolOp o xs pos) (wB Φ o es))) (e : Expr) : OkE c Φ (.bop o es) e := by
  cases e with
  | BoolOp p xs pos =>
    refine ⟨fun h => ?_, fun h => ?_⟩
    · have h : (decide (o = p) && (okBs c.t es xs).1) = true := h
      obtain ⟨h1, h2⟩ := band h
      have := of_decide_eq_true h1
      subst this
      exact (hs xs).1 h2 pos
    · have h : (decide (o = p) && (okBs c.t es xs).2) = true := h
      obtain ⟨h1, h2⟩ := band h
      have := of_decide_eq_true h1
      subst this
      exact ((hs xs).2 h2 pos).st
  | _ => exact .no rfl
theorem ok_call (ok : c.Ok Φ) {f : Str} {fz : Bool} {es : IEs} (hs : ∀ xs, okEs c.t es xs = true → SA c xs (wEs Φ es) ∧ xs.all noStar = true) (e : Expr) : OkE c Φ (.call f fz es) e := by
  cases e with
  | Call g xs ks pos =>
    cases g with
    | Name x p =>
      cases ks with
      | nil =>
        refine .both (b := decide (f = x) && decide ((f, xs.length) ∈ c.t.fns) && glC c.t x && !xs.isEmpty && okEs c.t es xs) rfl rfl fun h => ?_
        obtain ⟨h, h5⟩ := band h
        obtain ⟨h, h4⟩ := band h
        obtain ⟨h, h3⟩ := band h
        obtain ⟨h1, h2⟩ := band h
        have := of_decide_eq_true h1
        subst this
        obtain ⟨g1, g2⟩ := gl_ok h3
        obtain ⟨s1, s2⟩ := hs xs h5
        cases xs with
        | nil => cases h4
        | cons y ys =>
          obtain ⟨n1, n2⟩ := band (show (noStar y && ys.all noStar) = true from s2)
          exact se_call ok (of_decide_eq_true h2) g1 g2 s1 (star_ok n1 ys) (stars_ok n2 pos)
      | cons _ _ => exact .no rfl
    | _ => exact .no rfl
  | _ => exact .no rfl
theorem ok_me {b : Mt} {a : IE} {es : IEs} (ha : ∀ e, OkE c Φ a e) (hs : ∀ xs, okEs c.t es xs = true → SA c xs (wEs Φ es) ∧ xs.all noStar = true) (hn : okEs c.t es [] = true → es = .nil) (e : Expr) : OkE c Φ (.me b a es) e := by
  cases e with
  | Call g xs ks pos =>
    cases g with
    | Attribute o n apos =>
      cases ks with
      | nil =>
        refine .both (b := decide (meN b = some n) && (apos.endLine == pos.line) && noCall0 o && decide (xs.length < 30) && (match b, xs with
          | .pop, [] => true
          | .pop, _ => false
          | _, [] => false
          | _, _ => true) && (okP c.t a o).1 && okEs c.t es xs) rfl rfl fun h => ?_
        obtain ⟨h, h7⟩ := band h
        obtain ⟨h, h6⟩ := band h
        obtain ⟨h, h5⟩ := band h
        obtain ⟨h, h4⟩ := band h
        obtain ⟨h, h3⟩ := band h
        obtain ⟨h1, h2⟩ := band h
        obtain ⟨T, id, pa, slot, hty, hm, ht0⟩ := me_ok (c := c) (of_decide_eq_true h1)
        obtain ⟨s1, s2⟩ := hs xs h7
        cases xs with
        | nil =>
          have := hn h7
          subst this
          cases b with
          | pop => exact se_me0 pa slot hty hm ht0 ((ha o).se h6) (base_ok h3 n) h2
          | _ => cases h5
        | cons y ys =>
          obtain ⟨n1, n2⟩ := band (show (noStar y && ys.all noStar) = true from s2)
          exact se_me pa slot hty hm ht0 ((ha o).se h6) s1 (base_ok h3 n) (few_ok s2 (of_decide_eq_true h4) pos) h2 (star_ok n1 ys) (stars_ok n2 pos)
      | cons _ _ => exact .no rfl
    | _ => exact .no rfl
  | _ => exact .no rfl
/-! built-ins -/
theorem ok_isi (ok : c.Ok Φ) {T : String} {m : Bool} {a : IE} {x y : Str} {p p2 pos : Pos} {e : Expr} (ha : ∀ e, OkE c Φ a e) (h : (decide (x = "isinstance") && frC c.t x && frC c.t y && decide (y = Str.ofString T) && tyC T && noStar e && (okP c.t a e).1) = true) :
    SE c (.Call (.Name x p) [e, .Name y p2] [] pos) (wE Φ (.bi (.isi T) m (.cons a .nil))) := by
  obtain ⟨h, h7⟩ := band h
  obtain ⟨h, h6⟩ := band h
  obtain ⟨h, h5⟩ := band h
  obtain ⟨h, h4⟩ := band h
  obtain ⟨h, h3⟩ := band h
  obtain ⟨h1, h2⟩ := band h
  have e1 := of_decide_eq_true h1
  have e4 := of_decide_eq_true h4
  obtain ⟨f1, f2, f3⟩ := fr_ok h2
  obtain ⟨g1, g2, g3⟩ := fr_ok h3
  subst e1 e4
  have ht := tyC_ok h5
  have hv : bootBuiltins (Str.ofString T) = some (.type T) := by rcases ht with rfl | rfl | rfl | rfl | rfl <;> decide +kernel
  have hn : Str.ofString T ≠ "__name__" := by rcases ht with rfl | rfl | rfl | rfl | rfl <;> decide
  exact se_isi ok f1 f2 (by decide +kernel) (by decide) f3 g1 g2 hv ht hn g3 ((ha e).se h7) (star_ok h6 _)
theorem two_ok {es : IEs} {e e2 : Expr} (hs : ∀ xs, okEs c.t es xs = true → SA c xs (wEs Φ es) ∧ xs.all noStar = true) (h : okEs c.t es [e, e2] = true) : SA c [e, e2] (wEs Φ es) ∧ noStar e = true ∧ noStar e2 = true := by
  obtain ⟨s1, s2⟩ := hs _ h
  obtain ⟨n1, n2⟩ := band (show (noStar e && [e2].all noStar) = true from s2)
  obtain ⟨n3, _⟩ := band (show (noStar e2 && ([] : List Expr).all noStar) = true from n2)
  exact ⟨s1, n1, n3⟩
theorem stars1 {e2 : Expr} (h : noStar e2 = true) : ([e2] : List Expr).all noStar = true := by show (noStar e2 && true) = true; rw [h]; rfl
theorem ok_dictZip (ok : c.Ok Φ) {m : Bool} {es : IEs} {x z : Str} {p p2 q pos : Pos} {e e2 : Expr} (hs : ∀ xs, okEs c.t es xs = true → SA c xs (wEs Φ es) ∧ xs.all noStar = true) (h : (decide (x = "dict") && decide (z = "zip") && frC c.t x && frC c.t z && okEs c.t es [e, e2]) = true) :
    SE c (.Call (.Name x p) [.Call (.Name z p2) [e, e2] [] q] [] pos) (wE Φ (.bi .dictZip m es)) := by
  obtain ⟨h, h5⟩ := band h
  obtain ⟨h, h4⟩ := band h
  obtain ⟨h, h3⟩ := band h
  obtain ⟨h1, h2⟩ := band h
  have e1 := of_decide_eq_true h1
  have e2' := of_decide_eq_true h2
  obtain ⟨f1, f2, f3⟩ := fr_ok h3
  obtain ⟨g1, g2, g3⟩ := fr_ok h4
  obtain ⟨s1, n1, n2⟩ := two_ok hs h5
  subst e1 e2'
  exact se_dictZip ok f1 f2 (by decide +kernel) (by decide) f3 g1 g2 (by decide +kernel) (by decide) g3 s1 (star_ok n1 _) (stars_ok (stars1 n2) q)
theorem ok_listZip (ok : c.Ok Φ) {m : Bool} {es : IEs} {x z : Str} {p p2 q pos : Pos} {e e2 : Expr} (hs : ∀ xs, okEs c.t es xs = true → SA c xs (wEs Φ es) ∧ xs.all noStar = true) (h : (decide (x = "list") && decide (z = "zip") && frC c.t x && frC c.t z && okEs c.t es [e, e2]) = true) :
    SE c (.Call (.Name x p) [.Call (.Name z p2) [e, e2] [] q] [] pos) (wE Φ (.bi .listZip m es)) := by
  obtain ⟨h, h5⟩ := band h
  obtain ⟨h, h4⟩ := band h
  obtain ⟨h, h3⟩ := band h
  obtain ⟨h1, h2⟩ := band h
  have e1 := of_decide_eq_true h1
  have e2' := of_decide_eq_true h2
  obtain ⟨f1, f2, f3⟩ := fr_ok h3
  obtain ⟨g1, g2, g3⟩ := fr_ok h4
  obtain ⟨s1, n1, n2⟩ := two_ok hs h5
  subst e1 e2'
  exact se_listZip ok f1 f2 (by decide +kernel) (by decide) f3 g1 g2 (by decide +kernel) (by decide) g3 s1 (star_ok n1 _) (stars_ok (stars1 n2) q)
theorem ok_sortedZip (ok : c.Ok Φ) {m : Bool} {es : IEs} {x z : Str} {p p2 q pos : Pos} {e e2 : Expr} (hs : ∀ xs, okEs c.t es xs = true → SA c xs (wEs Φ es) ∧ xs.all noStar = true) (h : (decide (x = "sorted") && decide (z = "zip") && frC c.t x && frC c.t z && okEs c.t es [e, e2]) = true) :
    SE c (.Call (.Name x p) [.Call (.Name z p2) [e, e2] [] q] [] pos) (wE Φ (.bi .sortedZip m es)) := by
  obtain ⟨h, h5⟩ := band h
  obtain ⟨h, h4⟩ := band h
  obtain ⟨h, h3⟩ := band h
  obtain ⟨h1, h2⟩ := band h
  have e1 := of_decide_eq_true h1
  have e2' := of_decide_eq_true h2
  obtain ⟨f1, f2, f3⟩ := fr_ok h3
  obtain ⟨g1, g2, g3⟩ := fr_ok h4
  obtain ⟨s1, n1, n2⟩ := two_ok hs h5
  subst e1 e2'
  exact se_sortedZip ok f1 f2 (by decide +kernel) (by decide) f3 g1 g2 (by decide +kernel) (by decide) g3 s1 (star_ok n1 _) (stars_ok (stars1 n2) q)
theorem ok_lenSet (ok : c.Ok Φ) {m : Bool} {a : IE} {x z : Str} {p p2 q pos : Pos} {e : Expr} (ha : ∀ e, OkE c Φ a e) (h : (decide (x = "len") && decide (z = "set") && frC c.t x && frC c.t z && noStar e && (okP c.t a e).1) = true) :
    SE c (.Call (.Name x p) [.Call (.Name z p2) [e] [] q] [] pos) (wE Φ (.bi .lenSet m (.cons a .nil))) := by
  obtain ⟨h, h6⟩ := band h
  obtain ⟨h, h5⟩ := band h
  obtain ⟨h, h4⟩ := band h
  obtain ⟨h, h3⟩ := band h
  obtain ⟨h1, h2⟩ := band h
  have e1 := of_decide_eq_true h1
  have e2' := of_decide_eq_true h2
  obtain ⟨f1, f2, f3⟩ := fr_ok h3
  obtain ⟨g1, g2, g3⟩ := fr_ok h4
  subst e1 e2'
  exact se_lenSet ok f1 f2 (by decide +kernel) (by decide) f3 g1 g2 (by decide +kernel) (by decide) g3 ((ha e).se h6) (star_ok h5 _)
theorem ok_fn (ok : c.Ok Φ) {b : Bi} {m : Bool} {es : IEs} {x y : Str} {id : String} {p pos : Pos} {xs : List Expr} (hs : ∀ xs, okEs c.t es xs = true → SA c xs (wEs Φ es) ∧ xs.all noStar = true) (hb : biN b = .fn y id) (h : (decide (x = y) && frC c.t x && !xs.isEmpty && okEs c.t es xs) = true) :
    SE c (.Call (.Name x p) xs [] pos) (wE Φ (.bi b m es)) := by
  obtain ⟨h, h4⟩ := band h
  obtain ⟨h, h3⟩ := band h
  obtain ⟨h1, h2⟩ := band h
  have := of_decide_eq_true h1
  subst this
  obtain ⟨f1, f2, f3⟩ := fr_ok h2
  obtain ⟨s1, s2⟩ := hs xs h4
  obtain ⟨c1, c2, c3⟩ := fn_bi (c := c) b m x id hb
  cases xs with
  | nil => cases h3
  | cons e es' =>
    obtain ⟨n1, n2⟩ := band (show (noStar e && es'.all noStar) = true from s2)
    exact se_biB ok f1 f2 c2 c1 s1 c3 f3 (star_ok n1 _) (stars_ok n2 pos)
theorem ok_ty (ok : c.Ok Φ) {b : Bi} {m : Bool} {es : IEs} {x y : Str} {id : String} {p pos : Pos} {xs : List Expr} (hs : ∀ xs, okEs c.t es xs = true → SA c xs (wEs Φ es) ∧ xs.all noStar = true) (hb : biN b = .ty y id) (h : (decide (x = y) && frC c.t x && !xs.isEmpty && okEs c.t es xs) = true) :
    SE c (.Call (.Name x p) xs [] pos) (wE Φ (.bi b m es)) := by
  obtain ⟨h, h4⟩ := band h
  obtain ⟨h, h3⟩ := band h
  obtain ⟨h1, h2⟩ := band h
  have := of_decide_eq_true h1
  subst this
  obtain ⟨f1, f2, f3⟩ := fr_ok h2
  obtain ⟨s1, s2⟩ := hs xs h4
  obtain ⟨c1, c2, c3⟩ := ty_bi (c := c) b m x id hb
  cases xs with
  | nil => cases h3
  | cons e es' =>
    obtain ⟨n1, n2⟩ := band (show (noStar e && es'.all noStar) = true from s2)
    exact se_biT ok f1 f2 c2 c1 s1 c3 f3 (star_ok n1 _) (stars_ok n2 pos)
end
end FW

set_option Elab.async false
set_option linter.all false
set_option maxRecDepth 100000
/-! DLn: the check is sound (expressions, all of them). -/
namespace FW
open PySem PySem.Spec PyProof.Rows L2
section
variable {c : Cn} {Φ : Str → FS}
theorem ok_bi (ok : c.Ok Φ) {b : Bi} {m : Bool} {es : IEs} (hs : ∀ xs, okEs c.t es xs = true → SA c xs (wEs Φ es) ∧ xs.all noStar = true) (h1 : ∀ a, es = .cons a .nil → ∀ e, OkE c Φ a e) (e : Expr) : OkE c Φ (.bi b m es) e := by
  cases e with
  | Call g xs ks pos =>
    cases g with
    | Name x p =>
      cases ks with
      | nil =>
        cases b with
        | len => exact .both (b := _) rfl rfl (ok_fn ok hs rfl)
        | all => exact .both (b := _) rfl rfl (ok_fn ok hs rfl)
        | any => exact .both (b := _) rfl rfl (ok_fn ok hs rfl)
        | abs => exact .both (b := _) rfl rfl (ok_fn ok hs rfl)
        | sum => exact .both (b := _) rfl rfl (ok_fn ok hs rfl)
        | sorted => exact .both (b := _) rfl rfl (ok_fn ok hs rfl)
        | sortedDk => exact .both (b := _) rfl rfl (ok_fn ok hs rfl)
        | min2 => exact .both (b := _) rfl rfl (ok_fn ok hs rfl)
        | max2 => exact .both (b := _) rfl rfl (ok_fn ok hs rfl)
        | list => exact .both (b := _) rfl rfl (ok_ty ok hs rfl)
        | tuple => exact .both (b := _) rfl rfl (ok_ty ok hs rfl)
        | dict => exact .both (b := _) rfl rfl (ok_ty ok hs rfl)
        | int => exact .both (b := _) rfl rfl (ok_ty ok hs rfl)
        | sortedT => exact .no rfl
        | sortedSet => exact .no rfl
        | isx _ => exact .no rfl
        | isi T =>
          cases es with
          | nil => exact .no rfl
          | cons a as =>
            cases as with
            | cons _ _ => exact .no rfl
            | nil =>
              refine .both (b := (match isiArgs xs with
                | some (e, y) => decide (x = "isinstance") && frC c.t x && frC c.t y && decide (y = Str.ofString T) && tyC T && noStar e && (okP c.t a e).1
                | none => false)) rfl rfl fun h => ?_
              split at h
              · rename_i e y q
                obtain ⟨p2, rfl⟩ := isiArgs_ok q
                exact ok_isi ok (h1 a rfl) h
              · cases h
        | dictZip =>
          refine .both (b := (match zipArgs xs with
            | some (z, e, e2) => decide (x = "dict") && decide (z = "zip") && frC c.t x && frC c.t z && okEs c.t es [e, e2]
            | none => false)) rfl rfl fun h => ?_
          split at h
          · rename_i z e e2 q
            obtain ⟨p2, q2, rfl⟩ := zipArgs_ok q
            exact ok_dictZip ok hs h
          · cases h
        | listZip =>
          refine .both (b := (match zipArgs xs with
            | some (z, e, e2) => decide (x = "list") && decide (z = "zip") && frC c.t x && frC c.t z && okEs c.t es [e, e2]
            | none => false)) rfl rfl fun h => ?_
          split at h
          · rename_i z e e2 q
            obtain ⟨p2, q2, rfl⟩ := zipArgs_ok q
            exact ok_listZip ok hs h
          · cases h
        | sortedZip =>
          refine .both (b := (match zipArgs xs with
            | some (z, e, e2) => decide (x = "sorted") && decide (z = "zip") && frC c.t x && frC c.t z && okEs c.t es [e, e2]
            | none => false)) rfl rfl fun h => ?_
          split at h
          · rename_i z e e2 q
            obtain ⟨p2, q2, rfl⟩ := zipArgs_ok q
            exact ok_sortedZip ok hs h
          · cases h
        | lenSet =>
          cases es with
          | nil => exact .no rfl
          | cons a as =>
            cases as with
            | cons _ _ => exact .no rfl
            | nil =>
              refine .both (b := (match setArg xs with
                | some (z, e) => decide (x = "len") && decide (z = "set") && frC c.t x && frC c.t z && noStar e && (okP c.t a e).1
                | none => false)) rfl rfl fun h => ?_
              split at h
              · rename_i z e q
                obtain ⟨p2, q2, rfl⟩ := setArg_ok q
                exact ok_lenSet ok (h1 a rfl) h
              · cases h
      | cons _ _ => exact .no rfl
    | _ => exact .no rfl
  | _ => exact .no rfl
/-! comprehensions -/
theorem name_ok {t : Ct} {i : Nat} {e : Expr} (h : nameC t i e = true) : ∃ x pos, e = .Name x pos ∧ t.N[i]? = some x ∧ locC t x = true := by
  cases e with
  | Name x pos =>
    obtain ⟨h1, h2⟩ := band (show (decide (t.N[i]? = some x) && locC t x) = true from h)
    exact ⟨x, pos, rfl, of_decide_eq_true h1, h2⟩
  | _ => cases h
theorem names_ok : ∀ {is : List Nat} {es : List Expr}, namesC c.t is es = true → STs c es is ∧ es.length = is.length ∧ es.all noStar = true
  | [], [], _ => ⟨gts_nil, rfl, rfl⟩
  | i :: is, e :: es, h => by
    obtain ⟨h1, h2⟩ := band (show (nameC c.t i e && namesC c.t is es) = true from h)
    obtain ⟨x, pos, rfl, q1, q2⟩ := name_ok h1
    obtain ⟨g1, g2, g3⟩ := names_ok h2
    exact ⟨gts_cons q1 q2 g1 fun env => rfl, congrArg (· + 1) g2, g3⟩
  | [], _ :: _, h => by cases h
  | _ :: _, [], h => by cases h
theorem asg_len : ∀ {es : List Expr}, es.all noStar = true → ∀ env, (assignEach es env).length = es.length ∧ (assignEach es env).findIdx? (·.1) = none
  | [], _, _ => ⟨rfl, rfl⟩
  | e :: es, h, env => by
    obtain ⟨h1, h2⟩ := band (show (noStar e && es.all noStar) = true from h)
    obtain ⟨g1, g2⟩ := asg_len h2 env
    rw [asgE_ok h1]
    refine ⟨congrArg (· + 1) g1, ?_⟩
    rw [List.findIdx?_cons]
    show (if false = true then _ else _) = none
    rw [if_neg Bool.false_ne_true, g2]
    rfl
theorem tg_ok {T : Tg} {e : Expr} (h : tgC c.t T e = true) : ST0 c e T := by
  cases T with
  | n i =>
    obtain ⟨x, pos, rfl, q1, q2⟩ := name_ok (show nameC c.t i e = true from h)
    exact gt_name q1 q2
  | t is =>
    cases e with
    | Tuple es k pos =>
      obtain ⟨g1, g2, g3⟩ := names_ok (show namesC c.t is es = true from h)
      exact gt_tup g1 g2 (fun env => (asg_len g3 env).1) fun env => (asg_len g3 env).2
    | _ => cases h
theorem sub_all {a b : List Nat} (h : subC a b = true) : ∀ i ∈ a, i ∈ b := fun i hi => of_decide_eq_true (List.all_eq_true.mp h i hi)
/-- the target's shape that a walk asks -/
def shapeC (it : II) (tg : Expr) : Bool := match it, tg with
  | .enu _, .Tuple _ _ _ => true
  | .zip _ _, .Tuple _ _ _ => true
  | .enu _, _ => false
  | .zip _ _, _ => false
  | _, _ => true
theorem sec_lc' {elt tg iter : Expr} {ifs : List Expr} {scope : Scope} {pos : Pos} {m : Bool} {own : List Nat} {e : IE} {T : Tg} {it : II} {cs : IEs} (hi : okI c.t it iter = true → shapeC it tg = true → SI c tg iter (wI Φ it)) (hc : okC (c.t.blk scope) cs ifs = true → SC (c.blk scope) ifs (wC Φ cs)) (he : (okP (c.t.blk scope) e elt).1 = true → SE (c.blk scope) elt (wE Φ e))
    (h : (blkC c.t.N c.t.sc scope (ownP c.t.N own) && subC T.ids own && tgC (c.t.blk scope) T tg && okI c.t it iter && okC (c.t.blk scope) cs ifs && (okP (c.t.blk scope) e elt).1 && shapeC it tg) = true) : SEC c (.ListComp elt [⟨tg, iter, ifs, 0⟩] scope pos) (wE Φ (.lc m own e T it cs)) := by
  obtain ⟨h, h7⟩ := band h
  obtain ⟨h, h6⟩ := band h
  obtain ⟨h, h5⟩ := band h
  obtain ⟨h, h4⟩ := band h
  obtain ⟨h, h3⟩ := band h
  obtain ⟨h1, h2⟩ := band h
  have key := sec_lc (m := m) (pos := pos) (hi h4 h7) (blkOk_by h1) (by rw [ownP_snd]; exact sub_all h2) (tg_ok (c := c.blk scope) h3) (hc h5) (he h6)
  rw [ownP_snd] at key
  exact key
theorem sec_dc' {kx elt tg iter : Expr} {scope : Scope} {pos : Pos} {m : Bool} {own : List Nat} {kk e : IE} {T : Tg} {it : II} (hi : okI c.t it iter = true → shapeC it tg = true → SI c tg iter (wI Φ it)) (hk : (okP (c.t.blk scope) kk kx).1 = true → SE (c.blk scope) kx (wE Φ kk)) (he : (okP (c.t.blk scope) e elt).1 = true → SE (c.blk scope) elt (wE Φ e))
    (h : (blkC c.t.N c.t.sc scope (ownP c.t.N own) && subC T.ids own && tgC (c.t.blk scope) T tg && okI c.t it iter && (okP (c.t.blk scope) kk kx).1 && (okP (c.t.blk scope) e elt).1 && shapeC it tg) = true) : SEC c (.DictComp kx elt [⟨tg, iter, [], 0⟩] scope pos) (wE Φ (.dc m own kk e T it)) := by
  obtain ⟨h, h7⟩ := band h
  obtain ⟨h, h6⟩ := band h
  obtain ⟨h, h5⟩ := band h
  obtain ⟨h, h4⟩ := band h
  obtain ⟨h, h3⟩ := band h
  obtain ⟨h1, h2⟩ := band h
  have key := sec_dc (m := m) (pos := pos) (hi h4 h7) (blkOk_by h1) (by rw [ownP_snd]; exact sub_all h2) (tg_ok (c := c.blk scope) h3) (hk h5) (he h6)
  rw [ownP_snd] at key
  exact key
end
end FW

set_option Elab.async false
set_option linter.all false
set_option maxRecDepth 100000
/-! DLq: the check is sound. -/
namespace FW
open PySem PySem.Spec PyProof.Rows L2
section
variable {Φ : Str → FS}
theorem rng_ok {c : Cn} (ok : c.Ok Φ) {as : IEs} {tg : Expr} {x : Str} {p pos : Pos} {xs : List Expr} (hs : ∀ xs, okEs c.t as xs = true → SA c xs (wEs Φ as) ∧ xs.all noStar = true) (h : (decide (x = "range") && frC c.t x && okEs c.t as xs && (decide (xs.length = 1) || decide (xs.length = 2))) = true) : SI c tg (.Call (.Name x p) xs [] pos) (wI Φ (.rng as)) := by
  obtain ⟨h, h4⟩ := band h
  obtain ⟨h, h3⟩ := band h
  obtain ⟨h1, h2⟩ := band h
  have := of_decide_eq_true h1
  subst this
  obtain ⟨f1, f2, f3⟩ := fr_ok h2
  obtain ⟨s1, s2⟩ := hs xs h3
  rcases Bool.or_eq_true_iff.mp h4 with h4 | h4
  · have hl := of_decide_eq_true h4
    match xs, hl with
    | [a], _ =>
      obtain ⟨n1, _⟩ := band (show (noStar a && ([] : List Expr).all noStar) = true from s2)
      exact si_rng1 ok f1 f2 s1 (star_ok n1 _)
  · have hl := of_decide_eq_true h4
    match xs, hl with
    | [a, b], _ =>
      obtain ⟨n1, n2⟩ := band (show (noStar a && [b].all noStar) = true from s2)
      obtain ⟨n3, _⟩ := band (show (noStar b && ([] : List Expr).all noStar) = true from n2)
      exact si_rng2 ok f1 f2 s1 (fun env => by rw [star_ok n1, star_ok n3]; rfl) (star_ok n3 _)
theorem SA.nil_of {c : Cn} : ∀ {es : IEs}, okEs c.t es [] = true → es = .nil
  | .nil, _ => rfl
  | .cons _ _, h => by cases h
theorem okL {m : Bool} {own : List Nat} {x : IE} {T : Tg} {it : II} {cs : IEs} {c : Cn} (hi : ∀ tg e, okI c.t it e = true → shapeC it tg = true → SI c tg e (wI Φ it)) (hc : ∀ scope ifs, okC (c.blk scope).t cs ifs = true → SC (c.blk scope) ifs (wC Φ cs)) (hx : ∀ scope e, OkE (c.blk scope) Φ x e) (e : Expr)
    (h : (okP c.t (.lc m own x T it cs) e).1 = true) : SEC c e (wE Φ (.lc m own x T it cs)) := by
  cases e with
  | ListComp elt gs scope pos =>
    cases gs with
    | nil => cases h
    | cons g r =>
      obtain ⟨tg, iter, ifs, a⟩ := g
      cases r with
      | cons _ _ =>
        cases a with
        | ofNat n => cases n <;> cases h
        | negSucc n => cases h
      | nil =>
        cases a with
        | ofNat n =>
          cases n with
          | zero => exact sec_lc' (fun h1 h2 => hi tg iter h1 h2) (fun h1 => hc scope ifs h1) (fun h1 => (hx scope elt).se h1) h
          | succ n => cases h
        | negSucc n => cases h
  | _ => cases h
theorem okD {m : Bool} {own : List Nat} {k x : IE} {T : Tg} {it : II} {c : Cn} (hi : ∀ tg e, okI c.t it e = true → shapeC it tg = true → SI c tg e (wI Φ it)) (hk : ∀ scope e, OkE (c.blk scope) Φ k e) (hx : ∀ scope e, OkE (c.blk scope) Φ x e) (e : Expr)
    (h : (okP c.t (.dc m own k x T it) e).1 = true) : SEC c e (wE Φ (.dc m own k x T it)) := by
  cases e with
  | DictComp kx elt gs scope pos =>
    cases gs with
    | nil => cases h
    | cons g r =>
      obtain ⟨tg, iter, ifs, a⟩ := g
      cases ifs with
      | cons _ _ =>
        cases r <;> cases h
      | nil =>
        cases r with
        | cons _ _ =>
          cases a with
          | ofNat n => cases n <;> cases h
          | negSucc n => cases h
        | nil =>
          cases a with
          | ofNat n =>
            cases n with
            | zero => exact sec_dc' (fun h1 h2 => hi tg iter h1 h2) (fun h1 => (hk scope kx).se h1) (fun h1 => (hx scope elt).se h1) h
            | succ n => cases h
          | negSucc n => cases h
  | _ => cases h
mutual
theorem okP_snd : ∀ (x : IE) (c : Cn) (ok : c.Ok Φ) (e : Expr), OkE c Φ x e
  | .v i, c, ok, e => ok_v i e
  | .g y d, c, ok, e => ok_g ok y d e
  | .k d, c, ok, e => ok_k d e
  | .tup es, c, ok, e => ok_tup (fun xs h => (okEs_snd es c ok xs h).1) e
  | .lst m es, c, ok, e => ok_lst (fun xs h => (okEs_snd es c ok xs h).1) e
  | .op o m a b, c, ok, e => ok_op (okP_snd a c ok) (okP_snd b c ok) e
  | .neg a, c, ok, e => ok_neg (okP_snd a c ok) e
  | .not a, c, ok, e => ok_not (okP_snd a c ok) e
  | .bop o es, c, ok, e => ok_bop (fun xs => okBs_snd es c ok o xs) e
  | .ife z a b, c, ok, e => ok_ife (okP_snd z c ok) (okP_snd a c ok) (okP_snd b c ok) e
  | .cmp o a b, c, ok, e => ok_cmp (okP_snd a c ok) (okP_snd b c ok) e
  | .chn o o' a b d, c, ok, e => ok_chn (okP_snd a c ok) (okP_snd b c ok) (okP_snd d c ok) e
  | .ix a b, c, ok, e => ok_ix (okP_snd a c ok) (okP_snd b c ok) e
  | .sl m a lo hi, c, ok, e => ok_sl (okP_snd a c ok) (okO_snd lo c ok) (okO_snd hi c ok) e
  | .rev a, c, ok, e => ok_rev (okP_snd a c ok) e
  | .call f fz es, c, ok, e => ok_call ok (okEs_snd es c ok) e
  | .bi b m es, c, ok, e => ok_bi ok (okEs_snd es c ok) (fun a h => by subst h; exact okP_snd a c ok) e
  | .me b a es, c, ok, e => ok_me (okP_snd a c ok) (okEs_snd es c ok) SA.nil_of e
  | .lc m own x T it cs, c, ok, e => ⟨fun h => (okL (okI_snd it c ok) (fun scope ifs h => okC_snd cs (c.blk scope) (ok.blk scope) ifs h) (fun scope e => okP_snd x (c.blk scope) (ok.blk scope) e) e h).se, fun h => by cases e <;> cases h⟩
  | .dc m own k x T it, c, ok, e => ⟨fun h => (okD (okI_snd it c ok) (fun scope e => okP_snd k (c.blk scope) (ok.blk scope) e) (fun scope e => okP_snd x (c.blk scope) (ok.blk scope) e) e h).se, fun h => by cases e <;> cases h⟩
  | .d0 t, c, ok, e => ok_d0 t e
theorem okEs_snd : ∀ (es : IEs) (c : Cn) (ok : c.Ok Φ) (xs : List Expr), okEs c.t es xs = true → SA c xs (wEs Φ es) ∧ xs.all noStar = true
  | .nil, c, ok, [], _ => ⟨sa_nil, rfl⟩
  | .nil, c, ok, _ :: _, h => by cases h
  | .cons a as, c, ok, [], h => by cases h
  | .cons a as, c, ok, x :: xs, h => by
    have h : (noStar x && (okP c.t a x).1 && okEs c.t as xs) = true := h
    obtain ⟨h, h3⟩ := band h
    obtain ⟨h1, h2⟩ := band h
    obtain ⟨s1, s2⟩ := okEs_snd as c ok xs h3
    exact ⟨sa_cons ((okP_snd a c ok x).se h2) s1 (star_ok h1 xs), by show (noStar x && xs.all noStar) = true; rw [h1, s2]; rfl⟩
theorem okBs_snd : ∀ (es : IEs) (c : Cn) (ok : c.Ok Φ) (o : BoolOp) (xs : List Expr), ((okBs c.t es xs).1 = true → ∀ pos, SE c (.BoolOp o xs pos) (wB Φ o es)) ∧ ((okBs c.t es xs).2 = true → ∀ pos, SW c (.BoolOp o xs pos) (wB Φ o es))
  | .nil, c, ok, o, xs => ⟨fun h => (by cases h), fun h => (by cases h)⟩
  | .cons a as, c, ok, o, [] => ⟨fun h => (by cases h), fun h => (by cases h)⟩
  | .cons a .nil, c, ok, o, [x] => ⟨fun h pos => se_bop1 ((okP_snd a c ok x).se h), fun h pos => sw_bop1 ((okP_snd a c ok x).st h)⟩
  | .cons a .nil, c, ok, o, _ :: _ :: _ => ⟨fun h => (by cases h), fun h => (by cases h)⟩
  | .cons a (.cons _ _), c, ok, o, [_] => ⟨fun h => (by cases h), fun h => (by cases h)⟩
  | .cons a (.cons b bs), c, ok, o, x :: y :: ys => by
    obtain ⟨i1, i2⟩ := okBs_snd (.cons b bs) c ok o (y :: ys)
    refine ⟨fun h pos => ?_, fun h pos => ?_⟩
    · obtain ⟨h1, h2⟩ := band (show ((okP c.t a x).1 && (okBs c.t (.cons b bs) (y :: ys)).1) = true from h)
      exact se_bopc ((okP_snd a c ok x).se h1) (i1 h2 pos)
    · obtain ⟨h1, h2⟩ := band (show ((okP c.t a x).2 && (okBs c.t (.cons b bs) (y :: ys)).2) = true from h)
      exact sw_bopc ((okP_snd a c ok x).st h1) (i2 h2 pos)
theorem okO_snd : ∀ (es : IEs) (c : Cn) (ok : c.Ok Φ) (o : Option Expr), okO c.t es o = true → SO c o (wO Φ es)
  | .nil, c, ok, none, _ => so_none
  | .nil, c, ok, some _, h => by cases h
  | .cons a .nil, c, ok, some x, h => so_some ((okP_snd a c ok x).se h)
  | .cons a .nil, c, ok, none, h => by cases h
  | .cons a (.cons _ _), c, ok, none, h => by cases h
  | .cons a (.cons _ _), c, ok, some _, h => by cases h
theorem okC_snd : ∀ (es : IEs) (c : Cn) (ok : c.Ok Φ) (ifs : List Expr), okC c.t es ifs = true → SC c ifs (wC Φ es)
  | .nil, c, ok, [], _ => sc_nil
  | .nil, c, ok, _ :: _, h => by cases h
  | .cons a .nil, c, ok, [x], h => sc_one ((okP_snd a c ok x).st h)
  | .cons a .nil, c, ok, [], h => by cases h
  | .cons a .nil, c, ok, _ :: _ :: _, h => by cases h
  | .cons a (.cons _ _), c, ok, [], h => by cases h
  | .cons a (.cons _ _), c, ok, [_], h => by cases h
  | .cons a (.cons _ _), c, ok, _ :: _ :: _, h => by cases h
theorem okI_snd : ∀ (it : II) (c : Cn) (ok : c.Ok Φ) (tg e : Expr), okI c.t it e = true → shapeC it tg = true → SI c tg e (wI Φ it)
  | .seq a, c, ok, tg, e, h, _ => by
    obtain ⟨h1, h2⟩ := band (show (noSet e && (okP c.t a e).1) = true from h)
    exact si_seq ((okP_snd a c ok e).se h2) (fold_ok h1)
  | .str a, c, ok, tg, e, h, _ => by
    obtain ⟨h1, h2⟩ := band (show (noSet e && (okP c.t a e).1) = true from h)
    exact si_str ((okP_snd a c ok e).se h2) (fold_ok h1)
  | .rng as, c, ok, tg, e, h, _ => by
    cases e with
    | Call g xs ks pos =>
      cases g with
      | Name x p =>
        cases ks with
        | nil => exact rng_ok ok (okEs_snd as c ok) h
        | cons _ _ => cases h
      | _ => cases h
    | _ => cases h
  | .enu a, c, ok, tg, e, h, hs => by
    cases e with
    | Call g xs ks pos =>
      cases g with
      | Name x p =>
        cases ks with
        | nil =>
          cases xs with
          | nil => cases h
          | cons e r =>
            cases r with
            | cons _ _ => cases h
            | nil =>
              have h : (decide (x = "enumerate") && frC c.t x && noStar e && (okP c.t a e).1) = true := h
              obtain ⟨h, h4⟩ := band h
              obtain ⟨h, h3⟩ := band h
              obtain ⟨h1, h2⟩ := band h
              have := of_decide_eq_true h1
              subst this
              obtain ⟨f1, f2, f3⟩ := fr_ok h2
              cases tg with
              | Tuple es k p2 => exact si_enu ok f1 f2 ((okP_snd a c ok e).se h4) (star_ok h3 _)
              | _ => cases hs
        | cons _ _ => cases h
      | _ => cases h
    | _ => cases h
  | .zip a b, c, ok, tg, e, h, hs => by
    cases e with
    | Call g xs ks pos =>
      cases g with
      | Name x p =>
        cases ks with
        | nil =>
          cases xs with
          | nil => cases h
          | cons e r =>
            cases r with
            | nil => cases h
            | cons f r =>
              cases r with
              | cons _ _ => cases h
              | nil =>
                have h : (decide (x = "zip") && frC c.t x && noStar e && noStar f && (okP c.t a e).1 && (okP c.t b f).1) = true := h
                obtain ⟨h, h6⟩ := band h
                obtain ⟨h, h5⟩ := band h
                obtain ⟨h, h4⟩ := band h
                obtain ⟨h, h3⟩ := band h
                obtain ⟨h1, h2⟩ := band h
                have := of_decide_eq_true h1
                subst this
                obtain ⟨f1, f2, f3⟩ := fr_ok h2
                cases tg with
                | Tuple es k p2 => exact si_zip ok f1 f2 ((okP_snd a c ok e).se h5) ((okP_snd b c ok f).se h6) (star_ok h3 _) (star_ok h4 _) (stars_ok (stars1 h4) pos)
                | _ => cases hs
        | cons _ _ => cases h
      | _ => cases h
    | _ => cases h
end
/-- the comprehensions, for name = .. -/
def isComp : IE → Bool
  | .lc _ _ _ _ _ _ => true
  | .dc _ _ _ _ _ _ => true
  | _ => false
theorem okP_sec {x : IE} (hx : isComp x = true) {c : Cn} (ok : c.Ok Φ) {e : Expr} (h : (okP c.t x e).1 = true) : SEC c e (wE Φ x) := by
  cases x with
  | lc m own y T it cs => exact okL (okI_snd it c ok) (fun scope ifs h => okC_snd cs (c.blk scope) (ok.blk scope) ifs h) (fun scope e => okP_snd y (c.blk scope) (ok.blk scope) e) e h
  | dc m own k y T it => exact okD (okI_snd it c ok) (fun scope e => okP_snd k (c.blk scope) (ok.blk scope) e) (fun scope e => okP_snd y (c.blk scope) (ok.blk scope) e) e h
  | _ => cases hx
end
end FW

set_option Elab.async false
set_option linter.all false
set_option maxRecDepth 100000
/-! DLr: the check of statements, sound. -/
namespace FW
open PySem PySem.Spec PyProof.Rows L2
/-- name = a comprehension, on one line -/
def swC (sc : Scope) (y : Str) (py : Pos) (v : Expr) : Bool :=
  (match sc.kind with
  | .function => true
  | _ => false) && decide (sc.names.lookup y = some .local) && (py.line == v.pos.line) && (match v with
  | .ListComp _ _ scope _ => !(scope.names.any fun (n, k) => n == y && (k == .local || k == .cell))
  | .DictComp _ _ _ scope _ => !(scope.names.any fun (n, k) => n == y && (k == .local || k == .cell))
  | _ => false)
theorem swC_ok {sc : Scope} {y : Str} {py : Pos} {v : Expr} (h : swC sc y py v = true) (l : Nat) : ∀ env : Env, env.scope = sc → swapsWith v (some (.Name y py)) l env = pure true := by
  intro env he
  obtain ⟨h, h4⟩ := band h
  obtain ⟨h, h3⟩ := band h
  obtain ⟨h1, h2⟩ := band h
  have hk : env.blockKind = .function := by
    unfold Env.blockKind
    rw [he]
    split at h1
    · rename_i q; rw [q]; rfl
    · cases h1
  have ky : env.kindOf y = some .local := by unfold Env.kindOf; rw [he]; exact of_decide_eq_true h2
  cases v with
  | ListComp elt gs scope pos =>
    have h4' : (scope.names.any fun (n, k) => n == y && (k == .local || k == .cell)) = false := by simpa using h4
    unfold swapsWith
    simp only [hk, ky, h4']
    rw [h3]
    rfl
  | DictComp k elt gs scope pos =>
    have h4' : (scope.names.any fun (n, k) => n == y && (k == .local || k == .cell)) = false := by simpa using h4
    unfold swapsWith
    simp only [hk, ky, h4']
    rw [h3]
    rfl
  | _ => cases h4
def cellC (sc : Scope) (y : Str) : Bool := decide (sc.names.lookup y = some .cell)
theorem swCell_ok {sc : Scope} {y : Str} {py : Pos} {v : Expr} (h : cellC sc y = true) (l : Nat) : ∀ env : Env, env.scope = sc → swapsWith v (some (.Name y py)) l env = pure false := by
  intro env he
  have ky : env.kindOf y = some .cell := by unfold Env.kindOf; rw [he]; exact of_decide_eq_true h
  have kl : (NameKind.cell == NameKind.local) = false := by decide
  cases v <;> first | rfl | (unfold swapsWith; simp [ky, kl])
theorem swT_ok {ts : List Expr} {k : Nat} {p : Pos} (v : Expr) (l : Nat) : ∀ env, swapsWithSole [.Tuple ts k p] v l env = pure false := by
  intro env
  cases v <;> rfl
theorem swS_ok {o i : Expr} {p : Pos} (v : Expr) (l : Nat) : ∀ env, swapsWithSole [.Subscript o i p] v l env = pure false := by
  intro env
  cases v <;> rfl
theorem stS_ok {o i : Expr} {p : Pos} (v : Expr) : ∀ env, swappedStores [.Subscript o i p] v env = pure none := by
  intro env
  cases v <;> rfl
def constTup : Expr → Bool
  | .Tuple es _ _ => allConst es
  | _ => false
def cellPair (sc : Scope) : List Expr → Bool
  | [.Name x _, .Name y _] => cellC sc x || cellC sc y
  | _ => false
theorem cellPair_ok {sc : Scope} {ts : List Expr} (h : cellPair sc ts = true) {k : Nat} {p : Pos} (v : Expr) : ∀ env : Env, env.scope = sc → swappedStores [.Tuple ts k p] v env = pure none := by
  intro env he
  have kl : (NameKind.cell == NameKind.local) = false := by decide
  match ts, h with
  | [.Name x px, .Name y py], h =>
    cases v with
    | Tuple vs k2 p2 =>
      rcases Bool.or_eq_true_iff.mp h with h | h
      · have kx : env.kindOf x = some .cell := by unfold Env.kindOf; rw [he]; exact of_decide_eq_true h
        simp only [swappedStores]
        by_cases hy : (env.kindOf y == some NameKind.local && (Expr.Name y py).pos.line == (Expr.Name x px).pos.line) = true <;> simp_all [List.filterMap_cons] <;> (intro _ _ _ h5; exfalso; revert h5; split <;> simp)
      · have ky : env.kindOf y = some .cell := by unfold Env.kindOf; rw [he]; exact of_decide_eq_true h
        simp only [swappedStores]
        by_cases hx : (env.kindOf x == some NameKind.local) = true <;> simp_all [List.filterMap_cons] <;> (intro _ _ _ h5; exfalso; revert h5; split <;> simp)
    | _ => rfl
theorem stT_ok {ts : List Expr} {k : Nat} {p : Pos} {v : Expr} (h : (noTup v || constTup v) = true) : ∀ env, swappedStores [.Tuple ts k p] v env = pure none := by
  rcases Bool.or_eq_true_iff.mp h with h | h
  · exact nopar_ok h _
  · cases v with
    | Tuple es k p => exact noparC_ok h
    | _ => cases h
def parArgs (ts : List Expr) (v : Expr) : Option ((Str × Pos) × (Str × Pos) × Expr × Expr) := match ts, v with
  | [.Tuple [.Name x px, .Name y py] _ _], .Tuple [p, q] _ _ => some ((x, px), (y, py), p, q)
  | _, _ => none
theorem parArgs_ok {ts : List Expr} {v : Expr} {x y : Str} {px py : Pos} {p q : Expr} (h : parArgs ts v = some ((x, px), (y, py), p, q)) : ∃ kt pt k2 pt2, ts = [.Tuple [.Name x px, .Name y py] kt pt] ∧ v = .Tuple [p, q] k2 pt2 := by
  unfold parArgs at h
  split at h
  · cases h; exact ⟨_, _, _, _, rfl, rfl⟩
  · cases h
def swpArgs (ts : List Expr) (v : Expr) : Option ((Expr × Expr) × (Expr × Expr) × Expr × Expr) := match ts, v with
  | [.Tuple [.Subscript o1 i1 _, .Subscript o2 i2 _] _ _], .Tuple [p, q] _ _ => some ((o1, i1), (o2, i2), p, q)
  | _, _ => none
theorem swpArgs_ok {ts : List Expr} {v : Expr} {o1 i1 o2 i2 p q : Expr} (h : swpArgs ts v = some ((o1, i1), (o2, i2), p, q)) : ∃ p1 p2 kt pt k2 pt2, ts = [.Tuple [.Subscript o1 i1 p1, .Subscript o2 i2 p2] kt pt] ∧ v = .Tuple [p, q] k2 pt2 := by
  unfold swpArgs at h
  split at h
  · cases h; exact ⟨_, _, _, _, _, _, rfl, rfl⟩
  · cases h
mutual
def okS (t : Ct) : IS → Stmt → Bool
  | .asg tg e, .Assign ts v _ => (match ts with
    | [u] => (match tg with
      | .n i => (match u with
        | .Name x p => nameC t i u && (okP t e v).1 && (match isComp e with
          | true => swC t.sc x p v || cellC t.sc x
          | false => noComp v)
        | _ => false)
      | .t is => (match u with
        | .Tuple ts _ _ => tgC t (.t is) u && (okP t e v).1 && (noTup v || constTup v || cellPair t.sc ts)
        | _ => false)
      | .sub o i => (match u with
        | .Subscript a b _ => noSl b && (okP t o a).1 && (okP t i b).1 && (okP t e v).1
        | _ => false))
    | _ => false)
  | .par i j a b, .Assign ts v _ => (match parArgs ts v with
    | some ((x, px), (y, py), p, q) => nameC t i (.Name x px) && nameC t j (.Name y py) && !(i == j) && parC t.sc x y px py p q && (okP t a p).1 && (okP t b q).1
    | none => false)
  | .swp x1 y1 x2 y2 a b, .Assign ts v _ => (match swpArgs ts v with
    | some ((o1, i1), (o2, i2), p, q) => noSl i1 && noSl i2 && noStar p && noStar q && (okP t x1 o1).1 && (okP t y1 i1).1 && (okP t x2 o2).1 && (okP t y2 i2).1 && (okP t a p).1 && (okP t b q).1
    | none => false)
  | .ex e, .Expr v _ => noComp v && (okP t e v).1
  | .ret e, .Return v _ => (match v with
    | some v => (okP t e v).1
    | none => false)
  | .iff c a b, .If v p q _ => (okP t c v).2 && okSs t a p && okSs t b q
  | .whl c a, .While v p q _ => q.isEmpty && (okP t c v).2 && okSs t a p
  | .for_ T it a, .For tg iter p q _ => q.isEmpty && tgC t T tg && okI t it iter && shapeC it tg && okSs t a p
  | .cont, .Continue _ => true
  | .nev, _ => true
  | _, _ => false
def okSs (t : Ct) : ISs → List Stmt → Bool
  | .nil, ss => ss.isEmpty
  | .cons s r, ss => (match ss with
    | x :: xs => okS t s x && okSs t r xs
    | [] => false)
  | .fz _ r, ss => okSs t r ss
end
section
variable {c : Cn} {Φ : Str → FS}
theorem okA_n (ok : c.Ok Φ) {i : Nat} {e : IE} {x : Str} {p pos : Pos} {v : Expr} (h : (nameC c.t i (.Name x p) && (okP c.t e v).1 && (match isComp e with
          | true => swC c.t.sc x p v || cellC c.t.sc x
          | false => noComp v)) = true) : SS c (.Assign [.Name x p] v pos) (wS Φ (.asg (.n i) e)) := by
  obtain ⟨h, h3⟩ := band h
  obtain ⟨h1, h2⟩ := band h
  obtain ⟨x', p', e0, q1, q2⟩ := name_ok h1
  cases e0
  cases hc : isComp e with
  | true =>
    rw [hc] at h3
    rcases Bool.or_eq_true_iff.mp h3 with h3 | h3
    · have q3 : c.t.sc.names.lookup x = some .local := by
        unfold swC at h3
        simp only [Bool.and_eq_true, decide_eq_true_eq] at h3
        exact h3.1.1.2
      exact ss_setC q1 q3 (okP_sec hc ok h2) (swC_ok h3 _)
    · exact ss_set q1 q2 ((okP_snd e c ok v).se h2) (swCell_ok h3 _)
  | false =>
    rw [hc] at h3
    exact ss_set q1 q2 ((okP_snd e c ok v).se h2) (fun env _ => swap_ok h3 _ _ env)
theorem okA_t (ok : c.Ok Φ) {is : List Nat} {e : IE} {ts : List Expr} {k : Nat} {p pos : Pos} {v : Expr} (h : (tgC c.t (.t is) (.Tuple ts k p) && (okP c.t e v).1 && (noTup v || constTup v || cellPair c.t.sc ts)) = true) : SS c (.Assign [.Tuple ts k p] v pos) (wS Φ (.asg (.t is) e)) := by
  obtain ⟨h, h3⟩ := band h
  obtain ⟨h1, h2⟩ := band h
  rcases Bool.or_eq_true_iff.mp h3 with h3 | h3
  · exact ss_tup (tg_ok h1) ((okP_snd e c ok v).se h2) (swT_ok v _) (fun env _ => stT_ok h3 env) fun _ => rfl
  · exact ss_tup (tg_ok h1) ((okP_snd e c ok v).se h2) (swT_ok v _) (cellPair_ok h3 v) fun _ => rfl
theorem okA_s (ok : c.Ok Φ) {o i e : IE} {a b v : Expr} {p pos : Pos} (h : (noSl b && (okP c.t o a).1 && (okP c.t i b).1 && (okP c.t e v).1) = true) : SS c (.Assign [.Subscript a b p] v pos) (wS Φ (.asg (.sub o i) e)) := by
  obtain ⟨h, h4⟩ := band h
  obtain ⟨h, h3⟩ := band h
  obtain ⟨h1, h2⟩ := band h
  exact ss_sub ((okP_snd o c ok a).se h2) ((okP_snd i c ok b).se h3) ((okP_snd e c ok v).se h4) (swS_ok v _) (sub_ok h1 p) (stS_ok v) fun _ => rfl
theorem okA_p (ok : c.Ok Φ) {i j : Nat} {a b : IE} {x y : Str} {px py pt pt2 pos : Pos} {kt k2 : Nat} {p q : Expr} (h : (nameC c.t i (.Name x px) && nameC c.t j (.Name y py) && !(i == j) && parC c.t.sc x y px py p q && (okP c.t a p).1 && (okP c.t b q).1) = true) : SS c (.Assign [.Tuple [.Name x px, .Name y py] kt pt] (.Tuple [p, q] k2 pt2) pos) (wS Φ (.par i j a b)) := by
  obtain ⟨h, h6⟩ := band h
  obtain ⟨h, h5⟩ := band h
  obtain ⟨h, h4⟩ := band h
  obtain ⟨h, h3⟩ := band h
  obtain ⟨h1, h2⟩ := band h
  obtain ⟨x', p', e0, q1, q2⟩ := name_ok h1
  cases e0
  obtain ⟨y', p', e0, q3, q4⟩ := name_ok h2
  cases e0
  have hp : noStar p = true ∧ noStar q = true ∧ c.t.sc.names.lookup x = some .local ∧ c.t.sc.names.lookup y = some .local := by
    unfold parC at h4
    simp only [Bool.and_eq_true, decide_eq_true_eq] at h4
    exact ⟨h4.1.1.1.1.1.1.1.1.2, h4.1.1.1.1.1.1.1.2, h4.1.1.1.1.1.1.2, h4.1.1.1.1.1.2⟩
  exact ss_par q1 q3 (by simpa using h3) hp.2.2.1 hp.2.2.2 ((okP_snd a c ok p).se h5) ((okP_snd b c ok q).se h6) (star_ok hp.1 _) (star_ok hp.2.1 _) (par_ok h4)
theorem okA_w (ok : c.Ok Φ) {x1 y1 x2 y2 a b : IE} {o1 i1 o2 i2 p q : Expr} {p1 p2 pt pt2 pos : Pos} {kt k2 : Nat} (h : (noSl i1 && noSl i2 && noStar p && noStar q && (okP c.t x1 o1).1 && (okP c.t y1 i1).1 && (okP c.t x2 o2).1 && (okP c.t y2 i2).1 && (okP c.t a p).1 && (okP c.t b q).1) = true) :
    SS c (.Assign [.Tuple [.Subscript o1 i1 p1, .Subscript o2 i2 p2] kt pt] (.Tuple [p, q] k2 pt2) pos) (wS Φ (.swp x1 y1 x2 y2 a b)) := by
  simp only [Bool.and_eq_true] at h
  obtain ⟨⟨⟨⟨⟨⟨⟨⟨⟨h1, h2⟩, h3⟩, h4⟩, h5⟩, h6⟩, h7⟩, h8⟩, h9⟩, h10⟩ := h
  exact ss_swp ((okP_snd x1 c ok o1).se h5) ((okP_snd y1 c ok i1).se h6) ((okP_snd x2 c ok o2).se h7) ((okP_snd y2 c ok i2).se h8) ((okP_snd a c ok p).se h9) ((okP_snd b c ok q).se h10) (star_ok h3 _) (star_ok h4 _) (sub_ok h1 p1) (sub_ok h2 p2) (swT_ok _ _) noparS_ok (fun _ => rfl) (fun _ => rfl) (fun _ => rfl) (fun _ => rfl) (fun _ => rfl)
mutual
theorem okS_snd (ok : c.Ok Φ) : ∀ (s : IS) (st : Stmt), okS c.t s st = true → SS c st (wS Φ s)
  | .asg tg e, st, h => by
    cases st with
    | Assign ts v pos =>
      cases ts with
      | nil => cases h
      | cons u r =>
        cases r with
        | cons _ _ => cases tg <;> cases h
        | nil =>
          cases tg with
          | n i =>
            cases u with
            | Name x p => exact okA_n ok h
            | _ => cases h
          | t is =>
            cases u with
            | Tuple ts k p => exact okA_t ok h
            | _ => cases h
          | sub o i =>
            cases u with
            | Subscript a b p => exact okA_s ok h
            | _ => cases h
    | _ => cases tg <;> cases h
  | .par i j a b, st, h => by
    cases st with
    | Assign ts v pos =>
      have h : (match (generalizing := false) parArgs ts v with
        | some ((x, px), (y, py), p, q) => nameC c.t i (.Name x px) && nameC c.t j (.Name y py) && !(i == j) && parC c.t.sc x y px py p q && (okP c.t a p).1 && (okP c.t b q).1
        | none => false) = true := h
      split at h
      · rename_i x px y py p q e0
        obtain ⟨_, _, _, _, rfl, rfl⟩ := parArgs_ok e0
        exact okA_p ok h
      · cases h
    | _ => cases h
  | .swp x1 y1 x2 y2 a b, st, h => by
    cases st with
    | Assign ts v pos =>
      have h : (match (generalizing := false) swpArgs ts v with
        | some ((o1, i1), (o2, i2), p, q) => noSl i1 && noSl i2 && noStar p && noStar q && (okP c.t x1 o1).1 && (okP c.t y1 i1).1 && (okP c.t x2 o2).1 && (okP c.t y2 i2).1 && (okP c.t a p).1 && (okP c.t b q).1
        | none => false) = true := h
      split at h
      · rename_i o1 i1 o2 i2 p q e0
        obtain ⟨_, _, _, _, _, _, rfl, rfl⟩ := swpArgs_ok e0
        exact okA_w ok h
      · cases h
    | _ => cases h
  | .ex e, st, h => by
    cases st with
    | Expr v pos =>
      obtain ⟨h1, h2⟩ := band (show (noComp v && (okP c.t e v).1) = true from h)
      exact ss_ex ((okP_snd e c ok v).se h2) (swap_ok h1 _ _)
    | _ => cases h
  | .ret e, st, h => by
    cases st with
    | Return v pos =>
      cases v with
      | none => cases h
      | some v => exact ss_ret ((okP_snd e c ok v).se h)
    | _ => cases h
  | .iff x a b, st, h => by
    cases st with
    | If v p q pos =>
      obtain ⟨h, h3⟩ := band (show ((okP c.t x v).2 && okSs c.t a p && okSs c.t b q) = true from h)
      obtain ⟨h1, h2⟩ := band h
      exact ss_iff ((okP_snd x c ok v).st h1) (okSs_snd ok a p h2) (okSs_snd ok b q h3)
    | _ => cases h
  | .whl x a, st, h => by
    cases st with
    | While v p q pos =>
      obtain ⟨h, h3⟩ := band (show (q.isEmpty && (okP c.t x v).2 && okSs c.t a p) = true from h)
      obtain ⟨h1, h2⟩ := band h
      cases q with
      | cons _ _ => cases h1
      | nil => exact ss_whl ((okP_snd x c ok v).st h2) (okSs_snd ok a p h3)
    | _ => cases h
  | .for_ T it a, st, h => by
    cases st with
    | For tg iter p q pos =>
      obtain ⟨h, h5⟩ := band (show (q.isEmpty && tgC c.t T tg && okI c.t it iter && shapeC it tg && okSs c.t a p) = true from h)
      obtain ⟨h, h4⟩ := band h
      obtain ⟨h, h3⟩ := band h
      obtain ⟨h1, h2⟩ := band h
      cases q with
      | cons _ _ => cases h1
      | nil => exact ss_for (okI_snd it c ok tg iter h3 h4) (tg_ok h2) (okSs_snd ok a p h5)
    | _ => cases h
  | .cont, st, h => by
    cases st with
    | Continue pos => exact ss_cont
    | _ => cases h
  | .rai x, st, h => by cases st <;> cases h
  | .nev, st, h => ss_nev
theorem okSs_snd (ok : c.Ok Φ) : ∀ (ss : ISs) (sts : List Stmt), okSs c.t ss sts = true → SSs c sts (wSs Φ ss)
  | .nil, sts, h => by
    cases sts with
    | nil => exact sss_nil
    | cons _ _ => cases h
  | .cons s r, sts, h => by
    cases sts with
    | nil => cases h
    | cons x xs =>
      obtain ⟨h1, h2⟩ := band (show (okS c.t s x && okSs c.t r xs) = true from h)
      exact sss_cons (okS_snd ok s x h1) (okSs_snd ok r xs h2)
  | .fz i r, sts, h => sss_fz (okSs_snd ok r sts h)
end
end
end FW

set_option Elab.async false
set_option linter.all false
set_option maxRecDepth 100000
/-! DLf: a def keeps its promise over data. -/
namespace FW
open PySem PySem.Spec PyProof.Rows L2
/-- a return seen from the caller: what the def made for itself is forgotten -/
def retW (μ0 : Mu) (Qd : QD) : QD := fun d μ => KeepOk μ0 μ ∧ ((d.nc = true ∧ Qd d (μ.take μ0.length)) ∨ ∃ k o, d = .cel k ∧ μ0.length ≤ k ∧ μ[k]? = some (some o) ∧ o.nc = true ∧ Qd (.cel μ0.length) (μ.take μ0.length ++ [some o]))
def excW (μ0 : Mu) (Ed : XD) : XD := fun x μ => KeepOk μ0 μ ∧ Ed x (μ.take μ0.length)
/-- the ends of a def's body -/
def endD (μ0 : Mu) (Qd : QD) (Ed : XD) : EnD := ⟨fun _ μ => retW μ0 Qd .non μ, retW μ0 Qd, fun _ _ => False, fun _ _ => False, fun x _ μ => excW μ0 Ed x μ⟩
/-- the slots at the entry -/
def start0 (n : Nat) (ds : List D) : En := ds.map some ++ List.replicate (n - ds.length) none
section
variable {P : Program} {w : World} {K : PySem.W.Frag} {mg : Str → Option Value} {base : Heap} {Φ : Str → FS}
theorem lk_get : ∀ (env : En) (i : Nat), lk env i = (env[i]?).join
  | [], i => by cases i <;> rfl
  | o :: r, 0 => by show o = _; rfl
  | o :: r, i + 1 => by show lk r i = _; rw [lk_get r i]; rfl
theorem start_rel {g : Gs} {H : Hp} {N : List Str} {ds : List D} {vs : List V} (hl : ds.length ≤ N.length) (r : RepA K g H ds vs) : RelE K g H (L2.start N vs) (start0 N.length ds) := by
  have hv := r.length
  refine ⟨?_, fun i d h => ?_⟩
  · unfold L2.start start0
    simp [hv]
  · rw [lk_get] at h
    have h1 : (start0 N.length ds)[i]? = some (some d) := by
      cases e : (start0 N.length ds)[i]? with
      | none => rw [e] at h; cases h
      | some o => rw [e] at h; rw [show o = some d from h]
    unfold start0 at h1
    by_cases hi : i < (ds.map some).length
    · rw [List.getElem?_append_left hi, List.getElem?_map] at h1
      obtain ⟨d', e1, e2⟩ := Option.map_eq_some_iff.mp h1
      cases e2
      obtain ⟨v, e3, e4⟩ := r.get e1
      refine ⟨v, ?_, e4⟩
      unfold L2.start
      rw [List.getElem?_append_left (by rw [List.length_map, hv]; simpa using hi), List.getElem?_map, e3]
      rfl
    · rw [List.getElem?_append_right (by omega), List.getElem?_replicate] at h1
      split at h1 <;> cases h1
theorem fn_data {x qual : Str} {params : Arguments} {body : List Stmt} {scope : Scope} {dvs : List V} {kws : List (Str × V)} {f : Addr} {fd : FuncData} {N ps : List Str} {k : Nat} {t : Ct} {ir : ISs} {fs : FS} (F : FunD K x qual params body scope dvs kws f fd) (S : FnScope N ps scope)
    (hN : t.N = N) (hsc : t.sc = scope) (hin : t.inb = false) (hps : ps.length ≤ N.length) (ok : (Cn.mk t P w K mg base k).Ok Φ) (chk : okSs t ir body = true)
    (hs : ∀ ds μ Qd Ed, ds.length = ps.length → fs ds μ Qd Ed → wSs Φ ir (start0 N.length ds) μ (endD μ Qd Ed)) : FnOk P w K mg base (L2.CX P w) (k + 1) f fd ps (SpD K mg ps.length fs) := by
  refine F.ok S (fun vs H Q E h => ?_) fun cdv A outer s H vs Q E hr h => ?_
  · obtain ⟨g, ds, Qd, Ed, hl, so, r, _⟩ := h
    rw [r.length]
    exact hl
  · obtain ⟨g, ds, Qd, Ed, hl, so, r, hf, hq, he⟩ := h
    obtain ⟨u, hu, hw⟩ := okSs_snd ok ir body chk
    have cx : CxIn (Cn.mk t P w K mg base k) (cxOf (L2.CX P w) P w K mg base N qual scope f cdv A outer s H E) (fun cls d _ H => E cls d H) :=
      ⟨rfl, rfl, rfl, rfl, rfl, hN.symm, hsc.symm, rfl, hr, by rw [hN]; exact S.nd, takes_of rfl rfl rfl rfl, passes_of rfl, fun _ _ => rfl⟩
    refine ⟨u fun cls d _ H => E cls d H, hu _ _ cx, ?_⟩
    -- a return, seen from the caller
    have ret : ∀ d v g' H', Ext g H g' H' → StOk K g' H' → Rep K g' H' d v → retW g.μ Qd d g'.μ → Q v H' := fun d v g' H' e' s' r' w' => by
      obtain ⟨kp, w'⟩ := w'
      rcases w' with ⟨hnc, q⟩ | ⟨k, o, rfl, hk, ho, hnc, q⟩
      · exact hq d v (g'.cut g.μ.length) H' e'.cut (so.cut s' e' kp) (Rep.ofNc (fun _ => cut_live) d v hnc r') q
      · exact hq (.cel g.μ.length) v (g'.home g.μ.length k o) H' (e'.home ho) (so.home s' e' kp ho hk hnc) (Rep.homeCell e' r') q
    refine hw _ _ H g (start0 N.length ds) _ (endD g.μ Qd Ed) (start_rel (by rw [hl]; exact hps) r) so (hs ds g.μ Qd Ed hl hf) ⟨fun σ' env' g' H' e' s' r' w' => ret .non .non g' H' e' s' rfl w', ret, fun _ _ _ _ _ _ _ z => z.elim, fun _ _ _ _ _ _ _ z => z.elim, fun x a σ' env' g' H' e' s' r' w' m => ?_⟩
    exact he x a (g'.cut g.μ.length) H' e'.cut (so.cut s' e' w'.1) w'.2 m
end
end FW

set_option Elab.async false
set_option linter.all false
set_option maxRecDepth 100000
namespace FW
open PySem
def ir_divisor : ISs := (.cons (.whl (.cmp .NotEq (.v 1) (.k (.int 0))) (.cons (.par 0 1 (.v 1) (.op .Mod false (.v 0) (.v 1))) .nil)) (.cons (.ret (.v 0)) .nil))
def N_divisor : List Str := ["one", "other"]
def ir_fraction : ISs := (.cons (.asg (.n 2) (.op .Mult false (.call "divisor" false (.cons (.bi .abs false (.cons (.v 0) .nil)) (.cons (.bi .abs false (.cons (.v 1) .nil)) .nil))) (.ife (.cmp .Gt (.v 1) (.k (.int 0))) (.k (.int 1)) (.neg (.k (.int 1)))))) (.cons (.ret (.tup (.cons (.op .FloorDiv false (.v 0) (.v 2)) (.cons (.op .FloorDiv false (.v 1) (.v 2)) .nil)))) .nil))
def N_fraction : List Str := ["top", "bottom", "by"]
def ir_plus : ISs := (.cons (.ret (.call "fraction" false (.cons (.op .Add false (.op .Mult false (.ix (.v 0) (.k (.int 0))) (.ix (.v 1) (.k (.int 1)))) (.op .Mult false (.ix (.v 1) (.k (.int 0))) (.ix (.v 0) (.k (.int 1))))) (.cons (.op .Mult false (.ix (.v 0) (.k (.int 1))) (.ix (.v 1) (.k (.int 1)))) .nil)))) .nil)
def N_plus : List Str := ["one", "other"]
def ir_minus : ISs := (.cons (.ret (.call "fraction" false (.cons (.op .Sub false (.op .Mult false (.ix (.v 0) (.k (.int 0))) (.ix (.v 1) (.k (.int 1)))) (.op .Mult false (.ix (.v 1) (.k (.int 0))) (.ix (.v 0) (.k (.int 1))))) (.cons (.op .Mult false (.ix (.v 0) (.k (.int 1))) (.ix (.v 1) (.k (.int 1)))) .nil)))) .nil)
def N_minus : List Str := ["one", "other"]
def ir_times : ISs := (.cons (.ret (.call "fraction" false (.cons (.op .Mult false (.ix (.v 0) (.k (.int 0))) (.ix (.v 1) (.k (.int 0)))) (.cons (.op .Mult false (.ix (.v 0) (.k (.int 1))) (.ix (.v 1) (.k (.int 1)))) .nil)))) .nil)
def N_times : List Str := ["one", "other"]
def ir_shared : ISs := (.cons (.ret (.call "fraction" false (.cons (.op .Mult false (.ix (.v 0) (.k (.int 0))) (.ix (.v 1) (.k (.int 1)))) (.cons (.op .Mult false (.ix (.v 0) (.k (.int 1))) (.ix (.v 1) (.k (.int 0)))) .nil)))) .nil)
def N_shared : List Str := ["one", "other"]
def ir_is_less : ISs := (.cons (.ret (.cmp .Lt (.op .Mult false (.ix (.v 0) (.k (.int 0))) (.ix (.v 1) (.k (.int 1)))) (.op .Mult false (.ix (.v 1) (.k (.int 0))) (.ix (.v 0) (.k (.int 1)))))) .nil)
def N_is_less : List Str := ["one", "other"]
def ir_is_whole : ISs := (.cons (.ret (.bop .And (.cons (.bi (.isi "int") false (.cons (.v 0) .nil)) (.cons (.not (.bi (.isi "bool") false (.cons (.v 0) .nil))) (.cons (.chn .LtE .LtE (.v 1) (.v 0) (.v 2)) .nil))))) .nil)
def N_is_whole : List Str := ["thing", "low", "high"]
def ir_is_fraction : ISs := (.cons (.iff (.bop .Or (.cons (.not (.bi (.isi "tuple") false (.cons (.v 0) .nil))) (.cons (.cmp .NotEq (.bi .len false (.cons (.v 0) .nil)) (.k (.int 2))) .nil))) (.cons (.ret (.k (.bl false))) .nil) .nil) (.cons (.iff (.not (.bi .all false (.cons (.lc false [1] (.bop .And (.cons (.bi (.isi "int") false (.cons (.v 1) .nil)) (.cons (.not (.bi (.isi "bool") false (.cons (.v 1) .nil))) .nil))) (.n 1) (.seq (.v 0)) .nil) .nil))) (.cons (.ret (.k (.bl false))) .nil) .nil) (.cons (.ret (.bop .And (.cons (.cmp .Gt (.ix (.v 0) (.k (.int 1))) (.k (.int 0))) (.cons (.cmp .Eq (.call "divisor" false (.cons (.bi .abs false (.cons (.ix (.v 0) (.k (.int 0))) .nil)) (.cons (.ix (.v 0) (.k (.int 1))) .nil))) (.k (.int 1))) .nil)))) .nil)))
def N_is_fraction : List Str := ["thing", "part"]
def ir_solved : ISs := (.cons (.asg (.n 1) (.lc true [7] (.bi .list false (.cons (.v 7) .nil)) (.n 7) (.seq (.v 0)) .nil)) (.cons (.asg (.n 2) (.bi .len false (.cons (.v 1) .nil))) (.cons (.for_ (.n 3) (.rng (.cons (.v 2) .nil)) (.cons (.asg (.n 4) (.ix (.lc false [6] (.v 6) (.n 6) (.rng (.cons (.v 3) (.cons (.v 2) .nil))) (.cons (.cmp .NotEq (.ix (.ix (.v 1) (.v 6)) (.v 3)) (.g "NOUGHT" (.tup [.int 0, .int 1]))) .nil)) (.k (.int 0)))) (.cons (.swp (.v 1) (.v 3) (.v 1) (.v 4) (.ix (.v 1) (.v 4)) (.ix (.v 1) (.v 3))) (.cons (.asg (.n 5) (.ix (.ix (.v 1) (.v 3)) (.v 3))) (.cons (.asg (.sub (.v 1) (.v 3)) (.lc false [9] (.call "shared" false (.cons (.v 9) (.cons (.v 5) .nil))) (.n 9) (.seq (.ix (.v 1) (.v 3))) .nil)) (.cons (.for_ (.n 6) (.rng (.cons (.v 2) .nil)) (.cons (.asg (.n 8) (.ix (.ix (.v 1) (.v 6)) (.v 3))) (.cons (.iff (.bop .And (.cons (.cmp .NotEq (.v 6) (.v 3)) (.cons (.cmp .NotEq (.v 8) (.g "NOUGHT" (.tup [.int 0, .int 1]))) .nil))) (.cons (.asg (.sub (.v 1) (.v 6)) (.lc false [9, 10] (.call "minus" false (.cons (.v 9) (.cons (.call "times" false (.cons (.v 8) (.cons (.v 10) .nil))) .nil))) (.t [9, 10]) (.zip (.ix (.v 1) (.v 6)) (.ix (.v 1) (.v 3))) .nil)) .nil) .nil) .nil))) .nil)))))) (.cons (.ret (.lc false [7] (.ix (.v 7) (.v 2)) (.n 7) (.seq (.v 1)) .nil)) .nil))))
def N_solved : List Str := ["rows", "table", "many", "place", "first", "by", "k", "row", "part", "one", "two"]
def ir_goes : ISs := (.cons (.ret (.bop .Or (.cons (.cmp .Eq (.ix (.v 0) (.k (.int 3))) (.k (.str ""))) (.cons (.cmp .In (.sl false (.v 0) .nil (.cons (.k (.int 2)) .nil)) (.v 1)) .nil)))) .nil)
def N_goes : List Str := ["pipe", "is_open"]
def ir_levels_with : ISs := (.cons (.asg (.n 4) (.lc false [7] (.ix (.v 7) (.k (.int 0))) (.n 7) (.seq (.ix (.v 0) (.k (.int 1)))) .nil)) (.cons (.asg (.n 5) (.dc false [11] (.v 11) (.op .Add true (.op .Mult false (.lst false (.cons (.g "NOUGHT" (.tup [.int 0, .int 1])) .nil)) (.bi .len false (.cons (.v 4) .nil))) (.lst false (.cons (.call "minus" false (.cons (.g "NOUGHT" (.tup [.int 0, .int 1])) (.cons (.tup (.cons (.ix (.v 2) (.v 11)) (.cons (.k (.int 1)) .nil))) .nil))) .nil))) (.n 11) (.seq (.v 4)))) (.cons (.for_ (.t [7, 8, 9, 10]) (.seq (.ix (.v 0) (.k (.int 2)))) (.cons (.iff (.call "goes" false (.cons (.tup (.cons (.v 7) (.cons (.v 8) (.cons (.v 9) (.cons (.v 10) .nil))))) (.cons (.v 3) .nil))) (.cons (.for_ (.t [12, 13]) (.seq (.tup (.cons (.tup (.cons (.v 7) (.cons (.v 8) .nil))) (.cons (.tup (.cons (.v 8) (.cons (.v 7) .nil))) .nil)))) (.cons (.iff (.cmp .In (.v 12) (.v 5)) (.cons (.par 14 15 (.ix (.v 5) (.v 12)) (.me .index (.v 4) (.cons (.v 12) .nil))) (.cons (.asg (.sub (.v 14) (.v 15)) (.call "plus" false (.cons (.ix (.v 14) (.v 15)) (.cons (.tup (.cons (.v 9) (.cons (.k (.int 1)) .nil))) .nil)))) (.cons (.iff (.cmp .In (.v 13) (.v 5)) (.cons (.asg (.sub (.v 14) (.me .index (.v 4) (.cons (.v 13) .nil))) (.call "minus" false (.cons (.ix (.v 14) (.me .index (.v 4) (.cons (.v 13) .nil))) (.cons (.tup (.cons (.v 9) (.cons (.k (.int 1)) .nil))) .nil)))) .nil) (.cons (.asg (.sub (.v 14) (.neg (.k (.int 1)))) (.call "plus" false (.cons (.ix (.v 14) (.neg (.k (.int 1)))) (.cons (.call "times" false (.cons (.tup (.cons (.v 9) (.cons (.k (.int 1)) .nil))) (.cons (.ix (.v 1) (.v 13)) .nil))) .nil)))) .nil)) .nil))) .nil) .nil)) .nil) .nil) .nil)) (.cons (.asg (.n 6) (.bi .dict true (.cons (.v 1) .nil))) (.cons (.ex (.me .update (.v 6) (.cons (.bi .dictZip false (.cons (.v 4) (.cons (.call "solved" false (.cons (.lc false [11] (.ix (.v 5) (.v 11)) (.n 11) (.seq (.v 4)) .nil) .nil)) .nil))) .nil))) (.fz 6 (.cons (.ret (.v 6)) .nil)))))))
def N_levels_with : List Str := ["works", "tanks", "taps", "is_open", "names", "table", "found", "one", "other", "width", "flap", "name", "here", "there", "row", "at"]
def ir_lift : ISs := (.cons (.par 2 3 (.ix (.v 1) (.ix (.v 0) (.k (.int 0)))) (.ix (.v 1) (.ix (.v 0) (.k (.int 1))))) (.cons (.ret (.ife (.cmp .Eq (.ix (.v 0) (.k (.int 3))) (.k (.str ">"))) (.call "minus" false (.cons (.v 2) (.cons (.v 3) .nil))) (.call "minus" false (.cons (.v 3) (.cons (.v 2) .nil))))) .nil))
def N_lift : List Str := ["pipe", "levels", "one", "other"]
def ir_choices : ISs := (.cons (.asg (.n 1) (.lst false (.cons (.lst false .nil) .nil))) (.cons (.for_ (.n 2) (.seq (.v 0)) (.cons (.asg (.n 1) (.op .Add false (.v 1) (.lc false [3] (.op .Add false (.v 3) (.lst false (.cons (.v 2) .nil))) (.n 3) (.seq (.v 1)) .nil))) .nil)) (.cons (.ret (.v 1)) .nil)))
def N_choices : List Str := ["some", "found", "one", "lot"]
def ir_flaps_of : ISs := (.cons (.ret (.lc false [1] (.v 1) (.n 1) (.seq (.ix (.v 0) (.k (.int 2)))) (.cons (.cmp .NotEq (.ix (.v 1) (.k (.int 3))) (.k (.str ""))) .nil))) .nil)
def N_flaps_of : List Str := ["works", "pipe"]
def ir_is_name : ISs := (.cons (.ret (.bop .And (.cons (.bi (.isi "str") false (.cons (.v 0) .nil)) (.cons (.chn .LtE .LtE (.k (.int 1)) (.bi .len false (.cons (.v 0) .nil)) (.k (.int 8))) (.cons (.bi .all false (.cons (.lc false [1] (.cmp .In (.v 1) (.g "LETTERS" (.str "abcdefghijklmnopqrstuvwxyz"))) (.n 1) (.str (.v 0)) .nil) .nil)) .nil))))) .nil)
def N_is_name : List Str := ["thing", "sign"]
def ir_are_rising : ISs := (.cons (.ret (.bi .all false (.cons (.lc false [1] (.cmp .Lt (.ix (.v 0) (.v 1)) (.ix (.v 0) (.op .Add false (.v 1) (.k (.int 1))))) (.n 1) (.rng (.cons (.op .Sub false (.bi .len false (.cons (.v 0) .nil)) (.k (.int 1))) .nil)) .nil) .nil))) .nil)
def N_are_rising : List Str := ["some", "k"]
def ir_are_places : ISs := (.cons (.iff (.bop .Or (.cons (.not (.bi (.isi "tuple") false (.cons (.v 0) .nil))) (.cons (.cmp .Gt (.bi .len false (.cons (.v 0) .nil)) (.v 1)) .nil))) (.cons (.ret (.k (.bl false))) .nil) .nil) (.cons (.iff (.not (.bi .all false (.cons (.lc false [3] (.bop .And (.cons (.bi (.isi "tuple") false (.cons (.v 3) .nil)) (.cons (.cmp .Eq (.bi .len false (.cons (.v 3) .nil)) (.k (.int 2))) (.cons (.call "is_name" false (.cons (.ix (.v 3) (.k (.int 0))) .nil)) .nil)))) (.n 3) (.seq (.v 0)) .nil) .nil))) (.cons (.ret (.k (.bl false))) .nil) .nil) (.cons (.ret (.bop .And (.cons (.bi .all false (.cons (.lc false [3] (.call "is_whole" false (.cons (.ix (.v 3) (.k (.int 1))) (.cons (.v 2) (.cons (.g "MOST_LEVEL" (.int 1000)) .nil)))) (.n 3) (.seq (.v 0)) .nil) .nil)) (.cons (.call "are_rising" false (.cons (.v 0) .nil)) .nil)))) .nil)))
def N_are_places : List Str := ["thing", "most", "low", "one"]
def ir_is_pipe : ISs := (.cons (.iff (.bop .Or (.cons (.not (.bi (.isi "tuple") false (.cons (.v 1) .nil))) (.cons (.cmp .NotEq (.bi .len false (.cons (.v 1) .nil)) (.k (.int 4))) (.cons (.not (.bi .all false (.cons (.lc false [2] (.bi (.isi "str") false (.cons (.v 2) .nil)) (.n 2) (.seq (.sl false (.v 1) .nil (.cons (.k (.int 2)) .nil))) .nil) .nil))) .nil)))) (.cons (.ret (.k (.bl false))) .nil) .nil) (.cons (.iff (.bop .Or (.cons (.cmp .NotIn (.ix (.v 1) (.k (.int 0))) (.v 0)) (.cons (.cmp .NotIn (.ix (.v 1) (.k (.int 1))) (.v 0)) (.cons (.cmp .GtE (.ix (.v 1) (.k (.int 0))) (.ix (.v 1) (.k (.int 1)))) .nil)))) (.cons (.ret (.k (.bl false))) .nil) .nil) (.cons (.ret (.bop .And (.cons (.call "is_whole" false (.cons (.ix (.v 1) (.k (.int 2))) (.cons (.k (.int 1)) (.cons (.g "MOST_WIDTH" (.int 100)) .nil)))) (.cons (.bi (.isi "str") false (.cons (.ix (.v 1) (.k (.int 3))) .nil)) (.cons (.cmp .In (.ix (.v 1) (.k (.int 3))) (.tup (.cons (.k (.str "")) (.cons (.k (.str ">")) (.cons (.k (.str "<")) .nil))))) .nil))))) .nil)))
def N_is_pipe : List Str := ["names", "thing", "name"]
def ir_names_of : ISs := (.cons (.ret (.lc false [1] (.ix (.v 1) (.k (.int 0))) (.n 1) (.seq (.op .Add false (.ix (.v 0) (.k (.int 0))) (.ix (.v 0) (.k (.int 1))))) .nil)) .nil)
def N_names_of : List Str := ["works", "one"]
def ir_hangs_on : ISs := (.cons (.asg (.n 1) (.lc true [3] (.ix (.v 3) (.k (.int 0))) (.n 3) (.seq (.ix (.v 0) (.k (.int 0)))) .nil)) (.cons (.for_ (.n 2) (.seq (.ix (.v 0) (.k (.int 1)))) (.cons (.for_ (.t [3, 4, 5, 6]) (.seq (.ix (.v 0) (.k (.int 2)))) (.cons (.iff (.bop .And (.cons (.cmp .Eq (.v 6) (.k (.str ""))) (.cons (.cmp .NotEq (.cmp .In (.v 3) (.v 1)) (.cmp .In (.v 4) (.v 1))) .nil))) (.cons (.ex (.me .append (.v 1) (.cons (.ife (.cmp .In (.v 3) (.v 1)) (.v 4) (.v 3)) .nil))) .nil) .nil) .nil)) .nil)) (.cons (.ret (.bi .all false (.cons (.lc false [3] (.cmp .In (.ix (.v 3) (.k (.int 0))) (.v 1)) (.n 3) (.seq (.ix (.v 0) (.k (.int 1)))) .nil) .nil))) .nil)))
def N_hangs_on : List Str := ["works", "found", "turn", "one", "other", "width", "flap"]
def ir_is_works : ISs := (.cons (.iff (.bop .Or (.cons (.not (.bi (.isi "tuple") false (.cons (.v 0) .nil))) (.cons (.cmp .NotEq (.bi .len false (.cons (.v 0) .nil)) (.k (.int 3))) (.cons (.not (.call "are_places" false (.cons (.ix (.v 0) (.k (.int 0))) (.cons (.g "MOST_TANKS" (.int 4)) (.cons (.neg (.g "MOST_LEVEL" (.int 1000))) .nil))))) .nil)))) (.cons (.ret (.k (.bl false))) .nil) .nil) (.cons (.iff (.bop .Or (.cons (.cmp .Eq (.ix (.v 0) (.k (.int 0))) (.tup .nil)) (.cons (.not (.call "are_places" false (.cons (.ix (.v 0) (.k (.int 1))) (.cons (.g "MOST_JUNCTIONS" (.int 5)) (.cons (.k (.int 0)) .nil))))) (.cons (.not (.bi (.isi "tuple") false (.cons (.ix (.v 0) (.k (.int 2))) .nil))) .nil)))) (.cons (.ret (.k (.bl false))) .nil) .nil) (.cons (.asg (.n 1) (.call "names_of" false (.cons (.v 0) .nil))) (.cons (.iff (.bop .Or (.cons (.cmp .NotEq (.bi .lenSet false (.cons (.v 1) .nil)) (.bi .len false (.cons (.v 1) .nil))) (.cons (.cmp .Gt (.bi .len false (.cons (.ix (.v 0) (.k (.int 2))) .nil)) (.g "MOST_PIPES" (.int 9))) .nil))) (.cons (.ret (.k (.bl false))) .nil) .nil) (.cons (.iff (.not (.bi .all false (.cons (.lc false [4] (.call "is_pipe" false (.cons (.v 1) (.cons (.v 4) .nil))) (.n 4) (.seq (.ix (.v 0) (.k (.int 2)))) .nil) .nil))) (.cons (.ret (.k (.bl false))) .nil) .nil) (.cons (.asg (.n 2) (.lc false [3] (.sl false (.v 3) .nil (.cons (.k (.int 2)) .nil)) (.n 3) (.seq (.ix (.v 0) (.k (.int 2)))) .nil)) (.cons (.iff (.bop .Or (.cons (.not (.call "are_rising" false (.cons (.v 2) .nil))) (.cons (.cmp .Gt (.bi .len false (.cons (.lc false [3] (.k (.int 1)) (.n 3) (.seq (.ix (.v 0) (.k (.int 2)))) (.cons (.cmp .NotEq (.ix (.v 3) (.k (.int 3))) (.k (.str ""))) .nil)) .nil)) (.g "MOST_FLAPS" (.int 5))) .nil))) (.cons (.ret (.k (.bl false))) .nil) .nil) (.cons (.ret (.call "hangs_on" false (.cons (.v 0) .nil))) .nil))))))))
def N_is_works : List Str := ["thing", "names", "pairs", "pipe", "one"]
def ir_need_works : ISs := (.cons (.iff (.not (.call "is_works" false (.cons (.v 0) .nil))) (.cons .nev .nil) .nil) .nil)
def N_need_works : List Str := ["works"]
def ir_need_junction : ISs := (.cons (.iff (.bop .Or (.cons (.not (.bi (.isi "str") false (.cons (.v 1) .nil))) (.cons (.cmp .NotIn (.v 1) (.lc false [2] (.ix (.v 2) (.k (.int 0))) (.n 2) (.seq (.ix (.v 0) (.k (.int 1)))) .nil)) .nil))) (.cons .nev .nil) .nil) .nil)
def N_need_junction : List Str := ["works", "junction", "one"]
def ir_need_level : ISs := (.cons (.iff (.not (.call "is_fraction" false (.cons (.v 0) .nil))) (.cons .nev .nil) .nil) .nil)
def N_need_level : List Str := ["level"]
def ir_all_levels : ISs := (.cons (.par 2 3 (.dc false [7, 8] (.v 7) (.tup (.cons (.v 8) (.cons (.k (.int 1)) .nil))) (.t [7, 8]) (.seq (.ix (.v 0) (.k (.int 0))))) (.bi .dict false (.cons (.ix (.v 0) (.k (.int 1))) .nil))) (.cons (.for_ (.n 1) (.seq (.call "choices" false (.cons (.lc false [6] (.sl false (.v 6) .nil (.cons (.k (.int 2)) .nil)) (.n 6) (.seq (.call "flaps_of" false (.cons (.v 0) .nil))) .nil) .nil))) (.cons (.asg (.n 4) (.call "levels_with" false (.cons (.v 0) (.cons (.v 2) (.cons (.v 3) (.cons (.v 1) .nil)))))) (.cons (.asg (.n 5) (.lc false [6] (.tup (.cons (.cmp .In (.sl false (.v 6) .nil (.cons (.k (.int 2)) .nil)) (.v 1)) (.cons (.call "lift" false (.cons (.v 6) (.cons (.v 4) .nil))) .nil))) (.n 6) (.seq (.call "flaps_of" false (.cons (.v 0) .nil))) .nil)) (.cons (.iff (.bi .all false (.cons (.lc false [9, 10] (.ife (.v 9) (.not (.call "is_less" false (.cons (.v 10) (.cons (.g "NOUGHT" (.tup [.int 0, .int 1])) .nil)))) (.not (.call "is_less" false (.cons (.g "NOUGHT" (.tup [.int 0, .int 1])) (.cons (.v 10) .nil))))) (.t [9, 10]) (.seq (.v 5)) .nil) .nil)) (.cons (.ret (.v 4)) .nil) .nil) .nil)))) (.cons (.ret (.k .non)) .nil)))
def N_all_levels : List Str := ["works", "lot", "tanks", "taps", "found", "lifts", "pipe", "name", "level", "is_open", "high"]
def ir_levels : ISs := (.cons (.ex (.call "need_works" false (.cons (.v 0) .nil))) (.cons (.asg (.n 1) (.call "all_levels" false (.cons (.v 0) .nil))) (.cons (.ret (.lc false [2] (.tup (.cons (.ix (.v 2) (.k (.int 0))) (.cons (.ix (.v 1) (.ix (.v 2) (.k (.int 0)))) .nil))) (.n 2) (.seq (.ix (.v 0) (.k (.int 1)))) .nil)) .nil)))
def N_levels : List Str := ["works", "found", "one"]
def ir_lots : ISs := (.cons (.iff (.cmp .Eq (.v 1) (.k (.int 0))) (.cons (.ret (.lst false (.cons (.tup .nil) .nil))) .nil) .nil) (.cons (.asg (.n 2) (.lst true .nil)) (.cons (.for_ (.t [3, 4]) (.enu (.v 0)) (.cons (.ex (.me .extend (.v 2) (.cons (.lc false [5] (.op .Add false (.tup (.cons (.v 4) .nil)) (.v 5)) (.n 5) (.seq (.call "lots" false (.cons (.sl false (.v 0) (.cons (.op .Add false (.v 3) (.k (.int 1))) .nil) .nil) (.cons (.op .Sub false (.v 1) (.k (.int 1))) .nil)))) .nil) .nil))) .nil)) (.fz 2 (.cons (.ret (.v 2)) .nil)))))
def N_lots : List Str := ["some", "many", "found", "k", "one", "rest"]
def ir_wedged : ISs := (.cons (.ret (.op .Add false (.sl false (.v 0) .nil (.cons (.k (.int 2)) .nil)) (.tup (.cons (.bi .tuple false (.cons (.lc false [2] (.ife (.cmp .In (.sl false (.v 2) .nil (.cons (.k (.int 2)) .nil)) (.v 1)) (.op .Add false (.sl false (.v 2) .nil (.cons (.k (.int 3)) .nil)) (.tup (.cons (.k (.str "")) .nil))) (.v 2)) (.n 2) (.seq (.ix (.v 0) (.k (.int 2)))) .nil) .nil)) .nil)))) .nil)
def N_wedged : List Str := ["works", "some", "pipe"]
def ir_fewest_wedged : ISs := (.cons (.ex (.call "need_works" false (.cons (.v 0) .nil))) (.cons (.ex (.call "need_junction" false (.cons (.v 0) (.cons (.v 1) .nil)))) (.cons (.ex (.call "need_level" false (.cons (.v 2) .nil))) (.cons (.asg (.n 3) (.lc false [6] (.sl false (.v 6) .nil (.cons (.k (.int 2)) .nil)) (.n 6) (.seq (.call "flaps_of" false (.cons (.v 0) .nil))) .nil)) (.cons (.for_ (.n 4) (.rng (.cons (.op .Add false (.bi .len false (.cons (.v 3) .nil)) (.k (.int 1))) .nil)) (.cons (.for_ (.n 5) (.seq (.call "lots" false (.cons (.v 3) (.cons (.v 4) .nil)))) (.cons (.iff (.not (.call "is_less" false (.cons (.ix (.call "all_levels" false (.cons (.call "wedged" false (.cons (.v 0) (.cons (.v 5) .nil))) .nil)) (.v 1)) (.cons (.v 2) .nil)))) (.cons (.ret (.v 5)) .nil) .nil) .nil)) .nil)) (.cons (.ret (.k .non)) .nil))))))
def N_fewest_wedged : List Str := ["works", "junction", "level", "flaps", "many", "some", "pipe"]
def ir__law_well : ISs := (.cons (.asg (.n 2) (.k (.int 0))) (.cons (.iff (.cmp .Lt (.v 1) (.bi .len false (.cons (.v 0) .nil))) (.cons (.asg (.n 2) (.ix (.v 0) (.v 1))) .nil) .nil) (.cons (.asg (.n 3) (.lst false (.cons (.k (.int 2147483647)) (.cons (.k (.int 2147483629)) (.cons (.k (.int 2147483587)) (.cons (.k (.int 2147483579)) (.cons (.k (.int 2147483563)) (.cons (.k (.int 2147483549)) (.cons (.k (.int 2147483543)) (.cons (.k (.int 2147483497)) .nil)))))))))) (.cons (.asg (.n 4) (.op .Mod false (.op .Mult false (.op .Add false (.op .Mod false (.v 2) (.k (.int 2147483489))) (.k (.int 1))) (.op .Add false (.k (.int 48271)) (.op .Mult false (.k (.int 2)) (.v 1)))) (.k (.int 2147483489)))) (.cons (.asg (.n 4) (.op .Add false (.op .Add false (.op .Mod false (.op .Mult false (.v 4) (.v 4)) (.k (.int 2147483477))) (.v 1)) (.k (.int 1)))) (.cons (.iff (.cmp .GtE (.v 2) (.op .Pow false (.k (.int 10)) (.k (.int 18)))) (.cons (.ret (.lst true (.cons (.v 2) (.cons (.v 4) (.cons (.ix (.v 3) (.op .Mod false (.v 1) (.k (.int 8)))) .nil))))) .nil) .nil) (.cons (.ret (.lst true (.cons (.k (.int 0)) (.cons (.v 4) (.cons (.ix (.v 3) (.op .Mod false (.v 1) (.k (.int 8)))) .nil))))) .nil)))))))
def N__law_well : List Str := ["script", "k", "cell", "primes", "seed"]
def ir__law_take : ISs := (.cons (.iff (.cmp .Gt (.ix (.v 0) (.k (.int 0))) (.k (.int 0))) (.cons (.asg (.n 2) (.op .Mod false (.ix (.v 0) (.k (.int 0))) (.v 1))) (.cons (.asg (.sub (.v 0) (.k (.int 0))) (.op .FloorDiv false (.ix (.v 0) (.k (.int 0))) (.v 1))) (.cons (.ret (.v 2)) .nil))) .nil) (.cons (.asg (.sub (.v 0) (.k (.int 1))) (.op .Add false (.op .Mod false (.op .Mult false (.ix (.v 0) (.k (.int 1))) (.k (.int 48271))) (.ix (.v 0) (.k (.int 2)))) (.k (.int 1)))) (.cons (.ret (.op .Mod false (.op .FloorDiv false (.op .Mod false (.op .Mult false (.ix (.v 0) (.k (.int 1))) (.ix (.v 0) (.k (.int 1)))) (.k (.int 2147483423))) (.k (.int 7))) (.v 1))) .nil)))
def N__law_take : List Str := ["well", "many", "drew"]
def ir__law_frac : ISs := (.cons (.par 2 3 (.bi .abs false (.cons (.v 0) .nil)) (.bi .abs false (.cons (.v 1) .nil))) (.cons (.whl (.cmp .Gt (.v 3) (.k (.int 0))) (.cons (.par 2 3 (.v 3) (.op .Mod false (.v 2) (.v 3))) .nil)) (.cons (.asg (.n 2) (.ife (.cmp .Gt (.v 1) (.k (.int 0))) (.v 2) (.neg (.v 2)))) (.cons (.ret (.tup (.cons (.op .FloorDiv false (.v 0) (.v 2)) (.cons (.op .FloorDiv false (.v 1) (.v 2)) .nil)))) .nil))))
def N__law_frac : List Str := ["top", "bottom", "one", "other"]
def ir__law_plus : ISs := (.cons (.ret (.call "_law_frac" false (.cons (.op .Add false (.op .Mult false (.ix (.v 0) (.k (.int 0))) (.ix (.v 1) (.k (.int 1)))) (.op .Mult false (.ix (.v 1) (.k (.int 0))) (.ix (.v 0) (.k (.int 1))))) (.cons (.op .Mult false (.ix (.v 0) (.k (.int 1))) (.ix (.v 1) (.k (.int 1)))) .nil)))) .nil)
def N__law_plus : List Str := ["one", "other"]
def ir__law_less : ISs := (.cons (.ret (.cmp .Lt (.op .Mult false (.ix (.v 0) (.k (.int 0))) (.ix (.v 1) (.k (.int 1)))) (.op .Mult false (.ix (.v 1) (.k (.int 0))) (.ix (.v 0) (.k (.int 1)))))) .nil)
def N__law_less : List Str := ["one", "other"]
def ir__law_works : ISs := (.cons (.par 13 14 (.lst true (.cons (.k (.str "al")) (.cons (.k (.str "bo")) (.cons (.k (.str "cy")) (.cons (.k (.str "di")) (.cons (.k (.str "ed")) (.cons (.k (.str "fay")) (.cons (.k (.str "gus")) (.cons (.k (.str "hal")) (.cons (.k (.str "ida")) .nil)))))))))) (.lst true .nil)) (.cons (.whl (.cmp .NotEq (.v 13) (.lst false .nil)) (.cons (.ex (.me .append (.v 14) (.cons (.me .popi (.v 13) (.cons (.call "_law_take" false (.cons (.v 0) (.cons (.bi .len false (.cons (.v 13) .nil)) .nil))) .nil)) .nil))) .nil)) (.cons (.asg (.n 4) (.sl false (.v 14) .nil (.cons (.op .Add false (.k (.int 1)) (.call "_law_take" false (.cons (.v 0) (.cons (.v 1) .nil)))) .nil))) (.cons (.asg (.n 5) (.sl false (.v 14) (.cons (.bi .len false (.cons (.v 4) .nil)) .nil) (.cons (.op .Add false (.bi .len false (.cons (.v 4) .nil)) (.call "_law_take" false (.cons (.v 0) (.cons (.op .Add false (.v 2) (.k (.int 1))) .nil)))) .nil))) (.cons (.asg (.n 6) (.ix (.lst false (.cons (.k (.int 9)) (.cons (.k (.int 100)) (.cons (.k (.int 1000)) .nil)))) (.call "_law_take" false (.cons (.v 0) (.cons (.k (.int 3)) .nil))))) (.cons (.asg (.n 7) (.bi .tuple false (.cons (.bi .sorted false (.cons (.lc false [9] (.tup (.cons (.v 9) (.cons (.op .Sub false (.call "_law_take" false (.cons (.v 0) (.cons (.op .Add false (.op .Mult false (.k (.int 2)) (.v 6)) (.k (.int 1))) .nil))) (.v 6)) .nil))) (.n 9) (.seq (.v 4)) .nil) .nil)) .nil))) (.cons (.asg (.n 8) (.lc false [9] (.ife (.v 3) (.k (.int 0)) (.call "_law_take" false (.cons (.v 0) (.cons (.ix (.lst false (.cons (.k (.int 1)) (.cons (.k (.int 5)) (.cons (.k (.int 60)) .nil)))) (.call "_law_take" false (.cons (.v 0) (.cons (.k (.int 3)) .nil)))) .nil)))) (.n 9) (.seq (.v 5)) .nil)) (.cons (.asg (.t [15, 16]) (.tup (.cons (.d0 true) (.cons (.bi .list true (.cons (.v 4) .nil)) .nil)))) (.cons (.for_ (.n 9) (.seq (.v 5)) (.cons (.ex (.call "_law_pipe" false (.cons (.v 0) (.cons (.v 15) (.cons (.v 9) (.cons (.ix (.v 16) (.call "_law_take" false (.cons (.v 0) (.cons (.bi .len false (.cons (.v 16) .nil)) .nil)))) (.cons (.k (.str "")) .nil))))))) (.cons (.ex (.me .append (.v 16) (.cons (.v 9) .nil))) .nil))) (.cons (.asg (.n 10) (.k (.int 0))) (.cons (.for_ (.n 11) (.rng (.cons (.call "_law_take" false (.cons (.v 0) (.cons (.k (.int 8)) .nil))) .nil)) (.cons (.par 18 19 (.ix (.v 16) (.call "_law_take" false (.cons (.v 0) (.cons (.bi .len false (.cons (.v 16) .nil)) .nil)))) (.ix (.v 16) (.call "_law_take" false (.cons (.v 0) (.cons (.bi .len false (.cons (.v 16) .nil)) .nil))))) (.cons (.asg (.n 17) (.ife (.cmp .Lt (.v 10) (.k (.int 5))) (.ix (.lst false (.cons (.k (.str "")) (.cons (.k (.str "<")) (.cons (.k (.str ">")) .nil)))) (.call "_law_take" false (.cons (.v 0) (.cons (.k (.int 3)) .nil)))) (.k (.str "")))) (.cons (.iff (.bop .And (.cons (.cmp .NotEq (.v 18) (.v 19)) (.cons (.cmp .Lt (.bi .len false (.cons (.v 15) .nil)) (.k (.int 9))) (.cons (.cmp .NotIn (.tup (.cons (.bi .min2 false (.cons (.v 18) (.cons (.v 19) .nil))) (.cons (.bi .max2 false (.cons (.v 18) (.cons (.v 19) .nil))) .nil))) (.v 15)) .nil)))) (.cons (.ex (.call "_law_pipe" false (.cons (.v 0) (.cons (.v 15) (.cons (.v 18) (.cons (.v 19) (.cons (.v 17) .nil))))))) (.cons (.asg (.n 10) (.op .Add false (.v 10) (.bi .int false (.cons (.cmp .NotEq (.v 17) (.k (.str ""))) .nil)))) .nil)) .nil) .nil)))) (.cons (.asg (.n 12) (.bi .tuple false (.cons (.lc false [20] (.op .Add false (.v 20) (.ix (.v 15) (.v 20))) (.n 20) (.seq (.bi .sortedDk false (.cons (.v 15) .nil))) .nil) .nil))) (.cons (.ret (.tup (.cons (.v 7) (.cons (.bi .tuple true (.cons (.bi .sortedZip false (.cons (.v 5) (.cons (.v 8) .nil))) .nil)) (.cons (.v 12) .nil))))) .nil)))))))))))))
def N__law_works : List Str := ["well", "tanks_so", "junctions_so", "dry", "sources", "joints", "wide", "tanks", "draws", "name", "flaps", "turn", "rows", "names", "drawn", "pipes", "had", "flap", "one", "other", "pair"]
def ir__law_pipe : ISs := (.cons (.asg (.n 5) (.op .Add false (.k (.int 1)) (.call "_law_take" false (.cons (.v 0) (.cons (.ix (.lst false (.cons (.k (.int 1)) (.cons (.k (.int 4)) (.cons (.k (.int 100)) .nil)))) (.call "_law_take" false (.cons (.v 0) (.cons (.k (.int 3)) .nil)))) .nil))))) (.cons (.asg (.sub (.v 1) (.tup (.cons (.bi .min2 false (.cons (.v 2) (.cons (.v 3) .nil))) (.cons (.bi .max2 false (.cons (.v 2) (.cons (.v 3) .nil))) .nil)))) (.tup (.cons (.v 5) (.cons (.v 4) .nil)))) .nil))
def N__law_pipe : List Str := ["well", "pipes", "one", "other", "flap", "width"]
def ir__law_lots : ISs := (.cons (.asg (.n 1) (.lst false (.cons (.tup .nil) .nil))) (.cons (.for_ (.n 2) (.seq (.v 0)) (.cons (.asg (.n 1) (.op .Add false (.v 1) (.lc false [4] (.op .Add false (.v 4) (.tup (.cons (.v 2) .nil))) (.n 4) (.seq (.v 1)) .nil))) .nil)) (.cons (.ret (.lc false [3, 4] (.v 4) (.t [3, 4]) (.seq (.bi .sorted false (.cons (.lc false [4] (.tup (.cons (.bi .len false (.cons (.v 4) .nil)) (.cons (.v 4) .nil))) (.n 4) (.seq (.v 1)) .nil) .nil))) .nil)) .nil)))
def N__law_lots : List Str := ["flaps", "found", "flap", "many", "lot"]
def ir__law_wedged : ISs := (.cons (.asg (.n 2) (.lst true .nil)) (.cons (.for_ (.n 3) (.seq (.ix (.v 0) (.k (.int 2)))) (.cons (.ex (.me .append (.v 2) (.cons (.ife (.cmp .In (.sl false (.v 3) .nil (.cons (.k (.int 2)) .nil)) (.v 1)) (.op .Add false (.sl false (.v 3) .nil (.cons (.k (.int 3)) .nil)) (.tup (.cons (.k (.str "")) .nil))) (.v 3)) .nil))) .nil)) (.cons (.ret (.tup (.cons (.ix (.v 0) (.k (.int 0))) (.cons (.ix (.v 0) (.k (.int 1))) (.cons (.bi .tuple false (.cons (.v 2) .nil)) .nil))))) .nil)))
def N__law_wedged : List Str := ["works", "lot", "pipes", "pipe"]
end FW

set_option Elab.async false
set_option linter.all false
set_option maxRecDepth 100000
/-! DPa: equations by which a compact text is worked out over data. Loops stay folded. -/
namespace FW
open PySem
section
variable (Φ : Str → FS)
def WL (c : IE) (a : ISs) (n : Nat) (env : En) (μ : Mu) (Dn : EnD) : Prop := whlW (fun env' μ1 k E => wE Φ c env' μ1 (fun x μ2 => asB x fun b => k b μ2) E) (fun env' μ1 Dn' => wSs Φ a env' μ1 Dn') n env μ Dn
def FL (tg : Tg) (a : ISs) (src : Mu → Prop) (ds : List D) (env : En) (μ : Mu) (Dn : EnD) : Prop := forW src tg (fun env' μ2 Dn' => wSs Φ a env' μ2 Dn') ds env μ Dn
def LC (e : IE) (tg : Tg) (cs : IEs) (src : Mu → Prop) (env : En) (ds acc : List D) (μ : Mu) (Q : List D → Mu → Prop) : Prop := lcW src tg (fun env' μ2 k => wC Φ cs env' μ2 k) (fun env' μ2 k => wE Φ e env' μ2 k NoX) env ds acc μ Q
def DC (k e : IE) (tg : Tg) (src : Mu → Prop) (env : En) (ds : List D) (ks : List Str) (vs : List D) (μ : Mu) (Q : List Str → List D → Mu → Prop) : Prop := dcW src tg (fun env' μ2 q => wE Φ k env' μ2 q NoX) (fun env' μ2 q => wE Φ e env' μ2 q NoX) env ds ks vs μ Q
variable {env : En} {μ : Mu} {Q : QD} {E : XD} {Dn : EnD}
theorem e_v {i : Nat} : wE Φ (.v i) env μ Q E = onS (lk env i) fun d => Q d μ := (rfl)
theorem e_g {x : Str} {d : D} : wE Φ (.g x d) env μ Q E = Q d μ := (rfl)
theorem e_k {d : D} : wE Φ (.k d) env μ Q E = Q d μ := (rfl)
theorem e_tup {es : IEs} : wE Φ (.tup es) env μ Q E = wEs Φ es env μ (fun ds μ1 => Q (.tup ds) μ1) E := (rfl)
theorem e_lst {m : Bool} {es : IEs} : wE Φ (.lst m es) env μ Q E = wEs Φ es env μ (fun ds μ1 => newL m ds μ1 Q) E := (rfl)
theorem e_op {o : Operator} {m : Bool} {a b : IE} : wE Φ (.op o m a b) env μ Q E = wE Φ a env μ (fun x μ1 => wE Φ b env μ1 (fun y μ2 => bopW o m x y μ2 Q) E) E := (rfl)
theorem e_neg {a : IE} : wE Φ (.neg a) env μ Q E = wE Φ a env μ (fun x μ1 => asI x fun i => Q (.int (-i)) μ1) E := (rfl)
theorem e_not {a : IE} : wE Φ (.not a) env μ Q E = wE Φ a env μ (fun x μ1 => asB x fun b => Q (.bl (!b)) μ1) E := (rfl)
theorem e_bop {o : BoolOp} {es : IEs} : wE Φ (.bop o es) env μ Q E = wB Φ o es env μ Q E := (rfl)
theorem e_ife {c a b : IE} : wE Φ (.ife c a b) env μ Q E = wE Φ c env μ (fun x μ1 => asB x fun t => onB t (wE Φ a env μ1 Q E) (wE Φ b env μ1 Q E)) E := (rfl)
theorem e_cmp {o : CmpOp} {a b : IE} : wE Φ (.cmp o a b) env μ Q E = wE Φ a env μ (fun x μ1 => wE Φ b env μ1 (fun y μ2 => cmpW o x y μ2 fun t => Q (.bl t) μ2) E) E := (rfl)
theorem e_chn {o o' : CmpOp} {a b c : IE} : wE Φ (.chn o o' a b c) env μ Q E = wE Φ a env μ (fun x μ1 => wE Φ b env μ1 (fun y μ2 => cmpW o x y μ2 fun t => onB t (wE Φ c env μ2 (fun z μ3 => cmpW o' y z μ3 fun t' => Q (.bl t') μ3) E) (Q (.bl false) μ2)) E) E := (rfl)
theorem e_ix {a b : IE} : wE Φ (.ix a b) env μ Q E = wE Φ a env μ (fun x μ1 => wE Φ b env μ1 (fun y μ2 => ixW x y μ2 Q) E) E := (rfl)
theorem e_sl {m : Bool} {a : IE} {lo hi : IEs} : wE Φ (.sl m a lo hi) env μ Q E = wE Φ a env μ (fun x μ1 => wO Φ lo env μ1 (fun l μ2 => wO Φ hi env μ2 (fun h μ3 => slW m x l h μ3 Q) E) E) E := (rfl)
theorem e_call {f : Str} {es : IEs} : wE Φ (.call f false es) env μ Q E = wEs Φ es env μ (fun ds μ1 => Φ f ds μ1 Q E) E := (rfl)
theorem e_callz {f : Str} {es : IEs} : wE Φ (.call f true es) env μ Q E = wEs Φ es env μ (fun ds μ1 => Φ f ds μ1 (fun d μ2 => ∃ xs, d = .cel μ1.length ∧ μ2 = μ1 ++ [some (.lst xs)] ∧ ncA xs = true ∧ Q (.lst xs) μ1) E) E := (rfl)
theorem e_bi {b : Bi} {m : Bool} {es : IEs} : wE Φ (.bi b m es) env μ Q E = wEs Φ es env μ (fun ds μ1 => biW b m ds μ1 Q) E := (rfl)
theorem e_me {b : Mt} {o : IE} {es : IEs} : wE Φ (.me b o es) env μ Q E = wE Φ o env μ (fun x μ1 => meTy b x μ1 ∧ wEs Φ es env μ1 (fun ds μ2 => meW b x ds μ2 Q) E) E := (rfl)
theorem e_lc {m : Bool} {own : List Nat} {e : IE} {tg : Tg} {it : II} {cs : IEs} : wE Φ (.lc m own e tg it cs) env μ Q E = wI Φ it env μ (fun ds src μ1 => LC Φ e tg cs src (wp0 env own) ds [] μ1 fun ys μ3 => newL m ys μ3 Q) E := (rfl)
theorem e_dc {m : Bool} {own : List Nat} {k e : IE} {tg : Tg} {it : II} : wE Φ (.dc m own k e tg it) env μ Q E = wI Φ it env μ (fun ds src μ1 => DC Φ k e tg src (wp0 env own) ds [] [] μ1 fun ks ys μ3 => newDk m ks ys μ3 Q) E := (rfl)
theorem e_d0 {t : Bool} : wE Φ (.d0 t) env μ Q E = d0W t μ Q := (rfl)
theorem es_nil {Q : List D → Mu → Prop} : wEs Φ .nil env μ Q E = Q [] μ := (rfl)
theorem es_cons {Q : List D → Mu → Prop} {e : IE} {es : IEs} : wEs Φ (.cons e es) env μ Q E = wE Φ e env μ (fun d μ1 => wEs Φ es env μ1 (fun ds μ2 => Q (d :: ds) μ2) E) E := (rfl)
theorem b_one {o : BoolOp} {e : IE} : wB Φ o (.cons e .nil) env μ Q E = wE Φ e env μ (fun x μ1 => asB x fun b => Q (.bl b) μ1) E := (rfl)
theorem b_and {e e' : IE} {es : IEs} : wB Φ .And (.cons e (.cons e' es)) env μ Q E = wE Φ e env μ (fun x μ1 => asB x fun b => onB b (wB Φ .And (.cons e' es) env μ1 Q E) (Q (.bl false) μ1)) E := (rfl)
theorem b_or {e e' : IE} {es : IEs} : wB Φ .Or (.cons e (.cons e' es)) env μ Q E = wE Φ e env μ (fun x μ1 => asB x fun b => onB b (Q (.bl true) μ1) (wB Φ .Or (.cons e' es) env μ1 Q E)) E := (rfl)
theorem o_nil {Q : Option Int → Mu → Prop} : wO Φ .nil env μ Q E = Q none μ := (rfl)
theorem o_cons {Q : Option Int → Mu → Prop} {e : IE} {es : IEs} : wO Φ (.cons e es) env μ Q E = wE Φ e env μ (fun x μ1 => asI x fun i => Q (some i) μ1) E := (rfl)
theorem c_nil {Q : Bool → Mu → Prop} : wC Φ .nil env μ Q = Q true μ := (rfl)
theorem c_cons {Q : Bool → Mu → Prop} {e : IE} {es : IEs} : wC Φ (.cons e es) env μ Q = wE Φ e env μ (fun x μ1 => asB x fun b => Q b μ1) NoX := (rfl)
variable {QI : List D → (Mu → Prop) → Mu → Prop}
theorem i_seq {e : IE} : wI Φ (.seq e) env μ QI E = wE Φ e env μ (fun x μ1 => onS (seqOf μ1 x) fun xs => QI xs (srcOf x xs) μ1) E := (rfl)
theorem i_rng {es : IEs} : wI Φ (.rng es) env μ QI E = wEs Φ es env μ (fun ds μ1 => rngW ds fun xs => QI xs (fun _ => True) μ1) E := (rfl)
theorem i_enu {e : IE} : wI Φ (.enu e) env μ QI E = wE Φ e env μ (fun x μ1 => enuW x fun xs => QI xs (fun _ => True) μ1) E := (rfl)
theorem i_zip {a b : IE} : wI Φ (.zip a b) env μ QI E = wE Φ a env μ (fun x μ1 => wE Φ b env μ1 (fun y μ2 => zipW x y fun xs => QI xs (fun _ => True) μ2) E) E := (rfl)
theorem i_str {e : IE} : wI Φ (.str e) env μ QI E = wE Φ e env μ (fun x μ1 => strW x fun xs => QI xs (fun _ => True) μ1) E := (rfl)
-- statements
theorem s_nil : wSs Φ .nil env μ Dn = Dn.nx env μ := (rfl)
theorem s_cons {s : IS} {r : ISs} : wSs Φ (.cons s r) env μ Dn = wS Φ s env μ { Dn with nx := fun e m => wSs Φ r e m Dn } := (rfl)
theorem s_fz {i : Nat} {r : ISs} : wSs Φ (.fz i r) env μ Dn = fzW i env μ fun e m => wSs Φ r e m Dn := (rfl)
theorem s_asg {i : Nat} {e : IE} : wS Φ (.asg (.n i) e) env μ Dn = wE Φ e env μ (fun d μ1 => Dn.nx (st env i d) μ1) fun x m => Dn.ex x env m := (rfl)
theorem s_asgt {is : List Nat} {e : IE} : wS Φ (.asg (.t is) e) env μ Dn = wE Φ e env μ (fun d μ1 => tgW (.t is) d μ1 env fun env' => Dn.nx env' μ1) fun x m => Dn.ex x env m := (rfl)
theorem s_sub {o i e : IE} : wS Φ (.asg (.sub o i) e) env μ Dn = wE Φ e env μ (fun d μ1 => wE Φ o env μ1 (fun x μ2 => wE Φ i env μ2 (fun y μ3 => setW x y d μ3 fun μ4 => Dn.nx env μ4) fun x m => Dn.ex x env m) fun x m => Dn.ex x env m) fun x m => Dn.ex x env m := (rfl)
theorem s_par {i j : Nat} {a b : IE} : wS Φ (.par i j a b) env μ Dn = wE Φ a env μ (fun x μ1 => wE Φ b env μ1 (fun y μ2 => Dn.nx (st (st env i x) j y) μ2) fun x m => Dn.ex x env m) fun x m => Dn.ex x env m := (rfl)
theorem s_swp {o1 i1 o2 i2 a b : IE} : wS Φ (.swp o1 i1 o2 i2 a b) env μ Dn = wE Φ a env μ (fun x μ1 => wE Φ b env μ1 (fun y μ2 =>
      wE Φ o1 env μ2 (fun p μ3 => wE Φ i1 env μ3 (fun q μ4 => setW p q x μ4 fun μ5 =>
      wE Φ o2 env μ5 (fun p' μ6 => wE Φ i2 env μ6 (fun q' μ7 => setW p' q' y μ7 fun μ8 => Dn.nx env μ8) fun x m => Dn.ex x env m) fun x m => Dn.ex x env m)
      fun x m => Dn.ex x env m) fun x m => Dn.ex x env m) fun x m => Dn.ex x env m) fun x m => Dn.ex x env m := (rfl)
theorem s_ex {e : IE} : wS Φ (.ex e) env μ Dn = wE Φ e env μ (fun _ μ1 => Dn.nx env μ1) fun x m => Dn.ex x env m := (rfl)
theorem s_ret {e : IE} : wS Φ (.ret e) env μ Dn = wE Φ e env μ Dn.rt fun x m => Dn.ex x env m := (rfl)
theorem s_iff {c : IE} {a b : ISs} : wS Φ (.iff c a b) env μ Dn = wE Φ c env μ (fun x μ1 => asB x fun t => onB t (wSs Φ a env μ1 Dn) (wSs Φ b env μ1 Dn)) fun x m => Dn.ex x env m := (rfl)
theorem s_whl {c : IE} {a : ISs} : wS Φ (.whl c a) env μ Dn = ∃ n, WL Φ c a n env μ Dn := (rfl)
theorem s_for {tg : Tg} {it : II} {a : ISs} : wS Φ (.for_ tg it a) env μ Dn = wI Φ it env μ (fun ds src μ1 => FL Φ tg a src ds env μ1 Dn) fun x m => Dn.ex x env m := (rfl)
theorem s_cont : wS Φ .cont env μ Dn = Dn.ct env μ := (rfl)
-- the loops, a step at a time
theorem WL_s {c : IE} {a : ISs} {n : Nat} : WL Φ c a (n + 1) env μ Dn = wE Φ c env μ (fun x μ1 => asB x fun b => onB b (wSs Φ a env μ1 { Dn with nx := fun e m => WL Φ c a n e m Dn, ct := fun e m => WL Φ c a n e m Dn, bk := Dn.nx }) (Dn.nx env μ1)) fun x m => Dn.ex x env m := (rfl)
theorem FL_nil {tg : Tg} {a : ISs} {src : Mu → Prop} : FL Φ tg a src [] env μ Dn = Dn.nx env μ := (rfl)
theorem FL_cons {tg : Tg} {a : ISs} {src : Mu → Prop} {d : D} {ds : List D} : FL Φ tg a src (d :: ds) env μ Dn = tgW tg d μ env fun env' => wSs Φ a env' μ { Dn with nx := fun e m => src m ∧ FL Φ tg a src ds e m Dn, ct := fun e m => src m ∧ FL Φ tg a src ds e m Dn, bk := Dn.nx } := (rfl)
theorem LC_nil {e : IE} {tg : Tg} {cs : IEs} {src : Mu → Prop} {acc : List D} {Q : List D → Mu → Prop} : LC Φ e tg cs src env [] acc μ Q = Q acc μ := (rfl)
theorem LC_cons {e : IE} {tg : Tg} {cs : IEs} {src : Mu → Prop} {d : D} {ds acc : List D} {Q : List D → Mu → Prop} : LC Φ e tg cs src env (d :: ds) acc μ Q = tgW tg d μ env fun env' => wC Φ cs env' μ fun b μ1 => onB b
      (wE Φ e env' μ1 (fun y μ2 => (src μ2 ∧ Sz (acc.length + 1)) ∧ LC Φ e tg cs src env ds (acc ++ [y]) μ2 Q) NoX)
      (src μ1 ∧ LC Φ e tg cs src env ds acc μ1 Q) := (rfl)
theorem DC_nil {k e : IE} {tg : Tg} {src : Mu → Prop} {ks : List Str} {vs : List D} {Q : List Str → List D → Mu → Prop} : DC Φ k e tg src env [] ks vs μ Q = Q ks vs μ := (rfl)
theorem DC_cons {k e : IE} {tg : Tg} {src : Mu → Prop} {d : D} {ds : List D} {ks : List Str} {vs : List D} {Q : List Str → List D → Mu → Prop} : DC Φ k e tg src env (d :: ds) ks vs μ Q = tgW tg d μ env fun env' => wE Φ k env' μ (fun x μ1 => asS x fun c =>
      wE Φ e env' μ1 (fun y μ2 => (src μ2 ∧ Sz (ks.length + 1)) ∧ DC Φ k e tg src env ds (putD ks vs c y).1 (putD ks vs c y).2 μ2 Q) NoX) NoX := (rfl)
/-- a comprehension that only looks: a filter, then a map -/
theorem LC_pure {e : IE} {tg : Tg} {cs : IEs} {src : Mu → Prop} {Q : List D → Mu → Prop} (p : D → Bool) (f : D → D) (hs : src μ) :
    ∀ (ds acc : List D), (∀ d ∈ ds, ∀ (R : Bool → Mu → Prop) (R2 : QD), (p d = true → R2 (f d) μ) → (R (p d) μ) → tgW tg d μ env fun env' => wC Φ cs env' μ fun b μ1 => (b = true → wE Φ e env' μ1 R2 NoX) ∧ R b μ1) →
    Sz (acc.length + ds.length) → Q (acc ++ (ds.filter p).map f) μ → LC Φ e tg cs src env ds acc μ Q
  | [], acc, _, _, q => by rw [LC_nil]; simpa using q
  | d :: ds, acc, h, hz, q => by
    have hz : acc.length + (ds.length + 1) ≤ 100000 := hz
    rw [LC_cons]
    have h1 := h d List.mem_cons_self (fun b μ1 => b = false → src μ1 ∧ LC Φ e tg cs src env ds acc μ1 Q) (fun y μ2 => (src μ2 ∧ Sz (acc.length + 1)) ∧ LC Φ e tg cs src env ds (acc ++ [y]) μ2 Q)
    refine h1 (fun hp => ⟨⟨hs, ?_⟩, LC_pure p f hs ds _ (fun d' hd => h d' (List.mem_cons_of_mem _ hd)) ?_ ?_⟩) fun hp => ⟨hs, LC_pure p f hs ds _ (fun d' hd => h d' (List.mem_cons_of_mem _ hd)) ?_ ?_⟩
    · show _ ≤ 100000; omega
    · show _ ≤ 100000; rw [List.length_append]; show acc.length + 1 + _ ≤ _; omega
    · simpa [hp] using q
    · show _ ≤ 100000; omega
    · simpa [hp] using q
/-- without a condition: a map -/
theorem LC_map {e : IE} {tg : Tg} {src : Mu → Prop} {Q : List D → Mu → Prop} (f : D → D) (hs : src μ) (ds : List D)
    (h : ∀ d ∈ ds, ∀ R2 : QD, R2 (f d) μ → tgW tg d μ env fun env' => wE Φ e env' μ R2 NoX) (hz : Sz ds.length) (q : Q (ds.map f) μ) : LC Φ e tg .nil src env ds [] μ Q := by
  refine LC_pure Φ (fun _ => true) f hs ds [] ?_ (by simpa using hz) (by rw [List.filter_eq_self.mpr (fun _ _ => rfl)]; exact q)
  intro d hd R R2 h1 h2
  have := h d hd R2 (h1 rfl)
  revert this
  unfold tgW
  cases tg with
  | n i => exact fun z => ⟨fun _ => z, h2⟩
  | t is =>
    cases d <;> try exact id
    rename_i xs
    show onS (stAll env is xs) _ → onS (stAll env is xs) _
    cases stAll env is xs with
    | none => exact id
    | some w => exact fun z => ⟨fun _ => z, h2⟩
end
end FW

set_option Elab.async false
set_option linter.all false
set_option maxRecDepth 100000
/-! DP0: fractions. -/
namespace FW
open PySem
/-- a fraction as the program keeps it -/
def fr (q : Rat) : D := .tup [.int q.num, .int q.den]
/-- a fraction of bounded size -/
def RB (n : Nat) (q : Rat) : Prop := q.num.natAbs < 2 ^ n ∧ q.den < 2 ^ n
theorem BigI.of {i : Int} {n : Nat} (h : i.natAbs < 2 ^ n) (hn : n ≤ 400000) : BigI i := by
  show i.natAbs.log2 < 400000
  by_cases h0 : i.natAbs = 0
  · rw [h0]; decide
  · exact Nat.lt_of_lt_of_le ((Nat.log2_lt h0).mpr h) hn
theorem DivOk.of {i : Int} {n : Nat} (h0 : i ≠ 0) (h : i.natAbs < 2 ^ n) (hn : n ≤ 9000) : DivOk i :=
  ⟨h0, Nat.lt_of_lt_of_le ((Nat.log2_lt (by omega)).mpr h) hn⟩
theorem eqD_int (i j : Int) : eqD (.int i) (.int j) = decide (i = j) := by
  unfold eqD D.py PyData.eqv
  by_cases h : i = j <;> simp [h]
theorem eqD_str (i j : Str) : eqD (.str i) (.str j) = decide (i = j) := by
  unfold eqD D.py PyData.eqv
  by_cases h : i = j <;> simp [h]
theorem eqD_tup (xs ys : List D) : eqD (.tup xs) (.tup ys) = PyData.eqvAll (pyA xs) (pyA ys) := by
  unfold eqD D.py
  rw [PyData.eqv]
theorem eqA_nil : PyData.eqvAll (pyA []) (pyA []) = true := by unfold pyA; rw [PyData.eqvAll]
theorem eqA_cons (x y : D) (xs ys : List D) : PyData.eqvAll (pyA (x :: xs)) (pyA (y :: ys)) = (eqD x y && PyData.eqvAll (pyA xs) (pyA ys)) := by
  conv => lhs; unfold pyA
  rw [PyData.eqvAll]; rfl
theorem eqD_fr (p q : Rat) : eqD (fr p) (fr q) = decide (p = q) := by
  rw [fr, fr, eqD_tup, eqA_cons, eqA_cons, eqA_nil, eqD_int, eqD_int, Bool.and_true, ← Bool.decide_and]
  congr 1
  apply propext
  constructor
  · exact fun ⟨a, b⟩ => Rat.ext a (by omega)
  · rintro rfl; exact ⟨rfl, rfl⟩
theorem fr_zero : D.tup [.int 0, .int 1] = fr 0 := rfl
theorem fr_int (i : Int) : D.tup [.int i, .int 1] = fr (i : Rat) := by
  unfold fr
  rw [Rat.num_intCast, Rat.den_intCast]; rfl
theorem pl_fr (q : Rat) : (fr q).pl = true := rfl
theorem shal_fr (q : Rat) : shal (fr q) := by
  simp [shal, fr, D.py, pyA, PyData.depth, PyData.depthAll]
theorem gcd_step {a b : Int} (ha : 0 ≤ a) (hb : 0 ≤ b) : Int.gcd b (a % b) = Int.gcd a b := by
  obtain ⟨m, rfl⟩ := Int.eq_ofNat_of_zero_le ha
  obtain ⟨n, rfl⟩ := Int.eq_ofNat_of_zero_le hb
  show Nat.gcd n (m % n) = Nat.gcd m n
  rw [Nat.gcd_comm n, ← Nat.gcd_rec, Nat.gcd_comm]
/-- a return: nothing new that is kept -/
theorem rt_same {μ : Mu} {Q : QD} {d : D} (hd : d.nc = true) (q : Q d μ) : retW μ Q d μ :=
  ⟨fun _ _ _ h => .inl h, .inl ⟨hd, by rw [List.take_length]; exact q⟩⟩
theorem rt_new {μ : Mu} {cs : Mu} {Q : QD} {d : D} (hd : d.nc = true) (q : Q d μ) : retW μ Q d (μ ++ cs) :=
  ⟨fun k o l h => .inl (by rw [List.getElem?_append_left l] at h; exact h), .inl ⟨hd, by rw [List.take_left]; exact q⟩⟩
theorem rt_cell {μ : Mu} {cs : Mu} {Q : QD} {i : Nat} {o : MO} (hi : cs[i]? = some (some o)) (hd : o.nc = true) (q : Q (.cel μ.length) (μ ++ [some o])) : retW μ Q (.cel (μ.length + i)) (μ ++ cs) :=
  ⟨fun k o l h => .inl (by rw [List.getElem?_append_left l] at h; exact h), .inr ⟨_, o, rfl, by omega, by rw [List.getElem?_append_right (by omega)]; simpa using hi, hd, by rw [List.take_left]; exact q⟩⟩
def fs_divisor : FS := fun ds μ Q _ => ∃ a b : Int, ds = [.int a, .int b] ∧ 0 ≤ a ∧ 0 ≤ b ∧ Q (.int (Int.gcd a b)) μ
theorem divisor_loop (Φ : Str → FS) (Dn : EnD) (μ : Mu) : ∀ (n : Nat) (a b : Int), 0 ≤ a → 0 ≤ b → b.toNat < n → Dn.nx [some (.int (Int.gcd a b)), some (.int 0)] μ →
    WL Φ (.cmp .NotEq (.v 1) (.k (.int 0))) (.cons (.par 0 1 (.v 1) (.op .Mod false (.v 0) (.v 1))) .nil) n [some (.int a), some (.int b)] μ Dn := by
  intro n
  induction n with
  | zero => intro a b _ _ h; omega
  | succ n ih =>
    intro a b ha hb hn q
    simp only [WL_s, s_cons, s_nil, s_par, e_cmp, e_v, e_k, e_op, lk, st, onS_some, cmpW, eqW, asB_bl, bopW, asI_int, resOf, D.pl, eqD_int, shal, D.py, PyData.depth]
    refine ⟨by simp, ?_, ?_⟩
    · intro hne
      have hb0 : b ≠ 0 := by simpa using hne
      refine ⟨hb0, ih b _ hb ?_ ?_ ?_⟩
      · rw [Int.fmod_eq_emod_of_nonneg _ hb]; exact Int.emod_nonneg _ hb0
      · rw [Int.fmod_eq_emod_of_nonneg _ hb]; have := Int.emod_lt_of_pos a (show 0 < b by omega); omega
      · rw [Int.fmod_eq_emod_of_nonneg _ hb]
        rw [gcd_step ha hb]; exact q
    · intro he
      have hb0 : b = 0 := by simpa using he
      subst hb0
      rw [Int.gcd_zero_right] at q
      have : (a.natAbs : Int) = a := by omega
      rw [this] at q
      exact q
theorem p_divisor (Φ : Str → FS) : ∀ ds μ Qd Ed, ds.length = 2 → fs_divisor ds μ Qd Ed → wSs Φ ir_divisor (start0 N_divisor.length ds) μ (endD μ Qd Ed) := by
  rintro ds μ Q E _ ⟨a, b, rfl, ha, hb, q⟩
  unfold ir_divisor
  simp only [s_cons, s_whl, s_ret, s_nil, e_v, start0, N_divisor, List.length, List.map, List.append]
  refine ⟨b.toNat + 1, divisor_loop Φ _ μ _ a b ha hb (by omega) ?_⟩
  simp only [s_cons, s_whl, s_ret, s_nil, e_v, lk, onS_some]
  exact rt_same rfl q
def fs_fraction : FS := fun ds μ Q _ => ∃ a b : Int, ds = [.int a, .int b] ∧ b ≠ 0 ∧ b.natAbs < 2 ^ 8999 ∧ Q (fr (Rat.divInt a b)) μ
theorem abs_if (i : Int) : (if i < 0 then -i else i) = (i.natAbs : Int) := by split <;> omega
theorem frac_top {a b : Int} (hb : b ≠ 0) : a.fdiv ((Int.gcd a b : Int) * (if 0 < b then 1 else -1)) = (Rat.divInt a b).num := by
  rw [Rat.num_divInt, Int.gcd_comm b a]
  have hd : (Int.gcd a b : Int) ∣ a := Int.gcd_dvd_left ..
  have hg : (Int.gcd a b : Int) ≠ 0 := by
    have := Int.gcd_pos_of_ne_zero_right a hb; omega
  by_cases h : 0 < b
  · rw [if_pos h, Int.mul_one, Int.sign_eq_one_of_pos h, Int.one_mul, Int.fdiv_eq_ediv_of_dvd hd]
  · rw [if_neg h, Int.sign_eq_neg_one_of_neg (by omega), Int.fdiv_eq_ediv_of_dvd (by rw [Int.mul_neg, Int.mul_one]; exact Int.neg_dvd.mpr hd), Int.mul_neg, Int.mul_one, Int.ediv_neg, Int.neg_mul, Int.one_mul, Int.neg_ediv_of_dvd hd]
theorem frac_bottom {a b : Int} (hb : b ≠ 0) : b.fdiv ((Int.gcd a b : Int) * (if 0 < b then 1 else -1)) = ((Rat.divInt a b).den : Int) := by
  rw [Rat.den_divInt, Int.gcd_comm b a, if_neg hb]
  have hd : (Int.gcd a b : Int) ∣ b := Int.gcd_dvd_right ..
  by_cases h : 0 < b
  · rw [if_pos h, Int.mul_one, Int.fdiv_eq_ediv_of_dvd hd, Int.natCast_ediv, Int.natAbs_of_nonneg (by omega)]
  · rw [if_neg h, Int.fdiv_eq_ediv_of_dvd (by rw [Int.mul_neg, Int.mul_one]; exact Int.neg_dvd.mpr hd), Int.mul_neg, Int.mul_one, Int.ediv_neg, Int.natCast_ediv, Int.ofNat_natAbs_of_nonpos (by omega), Int.neg_ediv_of_dvd hd]
theorem p_fraction (Φ : Str → FS) (h1 : Φ "divisor" = fs_divisor) : ∀ ds μ Qd Ed, ds.length = 2 → fs_fraction ds μ Qd Ed → wSs Φ ir_fraction (start0 N_fraction.length ds) μ (endD μ Qd Ed) := by
  rintro ds μ Q E _ ⟨a, b, rfl, hb, hz, q⟩
  unfold ir_fraction
  simp only [s_cons, s_asg, s_ret, s_nil, e_v, e_k, e_op, e_call, e_bi, e_ife, e_cmp, e_neg, e_tup, es_cons, es_nil, biW, start0, N_fraction, List.length, List.map, List.append, lk, st, onS_some, asI_int, asB_bl, cmpW, h1, fs_divisor, abs_if]
  refine ⟨a.natAbs, b.natAbs, rfl, by omega, by omega, ?_⟩
  have hg : (Int.gcd a b : Int) ≠ 0 := by
    have := Int.gcd_pos_of_ne_zero_right a hb; omega
  have hl : (Int.gcd a b) < 2 ^ 8999 := by
    have := Int.gcd_le_natAbs_right a hb; omega
  have e0 : Int.gcd (a.natAbs : Int) (b.natAbs : Int) = Int.gcd a b := rfl
  have hB : BigI ((Int.gcd a b : Nat) : Int) := .of (n := 8999) (by rw [Int.natAbs_natCast]; exact hl) (by decide)
  have t := frac_top (a := a) hb
  have u := frac_bottom (a := a) hb
  rw [e0]
  refine ⟨fun h => ?_, fun h => ?_⟩
  · rw [if_pos (by simpa using h)] at t u
    rw [Int.mul_one] at t u
    simp only [bopW, mulW, asI_int, lk, st, onS_some, Int.mul_one]
    exact ⟨hB, .of (n := 2) (by decide) (by decide), ⟨hg, (DivOk.of (n := 8999) hg (by rw [Int.natAbs_natCast]; exact hl) (by decide)).2⟩, ⟨hg, (DivOk.of (n := 8999) hg (by rw [Int.natAbs_natCast]; exact hl) (by decide)).2⟩, rt_same rfl (by rw [t, u]; exact q)⟩
  · rw [if_neg (by simpa using h)] at t u
    have hk : DivOk (((Int.gcd a b : Nat) : Int) * -1) := .of (n := 8999) (by omega) (by rw [Int.mul_neg, Int.mul_one, Int.natAbs_neg, Int.natAbs_natCast]; exact hl) (by decide)
    simp only [bopW, mulW, asI_int, lk, st, onS_some]
    exact ⟨hB, .of (n := 2) (by decide) (by decide), hk, hk, rt_same rfl (by rw [t, u]; exact q)⟩
/-- the four operations: a fraction's parts are below 2^n -/
def fs_arith (op : Rat → Rat → Rat) : FS := fun ds μ Q _ => ∃ (p q : Rat) (m n : Nat), ds = [fr p, fr q] ∧ RB m p ∧ RB n q ∧ m + n ≤ 8999 ∧ Q (fr (op p q)) μ
theorem den_pos' (q : Rat) : (0 : Int) < q.den := by have := q.den_pos; omega
theorem RB.num {n : Nat} {q : Rat} (h : RB n q) (hn : n ≤ 400000) : BigI q.num := .of h.1 hn
theorem RB.den {n : Nat} {q : Rat} (h : RB n q) (hn : n ≤ 400000) : BigI q.den := .of (by rw [Int.natAbs_natCast]; exact h.2) hn
theorem dens {m n : Nat} {p q : Rat} (hp : RB m p) (hq : RB n q) : ((p.den : Int) * q.den).natAbs < 2 ^ (m + n) := by
  rw [Int.natAbs_mul, Int.natAbs_natCast, Int.natAbs_natCast, Nat.pow_add]
  exact Nat.mul_lt_mul'' hp.2 hq.2
theorem at_nat {α : Type} {xs : List α} {n : Nat} : L2.atI xs (n : Int) = xs[n]? := by
  unfold L2.atI L2.ixN
  rw [if_pos (by omega)]
  by_cases h : n < xs.length
  · rw [if_pos (by omega)]; rfl
  · rw [if_neg (by omega), List.getElem?_eq_none (by omega)]; rfl
theorem at_last {α : Type} {xs : List α} : L2.atI xs (-1) = xs.getLast? := by
  unfold L2.atI L2.ixN
  rw [if_neg (by omega), List.getLast?_eq_getElem?]
  by_cases h : xs = []
  · subst h; rfl
  · have := List.length_pos_iff.mpr h
    rw [if_pos (by omega)]
    show xs[(-1 + (xs.length : Int)).toNat]? = _
    congr 1
    omega
theorem at0 {a : D} {r : List D} : L2.atI (a :: r) 0 = some a := at_nat (n := 0)
theorem at1 {a b : D} {r : List D} : L2.atI (a :: b :: r) 1 = some b := at_nat (n := 1)
theorem at2 {a b c : D} {r : List D} : L2.atI (a :: b :: c :: r) 2 = some c := at_nat (n := 2)
theorem at3 {a b c d : D} {r : List D} : L2.atI (a :: b :: c :: d :: r) 3 = some d := at_nat (n := 3)
theorem ad {p q : Rat} : p + q = Rat.divInt (p.num * q.den + q.num * p.den) ((p.den : Int) * q.den) := by
  conv => lhs; rw [← Rat.num_divInt_den p, ← Rat.num_divInt_den q]
  exact Rat.divInt_add_divInt _ _ (by have := den_pos' p; omega) (by have := den_pos' q; omega)
theorem mu {p q : Rat} : p * q = Rat.divInt (p.num * q.num) ((p.den : Int) * q.den) := by
  conv => lhs; rw [← Rat.num_divInt_den p, ← Rat.num_divInt_den q]
  exact Rat.divInt_mul_divInt _ _
theorem su {p q : Rat} : p - q = Rat.divInt (p.num * q.den - q.num * p.den) ((p.den : Int) * q.den) := by
  have h := ad (p := p) (q := -q)
  rw [Rat.neg_num, Rat.neg_den, Int.neg_mul, ← Int.sub_eq_add_neg, ← Rat.sub_eq_add_neg] at h
  exact h
theorem dv {p q : Rat} : p / q = Rat.divInt (p.num * q.den) ((p.den : Int) * q.num) := by
  have h1 := Rat.divInt_eq_div p.num p.den
  have h2 := Rat.divInt_eq_div q.num q.den
  rw [Rat.num_divInt_den] at h1 h2
  have p0 : ((p.den : Int) : Rat) ≠ 0 := by
    intro h; have := Rat.intCast_inj.mp (h.trans Rat.intCast_zero.symm); have := den_pos' p; omega
  have q0 : ((q.den : Int) : Rat) ≠ 0 := by
    intro h; have := Rat.intCast_inj.mp (h.trans Rat.intCast_zero.symm); have := den_pos' q; omega
  rw [Rat.divInt_eq_div, Rat.intCast_mul, Rat.intCast_mul]
  by_cases h : q = 0
  · subst h
    rw [show (Rat.num 0) = 0 from rfl, Rat.intCast_zero]
    grind
  · have qn : (q.num : Rat) ≠ 0 := by
      intro h'; have := Rat.intCast_inj.mp (h'.trans Rat.intCast_zero.symm); exact h (Rat.num_eq_zero.mp this)
    generalize (p.num : Rat) = a at *
    generalize (q.num : Rat) = b at *
    generalize ((p.den : Int) : Rat) = c at *
    generalize ((q.den : Int) : Rat) = d at *
    subst h1 h2
    grind
theorem den_ne {p q : Rat} : (p.den : Int) * q.den ≠ 0 := Int.mul_ne_zero (by have := den_pos' p; omega) (by have := den_pos' q; omega)
theorem p_plus (Φ : Str → FS) (h1 : Φ "fraction" = fs_fraction) : ∀ ds μ Qd Ed, ds.length = 2 → fs_arith (· + ·) ds μ Qd Ed → wSs Φ ir_plus (start0 N_plus.length ds) μ (endD μ Qd Ed) := by
  rintro ds μ Q E _ ⟨p, q, m, n, rfl, hp, hq, hmn, k⟩
  unfold ir_plus
  change wSs Φ _ [some (fr p), some (fr q)] μ _
  simp only [fr, s_cons, s_asg, s_ret, s_nil, e_v, e_k, e_op, e_ix, e_call, es_cons, es_nil, lk, st, onS_some, asI_int, asB_bl, ixW, at0, at1, bopW, mulW, addW, h1, fs_fraction]
  have k : Q (fr (p + q)) μ := k
  rw [ad] at k
  have b1 := hp.num (by omega)
  have b2 := hp.den (by omega)
  have b3 := hq.num (by omega)
  have b4 := hq.den (by omega)
  have b5 : ((p.den : Int) * q.den).natAbs < 2 ^ 8999 := Nat.lt_of_lt_of_le (dens hp hq) (Nat.pow_le_pow_right (by decide) hmn)
  simp only [b1, b2, b3, b4, true_and]
  exact ⟨_, _, rfl, den_ne, b5, rt_same rfl k⟩
theorem p_minus (Φ : Str → FS) (h1 : Φ "fraction" = fs_fraction) : ∀ ds μ Qd Ed, ds.length = 2 → fs_arith (· - ·) ds μ Qd Ed → wSs Φ ir_minus (start0 N_minus.length ds) μ (endD μ Qd Ed) := by
  rintro ds μ Q E _ ⟨p, q, m, n, rfl, hp, hq, hmn, k⟩
  unfold ir_minus
  change wSs Φ _ [some (fr p), some (fr q)] μ _
  simp only [fr, s_cons, s_asg, s_ret, s_nil, e_v, e_k, e_op, e_ix, e_call, es_cons, es_nil, lk, st, onS_some, asI_int, asB_bl, ixW, at0, at1, bopW, mulW, addW, h1, fs_fraction]
  have k : Q (fr (p - q)) μ := k
  rw [su] at k
  have b1 := hp.num (by omega)
  have b2 := hp.den (by omega)
  have b3 := hq.num (by omega)
  have b4 := hq.den (by omega)
  have b5 : ((p.den : Int) * q.den).natAbs < 2 ^ 8999 := Nat.lt_of_lt_of_le (dens hp hq) (Nat.pow_le_pow_right (by decide) hmn)
  simp only [b1, b2, b3, b4, true_and]
  exact ⟨_, _, rfl, den_ne, b5, rt_same rfl k⟩
theorem p_times (Φ : Str → FS) (h1 : Φ "fraction" = fs_fraction) : ∀ ds μ Qd Ed, ds.length = 2 → fs_arith (· * ·) ds μ Qd Ed → wSs Φ ir_times (start0 N_times.length ds) μ (endD μ Qd Ed) := by
  rintro ds μ Q E _ ⟨p, q, m, n, rfl, hp, hq, hmn, k⟩
  unfold ir_times
  change wSs Φ _ [some (fr p), some (fr q)] μ _
  simp only [fr, s_cons, s_asg, s_ret, s_nil, e_v, e_k, e_op, e_ix, e_call, es_cons, es_nil, lk, st, onS_some, asI_int, asB_bl, ixW, at0, at1, bopW, mulW, addW, h1, fs_fraction]
  have k : Q (fr (p * q)) μ := k
  rw [mu] at k
  have b1 := hp.num (by omega)
  have b2 := hp.den (by omega)
  have b3 := hq.num (by omega)
  have b4 := hq.den (by omega)
  have b5 : ((p.den : Int) * q.den).natAbs < 2 ^ 8999 := Nat.lt_of_lt_of_le (dens hp hq) (Nat.pow_le_pow_right (by decide) hmn)
  simp only [b1, b2, b3, b4, true_and]
  exact ⟨_, _, rfl, den_ne, b5, rt_same rfl k⟩
def fs_shared : FS := fun ds μ Q _ => ∃ (p q : Rat) (m n : Nat), ds = [fr p, fr q] ∧ q ≠ 0 ∧ RB m p ∧ RB n q ∧ m + n ≤ 8999 ∧ Q (fr (p / q)) μ
theorem p_shared (Φ : Str → FS) (h1 : Φ "fraction" = fs_fraction) : ∀ ds μ Qd Ed, ds.length = 2 → fs_shared ds μ Qd Ed → wSs Φ ir_shared (start0 N_shared.length ds) μ (endD μ Qd Ed) := by
  rintro ds μ Q E _ ⟨p, q, m, n, rfl, h0, hp, hq, hmn, k⟩
  unfold ir_shared
  change wSs Φ _ [some (fr p), some (fr q)] μ _
  simp only [fr, s_cons, s_asg, s_ret, s_nil, e_v, e_k, e_op, e_ix, e_call, es_cons, es_nil, lk, st, onS_some, asI_int, asB_bl, ixW, at0, at1, bopW, mulW, addW, h1, fs_fraction]
  rw [dv] at k
  have b1 := hp.num (by omega)
  have b2 := hp.den (by omega)
  have b3 := hq.num (by omega)
  have b4 := hq.den (by omega)
  have b5 : ((p.den : Int) * q.num).natAbs < 2 ^ 8999 := by
    refine Nat.lt_of_lt_of_le (?_ : _ < 2 ^ (m + n)) (Nat.pow_le_pow_right (by decide) hmn)
    rw [Int.natAbs_mul, Int.natAbs_natCast, Nat.pow_add]
    exact Nat.mul_lt_mul'' hp.2 hq.1
  have b6 : (p.den : Int) * q.num ≠ 0 := Int.mul_ne_zero (by have := den_pos' p; omega) (fun h => h0 (Rat.num_eq_zero.mp h))
  simp only [b1, b2, b3, b4, true_and]
  exact ⟨_, _, rfl, b6, b5, rt_same rfl k⟩
def fs_less : FS := fun ds μ Q _ => ∃ (p q : Rat) (m : Nat), ds = [fr p, fr q] ∧ RB m p ∧ RB m q ∧ m ≤ 300000 ∧ Q (.bl (decide (p < q))) μ
theorem p_is_less (Φ : Str → FS) : ∀ ds μ Qd Ed, ds.length = 2 → fs_less ds μ Qd Ed → wSs Φ ir_is_less (start0 N_is_less.length ds) μ (endD μ Qd Ed) := by
  rintro ds μ Q E _ ⟨p, q, m, rfl, hp, hq, hm, k⟩
  unfold ir_is_less
  change wSs Φ _ [some (fr p), some (fr q)] μ _
  simp only [fr, s_cons, s_asg, s_ret, s_nil, e_v, e_k, e_op, e_ix, e_cmp, cmpW, ltW, es_cons, es_nil, lk, st, onS_some, asI_int, asB_bl, ixW, at0, at1, bopW, mulW, addW]
  have e : decide (p.num * q.den < q.num * p.den) = decide (p < q) := by rw [decide_eq_decide]; exact (Rat.lt_iff p q).symm
  rw [e]
  exact ⟨hp.num (by omega), hq.den (by omega), hq.num (by omega), hp.den (by omega), rt_same rfl k⟩
end FW

set_option Elab.async false
set_option linter.all false
set_option maxRecDepth 100000
/-! DP1: what are works, for data of the right kinds. -/
namespace FW
open PySem
/-- a tuple or a list -/
def IsSeq (d : D) (xs : List D) : Prop := d = .tup xs ∨ d = .ptp xs ∨ d = .lst xs
theorem IsSeq.seq {d : D} {xs : List D} {μ : Mu} (h : IsSeq d xs) : seqOf μ d = some xs := by rcases h with rfl | rfl | rfl <;> rfl
theorem IsSeq.len {d : D} {xs : List D} {μ : Mu} (h : IsSeq d xs) : lenD μ d = some xs.length := by rcases h with rfl | rfl | rfl <;> rfl
theorem IsSeq.ix {d : D} {xs : List D} {i : Int} {μ : Mu} {Q : QD} (h : IsSeq d xs) : ixW d (.int i) μ Q = onS (L2.atI xs i) fun d => Q d μ := by rcases h with rfl | rfl | rfl <;> rfl
theorem IsSeq.src {d : D} {xs : List D} {μ : Mu} (h : IsSeq d xs) : srcOf d xs = fun _ => True := by rcases h with rfl | rfl | rfl <;> rfl
theorem IsSeq.t {xs : List D} : IsSeq (.tup xs) xs := .inl rfl
theorem IsSeq.p {xs : List D} : IsSeq (.ptp xs) xs := .inr (.inl rfl)
theorem IsSeq.l {xs : List D} : IsSeq (.lst xs) xs := .inr (.inr rfl)
def fs_is_whole : FS := fun ds μ Q _ => ∃ a l h : Int, ds = [.int a, .int l, .int h] ∧ Q (.bl (decide (l ≤ a) && decide (a ≤ h))) μ
theorem p_is_whole (Φ : Str → FS) : ∀ ds μ Qd Ed, ds.length = 3 → fs_is_whole ds μ Qd Ed → wSs Φ ir_is_whole (start0 N_is_whole.length ds) μ (endD μ Qd Ed) := by
  rintro ds μ Q E _ ⟨a, l, h, rfl, q⟩
  unfold ir_is_whole
  change wSs Φ _ [some (.int a), some (.int l), some (.int h)] μ _
  simp only [s_cons, s_ret, e_v, e_bop, b_and, b_one, e_bi, e_not, e_chn, es_cons, es_nil, biW, isiB, lk, onS_some, asB_bl, cmpW, asI_int]
  rw [show ("int" == "int") = true from rfl, show ("bool" == "int") = false from rfl]
  simp only [onB_true, Bool.not_false]
  refine ⟨fun h1 => ?_, fun h1 => ?_⟩
  · rw [h1, Bool.true_and] at q; exact rt_same rfl q
  · rw [h1, Bool.false_and] at q; exact rt_same rfl q
/-- a name: letters only -/
def isLetter (c : Nat) : Bool := decide (c ∈ (Str.ofString "abcdefghijklmnopqrstuvwxyz").cps.toList)
def isNameB (s : Str) : Bool := decide (1 ≤ s.length) && decide (s.length ≤ 8) && s.cps.toList.all isLetter
theorem allB_bl {α : Type} (f : α → Bool) : ∀ xs : List α, allB (xs.map fun x => D.bl (f x)) = some (xs.map f)
  | [] => rfl
  | x :: xs => by rw [List.map_cons, allB, allB_bl f xs]; rfl
theorem all_map {α : Type} (f : α → Bool) (xs : List α) : (xs.map f).all id = xs.all f := by rw [List.all_map]; rfl
def fs_is_name : FS := fun ds μ Q _ => ∃ s : Str, ds = [.str s] ∧ s.length ≤ 100000 ∧ Q (.bl (isNameB s)) μ
theorem p_is_name (Φ : Str → FS) : ∀ ds μ Qd Ed, ds.length = 1 → fs_is_name ds μ Qd Ed → wSs Φ ir_is_name (start0 N_is_name.length ds) μ (endD μ Qd Ed) := by
  rintro ds μ Q E _ ⟨s, rfl, hl, q⟩
  unfold ir_is_name
  change wSs Φ _ [some (.str s), none] μ _
  simp only [s_cons, s_ret, e_v, e_k, e_bop, b_and, b_one, e_bi, e_not, e_chn, es_cons, es_nil, biW, isiB, lk, onS_some, asB_bl, cmpW, asI_int, lenD, if_pos hl, e_lc, i_str, strW, newL_f, lstOf]
  rw [show ("str" == "str") = true from rfl]
  simp only [onB_true]
  unfold isNameB at q
  refine ⟨fun h1 => ⟨fun h2 => ?_, fun h2 => ?_⟩, fun h1 => ⟨fun h => (by cases h), fun _ => ?_⟩⟩
  · have h1 : 1 ≤ s.length := by have := of_decide_eq_true h1; omega
    have h2' : s.length ≤ 8 := by have := of_decide_eq_true h2; omega
    rw [decide_eq_true h1, decide_eq_true h2', Bool.true_and, Bool.true_and] at q
    refine LC_map Φ (fun d => .bl (match d with | .str c => isLetter (c.cps.toList.headD 0) | _ => false)) trivial _ ?_ ?_ ?_
    · intro d hd R r
      obtain ⟨c, hc, rfl⟩ := List.mem_map.mp hd
      simp only [tgW, wp0, wp0.wipe1, st, e_cmp, e_v, e_g, lk, onS_some, cmpW, memW]
      exact ⟨rfl, r⟩
    · show _ ≤ 100000
      rw [List.length_map]
      have : s.cps.toList.length = s.length := by rw [Array.length_toList]; rfl
      omega
    · simp only [List.map_map]
      rw [show ((fun d => D.bl (match d with | .str c => isLetter (c.cps.toList.headD 0) | _ => false)) ∘ fun c => D.str ⟨#[c]⟩) = fun c => D.bl (isLetter c) from rfl, allB_bl]
      simp only [onS_some, all_map]
      exact rt_same rfl q
  · have h2' : ¬ s.length ≤ 8 := by have := of_decide_eq_false h2; omega
    rw [decide_eq_false h2', Bool.and_false, Bool.false_and] at q
    exact rt_same rfl q
  · have h1 : ¬ 1 ≤ s.length := by have := of_decide_eq_false h1; omega
    rw [decide_eq_false h1, Bool.false_and, Bool.false_and] at q
    exact rt_same rfl q
theorem intsD_map : ∀ (n : Nat) (lo : Int), intsD lo n = (List.range n).map fun k => .int (lo + k)
  | 0, _ => rfl
  | n + 1, lo => by
    rw [intsD, intsD_map n, List.range_succ_eq_map, List.map_cons, List.map_map]
    congr 1
    · simp
    · apply List.map_congr_left
      intro k _
      show D.int (lo + 1 + k) = D.int (lo + ((k + 1 : Nat) : Int))
      congr 1
      omega
/-- are they rising, by a test on neighbours -/
def risesB {α : Type} (lt : α → α → Bool) : List α → Bool
  | a :: b :: r => lt a b && risesB lt (b :: r)
  | _ => true
def nxB {α : Type} (lt : α → α → Bool) (xs : List α) (k : Nat) : Bool := match xs[k]?, xs[k + 1]? with
  | some a, some b => lt a b
  | _, _ => true
theorem rises_range {α : Type} (lt : α → α → Bool) : ∀ xs : List α, ((List.range (xs.length - 1)).all (nxB lt xs)) = risesB lt xs
  | [] => rfl
  | [a] => rfl
  | a :: b :: r => by
    have h := rises_range lt (b :: r)
    show (List.range (r.length + 1)).all _ = _
    rw [List.range_succ_eq_map, List.all_cons, List.all_map, risesB, ← h]
    rfl
def dLt (a b : D) : Bool := PySem.W.dataLt a.py b.py
def ltOk (a b : D) : Prop := ∀ R : Bool → Prop, R (dLt a b) → ltW a b R
def fs_are_rising : FS := fun ds μ Q _ => ∃ d xs, ds = [d] ∧ IsSeq d xs ∧ xs.length ≤ 1000 ∧ (∀ a ∈ xs, ∀ b ∈ xs, ltOk a b) ∧ Q (.bl (risesB dLt xs)) μ
theorem p_are_rising (Φ : Str → FS) : ∀ ds μ Qd Ed, ds.length = 1 → fs_are_rising ds μ Qd Ed → wSs Φ ir_are_rising (start0 N_are_rising.length ds) μ (endD μ Qd Ed) := by
  rintro ds μ Q E _ ⟨d, xs, rfl, hd, hl, hlt, q⟩
  unfold ir_are_rising
  change wSs Φ _ [some d, none] μ _
  simp only [s_cons, s_ret, e_v, e_k, e_op, e_bi, es_cons, es_nil, biW, lk, onS_some, asI_int, e_lc, i_rng, hd.len, bopW, rngW, newL_f]
  rw [intsD_map]
  refine ⟨by omega, ?_⟩
  have hn : ((xs.length : Int) - 1).toNat = xs.length - 1 := by omega
  rw [hn]
  refine LC_map Φ (fun d => .bl (match d with | .int k => nxB dLt xs k.toNat | _ => false)) trivial _ ?_ ?_ ?_
  · intro e he R r
    obtain ⟨k, hk, rfl⟩ := List.mem_map.mp he
    have hk := List.mem_range.mp hk
    have g1 : xs[k]? = some xs[k] := List.getElem?_eq_getElem (by omega)
    have g2 : xs[k + 1]? = some xs[k + 1] := List.getElem?_eq_getElem (by omega)
    have e1 : ((0 : Int) + (k : Int)).toNat = k := by omega
    simp only [e1, nxB, g1, g2] at r
    simp only [tgW, wp0, wp0.wipe1, st, e_cmp, e_v, e_k, e_op, e_ix, lk, onS_some, cmpW, bopW, addW, hd.ix]
    rw [show ((0 : Int) + (k : Int)) = ((k : Nat) : Int) by omega, show ((k : Int) + 1) = ((k + 1 : Nat) : Int) by omega, at_nat, at_nat, g1, g2]
    exact hlt _ (List.getElem_mem _) _ (List.getElem_mem _) (fun b => R (.bl b) μ) r
  · show _ ≤ 100000
    rw [List.length_map, List.length_range]; omega
  · simp only [List.map_map, lstOf, onS_some]
    rw [← rises_range] at q
    have e : ((fun d => D.bl (match d with | .int k => nxB dLt xs k.toNat | _ => false)) ∘ fun k : Nat => D.int (0 + (k : Int))) = fun k => D.bl (nxB dLt xs k) := by
      funext k
      show D.bl (nxB dLt xs ((0 : Int) + (k : Int)).toNat) = _
      rw [show ((0 : Int) + (k : Int)).toNat = k by omega]
    rw [e, allB_bl]
    simp only [onS_some, all_map]
    exact rt_same rfl q
theorem str_ne {a b : Str} : (PyData.eqv (.str a) (.str b) = true) = (a = b) := by
  have h := eqD_str a b
  unfold eqD D.py at h
  rw [h]; exact decide_eq_true_eq
theorem int_ne {a b : Int} : (PyData.eqv (.int a) (.int b) = true) = (a = b) := by
  have h := eqD_int a b
  unfold eqD D.py at h
  rw [h]; exact decide_eq_true_eq
/-- two pairs of texts, or a text and a number -/
def pr2 (a b : Str) : D := .tup [.str a, .str b]
def plc (p : Str × Int) : D := .tup [.str p.1, .int p.2]
theorem dLt_pr2 (a b a' b' : Str) : dLt (pr2 a b) (pr2 a' b') = if a = a' then ltS b b' else ltS a a' := by
  show PySem.W.dataLt (.tuple [.str a, .str b]) (.tuple [.str a', .str b']) = _
  rw [PySem.W.dataLt_pair (by simp [PySem.W.alike]) (by simp [PySem.W.alike])]
  simp only [str_ne, PySem.W.dataLt_str]
  split
  · split
    · rename_i h; subst h; unfold ltS; exact (decide_eq_false (List.lt_irrefl _)).symm
    · rfl
  · rfl
theorem dLt_plc (p q : Str × Int) : dLt (plc p) (plc q) = if p.1 = q.1 then decide (p.2 < q.2) else ltS p.1 q.1 := by
  show PySem.W.dataLt (.tuple [.str p.1, .int p.2]) (.tuple [.str q.1, .int q.2]) = _
  rw [PySem.W.dataLt_pair (by simp [PySem.W.alike]) (by simp [PySem.W.alike])]
  simp only [str_ne, int_ne, PySem.W.dataLt_str, PySem.W.dataLt_int]
  split
  · split
    · rename_i h; rw [h]; exact (decide_eq_false (by omega)).symm
    · rfl
  · rfl
theorem ltOk_pr2 (a b a' b' : Str) : ltOk (pr2 a b) (pr2 a' b') := fun R r =>
  ⟨⟨rfl, rfl, by simp [pr2, plc, shal, D.py, pyA, PyData.depth, PyData.depthAll], by simp [pr2, plc, D.py, pyA, PySem.W.alike, PySem.W.alikeAll]⟩, r⟩
theorem ltOk_plc (p q : Str × Int) : ltOk (plc p) (plc q) := fun R r =>
  ⟨⟨rfl, rfl, by simp [pr2, plc, shal, D.py, pyA, PyData.depth, PyData.depthAll], by simp [pr2, plc, D.py, pyA, PySem.W.alike, PySem.W.alikeAll]⟩, r⟩
end FW

set_option Elab.async false
set_option linter.all false
set_option maxRecDepth 100000
/-! DP2: places, pipes, works. -/
namespace FW
open PySem
def IsTup (d : D) (xs : List D) : Prop := d = .tup xs ∨ d = .ptp xs
theorem IsTup.seq {d : D} {xs : List D} (h : IsTup d xs) : IsSeq d xs := by rcases h with rfl | rfl; exact .t; exact .p
theorem IsTup.isi {d : D} {xs : List D} {T : String} {μ : Mu} (h : IsTup d xs) : isiB T μ d = some (T == "tuple") := by rcases h with rfl | rfl <;> rfl
def wholeB (l h a : Int) : Bool := decide (l ≤ a) && decide (a ≤ h)
def placesB (ps : List (Str × Int)) (most low : Int) : Bool := decide ((ps.length : Int) ≤ most) && (ps.all (fun p => isNameB p.1) && (ps.all (fun p => wholeB low 1000 p.2) && risesB dLt (ps.map plc)))
theorem LC_maps {Φ : Str → FS} {env : En} {μ : Mu} {α : Type} {e : IE} {tg : Tg} {src : Mu → Prop} {Q : List D → Mu → Prop} (enc : α → D) (f : α → D) (hs : src μ) (xs : List α)
    (h : ∀ a ∈ xs, ∀ R2 : QD, R2 (f a) μ → tgW tg (enc a) μ env fun env' => wE Φ e env' μ R2 NoX) (hz : Sz xs.length) (q : Q (xs.map f) μ) : LC Φ e tg .nil src env (xs.map enc) [] μ Q := by
  suffices go : ∀ (xs : List α) (acc : List D), (∀ a ∈ xs, ∀ R2 : QD, R2 (f a) μ → tgW tg (enc a) μ env fun env' => wE Φ e env' μ R2 NoX) → Sz (acc.length + xs.length) → Q (acc ++ xs.map f) μ → LC Φ e tg .nil src env (xs.map enc) acc μ Q from
    go xs [] h (by simpa using hz) (by simpa using q)
  intro xs
  induction xs with
  | nil => intro acc _ _ q; rw [List.map_nil, LC_nil]; simpa using q
  | cons a r ih =>
    intro acc h hz q
    have hz : acc.length + (r.length + 1) ≤ 100000 := hz
    rw [List.map_cons, LC_cons]
    have h1 := h a List.mem_cons_self (fun y μ2 => (src μ2 ∧ Sz (acc.length + 1)) ∧ LC Φ e tg .nil src env (r.map enc) (acc ++ [y]) μ2 Q) ⟨⟨hs, by show _ ≤ 100000; omega⟩, ih _ (fun a' ha => h a' (List.mem_cons_of_mem _ ha)) (by show _ ≤ 100000; rw [List.length_append]; show acc.length + 1 + _ ≤ _; omega) (by simpa using q)⟩
    revert h1
    unfold tgW
    cases tg with
    | n i => simp only [c_nil, onB_true]; exact id
    | t is => simp only [c_nil, onB_true]; exact id
def fs_are_places : FS := fun ds μ Q _ => ∃ d ps most low, ds = [d, .int most, .int low] ∧ IsTup d (ps.map plc) ∧ ps.length ≤ 1000 ∧ (∀ p ∈ ps, p.1.length ≤ 100000) ∧ Q (.bl (placesB ps most low)) μ
theorem p_are_places (Φ : Str → FS) (h1 : Φ "is_name" = fs_is_name) (h2 : Φ "is_whole" = fs_is_whole) (h3 : Φ "are_rising" = fs_are_rising) : ∀ ds μ Qd Ed, ds.length = 3 → fs_are_places ds μ Qd Ed → wSs Φ ir_are_places (start0 N_are_places.length ds) μ (endD μ Qd Ed) := by
  rintro ds μ Q E _ ⟨d, ps, most, low, rfl, hd, hl, hn, q⟩
  unfold ir_are_places
  change wSs Φ _ [some d, some (.int most), some (.int low), none] μ _
  simp only [s_cons, s_nil, s_iff, s_ret, e_v, e_g, e_k, e_op, e_bop, b_or, b_and, b_one, e_not, e_cmp, cmpW, e_call, e_bi, es_cons, es_nil, biW, lk, onS_some, asI_int, asB_bl, e_lc, i_seq, hd.isi, hd.seq.len, hd.seq.seq, List.length_map, newL_f, h1, h2, h3]
  rw [show ("tuple" == "tuple") = true from rfl]
  simp only [Bool.not_true, onB_false]
  unfold placesB at q
  refine ⟨fun g => ?_, fun g => ?_⟩
  · rw [decide_eq_false (by have := of_decide_eq_true g; omega), Bool.false_and] at q
    exact rt_same rfl q
  rw [decide_eq_true (by have := of_decide_eq_false g; omega), Bool.true_and] at q
  have hsz : Sz ps.length := by show _ ≤ _; omega
  have hsrc : srcOf d (ps.map plc) μ := by rw [hd.seq.src (μ := μ)]; trivial
  refine LC_maps plc (fun p => .bl (isNameB p.1)) hsrc _ ?_ hsz ?_
  · intro p hp R r
    simp only [tgW, wp0, wp0.wipe1, st, e_bop, b_and, b_one, e_bi, e_cmp, e_v, e_k, e_op, e_ix, e_call, es_cons, es_nil, biW, lk, onS_some, cmpW, plc, isiB, asB_bl, lenD, eqW, resOf, D.pl, ixW, asI_int, at0, h1, fs_is_name, eqD_int]
    rw [show ("tuple" == "tuple") = true from rfl]
    simp only [onB_true]
    exact ⟨⟨trivial, trivial, .inr (by simp [shal, D.py, PyData.depth])⟩, ⟨fun _ => ⟨_, rfl, hn p hp, r⟩, fun z => by simp at z⟩⟩
  simp only [lstOf, onS_some, allB_bl, all_map]
  refine ⟨fun g => ?_, fun g => ?_⟩
  · have g : ps.all (fun p => isNameB p.1) = false := by simpa using g
    rw [g, Bool.false_and] at q
    exact rt_same rfl q
  have g : ps.all (fun p => isNameB p.1) = true := by simpa using g
  rw [g, Bool.true_and] at q
  refine LC_maps plc (fun p => .bl (wholeB low 1000 p.2)) hsrc _ ?_ hsz ?_
  · intro p hp R r
    simp only [tgW, wp0, wp0.wipe1, st, e_v, e_k, e_g, e_op, e_ix, e_call, es_cons, es_nil, lk, onS_some, plc, ixW, asI_int, at1, h2, fs_is_whole]
    exact ⟨_, _, _, rfl, r⟩
  simp only [lstOf, onS_some, allB_bl, all_map]
  refine ⟨fun g2 => ?_, fun g2 => ?_⟩
  · rw [g2, Bool.true_and] at q
    refine ⟨d, _, rfl, hd.seq, by rw [List.length_map]; omega, ?_, rt_same rfl q⟩
    intro a ha b hb
    obtain ⟨p, _, rfl⟩ := List.mem_map.mp ha
    obtain ⟨p', _, rfl⟩ := List.mem_map.mp hb
    exact ltOk_plc p p'
  · rw [g2, Bool.false_and] at q
    exact rt_same rfl q
structure Pi where
  a : Str
  b : Str
  w : Int
  f : Str
deriving DecidableEq
def pid (p : Pi) : D := .tup [.str p.a, .str p.b, .int p.w, .str p.f]
theorem cut2 {a b c d : D} : cutD [a, b, c, d] none (some 2) = [a, b] := rfl
theorem cut3 {a b c d : D} : cutD [a, b, c, d] none (some 3) = [a, b, c] := rfl
theorem memD_str (s : Str) : ∀ xs : List Str, memD (.str s) (xs.map .str) = decide (s ∈ xs)
  | [] => rfl
  | x :: xs => by
    have h := memD_str s xs
    unfold memD at h ⊢
    rw [List.map_cons, List.any_cons, h, eqD_str]
    by_cases e : x = s
    · simp [e]
    · have e' : ¬ s = x := fun h => e h.symm
      simp [e, e']
theorem plA_map {α : Type} (enc : α → D) (h : ∀ a, (enc a).pl = true) : ∀ xs : List α, plA (xs.map enc) = true
  | [] => rfl
  | x :: xs => by rw [List.map_cons, plA, h x, plA_map enc h xs]; rfl
def pipeB (names : List Str) (p : Pi) : Bool := (decide (p.a ∈ names) && (decide (p.b ∈ names) && ltS p.a p.b)) && (wholeB 1 100 p.w && decide (p.f = "" ∨ p.f = ">" ∨ p.f = "<"))
theorem ge_ltS (a b : Str) : decide (b.cps.toList ≤ a.cps.toList) = !ltS a b := by
  unfold ltS
  by_cases h : a.cps.toList < b.cps.toList
  · rw [decide_eq_true h]; exact decide_eq_false (List.not_le.mpr h)
  · rw [decide_eq_false h]; exact decide_eq_true (List.not_lt.mp h)
theorem shal_str (s : Str) : shal (.str s) := by simp [shal, D.py, PyData.depth]
theorem shal_int (s : Int) : shal (.int s) := by simp [shal, D.py, PyData.depth]
def fs_is_pipe : FS := fun ds μ Q _ => ∃ (names : List Str) (p : Pi), ds = [.lst (names.map .str), pid p] ∧ Q (.bl (pipeB names p)) μ
theorem p_is_pipe (Φ : Str → FS) (h2 : Φ "is_whole" = fs_is_whole) : ∀ ds μ Qd Ed, ds.length = 2 → fs_is_pipe ds μ Qd Ed → wSs Φ ir_is_pipe (start0 N_is_pipe.length ds) μ (endD μ Qd Ed) := by
  rintro ds μ Q E _ ⟨names, p, rfl, q⟩
  unfold ir_is_pipe
  change wSs Φ _ [some (.lst (names.map .str)), some (pid p), none] μ _
  simp only [pid, s_cons, s_nil, s_iff, s_ret, e_v, e_g, e_k, e_op, e_ix, e_bop, b_or, b_and, b_one, e_not, e_cmp, cmpW, e_call, e_bi, es_cons, es_nil, biW, lk, onS_some, asI_int, asB_bl, e_lc, i_seq, e_sl, o_nil, o_cons, slW, cut2, isiB, lenD, seqOf, newL_f, eqW, resOf, h2, ixW, at0, at1, at2, at3, memW, geW, List.length_cons, List.length_nil, eqD_int, wp0, wp0.wipe1]
  rw [show ("tuple" == "tuple") = true from rfl, show ("str" == "str") = true from rfl]
  simp only [Bool.not_true, onB_false, onB_true]
  refine ⟨⟨rfl, rfl, .inr (shal_int 4)⟩, ?_⟩
  rw [show (!decide (((0 + 1 + 1 + 1 + 1 : Nat) : Int) = 4)) = false from rfl, onB_false]
  refine LC_map Φ (fun _ => .bl true) trivial _ ?_ (by show 2 ≤ 100000; omega) ?_
  · intro d hd R r
    simp only [tgW, st, e_bi, es_cons, es_nil, biW, e_v, lk, onS_some]
    have : isiB "str" μ d = some true := by
      simp only [List.mem_cons, List.not_mem_nil, or_false] at hd
      rcases hd with rfl | rfl <;> rfl
    rw [this]
    exact r
  simp only [List.map_cons, List.map_nil, lstOf, onS_some, allB, Option.map, List.all_cons, List.all_nil, id, Bool.and_self, Bool.not_true, onB_false]
  unfold pipeB at q
  have hp : plA (names.map .str) = true := plA_map _ (fun _ => rfl) _
  simp only [hp, memD_str, ge_ltS]
  refine ⟨⟨rfl, trivial, shal_str _⟩, fun g => ?_, fun g => ?_⟩
  · rw [Bool.not_eq_true'] at g
    rw [g, Bool.false_and, Bool.false_and] at q
    exact rt_same rfl q
  rw [Bool.not_eq_false'] at g
  rw [g, Bool.true_and] at q
  refine ⟨⟨rfl, trivial, shal_str _⟩, fun g => ?_, fun g => ?_⟩
  · rw [Bool.not_eq_true'] at g
    rw [g, Bool.false_and, Bool.false_and] at q
    exact rt_same rfl q
  rw [Bool.not_eq_false'] at g
  rw [g, Bool.true_and] at q
  refine ⟨fun g => ?_, fun g => ?_⟩
  · rw [Bool.not_eq_true'] at g
    rw [g, Bool.false_and] at q
    exact rt_same rfl q
  rw [Bool.not_eq_false'] at g
  rw [g, Bool.true_and] at q
  refine ⟨p.w, 1, 100, rfl, fun g => ?_, fun g => ?_⟩
  · rw [show wholeB 1 100 p.w = true from g, Bool.true_and] at q
    have hm : memD (.str p.f) [.str "", .str ">", .str "<"] = decide (p.f = "" ∨ p.f = ">" ∨ p.f = "<") := by
      rw [show [D.str "", .str ">", .str "<"] = (["", ">", "<"] : List Str).map .str from rfl, memD_str]
      congr 1
      simp
    simp only [e_tup, es_cons, es_nil, e_k, hm]
    exact ⟨⟨rfl, rfl, shal_str _⟩, rt_same rfl q⟩
  · rw [show wholeB 1 100 p.w = false from g, Bool.false_and] at q
    exact rt_same rfl q
end FW

set_option Elab.async false
set_option linter.all false
set_option maxRecDepth 100000
/-! DP3: what hangs on the tanks; works. -/
namespace FW
open PySem
theorem isi_tup {T : String} {μ : Mu} {xs : List D} : isiB T μ (.tup xs) = some (T == "tuple") := rfl
theorem isi_str {T : String} {μ : Mu} {x : Str} : isiB T μ (.str x) = some (T == "str") := rfl
theorem isi_int {T : String} {μ : Mu} {x : Int} : isiB T μ (.int x) = some (T == "int") := rfl
theorem len_tup {μ : Mu} {xs : List D} : lenD μ (.tup xs) = some xs.length := rfl
theorem len_lst {μ : Mu} {xs : List D} : lenD μ (.lst xs) = some xs.length := rfl
theorem res_tup {μ : Mu} {xs : List D} : resOf μ (.tup xs) = .tup xs := rfl
theorem res_lst {μ : Mu} {xs : List D} : resOf μ (.lst xs) = .lst xs := rfl
theorem res_int {μ : Mu} {x : Int} : resOf μ (.int x) = .int x := rfl
theorem res_str {μ : Mu} {x : Str} : resOf μ (.str x) = .str x := rfl
theorem res_bl {μ : Mu} {x : Bool} : resOf μ (.bl x) = .bl x := rfl
theorem lst_lst {μ : Mu} {xs : List D} : lstOf μ (.lst xs) = some xs := rfl
theorem seq_lst {μ : Mu} {xs : List D} : seqOf μ (.lst xs) = some xs := rfl
theorem seq_tup {μ : Mu} {xs : List D} : seqOf μ (.tup xs) = some xs := rfl
theorem ix_tup {μ : Mu} {xs : List D} {i : Int} {Q : QD} : ixW (.tup xs) (.int i) μ Q = onS (L2.atI xs i) fun d => Q d μ := rfl
theorem ix_lst {μ : Mu} {xs : List D} {i : Int} {Q : QD} : ixW (.lst xs) (.int i) μ Q = onS (L2.atI xs i) fun d => Q d μ := rfl
structure Wk where
  T : List (Str × Int)
  J : List (Str × Int)
  P : List Pi
/-- works as data: the junctions' tuple may be known to be plain -/
def IsW (W : Wk) (d : D) : Prop := ∃ t j p, d = .tup [t, j, p] ∧ t = .tup (W.T.map plc) ∧ IsTup j (W.J.map plc) ∧ IsTup p (W.P.map pid)
def Wk.names (W : Wk) : List Str := (W.T ++ W.J).map (·.1)
def hangStep (found : List Str) (p : Pi) : List Str := if p.f = "" ∧ (decide (p.a ∈ found)) ≠ (decide (p.b ∈ found)) then found ++ [if p.a ∈ found then p.b else p.a] else found
def Wk.found (W : Wk) : List Str := W.J.foldl (fun f _ => W.P.foldl hangStep f) (W.T.map (·.1))
def Wk.hangsB (W : Wk) : Bool := W.J.all fun j => decide (j.1 ∈ W.found)
theorem cg0 {μ : Mu} {c : Option MO} {r : Mu} : (μ ++ c :: r)[μ.length]? = some c := by rw [List.getElem?_append_right (Nat.le_refl _), Nat.sub_self]; rfl
theorem cs0 {μ : Mu} {c d : Option MO} {r : Mu} : (μ ++ c :: r).set μ.length d = μ ++ d :: r := by rw [List.set_append_right _ _ (Nat.le_refl _), Nat.sub_self]; rfl
theorem eqD_bl (a b : Bool) : eqD (.bl a) (.bl b) = (a == b) := by unfold eqD D.py PyData.eqv; rfl
theorem shal_bl (b : Bool) : shal (.bl b) := by simp [shal, D.py, PyData.depth]
theorem hangs_inner (Φ : Str → FS) (μ : Mu) (w x2 : Option D) : ∀ (ps : List Pi) (found : List Str) (x3 x4 x5 x6 : Option D) (src : Mu → Prop) (Dn : EnD), (∀ m, src m) → found.length + ps.length ≤ 100000 →
    (∀ x3 x4 x5 x6, Dn.nx [w, some (.cel μ.length), x2, x3, x4, x5, x6] (μ ++ [some (.lst ((ps.foldl hangStep found).map .str))])) →
    FL Φ (.t [3, 4, 5, 6]) (.cons (.iff (.bop .And (.cons (.cmp .Eq (.v 6) (.k (.str ""))) (.cons (.cmp .NotEq (.cmp .In (.v 3) (.v 1)) (.cmp .In (.v 4) (.v 1))) .nil))) (.cons (.ex (.me .append (.v 1) (.cons (.ife (.cmp .In (.v 3) (.v 1)) (.v 4) (.v 3)) .nil))) .nil) .nil) .nil)
      src (ps.map pid) [w, some (.cel μ.length), x2, x3, x4, x5, x6] (μ ++ [some (.lst (found.map .str))]) Dn := by
  intro ps
  induction ps with
  | nil => intro found x3 x4 x5 x6 src Dn hs hl h; exact h _ _ _ _
  | cons p r ih =>
    intro found x3 x4 x5 x6 src Dn hs hl h
    have hl : found.length + (r.length + 1) ≤ 100000 := hl
    have hp : plA (found.map .str) = true := plA_map _ (fun _ => rfl) _
    rw [List.map_cons, FL_cons]
    have step := ih (hangStep found p) (some (.str p.a)) (some (.str p.b)) (some (.int p.w)) (some (.str p.f)) src Dn hs (by
      unfold hangStep; split
      · rw [List.length_append]; show _ + 1 + _ ≤ _; omega
      · omega) h
    simp only [tgW, pid, stAll, st, onS_some, s_cons, s_nil, s_iff, s_ex, e_bop, b_and, b_one, e_cmp, cmpW, e_v, e_k, lk, eqW, resOf, asB_bl, memW, cg0, memD_str, hp, eqD_bl, eqD_str, onB_false, onB_true]
    refine ⟨⟨rfl, rfl, .inl (shal_str _)⟩, fun g => ?_, fun g => ?_⟩
    · refine ⟨⟨rfl, trivial, shal_str _⟩, ⟨rfl, trivial, shal_str _⟩, ⟨rfl, rfl, .inl (shal_bl _)⟩, fun g2 => ?_, fun g2 => ?_⟩
      · simp only [e_me, e_v, lk, onS_some, meTy, lstOf, cg0, es_cons, es_nil, e_ife, e_cmp, cmpW, memW, hp, memD_str, asB_bl, true_and]
        have e : hangStep found p = found ++ [if p.a ∈ found then p.b else p.a] := if_pos ⟨of_decide_eq_true g, by simpa using g2⟩
        rw [e] at step
        refine ⟨⟨rfl, shal_str _⟩, fun g3 => ?_, fun g3 => ?_⟩
        · simp only [meW, cellL, cg0, cs0]
          rw [if_pos (of_decide_eq_true g3), List.map_append] at step
          exact ⟨by show _ ≤ _; rw [List.length_map]; omega, hs _, step⟩
        · simp only [meW, cellL, cg0, cs0]
          rw [if_neg (of_decide_eq_false g3), List.map_append] at step
          exact ⟨by show _ ≤ _; rw [List.length_map]; omega, hs _, step⟩
      · have e : hangStep found p = found := if_neg fun ⟨_, h2⟩ => h2 (by simpa using g2)
        rw [e] at step
        exact ⟨hs _, step⟩
    · have e : hangStep found p = found := if_neg fun ⟨h1, _⟩ => of_decide_eq_false g h1
      rw [e] at step
      exact ⟨hs _, step⟩
theorem hang_len (ps : List Pi) : ∀ found, (ps.foldl hangStep found).length ≤ found.length + ps.length := by
  induction ps with
  | nil => intro f; exact Nat.le_refl _
  | cons p r ih =>
    intro f
    have h := ih (hangStep f p)
    have : (hangStep f p).length ≤ f.length + 1 := by
      unfold hangStep; split
      · rw [List.length_append]; exact Nat.le_refl _
      · omega
    show (r.foldl hangStep (hangStep f p)).length ≤ f.length + (r.length + 1)
    omega
def fs_hangs_on : FS := fun ds μ Q _ => ∃ (W : Wk) (d : D), ds = [d] ∧ IsW W d ∧ W.T.length ≤ 100 ∧ W.J.length ≤ 100 ∧ W.P.length ≤ 100 ∧ Q (.bl W.hangsB) μ
theorem hangs_outer (Φ : Str → FS) (μ : Mu) {W : Wk} {d : D} (hd : IsW W d) (hp : W.P.length ≤ 100) : ∀ (js : List D) (found : List Str) (x2 x3 x4 x5 x6 : Option D) (src : Mu → Prop) (Dn : EnD), (∀ m, src m) → found.length + js.length * 100 + 100 ≤ 100000 →
    (∀ x2 x3 x4 x5 x6, Dn.nx [some d, some (.cel μ.length), x2, x3, x4, x5, x6] (μ ++ [some (.lst ((js.foldl (fun f _ => W.P.foldl hangStep f) found).map .str))])) →
    FL Φ (.n 2) (.cons (.for_ (.t [3, 4, 5, 6]) (.seq (.ix (.v 0) (.k (.int 2)))) (.cons (.iff (.bop .And (.cons (.cmp .Eq (.v 6) (.k (.str ""))) (.cons (.cmp .NotEq (.cmp .In (.v 3) (.v 1)) (.cmp .In (.v 4) (.v 1))) .nil))) (.cons (.ex (.me .append (.v 1) (.cons (.ife (.cmp .In (.v 3) (.v 1)) (.v 4) (.v 3)) .nil))) .nil) .nil) .nil)) .nil)
      src js [some d, some (.cel μ.length), x2, x3, x4, x5, x6] (μ ++ [some (.lst (found.map .str))]) Dn := by
  intro js
  obtain ⟨t, j, p, rfl, ht, hj, hpp⟩ := hd
  induction js with
  | nil => intro found x2 x3 x4 x5 x6 src Dn hs hl h; exact h _ _ _ _ _
  | cons j0 r ih =>
    intro found x2 x3 x4 x5 x6 src Dn hs hl h
    have hl : found.length + (r.length + 1) * 100 + 100 ≤ 100000 := hl
    rw [FL_cons]
    simp only [tgW, st, s_cons, s_nil, s_for, i_seq, e_ix, e_v, e_k, lk, onS_some, ixW, asI_int, at2, hpp.seq.seq]
    refine hangs_inner Φ μ _ _ W.P found _ _ _ _ _ _ (fun m => by rw [hpp.seq.src (μ := μ)]; trivial) (by omega) fun x3 x4 x5 x6 => ⟨hs _, ih _ _ _ _ _ _ _ _ hs ?_ h⟩
    have := hang_len W.P found
    omega
theorem p_hangs_on (Φ : Str → FS) : ∀ ds μ Qd Ed, ds.length = 1 → fs_hangs_on ds μ Qd Ed → wSs Φ ir_hangs_on (start0 N_hangs_on.length ds) μ (endD μ Qd Ed) := by
  rintro ds μ Q E _ ⟨W, d, rfl, hw, l1, l2, l3, q⟩
  have hw' := hw
  obtain ⟨t, j, p, rfl, ht, hj, hpp⟩ := hw
  have ht : IsTup t _ := .inl ht
  unfold ir_hangs_on
  change wSs Φ _ [some _, none, none, none, none, none, none] μ _
  simp only [s_cons, s_nil, s_asg, s_ret, e_lc, i_seq, e_v, e_k, e_ix, lk, st, onS_some, ixW, asI_int, at0, at1, at2, ht.seq.seq, newL_t, wp0, wp0.wipe1]
  refine LC_maps plc (fun p => .str p.1) (by rw [ht.seq.src (μ := μ)]; trivial) _ ?_ (by show _ ≤ _; omega) ?_
  · intro a ha R r
    simp only [tgW, st, e_ix, e_v, e_k, lk, onS_some, ixW, plc, asI_int, at0]
    exact r
  simp only [s_for, i_seq, e_v, e_k, e_ix, lk, st, onS_some, ixW, asI_int, at0, at1, at2, hj.seq.seq]
  rw [show W.T.map (fun p => D.str p.1) = (W.T.map (·.1)).map .str by rw [List.map_map]; rfl]
  refine hangs_outer Φ μ hw' l3 _ _ _ _ _ _ _ _ _ (fun m => by rw [hj.seq.src (μ := μ)]; trivial) (by rw [List.length_map, List.length_map]; omega) fun x2 x3 x4 x5 x6 => ?_
  have ef : (W.J.map plc).foldl (fun f _ => W.P.foldl hangStep f) (W.T.map (·.1)) = W.found := by rw [List.foldl_map]; rfl
  rw [ef]
  simp only [e_bi, es_cons, es_nil, e_lc, i_seq, e_v, e_k, e_ix, lk, st, onS_some, ixW, asI_int, at0, at1, at2, hj.seq.seq, newL_f, wp0, wp0.wipe1]
  refine LC_maps plc (fun p => .bl (decide (p.1 ∈ W.found))) (by rw [hj.seq.src (μ := μ)]; trivial) _ ?_ (by show _ ≤ _; omega) ?_
  · intro a ha R r
    have hp : plA (W.found.map .str) = true := plA_map _ (fun _ => rfl) _
    simp only [tgW, st, e_ix, e_v, e_k, e_cmp, cmpW, lk, onS_some, ixW, plc, asI_int, at0, memW, cg0, memD_str, hp]
    exact ⟨⟨rfl, trivial, shal_str _⟩, r⟩
  simp only [biW, lstOf, onS_some, allB_bl, all_map]
  exact rt_new rfl q
theorem ncA_map {α : Type} (enc : α → D) (h : ∀ a, (enc a).nc = true) : ∀ xs : List α, ncA (xs.map enc) = true
  | [] => rfl
  | x :: xs => by rw [List.map_cons, ncA, h x, ncA_map enc h xs]; rfl
def fs_names_of : FS := fun ds μ Q _ => ∃ (W : Wk) (d : D), ds = [d] ∧ IsW W d ∧ W.T ≠ [] ∧ W.T.length ≤ 100 ∧ W.J.length ≤ 100 ∧ Q (.lst (W.names.map .str)) μ
theorem add_tup {xs ys : List D} {d : D} {μ : Mu} {Q : QD} (h : IsTup d ys) (hx : xs ≠ []) (hz : xs.length + ys.length ≤ 100000) (q : Q (.tup (xs ++ ys)) μ) : addW false (.tup xs) d μ Q := by
  rcases h with rfl | rfl
  · exact ⟨hz, q⟩
  · exact ⟨⟨hx, hz⟩, q⟩
theorem p_names_of (Φ : Str → FS) : ∀ ds μ Qd Ed, ds.length = 1 → fs_names_of ds μ Qd Ed → wSs Φ ir_names_of (start0 N_names_of.length ds) μ (endD μ Qd Ed) := by
  rintro ds μ Q E _ ⟨W, d, rfl, ⟨t, j, p, rfl, rfl, hj, hpp⟩, hT, l1, l2, q⟩
  unfold ir_names_of
  change wSs Φ _ [some _, none] μ _
  simp only [s_cons, s_nil, s_ret, e_lc, i_seq, e_op, bopW, e_v, e_k, e_ix, lk, st, onS_some, ixW, asI_int, at0, at1, newL_f, wp0, wp0.wipe1]
  refine add_tup hj (by rw [Ne, List.map_eq_nil_iff]; exact hT) (by rw [List.length_map, List.length_map]; omega) ?_
  simp only [seqOf, onS_some]
  rw [← List.map_append]
  refine LC_maps plc (fun p => .str p.1) trivial _ ?_ (by show _ ≤ _; rw [List.length_append]; omega) ?_
  · intro a ha R r
    simp only [tgW, st, e_ix, e_v, e_k, lk, onS_some, ixW, plc, asI_int, at0]
    exact r
  rw [show (W.T ++ W.J).map (fun p => D.str p.1) = W.names.map .str by unfold Wk.names; rw [List.map_map]; rfl]
  exact rt_same (by simp only [D.nc]; exact ncA_map _ (fun _ => rfl) _) q
def isFlap (p : Pi) : Bool := !decide (p.f = "")
def Wk.okB (W : Wk) : Bool := placesB W.T 4 (-1000) && (placesB W.J 5 0 && (decide ((dedupS W.names).length = W.names.length) && (decide (W.P.length ≤ 9) && (W.P.all (pipeB W.names) && (risesB dLt (W.P.map fun p => pr2 p.a p.b) && (decide ((W.P.filter isFlap).length ≤ 5) && W.hangsB))))))
def fs_is_works : FS := fun ds μ Q _ => ∃ (W : Wk) (d : D), ds = [d] ∧ IsW W d ∧ W.T ≠ [] ∧ W.T.length ≤ 100 ∧ W.J.length ≤ 100 ∧ W.P.length ≤ 100 ∧ (∀ p ∈ W.T ++ W.J, p.1.length ≤ 100000) ∧ Q (.bl W.okB) μ
theorem allStr_str : ∀ xs : List Str, allStr (xs.map .str) = some xs
  | [] => rfl
  | x :: xs => by rw [List.map_cons, allStr, allStr_str xs]; rfl
theorem eqD_nil_tup {a : D} {r : List D} : eqD (.tup (a :: r)) (.tup []) = false := by
  unfold eqD D.py pyA PyData.eqv PyData.eqvAll; rfl
theorem LC_fm {Φ : Str → FS} {env : En} {μ : Mu} {α : Type} {e : IE} {tg : Tg} {cs : IEs} {src : Mu → Prop} {Q : List D → Mu → Prop} (enc : α → D) (p : α → Bool) (f : α → D) (hs : src μ) (xs : List α)
    (h : ∀ a ∈ xs, ∀ (R : Bool → Mu → Prop) (R2 : QD), (p a = true → R2 (f a) μ) → R (p a) μ → tgW tg (enc a) μ env fun env' => wC Φ cs env' μ fun b μ1 => (b = true → wE Φ e env' μ1 R2 NoX) ∧ R b μ1) (hz : Sz xs.length) (q : Q ((xs.filter p).map f) μ) : LC Φ e tg cs src env (xs.map enc) [] μ Q := by
  suffices go : ∀ (xs : List α) (acc : List D), (∀ a ∈ xs, ∀ (R : Bool → Mu → Prop) (R2 : QD), (p a = true → R2 (f a) μ) → R (p a) μ → tgW tg (enc a) μ env fun env' => wC Φ cs env' μ fun b μ1 => (b = true → wE Φ e env' μ1 R2 NoX) ∧ R b μ1) → Sz (acc.length + xs.length) → Q (acc ++ (xs.filter p).map f) μ → LC Φ e tg cs src env (xs.map enc) acc μ Q from
    go xs [] h (by simpa using hz) (by simpa using q)
  intro xs
  induction xs with
  | nil => intro acc _ _ q; rw [List.map_nil, LC_nil]; simpa using q
  | cons a r ih =>
    intro acc h hz q
    have hz : acc.length + (r.length + 1) ≤ 100000 := hz
    rw [List.map_cons, LC_cons]
    refine h a List.mem_cons_self (fun b μ1 => b = false → src μ1 ∧ LC Φ e tg cs src env (r.map enc) acc μ1 Q) (fun y μ2 => (src μ2 ∧ Sz (acc.length + 1)) ∧ LC Φ e tg cs src env (r.map enc) (acc ++ [y]) μ2 Q) (fun hp => ⟨⟨hs, ?_⟩, ih _ (fun a' ha => h a' (List.mem_cons_of_mem _ ha)) ?_ ?_⟩) fun hp => ⟨hs, ih _ (fun a' ha => h a' (List.mem_cons_of_mem _ ha)) ?_ ?_⟩
    · show _ ≤ 100000; omega
    · show _ ≤ 100000; rw [List.length_append]; show acc.length + 1 + _ ≤ _; omega
    · simpa [hp] using q
    · show _ ≤ 100000; omega
    · simpa [hp] using q
theorem p_is_works (Φ : Str → FS) (h1 : Φ "are_places" = fs_are_places) (h2 : Φ "names_of" = fs_names_of) (h3 : Φ "is_pipe" = fs_is_pipe) (h4 : Φ "are_rising" = fs_are_rising) (h5 : Φ "hangs_on" = fs_hangs_on) : ∀ ds μ Qd Ed, ds.length = 1 → fs_is_works ds μ Qd Ed → wSs Φ ir_is_works (start0 N_is_works.length ds) μ (endD μ Qd Ed) := by
  rintro ds μ Q E _ ⟨W, d, rfl, hw, hT, l1, l2, l3, hn, q⟩
  have hw' := hw
  obtain ⟨t, j, p, rfl, rfl, hj, hpp⟩ := hw
  unfold ir_is_works
  change wSs Φ _ [some _, none, none, none, none] μ _
  unfold Wk.okB at q
  simp only [s_cons, s_nil, s_iff, s_ret, e_bop, b_or, b_one, e_not, e_bi, es_cons, es_nil, biW, e_cmp, cmpW, e_call, e_v, e_g, e_k, e_neg, e_ix, lk, onS_some, ix_tup, asI_int, asB_bl, onB_true, onB_false, at0, at1, at2, isi_tup, len_tup, len_lst, eqW, res_tup, res_int, res_str, h1, eqD_int, List.length_cons, List.length_nil]
  rw [show ("tuple" == "tuple") = true from rfl]
  simp only [Bool.not_true, onB_false]
  refine ⟨⟨rfl, rfl, .inr (shal_int 3)⟩, ?_⟩
  rw [show (!decide (((0 + 1 + 1 + 1 : Nat) : Int) = 3)) = false from rfl, onB_false]
  refine ⟨_, W.T, 4, -1000, rfl, .inl rfl, by omega, fun p hp => hn p (List.mem_append_left _ hp), ?_⟩
  simp only [asB_bl, onB_true, onB_false]
  refine ⟨fun g => ?_, fun g => ?_⟩
  · rw [Bool.not_eq_true'] at g
    rw [g, Bool.false_and] at q; exact rt_same rfl q
  rw [Bool.not_eq_false'] at g
  rw [g, Bool.true_and] at q
  have e0 : eqD (.tup (W.T.map plc)) (.tup []) = false := by
    cases hW : W.T with
    | nil => exact absurd hW hT
    | cons a r => exact eqD_nil_tup
  simp only [s_cons, s_nil, s_iff, s_ret, e_bop, b_or, b_one, e_not, e_bi, es_cons, es_nil, biW, e_cmp, cmpW, e_call, e_v, e_g, e_k, e_neg, e_tup, e_ix, lk, onS_some, ix_tup, asI_int, asB_bl, onB_true, onB_false, at0, at1, at2, eqW, res_tup, res_int, res_str, h1, e0]
  have isT : ∀ {d : D} {xs : List D}, IsTup d xs → d.pl = plA xs ∧ resOf μ d = d := fun h => by rcases h with rfl | rfl <;> exact ⟨rfl, rfl⟩
  refine ⟨⟨plA_map _ (fun _ => rfl) _, rfl, .inr (by simp [shal, D.py, pyA, PyData.depth, PyData.depthAll])⟩, ?_⟩
  refine ⟨_, W.J, 5, 0, rfl, hj, by omega, fun p hp => hn p (List.mem_append_right _ hp), ?_⟩
  simp only [asB_bl, onB_true, onB_false]
  refine ⟨fun g => ?_, fun g => ?_⟩
  · rw [Bool.not_eq_true'] at g
    rw [g, Bool.false_and] at q; exact rt_same rfl q
  rw [Bool.not_eq_false'] at g
  rw [g, Bool.true_and] at q
  simp only [s_cons, s_nil, s_asg, s_iff, s_ret, e_bop, b_or, b_one, e_not, e_bi, es_cons, es_nil, biW, e_cmp, cmpW, e_call, e_v, e_g, e_k, e_ix, lk, onS_some, ix_tup, asI_int, asB_bl, onB_true, onB_false, at2, hpp.isi]
  rw [show ("tuple" == "tuple") = true from rfl]
  simp only [Bool.not_true, onB_true, onB_false, h2]
  refine ⟨W, _, rfl, hw', hT, l1, l2, ?_⟩
  simp only [s_cons, s_nil, s_asg, s_iff, s_ret, e_bop, b_or, b_one, e_not, e_bi, es_cons, es_nil, biW, e_cmp, cmpW, e_call, e_v, e_g, e_k, e_ix, st, lk, onS_some, ix_tup, asI_int, asB_bl, onB_true, onB_false, at2, lst_lst, allStr_str, len_lst, List.length_map, eqW, res_tup, res_int, res_str, eqD_int, hpp.seq.len]
  have ln : W.names.length = W.T.length + W.J.length := by unfold Wk.names; rw [List.length_map, List.length_append]
  refine ⟨by omega, ⟨rfl, rfl, .inl (shal_int _)⟩, fun g => ?_, fun g => ?_⟩
  · rw [decide_eq_false (fun e => by rw [e] at g; simp at g), Bool.false_and] at q
    exact rt_same rfl q
  rw [decide_eq_true (by have := of_decide_eq_true ((Bool.not_eq_false' _).mp g); omega), Bool.true_and] at q
  refine ⟨fun g => ?_, fun g => ?_⟩
  · rw [decide_eq_false (by have := of_decide_eq_true g; omega), Bool.false_and] at q
    exact rt_same rfl q
  rw [decide_eq_true (by have := of_decide_eq_false g; omega), Bool.true_and] at q
  simp only [s_cons, s_nil, s_asg, s_iff, s_ret, e_not, e_bi, es_cons, es_nil, biW, e_lc, i_seq, e_call, e_v, e_g, e_k, e_ix, st, lk, onS_some, ix_tup, asI_int, asB_bl, onB_true, onB_false, at2, hpp.seq.seq, wp0, wp0.wipe1, newL_f]
  have hsrc : ∀ m, srcOf p (W.P.map pid) m := fun m => by rw [hpp.seq.src (μ := μ)]; trivial
  refine LC_maps pid (fun p => .bl (pipeB W.names p)) (hsrc _) _ ?_ (by show _ ≤ _; omega) ?_
  · intro a ha R r
    simp only [tgW, st, e_call, es_cons, es_nil, e_v, lk, onS_some, h3]
    exact ⟨_, _, rfl, r⟩
  simp only [lst_lst, onS_some, allB_bl, all_map]
  refine ⟨fun g => ?_, fun g => ?_⟩
  · rw [(Bool.not_eq_true' _).mp g, Bool.false_and] at q
    exact rt_same rfl q
  rw [(Bool.not_eq_false' _).mp g, Bool.true_and] at q
  refine LC_maps pid (fun p => pr2 p.a p.b) (hsrc _) _ ?_ (by show _ ≤ _; omega) ?_
  · intro a ha R r
    simp only [tgW, st, pid, e_sl, e_v, e_k, lk, onS_some, o_nil, o_cons, slW, asI_int, cut2]
    exact r
  simp only [s_cons, s_nil, s_asg, s_iff, s_ret, e_bop, b_or, b_one, e_not, e_bi, es_cons, es_nil, biW, e_cmp, cmpW, e_lc, i_seq, e_call, e_v, e_g, e_k, e_ix, st, lk, onS_some, ix_tup, asI_int, asB_bl, onB_true, onB_false, at2, hpp.seq.seq, wp0, wp0.wipe1, newL_f, h4]
  refine ⟨_, _, rfl, .l, by rw [List.length_map]; omega, ?_, ?_⟩
  · intro a ha b hb
    obtain ⟨p, _, rfl⟩ := List.mem_map.mp ha
    obtain ⟨p', _, rfl⟩ := List.mem_map.mp hb
    exact ltOk_pr2 _ _ _ _
  simp only [asB_bl, onB_true, onB_false]
  refine ⟨fun g => ?_, fun g => ?_⟩
  · rw [(Bool.not_eq_true' _).mp g, Bool.false_and] at q
    exact rt_same rfl q
  rw [(Bool.not_eq_false' _).mp g, Bool.true_and] at q
  refine LC_fm pid isFlap (fun _ => .int 1) (hsrc _) _ ?_ (by show _ ≤ _; omega) ?_
  · intro a ha R R2 r1 r2
    simp only [tgW, st, pid, c_cons, e_cmp, cmpW, e_ix, e_v, e_k, lk, onS_some, ix_tup, asI_int, at3, eqW, res_tup, res_int, res_str, eqD_str, asB_bl]
    exact ⟨⟨rfl, rfl, .inl (shal_str _)⟩, r1, r2⟩
  simp only [len_lst, onS_some, List.length_map, asI_int, asB_bl]
  refine ⟨fun g => ?_, fun g => ?_⟩
  · rw [decide_eq_false (by have := of_decide_eq_true g; omega), Bool.false_and] at q
    exact rt_same rfl q
  rw [decide_eq_true (by have := of_decide_eq_false g; omega), Bool.true_and] at q
  simp only [s_cons, s_ret, e_call, es_cons, es_nil, e_v, lk, onS_some, h5]
  exact ⟨W, _, rfl, hw', l1, l2, l3, rt_same rfl q⟩
end FW
set_option Elab.async false
set_option linter.all false
set_option maxRecDepth 100000
/-! DP4: the small helpers around levels. -/
namespace FW
open PySem
def fs_need_works : FS := fun ds μ Q _ => ∃ (W : Wk) (d : D), ds = [d] ∧ IsW W d ∧ W.T ≠ [] ∧ W.T.length ≤ 100 ∧ W.J.length ≤ 100 ∧ W.P.length ≤ 100 ∧ (∀ p ∈ W.T ++ W.J, p.1.length ≤ 100000) ∧ W.okB = true ∧ Q .non μ
theorem p_need_works (Φ : Str → FS) (h1 : Φ "is_works" = fs_is_works) : ∀ ds μ Qd Ed, ds.length = 1 → fs_need_works ds μ Qd Ed → wSs Φ ir_need_works (start0 N_need_works.length ds) μ (endD μ Qd Ed) := by
  rintro ds μ Q E _ ⟨W, d, rfl, hw, hT, l1, l2, l3, hn, ok, q⟩
  unfold ir_need_works
  change wSs Φ _ [some d] μ _
  simp only [s_cons, s_nil, s_iff, e_not, e_call, es_cons, es_nil, e_v, lk, onS_some, h1]
  refine ⟨W, d, rfl, hw, hT, l1, l2, l3, hn, ?_⟩
  rw [ok]
  simp only [asB_bl, Bool.not_true, onB_false]
  exact rt_same rfl q
def fs_need_junction : FS := fun ds μ Q _ => ∃ (W : Wk) (d : D) (x : Str), ds = [d, .str x] ∧ IsW W d ∧ W.J.length ≤ 100 ∧ x ∈ W.J.map (·.1) ∧ Q .non μ
theorem p_need_junction (Φ : Str → FS) : ∀ ds μ Qd Ed, ds.length = 2 → fs_need_junction ds μ Qd Ed → wSs Φ ir_need_junction (start0 N_need_junction.length ds) μ (endD μ Qd Ed) := by
  rintro ds μ Q E _ ⟨W, d, x, rfl, ⟨t, j, p, rfl, rfl, hj, hpp⟩, l2, hx, q⟩
  unfold ir_need_junction
  change wSs Φ _ [some _, some (.str x), none] μ _
  simp only [s_cons, s_nil, s_iff, e_bop, b_or, b_one, e_cmp, cmpW, e_not, e_bi, biW, e_lc, i_seq, e_ix, ix_tup, e_k, at1, es_cons, es_nil, e_v, lk, onS_some, isi_str, asB_bl, hj.seq.seq, newL_f, wp0, wp0.wipe1]
  rw [show ("str" == "str") = true from rfl]
  simp only [Bool.not_true, onB_false]
  refine LC_maps plc (fun p => .str p.1) (by rw [hj.seq.src (μ := μ)]; trivial) _ ?_ (by show _ ≤ _; omega) ?_
  · intro a ha R r
    simp only [tgW, st, e_ix, e_v, e_k, lk, onS_some, ix_tup, plc, at0]
    exact r
  rw [show W.J.map (fun p => D.str p.1) = (W.J.map (·.1)).map .str by rw [List.map_map]; rfl]
  simp only [memW, memD_str, decide_eq_true hx, Bool.not_true, onB_false]
  exact ⟨⟨rfl, plA_map _ (fun _ => rfl) _, shal_str _⟩, rt_same rfl q⟩
def fs_is_fraction : FS := fun ds μ Q _ => ∃ q : Rat, ds = [fr q] ∧ Q (.bl true) μ
theorem p_is_fraction (Φ : Str → FS) (h1 : Φ "divisor" = fs_divisor) : ∀ ds μ Qd Ed, ds.length = 1 → fs_is_fraction ds μ Qd Ed → wSs Φ ir_is_fraction (start0 N_is_fraction.length ds) μ (endD μ Qd Ed) := by
  rintro ds μ Q E _ ⟨x, rfl, q⟩
  unfold ir_is_fraction
  change wSs Φ _ [some _, none] μ _
  simp only [fr, s_cons, s_nil, s_iff, s_ret, e_bop, b_or, b_and, b_one, e_cmp, cmpW, e_not, e_bi, biW, e_lc, i_seq, e_ix, ix_tup, e_k, at0, at1, es_cons, es_nil, e_v, lk, onS_some, isi_tup, len_tup, asB_bl, asI_int, seq_tup, newL_f, wp0, wp0.wipe1, e_call, h1, eqW, res_int, eqD_int, List.length_cons, List.length_nil, abs_if]
  rw [show ("tuple" == "tuple") = true from rfl]
  simp only [Bool.not_true, onB_false]
  refine ⟨⟨rfl, rfl, .inl (shal_int _)⟩, ?_⟩
  rw [show (!decide (((0 + 1 + 1 : Nat) : Int) = 2)) = false from rfl, onB_false]
  refine LC_map Φ (fun _ => .bl true) trivial _ ?_ (by show 2 ≤ _; omega) ?_
  · intro d hd R r
    simp only [List.mem_cons, List.not_mem_nil, or_false] at hd
    rcases hd with rfl | rfl
    all_goals
      simp only [tgW, st, e_bop, b_and, b_one, e_not, e_bi, biW, es_cons, es_nil, e_v, lk, onS_some, isi_int, asB_bl]
      rw [show ("int" == "int") = true from rfl, show ("bool" == "int") = false from rfl]
      simp only [onB_true]
      exact r
  simp only [List.map_cons, List.map_nil, lst_lst, onS_some, allB, Option.map, List.all_cons, List.all_nil, id, Bool.and_self, Bool.not_true, onB_false]
  have hd := den_pos' x
  rw [decide_eq_true hd]
  simp only [onB_true]
  refine ⟨_, _, rfl, by omega, by omega, ⟨rfl, rfl, .inl (shal_int _)⟩, ?_⟩
  have e : Int.gcd (x.num.natAbs : Int) (x.den : Int) = 1 := x.reduced
  rw [e]
  exact rt_same rfl q
def fs_need_level : FS := fun ds μ Q _ => ∃ q : Rat, ds = [fr q] ∧ Q .non μ
theorem p_need_level (Φ : Str → FS) (h1 : Φ "is_fraction" = fs_is_fraction) : ∀ ds μ Qd Ed, ds.length = 1 → fs_need_level ds μ Qd Ed → wSs Φ ir_need_level (start0 N_need_level.length ds) μ (endD μ Qd Ed) := by
  rintro ds μ Q E _ ⟨x, rfl, q⟩
  unfold ir_need_level
  change wSs Φ _ [some _] μ _
  simp only [s_cons, s_nil, s_iff, e_not, e_call, es_cons, es_nil, e_v, lk, onS_some, h1, fs_is_fraction]
  refine ⟨x, rfl, ?_⟩
  simp only [asB_bl, Bool.not_true, onB_false]
  exact rt_same rfl q
def Wk.flaps (W : Wk) : List Pi := W.P.filter isFlap
def fs_flaps_of : FS := fun ds μ Q _ => ∃ (W : Wk) (d : D), ds = [d] ∧ IsW W d ∧ W.P.length ≤ 100 ∧ Q (.lst (W.flaps.map pid)) μ
theorem p_flaps_of (Φ : Str → FS) : ∀ ds μ Qd Ed, ds.length = 1 → fs_flaps_of ds μ Qd Ed → wSs Φ ir_flaps_of (start0 N_flaps_of.length ds) μ (endD μ Qd Ed) := by
  rintro ds μ Q E _ ⟨W, d, rfl, ⟨t, j, p, rfl, rfl, hj, hpp⟩, l3, q⟩
  unfold ir_flaps_of
  change wSs Φ _ [some _, none] μ _
  simp only [s_cons, s_ret, e_lc, i_seq, e_ix, e_v, e_k, ix_tup, at2, lk, onS_some, hpp.seq.seq, newL_f, wp0, wp0.wipe1]
  refine LC_fm pid isFlap pid (by rw [hpp.seq.src (μ := μ)]; trivial) _ ?_ (by show _ ≤ _; omega) ?_
  · intro a ha R R2 r1 r2
    simp only [tgW, st, c_cons, e_cmp, cmpW, e_ix, e_v, e_k, lk, onS_some, eqW, res_str, eqD_str, asB_bl]
    simp only [pid, ix_tup, at3, onS_some, res_str, eqD_str]
    exact ⟨⟨rfl, rfl, .inl (shal_str _)⟩, r1, r2⟩
  · exact rt_same (by simp only [D.nc]; exact ncA_map _ (fun _ => rfl) _) q
def pk (p : Pi) : Str × Str := (p.a, p.b)
def prd (p : Str × Str) : D := pr2 p.1 p.2
/-- is a pipe open, given the open flaps -/
def goesB (p : Pi) (lot : List (Str × Str)) : Bool := !isFlap p || decide (pk p ∈ lot)
theorem eqD_prd (p q : Str × Str) : eqD (prd p) (prd q) = decide (p = q) := by
  unfold prd pr2
  rw [eqD_tup, eqA_cons, eqA_cons, eqA_nil, eqD_str, eqD_str, Bool.and_true, ← Bool.decide_and]
  congr 1
  apply propext
  exact Prod.ext_iff.symm
theorem memD_prd (s : Str × Str) : ∀ xs : List (Str × Str), memD (prd s) (xs.map prd) = decide (s ∈ xs)
  | [] => rfl
  | x :: xs => by
    have h := memD_prd s xs
    unfold memD at h ⊢
    rw [List.map_cons, List.any_cons, h, eqD_prd]
    by_cases e : x = s
    · simp [e]
    · have e' : ¬ s = x := fun h => e h.symm
      simp [e, e']
theorem pl_prd (p : Str × Str) : (prd p).pl = true := rfl
theorem shal_prd (p : Str × Str) : shal (prd p) := by simp [prd, pr2, shal, D.py, pyA, PyData.depth, PyData.depthAll]
theorem nc_prd (p : Str × Str) : (prd p).nc = true := rfl
/-- x in a lot -/
theorem mem_lot {d : D} {lot : List (Str × Str)} {μ : Mu} {k : Bool → Prop} (p : Str × Str) (h : IsSeq d (lot.map prd)) (hd : d = .tup (lot.map prd) ∨ d = .lst (lot.map prd)) (q : k (decide (p ∈ lot))) : memW μ (.tup [.str p.1, .str p.2]) d k := by
  rw [← memD_prd] at q
  rcases hd with rfl | rfl
  · exact ⟨⟨rfl, plA_map _ (fun _ => rfl) _, shal_prd p⟩, q⟩
  · exact ⟨⟨rfl, plA_map _ (fun _ => rfl) _, shal_prd p⟩, q⟩
def fs_goes : FS := fun ds μ Q _ => ∃ (p : Pi) (lot : List (Str × Str)) (d : D), ds = [pid p, d] ∧ (d = .tup (lot.map prd) ∨ d = .lst (lot.map prd)) ∧ Q (.bl (goesB p lot)) μ
theorem p_goes (Φ : Str → FS) : ∀ ds μ Qd Ed, ds.length = 2 → fs_goes ds μ Qd Ed → wSs Φ ir_goes (start0 N_goes.length ds) μ (endD μ Qd Ed) := by
  rintro ds μ Q E _ ⟨p, lot, d, rfl, hd, q⟩
  unfold ir_goes
  change wSs Φ _ [some _, some d] μ _
  simp only [pid, s_cons, s_ret, e_bop, b_or, b_one, e_cmp, cmpW, e_ix, e_sl, o_nil, o_cons, e_v, e_k, ix_tup, at3, lk, onS_some, eqW, res_str, eqD_str, asB_bl, asI_int, slW, cut2]
  unfold goesB isFlap at q
  refine ⟨⟨rfl, rfl, .inl (shal_str _)⟩, fun g => ?_, fun g => ?_⟩
  · rw [g, Bool.not_true, Bool.not_false, Bool.true_or] at q
    exact rt_same rfl q
  · rw [g, Bool.not_false, Bool.not_true, Bool.false_or] at q
    have hs : IsSeq d (lot.map prd) := by rcases hd with rfl | rfl; exact .t; exact .l
    exact mem_lot (pk p) hs hd (rt_same rfl q)
end FW

set_option Elab.async false
set_option linter.all false
set_option maxRecDepth 100000
/-! DP5: lots of flaps. -/
namespace FW
open PySem
abbrev Lot := List (Str × Str)
def lotL (l : Lot) : D := .lst (l.map prd)
def lotT (l : Lot) : D := .tup (l.map prd)
def chStep (f : List Lot) (x : Str × Str) : List Lot := f ++ f.map (· ++ [x])
def choicesF (xs : Lot) : List Lot := xs.foldl chStep [[]]
def fs_choices : FS := fun ds μ Q _ => ∃ xs : Lot, ds = [.lst (xs.map prd)] ∧ xs.length ≤ 10 ∧ Q (.lst ((choicesF xs).map lotL)) μ
theorem nc_lotL (l : Lot) : (lotL l).nc = true := by unfold lotL; simp only [D.nc]; exact ncA_map _ nc_prd _
theorem nc_lotT (l : Lot) : (lotT l).nc = true := by unfold lotT; simp only [D.nc]; exact ncA_map _ nc_prd _
theorem choices_loop (Φ : Str → FS) (μ : Mu) (w : Option D) : ∀ (xs : Lot) (f : List Lot) (n : Nat) (x2 x3 : Option D) (src : Mu → Prop) (Dn : EnD), (∀ m, src m) → n + xs.length ≤ 10 → f.length ≤ 2 ^ n → (∀ l ∈ f, l.length ≤ n) →
    (∀ x2 x3, Dn.nx [w, some (.lst ((xs.foldl chStep f).map lotL)), x2, x3] μ) →
    FL Φ (.n 2) (.cons (.asg (.n 1) (.op .Add false (.v 1) (.lc false [3] (.op .Add false (.v 3) (.lst false (.cons (.v 2) .nil))) (.n 3) (.seq (.v 1)) .nil))) .nil)
      src (xs.map prd) [w, some (.lst (f.map lotL)), x2, x3] μ Dn := by
  intro xs
  induction xs with
  | nil => intro f n x2 x3 src Dn _ _ _ _ h; exact h _ _
  | cons x r ih =>
    intro f n x2 x3 src Dn hs hn hf hl h
    have hn : n + (r.length + 1) ≤ 10 := hn
    have hp : 2 ^ n ≤ 2 ^ 9 := Nat.pow_le_pow_right (by decide) (by omega)
    have hp : 2 ^ n ≤ 512 := hp
    rw [List.map_cons, FL_cons]
    simp only [tgW, st, s_cons, s_nil, s_asg, e_op, e_v, lk, onS_some, e_lc, i_seq, seq_lst, wp0, wp0.wipe1, newL_f]
    refine LC_maps lotL (fun l => lotL (l ++ [x])) trivial _ ?_ (by show _ ≤ _; omega) ?_
    · intro l hl' R q
      simp only [tgW, st, e_op, e_lst, es_cons, es_nil, e_v, lk, onS_some, bopW, newL_f]
      have := hl l hl'
      refine ⟨by show _ ≤ _; rw [List.length_map]; show _ + 1 ≤ _; omega, ?_⟩
      have e : l.map prd ++ [prd x] = (l ++ [x]).map prd := by rw [List.map_append]; rfl
      show newL false (l.map prd ++ [prd x]) μ R
      rw [e]; exact q
    · refine ⟨by show _ ≤ _; rw [List.length_map, List.length_map]; omega, hs _, ?_⟩
      have e : f.map lotL ++ f.map (fun l => lotL (l ++ [x])) = (chStep f x).map lotL := by unfold chStep; rw [List.map_append, List.map_map]; rfl
      rw [e]
      refine ih _ (n + 1) _ _ _ _ hs (by omega) ?_ ?_ h
      · unfold chStep; rw [List.length_append, List.length_map, Nat.pow_succ]; omega
      · intro l hl'
        unfold chStep at hl'
        rcases List.mem_append.mp hl' with h1 | h1
        · have := hl l h1; omega
        · obtain ⟨l0, h2, rfl⟩ := List.mem_map.mp h1
          have := hl l0 h2
          rw [List.length_append]; show _ + 1 ≤ _; omega
theorem p_choices (Φ : Str → FS) : ∀ ds μ Qd Ed, ds.length = 1 → fs_choices ds μ Qd Ed → wSs Φ ir_choices (start0 N_choices.length ds) μ (endD μ Qd Ed) := by
  rintro ds μ Q E _ ⟨xs, rfl, hl, q⟩
  unfold ir_choices
  change wSs Φ _ [some _, none, none, none] μ _
  simp only [s_cons, s_nil, s_asg, s_ret, s_for, e_lst, es_cons, es_nil, newL_f, e_v, lk, onS_some, i_seq, seq_lst, st]
  refine choices_loop Φ μ _ xs [[]] 0 _ _ _ _ (fun _ => trivial) (by omega) (by decide) ?_ ?_
  · intro l h
    rw [List.mem_singleton.mp h]; decide
  · intro x2 x3
    exact rt_same (by simp only [D.nc]; exact ncA_map _ nc_lotL _) q
/-- the lots of so many -/
def lotsF : Nat → Lot → List Lot
  | 0, _ => [[]]
  | m + 1, [] => []
  | m + 1, x :: r => (lotsF m r).map (x :: ·) ++ lotsF (m + 1) r
theorem lotsF_len : ∀ (xs : Lot) (m : Nat), (lotsF m xs).length ≤ 2 ^ xs.length
  | _, 0 => by rw [lotsF]; exact Nat.one_le_two_pow
  | [], m + 1 => by rw [lotsF]; decide
  | x :: r, m + 1 => by
    rw [lotsF, List.length_append, List.length_map]
    have h1 := lotsF_len r m
    have h2 := lotsF_len r (m + 1)
    show _ ≤ 2 ^ (r.length + 1)
    rw [Nat.pow_succ]; omega
theorem lotsF_item : ∀ (xs : Lot) (m : Nat) (l : Lot), l ∈ lotsF m xs → l.length = m
  | _, 0, l, h => by rw [lotsF] at h; rw [List.mem_singleton.mp h]; rfl
  | [], m + 1, l, h => by rw [lotsF] at h; exact absurd h List.not_mem_nil
  | x :: r, m + 1, l, h => by
    rw [lotsF] at h
    rcases List.mem_append.mp h with h | h
    · obtain ⟨l0, h1, rfl⟩ := List.mem_map.mp h
      rw [List.length_cons, lotsF_item r m l0 h1]
    · exact lotsF_item r (m + 1) l h
theorem cut_tail {xs : List D} {k : Nat} (h : k ≤ xs.length) : cutD xs (some (k : Int)) none = xs.drop k := by
  have e : HT.sIx xs.length 0 (some (k : Int)) = k := by
    show (if (k : Int) < 0 then ((k : Int) + (xs.length : Int)).toNat else min (k : Int).toNat xs.length) = k
    rw [if_neg (by omega)]; omega
  have e2 : HT.sIx xs.length xs.length none = xs.length := rfl
  unfold cutD
  rw [e, e2]
  exact List.take_of_length_le (by rw [List.length_drop]; omega)
theorem lotsF_sub : ∀ (xs : Lot) (m : Nat) (l : Lot), l ∈ lotsF m xs → l.Sublist xs
  | xs, 0, l, h => by rw [lotsF] at h; rw [List.mem_singleton.mp h]; exact List.nil_sublist _
  | [], m + 1, l, h => by rw [lotsF] at h; exact absurd h List.not_mem_nil
  | x :: r, m + 1, l, h => by
    rw [lotsF] at h
    rcases List.mem_append.mp h with h | h
    · obtain ⟨l0, h1, rfl⟩ := List.mem_map.mp h
      exact (lotsF_sub r m l0 h1).cons_cons x
    · exact (lotsF_sub r (m + 1) l h).cons x
/-- promised up to a bound on the number -/
def fs_lots (b : Nat) : FS := fun ds μ Q _ => ∃ (xs : Lot) (m : Nat), ds = [.lst (xs.map prd), .int m] ∧ m ≤ b ∧ xs.length ≤ 10 ∧ Q (.lst ((lotsF m xs).map lotT)) μ
theorem lots_loop (Φ : Str → FS) (b m : Nat) (hm : m ≤ b) (h1 : Φ "lots" = fs_lots b) (μ : Mu) (all : Lot) (hall : all.length ≤ 10) : ∀ (r : Lot) (i : Nat) (acc : List Lot) (x3 x4 x5 : Option D) (src : Mu → Prop) (Dn : EnD), (∀ m, src m) → all.drop i = r → acc.length + 2 ^ r.length ≤ 2000 →
    (∀ x3 x4 x5, Dn.nx [some (.lst (all.map prd)), some (.int (m + 1 : Nat)), some (.cel μ.length), x3, x4, x5] (μ ++ [some (.lst ((acc ++ lotsF (m + 1) r).map lotT))])) →
    FL Φ (.t [3, 4]) (.cons (.ex (.me .extend (.v 2) (.cons (.lc false [5] (.op .Add false (.tup (.cons (.v 4) .nil)) (.v 5)) (.n 5) (.seq (.call "lots" false (.cons (.sl false (.v 0) (.cons (.op .Add false (.v 3) (.k (.int 1))) .nil) .nil) (.cons (.op .Sub false (.v 1) (.k (.int 1))) .nil)))) .nil) .nil))) .nil)
      src (enumD (i : Nat) (r.map prd)) [some (.lst (all.map prd)), some (.int (m + 1 : Nat)), some (.cel μ.length), x3, x4, x5] (μ ++ [some (.lst (acc.map lotT))]) Dn := by
  intro r
  induction r with
  | nil =>
    intro i acc x3 x4 x5 src Dn hs hd hl h
    have := h x3 x4 x5
    rw [lotsF, List.append_nil] at this
    exact this
  | cons x r ih =>
    intro i acc x3 x4 x5 src Dn hs hd hl h
    have hi : i < all.length := by
      apply Decidable.byContradiction; intro hh
      rw [List.drop_eq_nil_of_le (by omega)] at hd; cases hd
    have hd1 : all.drop (i + 1) = r := by
      have := List.drop_eq_getElem_cons hi
      rw [hd] at this
      exact (List.cons.inj this).2.symm
    have hr : r.length ≤ 9 := by rw [← hd1, List.length_drop]; omega
    have hp : 2 ^ r.length ≤ 2 ^ 9 := Nat.pow_le_pow_right (by decide) hr
    have hp : 2 ^ r.length ≤ 512 := hp
    have hp1 : 2 ^ (x :: r).length = 2 ^ r.length * 2 := Nat.pow_succ ..
    rw [List.map_cons, enumD, FL_cons]
    simp only [tgW, stAll, st, onS_some, s_cons, s_nil, s_ex, e_me, e_v, lk, meTy, lstOf, cg0, es_cons, es_nil, e_lc, i_seq, e_call, e_sl, o_cons, o_nil, e_op, e_k, bopW, addW, asI_int, slW, newL_f, wp0, wp0.wipe1, h1, true_and]
    have ec : cutD (all.map prd) (some ((i : Int) + 1)) none = r.map prd := by
      have h2 := cut_tail (xs := all.map prd) (k := i + 1) (by rw [List.length_map]; omega)
      rw [← List.map_drop, hd1] at h2
      exact h2
    rw [ec]
    refine ⟨r, m, by rw [show (((m + 1 : Nat) : Int) - 1) = (m : Int) by omega], hm, by omega, ?_⟩
    simp only [seq_lst, onS_some]
    have hlen := lotsF_len r m
    refine LC_maps lotT (fun l => lotT (x :: l)) trivial _ ?_ (by show _ ≤ _; omega) ?_
    · intro l hl' R q
      simp only [tgW, st, e_op, e_tup, es_cons, es_nil, e_v, lk, onS_some, bopW, lotT, addW]
      refine ⟨?_, q⟩
      show _ ≤ _
      have h3 := (lotsF_sub r m l hl').length_le
      rw [List.length_map]
      show 1 + l.length ≤ _
      omega
    · simp only [meW, cellL, cg0, cs0, lst_lst, onS_some]
      refine ⟨by show _ ≤ _; rw [List.length_map, List.length_map]; omega, hs _, ?_⟩
      have e : acc.map lotT ++ (lotsF m r).map (fun l => lotT (x :: l)) = (acc ++ (lotsF m r).map (x :: ·)).map lotT := by rw [List.map_append, List.map_map]; rfl
      rw [e]
      refine ih (i + 1) _ _ _ _ src Dn hs hd1 ?_ ?_
      · rw [List.length_append, List.length_map]; omega
      · intro x3 x4 x5
        have := h x3 x4 x5
        rw [lotsF, ← List.append_assoc] at this
        exact this
theorem p_lots (Φ : Str → FS) (b : Nat) (h1 : Φ "lots" = fs_lots b) : ∀ ds μ Qd Ed, ds.length = 2 → fs_lots (b + 1) ds μ Qd Ed → wSs Φ ir_lots (start0 N_lots.length ds) μ (endD μ Qd Ed) := by
  rintro ds μ Q E _ ⟨xs, m, rfl, hm, hl, q⟩
  unfold ir_lots
  change wSs Φ _ [some _, some _, none, none, none, none] μ _
  simp only [s_cons, s_nil, s_iff, s_asg, s_ret, e_cmp, cmpW, eqW, e_v, e_k, lk, onS_some, res_int, eqD_int, asB_bl, e_lst, e_tup, es_cons, es_nil, newL_f, newL_t, s_for, i_enu, enuW, st]
  refine ⟨⟨rfl, rfl, .inl (shal_int _)⟩, fun g => ?_, fun g => ?_⟩
  · have g : m = 0 := by have := of_decide_eq_true g; omega
    subst g
    rw [lotsF] at q
    exact rt_same rfl q
  · obtain ⟨m, rfl⟩ : ∃ k, m = k + 1 := ⟨m - 1, by have := of_decide_eq_false g; omega⟩
    have hp : 2 ^ xs.length ≤ 2 ^ 10 := Nat.pow_le_pow_right (by decide) hl
    have hp : 2 ^ xs.length ≤ 1024 := hp
    refine lots_loop Φ b m (by omega) h1 μ xs hl xs 0 [] _ _ _ _ _ (fun _ => trivial) rfl (by show 0 + _ ≤ _; omega) ?_
    intro x3 x4 x5
    simp only [s_fz, fzW, lk, cg0, st, s_cons, s_ret, e_v, onS_some, cs0, List.nil_append]
    exact rt_new (by simp only [D.nc]; exact ncA_map _ nc_lotT _) q
end FW

set_option Elab.async false
set_option linter.all false
set_option maxRecDepth 100000
/-! DP6: lift, wedged. -/
namespace FW
open PySem
theorem ix_dct {μ : Mu} {ks : List Str} {ds : List D} {c : Str} {Q : QD} : ixW (.dct ks ds) (.str c) μ Q = onS (lookD ks ds c) fun d => Q d μ := rfl
/-- levels as data: a dict from names to fractions, given by a function -/
def lookF (ks : List Str) (ds : List D) (p : Str → Rat) (x : Str) : Prop := lookD ks ds x = some (fr (p x)) ∧ RB 4000 (p x)
def liftQ (x : Pi) (p : Str → Rat) : Rat := if x.f = ">" then p x.a - p x.b else p x.b - p x.a
def fs_lift : FS := fun ds μ Q _ => ∃ (x : Pi) (ks : List Str) (vs : List D) (p : Str → Rat), ds = [pid x, .dct ks vs] ∧ lookF ks vs p x.a ∧ lookF ks vs p x.b ∧ Q (fr (liftQ x p)) μ
theorem RB.mono {m n : Nat} {q : Rat} (h : RB m q) (hmn : m ≤ n) : RB n q :=
  ⟨Nat.lt_of_lt_of_le h.1 (Nat.pow_le_pow_right (by decide) hmn), Nat.lt_of_lt_of_le h.2 (Nat.pow_le_pow_right (by decide) hmn)⟩
theorem p_lift (Φ : Str → FS) (h1 : Φ "minus" = fs_arith (· - ·)) : ∀ ds μ Qd Ed, ds.length = 2 → fs_lift ds μ Qd Ed → wSs Φ ir_lift (start0 N_lift.length ds) μ (endD μ Qd Ed) := by
  rintro ds μ Q E _ ⟨x, ks, vs, p, rfl, ⟨ha, ra⟩, ⟨hb, rb⟩, q⟩
  unfold ir_lift
  change wSs Φ _ [some _, some _, none, none] μ _
  simp only [pid, s_cons, s_nil, s_par, s_ret, e_ife, e_cmp, cmpW, eqW, e_v, e_k, e_ix, ix_tup, at0, at1, at3, lk, st, onS_some, res_str, eqD_str, asB_bl, ix_dct, ha, hb, e_call, es_cons, es_nil, h1]
  unfold liftQ at q
  refine ⟨⟨rfl, rfl, .inl (shal_str _)⟩, fun g => ?_, fun g => ?_⟩
  · rw [if_pos (of_decide_eq_true g)] at q
    exact ⟨_, _, _, _, rfl, ra, rb, by decide, rt_same rfl q⟩
  · rw [if_neg (of_decide_eq_false g)] at q
    exact ⟨_, _, _, _, rfl, rb, ra, by decide, rt_same rfl q⟩
/-- some flaps wedged open -/
def wedgeP (lot : Lot) (x : Pi) : Pi := if pk x ∈ lot then { x with f := "" } else x
def Wk.wedge (W : Wk) (lot : Lot) : Wk := { W with P := W.P.map (wedgeP lot) }
def fs_wedged : FS := fun ds μ Q _ => ∃ (W : Wk) (d e : D) (lot : Lot), ds = [d, e] ∧ IsW W d ∧ W.P.length ≤ 100 ∧ (e = lotT lot ∨ e = lotL lot) ∧ (∀ d', IsW (W.wedge lot) d' → d'.nc = true → Q d' μ)
theorem p_wedged (Φ : Str → FS) : ∀ ds μ Qd Ed, ds.length = 2 → fs_wedged ds μ Qd Ed → wSs Φ ir_wedged (start0 N_wedged.length ds) μ (endD μ Qd Ed) := by
  rintro ds μ Q E _ ⟨W, d, e, lot, rfl, ⟨t, j, p, rfl, rfl, hj, hpp⟩, l3, he, q⟩
  unfold ir_wedged
  change wSs Φ _ [some _, some _, none] μ _
  have ct : cutD [D.tup (W.T.map plc), j, p] none (some 2) = [D.tup (W.T.map plc), j] := rfl
  simp only [s_cons, s_nil, s_ret, e_op, e_sl, o_nil, o_cons, e_v, e_k, e_tup, es_cons, es_nil, e_bi, e_lc, i_seq, e_ix, ix_tup, at2, lk, onS_some, asI_int, slW, ct, hpp.seq.seq, newL_f, wp0, wp0.wipe1]
  refine LC_maps pid (fun x => pid (wedgeP lot x)) (by rw [hpp.seq.src (μ := μ)]; trivial) _ ?_ (by show _ ≤ _; omega) ?_
  · intro x hx R r
    have hs : IsSeq e (lot.map prd) := by rcases he with rfl | rfl; exact .t; exact .l
    simp only [tgW, st, e_ife, e_cmp, cmpW, e_sl, o_nil, o_cons, e_v, e_k, lk, onS_some, pid, asI_int, slW, cut2]
    refine mem_lot (pk x) hs he ?_
    simp only [asB_bl]
    unfold wedgeP at r
    refine ⟨fun g => ?_, fun g => ?_⟩
    · rw [if_pos (of_decide_eq_true g)] at r
      simp only [e_op, bopW, e_sl, o_nil, o_cons, e_v, e_k, e_tup, es_cons, es_nil, lk, onS_some, asI_int, slW, cut3, addW]
      exact ⟨by show 4 ≤ 100000; omega, r⟩
    · rw [if_neg (of_decide_eq_false g)] at r
      exact r
  · simp only [biW, tupW, seq_lst, onS_some, bopW, addW]
    have hj' : j.nc = true := by
      rcases hj with rfl | rfl <;> (simp only [D.nc]; exact ncA_map _ (fun _ => rfl) _)
    refine ⟨by show 3 ≤ 100000; omega, rt_same ?_ (q _ ⟨_, _, _, rfl, rfl, hj, .inl ?_⟩ ?_)⟩
    · simp only [D.nc, ncA, List.cons_append, List.nil_append, hj', ncA_map plc (fun _ => rfl), ncA_map (fun x => pid (wedgeP lot x)) (fun _ => rfl), Bool.and_self]
    · unfold Wk.wedge; rw [List.map_map]; rfl
    · simp only [D.nc, ncA, List.cons_append, List.nil_append, hj', ncA_map plc (fun _ => rfl), ncA_map (fun x => pid (wedgeP lot x)) (fun _ => rfl), Bool.and_self]
end FW

set_option Elab.async false
set_option linter.all false
set_option maxRecDepth 100000
/-! DG0: plain mathematics: sums, Gauss and Jordan. -/
namespace FW
def sm : Nat → (Nat → Rat) → Rat
  | 0, _ => 0
  | n + 1, f => sm n f + f n
theorem sm_congr {f g : Nat → Rat} : ∀ {n : Nat}, (∀ c, c < n → f c = g c) → sm n f = sm n g
  | 0, _ => rfl
  | n + 1, h => by rw [sm, sm, sm_congr fun c hc => h c (by omega), h n (by omega)]
theorem sm_zero : ∀ {n : Nat} {f : Nat → Rat}, (∀ c, c < n → f c = 0) → sm n f = 0
  | 0, _, _ => rfl
  | n + 1, f, h => by rw [sm, sm_zero fun c hc => h c (by omega), h n (by omega)]; grind
theorem sm_add {f g : Nat → Rat} : ∀ {n : Nat}, sm n (fun c => f c + g c) = sm n f + sm n g
  | 0 => by simp only [sm]; grind
  | n + 1 => by rw [sm, sm, sm, sm_add]; grind
theorem sm_mul {f : Nat → Rat} {a : Rat} : ∀ {n : Nat}, sm n (fun c => a * f c) = a * sm n f
  | 0 => by simp only [sm]; grind
  | n + 1 => by rw [sm, sm, sm_mul]; grind
theorem sm_one {f : Nat → Rat} {k : Nat} : ∀ {n : Nat}, k < n → (∀ c, c < n → c ≠ k → f c = 0) → sm n f = f k
  | 0, h, _ => by omega
  | n + 1, h, z => by
    rw [sm]
    by_cases e : k = n
    · subst e
      rw [sm_zero fun c hc => z c (by omega) (by omega)]; grind
    · rw [sm_one (by omega) fun c hc hk => z c (by omega) hk, z n (by omega) (fun h => e h.symm)]; grind
/-- a row at a point -/
def lin (n : Nat) (r : Nat → Rat) (x : Nat → Rat) : Rat := sm (n + 1) fun c => r c * x c
abbrev Tab := Nat → Nat → Rat
def swapT (T : Tab) (p f : Nat) : Tab := fun k => if k = p then T f else if k = f then T p else T k
def scaleT (T : Tab) (p : Nat) : Tab := fun k c => if k = p then T p c / T p p else T k c
def elimT (T : Tab) (p : Nat) : Tab := fun k c => if k = p then T p c else T k c - T k p * T p c
def stageT (T : Tab) (p f : Nat) : Tab := elimT (scaleT (swapT T p f) p) p
theorem lin_scale {n : Nat} {r x : Nat → Rat} {a : Rat} (ha : a ≠ 0) : lin n (fun c => r c / a) x = 0 ↔ lin n r x = 0 := by
  have e : lin n (fun c => r c / a) x = a⁻¹ * lin n r x := by
    unfold lin; rw [← sm_mul]; exact sm_congr fun c _ => by grind
  rw [e]
  have : a⁻¹ ≠ 0 := by grind
  constructor <;> intro h <;> grind
theorem lin_sub {n : Nat} {r s x : Nat → Rat} {a : Rat} : lin n (fun c => r c - a * s c) x = lin n r x - a * lin n s x := by
  have e : lin n (fun c => r c - a * s c) x = sm (n + 1) (fun c => r c * x c) + sm (n + 1) (fun c => (-a) * (s c * x c)) := by
    unfold lin; rw [← sm_add]; exact sm_congr fun c _ => by grind
  rw [e, sm_mul]; unfold lin; grind
def Sol (n : Nat) (T : Tab) (x : Nat → Rat) : Prop := ∀ k, k < n → lin n (T k) x = 0
theorem sol_swap {n p f : Nat} {T : Tab} {x : Nat → Rat} (hp : p < n) (hf : f < n) : Sol n (swapT T p f) x ↔ Sol n T x := by
  constructor
  · intro h k hk
    by_cases h1 : k = p
    · have := h f hf
      unfold swapT at this
      by_cases h2 : f = p
      · rw [if_pos h2] at this; rw [h1, ← h2]; exact this
      · rw [if_neg h2, if_pos rfl] at this; rw [h1]; exact this
    · by_cases h2 : k = f
      · have := h p hp
        unfold swapT at this
        rw [if_pos rfl] at this; rw [h2]; exact this
      · have := h k hk
        unfold swapT at this
        rw [if_neg h1, if_neg h2] at this; exact this
  · intro h k hk
    unfold swapT
    split
    · exact h f hf
    · split
      · exact h p hp
      · exact h k hk
theorem sol_scale {n p : Nat} {T : Tab} {x : Nat → Rat} (hp : p < n) (h0 : T p p ≠ 0) : Sol n (scaleT T p) x ↔ Sol n T x := by
  constructor
  · intro h k hk
    have := h k hk
    by_cases h1 : k = p
    · subst h1
      have e : scaleT T k k = fun c => T k c / T k k := funext fun c => if_pos rfl
      rw [e] at this
      exact (lin_scale h0).mp this
    · have e : scaleT T p k = T k := funext fun c => if_neg h1
      rw [e] at this; exact this
  · intro h k hk
    have := h k hk
    by_cases h1 : k = p
    · subst h1
      have e : scaleT T k k = fun c => T k c / T k k := funext fun c => if_pos rfl
      rw [e]
      exact (lin_scale h0).mpr this
    · have e : scaleT T p k = T k := funext fun c => if_neg h1
      rw [e]; exact this
theorem sol_elim {n p : Nat} {T : Tab} {x : Nat → Rat} (hp : p < n) : Sol n (elimT T p) x ↔ Sol n T x := by
  have e1 : elimT T p p = T p := funext fun c => if_pos rfl
  have e2 : ∀ k, k ≠ p → elimT T p k = fun c => T k c - T k p * T p c := fun k hk => funext fun c => if_neg hk
  constructor
  · intro h k hk
    have hp' := h p hp
    rw [e1] at hp'
    by_cases h1 : k = p
    · rw [h1]; exact hp'
    · have := h k hk
      rw [e2 k h1, lin_sub, hp'] at this; grind
  · intro h k hk
    by_cases h1 : k = p
    · rw [h1, e1]; exact h p hp
    · rw [e2 k h1, lin_sub, h k hk, h p hp]; grind
/-- the first p columns are unit columns -/
def Unit (n : Nat) (T : Tab) (p : Nat) : Prop := ∀ c, c < p → ∀ k, k < n → T k c = if k = c then 1 else 0
/-- only nought solves the homogeneous system -/
def Ker (n : Nat) (T : Tab) : Prop := ∀ x : Nat → Rat, x n = 0 → Sol n T x → ∀ c, c < n → x c = 0
def kv (T : Tab) (p c : Nat) : Rat := if c < p then - T c p else if c = p then 1 else 0
theorem pivot {n p : Nat} {T : Tab} (hp : p < n) (u : Unit n T p) (hk : Ker n T) : ∃ f, p ≤ f ∧ f < n ∧ T f p ≠ 0 := by
  apply Classical.byContradiction
  intro no
  have no : ∀ k, p ≤ k → k < n → T k p = 0 := fun k h1 h2 => Classical.byContradiction fun h => no ⟨k, h1, h2, h⟩
  have h := hk (kv T p) (by unfold kv; rw [if_neg (by omega), if_neg (by omega)]) ?_ p hp
  · unfold kv at h; rw [if_neg (by omega), if_pos rfl] at h; exact absurd h (by decide)
  · intro k hkn
    have e : lin n (T k) (kv T p) = sm (n + 1) (fun c => if c < p then T k c * - T c p else 0) + sm (n + 1) (fun c => if c = p then T k p else 0) := by
      unfold lin
      rw [← sm_add]
      refine sm_congr fun c _ => ?_
      unfold kv
      by_cases h1 : c < p
      · rw [if_pos h1, if_pos h1, if_neg (by omega)]; grind
      · rw [if_neg h1, if_neg h1]
        by_cases h2 : c = p
        · rw [if_pos h2, if_pos h2, h2]; grind
        · rw [if_neg h2, if_neg h2]; grind
    rw [e, sm_one (k := p) (by omega) (fun c _ hc => if_neg hc), if_pos rfl]
    by_cases h1 : k < p
    · rw [sm_one (k := k) (by omega), if_pos h1, u k h1 k hkn, if_pos rfl]
      · grind
      · intro c _ hc
        split
        · rename_i h2
          rw [u c h2 k hkn, if_neg (fun h => hc h.symm)]; grind
        · rfl
    · rw [sm_zero, no k (by omega) hkn]
      · grind
      · intro c _
        split
        · rename_i h2
          rw [u c h2 k hkn, if_neg (by omega)]; grind
        · rfl
theorem sol_stage {n p f : Nat} {T : Tab} {x : Nat → Rat} (hp : p < n) (hf : f < n) (h0 : T f p ≠ 0) : Sol n (stageT T p f) x ↔ Sol n T x := by
  unfold stageT
  rw [sol_elim hp, sol_scale hp, sol_swap hp hf]
  show swapT T p f p p ≠ 0
  rw [show swapT T p f p = T f from if_pos rfl]; exact h0
theorem unit_stage {n p f : Nat} {T : Tab} (hp : p < n) (hf : f < n) (hpf : p ≤ f) (h0 : T f p ≠ 0) (u : Unit n T p) : Unit n (stageT T p f) (p + 1) := by
  have us : Unit n (swapT T p f) p := by
    intro c hc k hk
    unfold swapT
    split
    · rename_i h; rw [u c hc f hf, if_neg (by omega), if_neg (by omega)]
    · split
      · rename_i h h2; rw [u c hc p hp, if_neg (by omega), if_neg (by omega)]
      · exact u c hc k hk
  have ps : swapT T p f p p ≠ 0 := by rw [show swapT T p f p = T f from if_pos rfl]; exact h0
  unfold stageT
  generalize swapT T p f = S at us ps
  intro c hc k hk
  unfold elimT scaleT
  by_cases h1 : k = p
  · rw [if_pos h1, if_pos rfl]
    by_cases h2 : c = p
    · rw [h2, if_pos h1]; grind
    · rw [us c (by omega) p hp, if_neg (fun h => h2 h.symm), if_neg (by omega)]; grind
  · rw [if_neg h1, if_neg h1, if_neg h1, if_pos rfl]
    by_cases h2 : c = p
    · rw [h2, if_neg h1]; grind
    · rw [us c (by omega) p hp, us c (by omega) k hk, if_neg (show ¬ p = c from fun h => h2 h.symm)]
      grind
theorem ker_of {n : Nat} {S T : Tab} (h : ∀ x, Sol n S x ↔ Sol n T x) (k : Ker n T) : Ker n S := fun x hx hs => k x hx ((h x).mp hs)
/-- at the end: the last column solves -/
theorem unit_end {n : Nat} {T : Tab} (u : Unit n T n) {x : Nat → Rat} (hx : x n = -1) : Sol n T x ↔ ∀ k, k < n → x k = T k n := by
  have e : ∀ k, k < n → lin n (T k) x = x k - T k n := by
    intro k hk
    unfold lin
    rw [sm, hx, sm_one (k := k) hk, u k hk k hk, if_pos rfl]
    · grind
    · intro c hc h
      rw [u c hc k hk, if_neg (fun h' => h h'.symm)]; grind
  constructor
  · intro h k hk
    have := h k hk
    rw [e k hk] at this; grind
  · intro h k hk
    rw [e k hk, h k hk]; grind
end FW
set_option Elab.async false
set_option linter.all false
set_option maxRecDepth 100000
/-! DG1: how big the fractions of the table grow. -/
namespace FW
/-- one denominator for a row; all below B, but the last column below C -/
structure RowB (n B C : Nat) (r : Nat → Rat) : Prop where
  ex : ∃ d : Int, d ≠ 0 ∧ d.natAbs ≤ B ∧ (∀ c, c < n → ∃ z : Int, z.natAbs ≤ B ∧ r c * d = z) ∧ ∃ z : Int, z.natAbs ≤ C ∧ r n * d = z
theorem q_of {q : Rat} {z d : Int} (hd : d ≠ 0) (h : q * d = z) : q = Rat.divInt z d := by
  rw [Rat.divInt_eq_div]
  have d0 : (d : Rat) ≠ 0 := fun h' => hd (Rat.intCast_inj.mp (h'.trans Rat.intCast_zero.symm))
  grind
/-- a fraction by a top and a bottom -/
def FrB (C B : Nat) (q : Rat) : Prop := ∃ z d : Int, d ≠ 0 ∧ d.natAbs ≤ B ∧ z.natAbs ≤ C ∧ q * d = z
theorem FrB.num {B C : Nat} {q : Rat} (h : FrB C B q) : q.num.natAbs ≤ C ∧ q.den ≤ B := by
  obtain ⟨z, d, hd, hb, hz, e⟩ := h
  rw [q_of hd e, Rat.num_divInt, Rat.den_divInt, if_neg hd]
  constructor
  · have h1 : (d.sign * z).natAbs ≤ z.natAbs := by
      rw [Int.natAbs_mul, Int.natAbs_sign_of_ne_zero hd, Nat.one_mul]; exact Nat.le_refl _
    have h2 : (d.sign * z / ((d.gcd z : Nat) : Int)).natAbs ≤ (d.sign * z).natAbs := Int.natAbs_ediv_le_natAbs ..
    omega
  · exact Nat.le_trans (Nat.div_le_self _ _) hb
theorem RowB.frb {n B C : Nat} {r : Nat → Rat} (h : RowB n B C r) (hBC : B ≤ C) {c : Nat} (hc : c ≤ n) : FrB C B (r c) := by
  obtain ⟨d, hd, hb, hz, z, h1, h2⟩ := h.ex
  by_cases e : c = n
  · subst e; exact ⟨z, d, hd, hb, h1, h2⟩
  · obtain ⟨z, h1, h2⟩ := hz c (by omega)
    exact ⟨z, d, hd, hb, Nat.le_trans h1 hBC, h2⟩
theorem RowB.frb0 {n B C : Nat} {r : Nat → Rat} (h : RowB n B C r) {c : Nat} (hc : c < n) : FrB B B (r c) := by
  obtain ⟨d, hd, hb, hz, _⟩ := h.ex
  obtain ⟨z, h1, h2⟩ := hz c hc
  exact ⟨z, d, hd, hb, h1, h2⟩
theorem RowB.mono {n B C B' C' : Nat} {r : Nat → Rat} (h : RowB n B C r) (hB : B ≤ B') (hC : C ≤ C') : RowB n B' C' r := by
  obtain ⟨d, hd, hb, hz, z, h1, h2⟩ := h.ex
  exact ⟨d, hd, Nat.le_trans hb hB, fun c hc => (by obtain ⟨z, h1, h2⟩ := hz c hc; exact ⟨z, Nat.le_trans h1 hB, h2⟩), z, Nat.le_trans h1 hC, h2⟩
theorem RowB.scale {n B C : Nat} {r : Nat → Rat} {p : Nat} (hp : p < n) (h0 : r p ≠ 0) (h : RowB n B C r) : RowB n B C fun c => r c / r p := by
  obtain ⟨d, hd, hb, hz, z, h1, h2⟩ := h.ex
  obtain ⟨y, hy, ey⟩ := hz p hp
  have d0 : (d : Rat) ≠ 0 := fun h' => hd (Rat.intCast_inj.mp (h'.trans Rat.intCast_zero.symm))
  refine ⟨y, ?_, hy, fun c hc => ?_, z, h1, ?_⟩
  · intro h; subst h
    rw [Rat.intCast_zero] at ey
    grind
  · obtain ⟨z, h1, h2⟩ := hz c hc
    refine ⟨z, h1, ?_⟩
    rw [← ey, ← h2]
    grind
  · rw [← ey, ← h2]
    grind
theorem RowB.elim {n B C : Nat} {r s : Nat → Rat} {p : Nat} (hp : p < n) (hr : RowB n B C r) (hs : RowB n B C s) : RowB n (2 * (B * B)) (2 * (B * C)) fun c => r c - r p * s c := by
  obtain ⟨d, hd, hb, hz, zl, l1, l2⟩ := hr.ex
  obtain ⟨e, he, hb', hy, yl, m1, m2⟩ := hs.ex
  obtain ⟨w, hw, ew⟩ := hz p hp
  refine ⟨d * e, Int.mul_ne_zero hd he, ?_, fun c hc => ?_, zl * e - w * yl, ?_, ?_⟩
  · rw [Int.natAbs_mul]; have := Nat.mul_le_mul hb hb'; omega
  · obtain ⟨z, h1, h2⟩ := hz c hc
    obtain ⟨y, h3, h4⟩ := hy c hc
    refine ⟨z * e - w * y, ?_, ?_⟩
    · have a1 : (z * e).natAbs ≤ B * B := by rw [Int.natAbs_mul]; exact Nat.mul_le_mul h1 hb'
      have a2 : (w * y).natAbs ≤ B * B := by rw [Int.natAbs_mul]; exact Nat.mul_le_mul hw h3
      omega
    · rw [Rat.intCast_mul, Rat.intCast_sub, Rat.intCast_mul, Rat.intCast_mul, ← h2, ← h4, ← ew]
      grind
  · have a1 : (zl * e).natAbs ≤ B * C := by rw [Int.natAbs_mul, Nat.mul_comm]; exact Nat.mul_le_mul hb' l1
    have a2 : (w * yl).natAbs ≤ B * C := by rw [Int.natAbs_mul]; exact Nat.mul_le_mul hw m1
    omega
  · rw [Rat.intCast_mul, Rat.intCast_sub, Rat.intCast_mul, Rat.intCast_mul, ← l2, ← m2, ← ew]
    grind
theorem rows_scale {n B C p f : Nat} {T : Tab} (hp : p < n) (hf : f < n) (h0 : T f p ≠ 0) (h : ∀ k, k < n → RowB n B C (T k)) : ∀ k, k < n → RowB n B C (scaleT (swapT T p f) p k) := by
  have hs : ∀ k, k < n → RowB n B C (swapT T p f k) := by
    intro k hk; unfold swapT
    split
    · exact h f hf
    · split
      · exact h p hp
      · exact h k hk
  have ps : swapT T p f p p ≠ 0 := by rw [show swapT T p f p = T f from if_pos rfl]; exact h0
  generalize swapT T p f = S at hs ps
  intro k hk
  by_cases h1 : k = p
  · rw [show scaleT S p k = fun c => S p c / S p p from funext fun c => if_pos h1]
    exact (hs p hp).scale hp ps
  · rw [show scaleT S p k = S k from funext fun c => if_neg h1]
    exact hs k hk
theorem rows_stage {n B C p f : Nat} {T : Tab} (hp : p < n) (hf : f < n) (h0 : T f p ≠ 0) (hB : 0 < B) (h : ∀ k, k < n → RowB n B C (T k)) : ∀ k, k < n → RowB n (2 * (B * B)) (2 * (B * C)) (stageT T p f k) := by
  have hc := rows_scale hp hf h0 h
  unfold stageT
  generalize scaleT (swapT T p f) p = S at hc
  have hB2 : B ≤ 2 * (B * B) := by
    have := Nat.mul_le_mul_left B hB
    omega
  have hC2 : C ≤ 2 * (B * C) := by
    have := Nat.mul_le_mul_right C hB
    omega
  intro k hk
  by_cases h1 : k = p
  · rw [show elimT S p k = S p from funext fun c => if_pos h1]
    exact (hc p hp).mono hB2 hC2
  · rw [show elimT S p k = fun c => S k c - S k p * S p c from funext fun c => if_neg h1]
    exact (hc k hk).elim hp (hc p hp)
/-- the bounds of the stages -/
def Bs : Nat → Nat
  | 0 => 2 ^ 10
  | s + 1 => 2 * (Bs s * Bs s)
def Fs : Nat → Nat
  | 0 => 1
  | s + 1 => 2 * (Bs s * Fs s)
theorem Bs_le : ∀ {s t : Nat}, s ≤ t → Bs s ≤ Bs t := by
  intro s t h
  induction t with
  | zero => rw [show s = 0 by omega]; exact Nat.le_refl _
  | succ t ih =>
    by_cases e : s = t + 1
    · rw [e]; exact Nat.le_refl _
    · have h1 := ih (by omega)
      have h2 : 0 < Bs t := by
        have : ∀ t, 0 < Bs t := fun t => by
          induction t with
          | zero => decide
          | succ t ih => exact Nat.mul_pos (by decide) (Nat.mul_pos ih ih)
        exact this t
      have : Bs t ≤ Bs (t + 1) := by
        show Bs t ≤ 2 * (Bs t * Bs t)
        have := Nat.mul_le_mul_left (Bs t) h2
        omega
      omega
theorem Bs_pos : ∀ t, 0 < Bs t := fun t => Nat.lt_of_lt_of_le (by decide) (Bs_le (Nat.zero_le t))
theorem Fs_le : ∀ {s t : Nat}, s ≤ t → Fs s ≤ Fs t := by
  intro s t h
  induction t with
  | zero => rw [show s = 0 by omega]; exact Nat.le_refl _
  | succ t ih =>
    by_cases e : s = t + 1
    · rw [e]; exact Nat.le_refl _
    · have h1 := ih (by omega)
      have : Fs t ≤ Fs (t + 1) := by
        show Fs t ≤ 2 * (Bs t * Fs t)
        have := Nat.mul_le_mul_right (Fs t) (Bs_pos t)
        omega
      omega
theorem Bs5 : Bs 5 < 2 ^ 352 := by decide +kernel
theorem Fs5 : Fs 5 < 2 ^ 342 := by decide +kernel
end FW

set_option Elab.async false
set_option linter.all false
set_option maxRecDepth 100000
/-! DN0: flows, the comparison of levels. -/
namespace FW
open PySem
/-! ### sums over lists -/
def ls {α : Type} : List α → (α → Rat) → Rat
  | [], _ => 0
  | x :: r, f => f x + ls r f
section
variable {α β : Type} {f g : α → Rat}
theorem ls_congr : ∀ {xs : List α}, (∀ x, x ∈ xs → f x = g x) → ls xs f = ls xs g
  | [], _ => rfl
  | x :: r, h => by rw [ls, ls, h x List.mem_cons_self, ls_congr fun y hy => h y (List.mem_cons_of_mem _ hy)]
theorem ls_zero : ∀ {xs : List α}, (∀ x, x ∈ xs → f x = 0) → ls xs f = 0
  | [], _ => rfl
  | x :: r, h => by rw [ls, h x List.mem_cons_self, ls_zero fun y hy => h y (List.mem_cons_of_mem _ hy)]; grind
theorem ls_add : ∀ {xs : List α}, ls xs (fun x => f x + g x) = ls xs f + ls xs g
  | [] => by simp only [ls]; grind
  | x :: r => by rw [ls, ls, ls, ls_add]; grind
theorem ls_sub : ∀ {xs : List α}, ls xs (fun x => f x - g x) = ls xs f - ls xs g
  | [] => by simp only [ls]; grind
  | x :: r => by rw [ls, ls, ls, ls_sub]; grind
theorem ls_mul {a : Rat} : ∀ {xs : List α}, ls xs (fun x => a * f x) = a * ls xs f
  | [] => by simp only [ls]; grind
  | x :: r => by rw [ls, ls, ls_mul]; grind
theorem ls_append : ∀ {xs ys : List α}, ls (xs ++ ys) f = ls xs f + ls ys f
  | [], ys => by simp only [List.nil_append, ls]; grind
  | x :: r, ys => by rw [List.cons_append, ls, ls, ls_append]; grind
theorem ls_map {h : β → α} : ∀ {xs : List β}, ls (xs.map h) f = ls xs fun x => f (h x)
  | [] => rfl
  | x :: r => by rw [List.map_cons, ls, ls, ls_map]
theorem ls_comm {f : α → β → Rat} : ∀ {xs : List α} {ys : List β}, ls xs (fun x => ls ys (f x)) = ls ys fun y => ls xs fun x => f x y
  | [], ys => by
    rw [ls]; exact (ls_zero fun _ _ => rfl).symm
  | x :: r, ys => by
    rw [ls, ls_comm, ← ls_add]
    exact ls_congr fun _ _ => by rw [ls]
theorem ls_le : ∀ {xs : List α}, (∀ x, x ∈ xs → f x ≤ g x) → ls xs f ≤ ls xs g
  | [], _ => by simp only [ls]; grind
  | x :: r, h => by
    rw [ls, ls]
    have h1 := h x List.mem_cons_self
    have h2 := ls_le (xs := r) fun y hy => h y (List.mem_cons_of_mem _ hy)
    grind
theorem ls_nonneg {xs : List α} (h : ∀ x, x ∈ xs → 0 ≤ f x) : 0 ≤ ls xs f := by
  have := ls_le (f := fun _ => 0) (g := f) h
  rw [ls_zero (f := fun _ => (0 : Rat)) fun _ _ => rfl] at this
  exact this
theorem ls_all0 : ∀ {xs : List α}, (∀ x, x ∈ xs → 0 ≤ f x) → ls xs f ≤ 0 → ∀ x, x ∈ xs → f x = 0
  | [], _, _, x, hx => absurd hx List.not_mem_nil
  | a :: r, h, h0, x, hx => by
    rw [ls] at h0
    have h1 := h a List.mem_cons_self
    have h2 : 0 ≤ ls r f := ls_nonneg fun y hy => h y (List.mem_cons_of_mem _ hy)
    rcases List.mem_cons.mp hx with rfl | hx
    · grind
    · exact ls_all0 (fun y hy => h y (List.mem_cons_of_mem _ hy)) (by grind) x hx
theorem ls_pick [DecidableEq α] {a : α} : ∀ {xs : List α}, xs.Nodup → ls xs (fun x => if a = x then f x else 0) = if a ∈ xs then f a else 0
  | [], _ => by simp [ls]
  | x :: r, h => by
    obtain ⟨h1, h2⟩ := List.nodup_cons.mp h
    rw [ls, ls_pick h2]
    by_cases e : a = x
    · subst e
      rw [if_pos rfl, if_neg h1, if_pos List.mem_cons_self]; grind
    · rw [if_neg e]
      by_cases hm : a ∈ r
      · rw [if_pos hm, if_pos (List.mem_cons_of_mem _ hm)]; grind
      · rw [if_neg hm, if_neg (fun h => (List.mem_cons.mp h).elim e hm)]; grind
end
/-! ### what goes out -/
abbrev Lv := Str → Rat
/-- what goes out at a place, less what comes in -/
def out (P : List Pi) (φ : Pi → Rat) (n : Str) : Rat := ls P fun p => (if p.a = n then φ p else 0) - (if p.b = n then φ p else 0)
theorem out_congr {P : List Pi} {φ ψ : Pi → Rat} {n : Str} (h : ∀ p, p ∈ P → φ p = ψ p) : out P φ n = out P ψ n :=
  ls_congr fun p hp => by rw [h p hp]
theorem out_sub {P : List Pi} {φ ψ : Pi → Rat} {n : Str} : out P (fun p => φ p - ψ p) n = out P φ n - out P ψ n := by
  unfold out; rw [← ls_sub]; exact ls_congr fun p _ => by split <;> split <;> grind
theorem out_add {P : List Pi} {φ ψ : Pi → Rat} {n : Str} : out P (fun p => φ p + ψ p) n = out P φ n + out P ψ n := by
  unfold out; rw [← ls_add]; exact ls_congr fun p _ => by split <;> split <;> grind
theorem out_mul {P : List Pi} {φ : Pi → Rat} {a : Rat} {n : Str} : out P (fun p => a * φ p) n = a * out P φ n := by
  unfold out; rw [← ls_mul]; exact ls_congr fun p _ => by split <;> split <;> grind
theorem energy {P : List Pi} {φ : Pi → Rat} {N : List Str} (hN : N.Nodup) (he : ∀ p, p ∈ P → p.a ∈ N ∧ p.b ∈ N) (y : Lv) : ls N (fun n => y n * out P φ n) = ls P fun p => φ p * (y p.a - y p.b) := by
  unfold out
  have e : ls N (fun n => y n * ls P fun p => (if p.a = n then φ p else 0) - (if p.b = n then φ p else 0)) = ls N (fun n => ls P fun p => y n * ((if p.a = n then φ p else 0) - (if p.b = n then φ p else 0))) :=
    ls_congr fun n _ => ls_mul.symm
  rw [e, ls_comm]
  refine ls_congr fun p hp => ?_
  obtain ⟨h1, h2⟩ := he p hp
  have e2 : ls N (fun n => y n * ((if p.a = n then φ p else 0) - (if p.b = n then φ p else 0))) = ls N (fun n => if p.a = n then y n * φ p else 0) - ls N (fun n => if p.b = n then y n * φ p else 0) := by
    rw [← ls_sub]; exact ls_congr fun n _ => by split <;> split <;> grind
  rw [e2, ls_pick hN, ls_pick hN, if_pos h1, if_pos h2]; grind
/-- flows that rise with the drop; plain pipes in proportion -/
structure Mono (P : List Pi) (ψ : Pi → Rat → Rat) : Prop where
  up : ∀ p, p ∈ P → ∀ d e, d ≤ e → ψ p d ≤ ψ p e
  st : ∀ p, p ∈ P → p.f = "" → ∀ d e, ψ p d = ψ p e → d = e
/-- junctions hang on tanks -/
def Hang (T J : List Str) (P : List Pi) : Prop := ∀ Z : Str → Prop, (∀ t, t ∈ T → Z t) → (∀ p, p ∈ P → p.f = "" → (Z p.a ↔ Z p.b)) → ∀ j, j ∈ J → Z j
def dr (x : Lv) (p : Pi) : Rat := x p.a - x p.b
def outW (P : List Pi) (ψ : Pi → Rat → Rat) (x : Lv) (n : Str) : Rat := out P (fun p => ψ p (dr x p)) n
structure Net (T J : List Str) (P : List Pi) : Prop where
  nd : (T ++ J).Nodup
  ends : ∀ p, p ∈ P → p.a ∈ T ++ J ∧ p.b ∈ T ++ J
  hang : Hang T J P
def pos (r : Rat) : Rat := if 0 ≤ r then r else 0
theorem mono_term {P : List Pi} {ψ : Pi → Rat → Rat} (m : Mono P ψ) {p : Pi} (hp : p ∈ P) (d e : Rat) : 0 ≤ (ψ p d - ψ p e) * (d - e) := by
  rcases Rat.le_total (a := d) (b := e) with h | h
  · have := m.up p hp d e h
    have h1 : 0 ≤ (ψ p e - ψ p d) * (e - d) := Rat.mul_nonneg (by grind) (by grind)
    grind
  · have := m.up p hp e d h
    have h1 : 0 ≤ (ψ p d - ψ p e) * (d - e) := Rat.mul_nonneg (by grind) (by grind)
    grind
/-- .. by the positive parts of a difference, too -/
theorem mono_pos {P : List Pi} {ψ : Pi → Rat → Rat} (m : Mono P ψ) {p : Pi} (hp : p ∈ P) (x x' : Lv) : 0 ≤ (ψ p (dr x p) - ψ p (dr x' p)) * (pos (x p.a - x' p.a) - pos (x p.b - x' p.b)) := by
  unfold dr pos
  rcases Rat.le_total (a := x p.a - x p.b) (b := x' p.a - x' p.b) with h | h
  · have := m.up p hp _ _ h
    have h1 : 0 ≤ (ψ p (x' p.a - x' p.b) - ψ p (x p.a - x p.b)) * (pos (x p.b - x' p.b) - pos (x p.a - x' p.a)) := Rat.mul_nonneg (by grind) (by unfold pos; split <;> split <;> grind)
    unfold pos at h1
    grind
  · have := m.up p hp _ _ h
    have h1 : 0 ≤ (ψ p (x p.a - x p.b) - ψ p (x' p.a - x' p.b)) * (pos (x p.a - x' p.a) - pos (x p.b - x' p.b)) := Rat.mul_nonneg (by grind) (by unfold pos; split <;> split <;> grind)
    unfold pos at h1
    exact h1
theorem comp {T J : List Str} {P : List Pi} (N : Net T J P) {ψ : Pi → Rat → Rat} (m : Mono P ψ) {x x' : Lv} (ht : ∀ t, t ∈ T → x t ≤ x' t) (hj : ∀ j, j ∈ J → outW P ψ x j ≤ outW P ψ x' j) : ∀ n, n ∈ T ++ J → x n ≤ x' n := by
  have E := energy (φ := fun p => ψ p (dr x p) - ψ p (dr x' p)) N.nd N.ends (fun n => pos (x n - x' n))
  have L : ls (T ++ J) (fun n => pos (x n - x' n) * out P (fun p => ψ p (dr x p) - ψ p (dr x' p)) n) ≤ 0 := by
    have := ls_le (xs := T ++ J) (f := fun n => pos (x n - x' n) * out P (fun p => ψ p (dr x p) - ψ p (dr x' p)) n) (g := fun _ => 0) ?_
    · rw [ls_zero (f := fun _ => (0 : Rat)) fun _ _ => rfl] at this; exact this
    · intro n hn
      rcases List.mem_append.mp hn with h | h
      · have h1 := ht n h
        have e : pos (x n - x' n) = 0 := by unfold pos; split <;> grind
        rw [e]; grind
      · have h1 := hj n h
        unfold outW at h1
        rw [out_sub]
        have h2 : 0 ≤ pos (x n - x' n) := by unfold pos; split <;> grind
        have := Rat.mul_nonneg h2 (show 0 ≤ out P (fun p => ψ p (dr x' p)) n - out P (fun p => ψ p (dr x p)) n by grind)
        grind
  rw [E] at L
  have Z := ls_all0 (fun p hp => mono_pos m hp x x') L
  have key : ∀ p, p ∈ P → p.f = "" → pos (x p.a - x' p.a) = pos (x p.b - x' p.b) := by
    intro p hp hf
    have z := Z p hp
    rcases Rat.mul_eq_zero.mp z with h | h
    · have := m.st p hp hf _ _ (show ψ p (dr x p) = ψ p (dr x' p) by grind)
      unfold dr at this
      rw [show x p.a - x' p.a = x p.b - x' p.b by grind]
    · grind
  have all : ∀ j, j ∈ J → pos (x j - x' j) = 0 := by
    refine N.hang (fun n => pos (x n - x' n) = 0) (fun t h => ?_) fun p hp hf => by rw [key p hp hf]
    have h1 := ht t h
    unfold pos; split <;> grind
  intro n hn
  rcases List.mem_append.mp hn with h | h
  · exact ht n h
  · have := all n h
    unfold pos at this
    split at this <;> grind
theorem uniq {T J : List Str} {P : List Pi} (N : Net T J P) {ψ : Pi → Rat → Rat} (m : Mono P ψ) {x x' : Lv} (ht : ∀ t, t ∈ T → x t = x' t) (hj : ∀ j, j ∈ J → outW P ψ x j = outW P ψ x' j) : ∀ n, n ∈ T ++ J → x n = x' n := by
  intro n hn
  have h1 := comp (x := x) (x' := x') N m (fun t h => by rw [ht t h]; exact Rat.le_refl) (fun j h => by rw [hj j h]; exact Rat.le_refl) n hn
  have h2 := comp (x := x') (x' := x) N m (fun t h => by rw [ht t h]; exact Rat.le_refl) (fun j h => by rw [hj j h]; exact Rat.le_refl) n hn
  exact Rat.le_antisymm h1 h2
end FW

set_option Elab.async false
set_option linter.all false
set_option maxRecDepth 100000
/-! DN1: the linear problem. -/
namespace FW
open PySem
/-! ### the linear problem: some flaps open, the others shut -/
theorem gauss_go {n : Nat} : ∀ (m p : Nat) (T : Tab), p + m = n → Unit n T p → Ker n T → ∃ U : Tab, Unit n U n ∧ ∀ x, Sol n U x ↔ Sol n T x
  | 0, p, T, h, u, _ => ⟨T, by rw [show n = p by omega] at u ⊢; exact u, fun _ => Iff.rfl⟩
  | m + 1, p, T, h, u, k => by
    obtain ⟨f, h1, h2, h3⟩ := pivot (by omega) u k
    have e : ∀ x, Sol n (stageT T p f) x ↔ Sol n T x := fun x => sol_stage (by omega) h2 h3
    obtain ⟨U, u1, u2⟩ := gauss_go m (p + 1) (stageT T p f) (by omega) (unit_stage (by omega) h2 h1 h3 u) (ker_of e k)
    exact ⟨U, u1, fun x => (u2 x).trans (e x)⟩
theorem gauss {n : Nat} {T : Tab} (k : Ker n T) : ∃ x : Nat → Rat, x n = -1 ∧ Sol n T x := by
  obtain ⟨U, u1, u2⟩ := gauss_go n 0 T (by omega) (fun c hc => by omega) k
  refine ⟨fun c => if c = n then -1 else U c n, by simp, (u2 _).mp ((unit_end u1 (by simp)).mpr fun k hk => ?_)⟩
  simp only [show ¬ k = n by omega, if_false]
def gL (S : Lot) (p : Pi) : Rat := if goesB p S = true then (p.w : Rat) else 0
def psiL (S : Lot) (p : Pi) (d : Rat) : Rat := gL S p * d
theorem gL_nn {S : Lot} {p : Pi} (h : 1 ≤ p.w) : 0 ≤ gL S p := by
  unfold gL; split
  · exact Rat.intCast_nonneg.mpr (by omega)
  · exact Rat.le_refl
theorem gL_plain {S : Lot} {p : Pi} (h : 1 ≤ p.w) (hf : p.f = "") : gL S p ≠ 0 := by
  unfold gL goesB isFlap
  rw [if_pos (by simp [hf])]
  intro h0
  have := Rat.intCast_inj.mp (h0.trans Rat.intCast_zero.symm)
  omega
theorem monoL {P : List Pi} {S : Lot} (hw : ∀ p, p ∈ P → 1 ≤ p.w) : Mono P (psiL S) :=
  ⟨fun p hp d e h => Rat.mul_le_mul_of_nonneg_left h (gL_nn (hw p hp)), fun p hp hf d e h => by
    have h0 := gL_plain (S := S) (hw p hp) hf
    unfold psiL at h
    have : gL S p * (d - e) = 0 := by grind
    rcases Rat.mul_eq_zero.mp this with h1 | h1
    · exact absurd h1 h0
    · grind⟩
def dl (j n : Str) : Rat := if n = j then 1 else 0
def tx (T : List Str) (τ : Str → Int) (n : Str) : Rat := if n ∈ T then (τ n : Rat) else 0
def jn (J : List Str) (c : Nat) : Str := J.getD c ""
/-- the table of the system of equations -/
def TT (T J : List Str) (P : List Pi) (S : Lot) (τ θ : Str → Int) : Tab := fun k c =>
  if c < J.length then out P (fun p => gL S p * (dl (jn J c) p.a - dl (jn J c) p.b)) (jn J k)
  else -(θ (jn J k) : Rat) - out P (fun p => gL S p * (tx T τ p.a - tx T τ p.b)) (jn J k)
def ext (T J : List Str) (τ : Str → Int) (x : Nat → Rat) : Lv := fun n => sm J.length (fun c => dl (jn J c) n * x c) + tx T τ n
theorem sm_out {P : List Pi} {φ : Nat → Pi → Rat} {x : Nat → Rat} {k : Str} : ∀ {n : Nat}, sm n (fun c => out P (φ c) k * x c) = out P (fun p => sm n fun c => φ c p * x c) k
  | 0 => by
    simp only [sm]
    unfold out
    exact (ls_zero fun p _ => by split <;> split <;> grind).symm
  | n + 1 => by
    have e : (fun p => sm (n + 1) fun c => φ c p * x c) = fun p => (sm n fun c => φ c p * x c) + x n * φ n p := funext fun p => by rw [sm]; grind
    rw [sm, sm_out, e, out_add, out_mul]; grind
theorem lin_TT {T J : List Str} {P : List Pi} {S : Lot} {τ θ : Str → Int} {x : Nat → Rat} {k : Nat} (hx : x J.length = -1) :
    lin J.length (TT T J P S τ θ k) x = outW P (psiL S) (ext T J τ x) (jn J k) + θ (jn J k) := by
  unfold lin
  rw [sm, hx]
  have e1 : sm J.length (fun c => TT T J P S τ θ k c * x c) = sm J.length (fun c => out P (fun p => gL S p * (dl (jn J c) p.a - dl (jn J c) p.b)) (jn J k) * x c) :=
    sm_congr fun c hc => by unfold TT; rw [if_pos hc]
  have e2 : TT T J P S τ θ k J.length = -(θ (jn J k) : Rat) - out P (fun p => gL S p * (tx T τ p.a - tx T τ p.b)) (jn J k) := by unfold TT; rw [if_neg (by omega)]
  rw [e1, e2, sm_out]
  have e3 : outW P (psiL S) (ext T J τ x) (jn J k) = out P (fun p => (sm J.length fun c => gL S p * (dl (jn J c) p.a - dl (jn J c) p.b) * x c) + gL S p * (tx T τ p.a - tx T τ p.b)) (jn J k) := by
    unfold outW
    refine out_congr fun p _ => ?_
    unfold psiL dr ext
    have e4 : (sm J.length fun c => gL S p * (dl (jn J c) p.a - dl (jn J c) p.b) * x c) = gL S p * sm J.length (fun c => dl (jn J c) p.a * x c) + (-gL S p) * sm J.length (fun c => dl (jn J c) p.b * x c) := by
      rw [← sm_mul, ← sm_mul, ← sm_add]
      exact sm_congr fun c _ => by grind
    rw [e4]; grind
  rw [e3, out_add]; grind
theorem jn_mem {J : List Str} {k : Nat} (h : k < J.length) : jn J k ∈ J := by
  unfold jn
  rw [List.getD_eq_getElem?_getD, List.getElem?_eq_getElem h]
  exact List.getElem_mem h
theorem jn_of {J : List Str} {j : Str} (h : j ∈ J) : ∃ k, k < J.length ∧ jn J k = j := by
  obtain ⟨k, hk, e⟩ := List.getElem_of_mem h
  exact ⟨k, hk, by unfold jn; rw [List.getD_eq_getElem?_getD, List.getElem?_eq_getElem hk, e]; rfl⟩
theorem jn_inj {J : List Str} (nd : J.Nodup) {c k : Nat} (hc : c < J.length) (hk : k < J.length) (h : jn J c = jn J k) : c = k := by
  unfold jn at h
  rw [List.getD_eq_getElem?_getD, List.getElem?_eq_getElem hc, List.getD_eq_getElem?_getD, List.getElem?_eq_getElem hk] at h
  exact (List.getElem_inj nd).mp h
theorem ext_t {T J : List Str} {τ : Str → Int} {x : Nat → Rat} (nd : (T ++ J).Nodup) {t : Str} (ht : t ∈ T) : ext T J τ x t = τ t := by
  unfold ext
  rw [sm_zero, show tx T τ t = τ t from if_pos ht]
  · grind
  · intro c hc
    have := (List.nodup_append.mp nd).2.2 t ht _ (jn_mem hc)
    rw [show dl (jn J c) t = 0 from if_neg this]; grind
theorem ext_j {T J : List Str} {τ : Str → Int} {x : Nat → Rat} (nd : (T ++ J).Nodup) {k : Nat} (hk : k < J.length) : ext T J τ x (jn J k) = x k := by
  unfold ext
  have nt : ¬ jn J k ∈ T := fun h => (List.nodup_append.mp nd).2.2 _ h _ (jn_mem hk) rfl
  rw [sm_one (k := k) hk, show tx T τ (jn J k) = 0 from if_neg nt, show dl (jn J k) (jn J k) = 1 from if_pos rfl]
  · grind
  · intro c hc hne
    rw [show dl (jn J c) (jn J k) = 0 from if_neg fun h => hne (jn_inj (List.nodup_append.mp nd).2.1 hk hc h).symm]; grind
/-- levels by which it runs, some flaps open -/
structure RunL (T J : List Str) (P : List Pi) (S : Lot) (τ θ : Str → Int) (x : Lv) : Prop where
  t : ∀ n, n ∈ T → x n = τ n
  j : ∀ n, n ∈ J → outW P (psiL S) x n = -θ n
theorem sol_run {T J : List Str} {P : List Pi} {S : Lot} {τ θ : Str → Int} {x : Nat → Rat} (N : Net T J P) (hx : x J.length = -1) (s : Sol J.length (TT T J P S τ θ) x) : RunL T J P S τ θ (ext T J τ x) := by
  refine ⟨fun n hn => ext_t N.nd hn, fun n hn => ?_⟩
  obtain ⟨k, hk, rfl⟩ := jn_of hn
  have := s k hk
  rw [lin_TT hx] at this
  grind
theorem ker_TT {T J : List Str} {P : List Pi} {S : Lot} {τ θ : Str → Int} (N : Net T J P) (hw : ∀ p, p ∈ P → 1 ≤ p.w) : Ker J.length (TT T J P S τ θ) := by
  intro x hx s c hc
  -- with x n = 0 the last column does not matter
  have s0 : RunL T J P S (fun _ => 0) (fun _ => 0) (ext T J (fun _ => 0) x) := by
    refine ⟨fun n hn => ext_t N.nd hn, fun n hn => ?_⟩
    obtain ⟨k, hk, rfl⟩ := jn_of hn
    have h1 := lin_TT (T := T) (J := J) (P := P) (S := S) (τ := fun _ => 0) (θ := fun _ => 0) (x := fun c => if c = J.length then -1 else x c) (k := k) (by simp)
    have h2 := s k hk
    have e : lin J.length (TT T J P S (fun _ => 0) (fun _ => 0) k) (fun c => if c = J.length then -1 else x c) = lin J.length (TT T J P S τ θ k) x := by
      unfold lin
      rw [sm, sm, hx]
      have e1 : TT T J P S (fun _ => 0) (fun _ => 0) k J.length = 0 := by
        unfold TT
        rw [if_neg (by omega)]
        have : out P (fun p => gL S p * (tx T (fun _ => 0) p.a - tx T (fun _ => 0) p.b)) (jn J k) = 0 := by
          unfold out
          refine ls_zero fun p _ => ?_
          have z : ∀ n, tx T (fun _ => 0) n = 0 := fun n => by unfold tx; split <;> rfl
          simp only [z]; split <;> split <;> grind
        rw [this, Rat.intCast_zero]; grind
      rw [e1, sm_congr (g := fun c => TT T J P S τ θ k c * x c)]
      · simp only [if_true]; grind
      · intro c hc
        simp only [show ¬ c = J.length by omega, if_false]
        unfold TT
        rw [if_pos hc, if_pos hc]
    rw [e, h2] at h1
    have e3 : ext T J (fun _ => 0) (fun c => if c = J.length then -1 else x c) = ext T J (fun _ => 0) x := by
      funext n; unfold ext
      rw [sm_congr (g := fun c => dl (jn J c) n * x c)]
      intro c hc; simp only [show ¬ c = J.length by omega, if_false]
    rw [e3] at h1
    rw [Rat.intCast_zero] at h1 ⊢
    grind
  have := uniq N (monoL (S := S) hw) (x := ext T J (fun _ => 0) x) (x' := fun _ => 0) (fun t ht => s0.t t ht) (fun j hj => by
    rw [s0.j j hj]
    unfold outW out
    rw [ls_zero]
    · rw [Rat.intCast_zero]; grind
    · intro p _
      unfold psiL dr
      split <;> split <;> grind) (jn J c) (List.mem_append_right _ (jn_mem hc))
  rw [ext_j N.nd hc] at this
  exact this
theorem runL_ex {T J : List Str} {P : List Pi} (N : Net T J P) (hw : ∀ p, p ∈ P → 1 ≤ p.w) (S : Lot) (τ θ : Str → Int) : ∃ x, RunL T J P S τ θ x := by
  obtain ⟨x, h1, h2⟩ := gauss (ker_TT (S := S) (τ := τ) (θ := θ) N hw)
  exact ⟨_, sol_run N h1 h2⟩
theorem runL_uniq {T J : List Str} {P : List Pi} {S : Lot} {τ θ : Str → Int} {x x' : Lv} (N : Net T J P) (hw : ∀ p, p ∈ P → 1 ≤ p.w) (r : RunL T J P S τ θ x) (r' : RunL T J P S τ θ x') : ∀ n, n ∈ T ++ J → x n = x' n :=
  uniq N (monoL (S := S) hw) (fun t h => by rw [r.t t h, r'.t t h]) fun j h => by rw [r.j j h, r'.j j h]
/-! ### flaps that swing by themselves -/
def psiN (p : Pi) (d : Rat) : Rat := if p.f = "" then p.w * d else if p.f = ">" then (if 0 < d then p.w * d else 0) else (if d < 0 then p.w * d else 0)
theorem w_pos {p : Pi} (h : 1 ≤ p.w) : (0 : Rat) < p.w := by
  have := Rat.intCast_lt_intCast.mpr (show (0 : Int) < p.w by omega)
  rw [Rat.intCast_zero] at this; exact this
theorem monoN {P : List Pi} (hw : ∀ p, p ∈ P → 1 ≤ p.w) : Mono P psiN := by
  refine ⟨fun p hp d e h => ?_, fun p hp hf d e h => ?_⟩
  · have w0 := w_pos (hw p hp)
    have h1 := Rat.mul_le_mul_of_nonneg_left h (show (0 : Rat) ≤ p.w by grind)
    unfold psiN
    split
    · exact h1
    · split
      · split <;> split
        · exact h1
        · grind
        · rename_i h2 _ h3 
          exact Rat.mul_nonneg (by grind) (by grind)
        · exact Rat.le_refl
      · split <;> split
        · exact h1
        · rename_i h2 _ h3
          have := Rat.mul_nonneg (show (0 : Rat) ≤ p.w by grind) (show 0 ≤ -d by grind)
          grind
        · grind
        · exact Rat.le_refl
  · have w0 := w_pos (hw p hp)
    unfold psiN at h
    rw [if_pos hf, if_pos hf] at h
    have : (p.w : Rat) * (d - e) = 0 := by grind
    rcases Rat.mul_eq_zero.mp this with h1 | h1 <;> grind
/-- levels by which it runs -/
structure Run (T J : List Str) (P : List Pi) (τ θ : Str → Int) (x : Lv) : Prop where
  t : ∀ n, n ∈ T → x n = τ n
  j : ∀ n, n ∈ J → outW P psiN x n = -θ n
theorem run_uniq {T J : List Str} {P : List Pi} {τ θ : Str → Int} {x x' : Lv} (N : Net T J P) (hw : ∀ p, p ∈ P → 1 ≤ p.w) (r : Run T J P τ θ x) (r' : Run T J P τ θ x') : ∀ n, n ∈ T ++ J → x n = x' n :=
  uniq N (monoN hw) (fun t h => by rw [r.t t h, r'.t t h]) fun j h => by rw [r.j j h, r'.j j h]
end FW

set_option Elab.async false
set_option linter.all false
set_option maxRecDepth 100000
/-! DN2: there are levels by which it runs, a lot of flaps tells them. -/
namespace FW
open PySem
/-! ### there are levels by which it runs -/
theorem out_mid {A B : List Pi} {f : Pi} {φ : Pi → Rat} {n : Str} : out (A ++ f :: B) φ n = out (A ++ B) φ n + ((if f.a = n then φ f else 0) - (if f.b = n then φ f else 0)) := by
  unfold out; rw [ls_append, ls_append, ls]; grind
theorem net_shut {T J : List Str} {A B : List Pi} {f : Pi} (hf : isFlap f = true) (N : Net T J (A ++ f :: B)) : Net T J (A ++ B) := by
  refine ⟨N.nd, fun p hp => N.ends p ?_, fun Z z1 z2 => N.hang Z z1 fun p hp e => z2 p ?_ e⟩
  · rcases List.mem_append.mp hp with h | h
    · exact List.mem_append_left _ h
    · exact List.mem_append_right _ (List.mem_cons_of_mem _ h)
  · rcases List.mem_append.mp hp with h | h
    · exact List.mem_append_left _ h
    · rcases List.mem_cons.mp h with h | h
      · subst h; simp [isFlap, e] at hf
      · exact List.mem_append_right _ h
def opened (f : Pi) : Pi := { f with f := "" }
theorem net_open {T J : List Str} {A B : List Pi} {f : Pi} (hf : isFlap f = true) (N : Net T J (A ++ f :: B)) : Net T J (A ++ opened f :: B) := by
  have s := net_shut hf N
  refine ⟨N.nd, fun p hp => ?_, fun Z z1 z2 => s.hang Z z1 fun p hp e => z2 p ?_ e⟩
  · rcases List.mem_append.mp hp with h | h
    · exact N.ends p (List.mem_append_left _ h)
    · rcases List.mem_cons.mp h with h | h
      · subst h; exact N.ends f (List.mem_append_right _ List.mem_cons_self)
      · exact N.ends p (List.mem_append_right _ (List.mem_cons_of_mem _ h))
  · rcases List.mem_append.mp hp with h | h
    · exact List.mem_append_left _ h
    · exact List.mem_append_right _ (List.mem_cons_of_mem _ h)
theorem psiN_opened {f : Pi} {d : Rat} : psiN (opened f) d = f.w * d := by unfold psiN opened; rw [if_pos rfl]
theorem flap_len {A B : List Pi} {f : Pi} : ((A ++ f :: B).filter isFlap).length = ((A ++ B).filter isFlap).length + (if isFlap f then 1 else 0) := by
  rw [List.filter_append, List.filter_append, List.filter_cons, List.length_append, List.length_append]
  split
  · rw [List.length_cons]; omega
  · omega
/-- the two ways of a flap cannot both fail -/
theorem swing {T J : List Str} {A B : List Pi} {f : Pi} {τ θ : Str → Int} {x0 x1 : Lv} (hf : isFlap f = true) (N : Net T J (A ++ f :: B)) (hw : ∀ p, p ∈ A ++ f :: B → 1 ≤ p.w)
    (r0 : Run T J (A ++ B) τ θ x0) (r1 : Run T J (A ++ opened f :: B) τ θ x1) : 0 ≤ -((x1 f.a - x1 f.b) * ((x1 f.a - x0 f.a) - (x1 f.b - x0 f.b))) := by
  have s := net_shut hf N
  have hw0 : ∀ p, p ∈ A ++ B → 1 ≤ p.w := fun p hp => hw p (by
    rcases List.mem_append.mp hp with h | h
    · exact List.mem_append_left _ h
    · exact List.mem_append_right _ (List.mem_cons_of_mem _ h))
  obtain ⟨fa, fb⟩ := N.ends f (List.mem_append_right _ List.mem_cons_self)
  have E := energy (P := A ++ B) (φ := fun p => psiN p (dr x1 p) - psiN p (dr x0 p)) N.nd s.ends (fun n => x1 n - x0 n)
  have R : 0 ≤ ls (A ++ B) (fun p => (psiN p (dr x1 p) - psiN p (dr x0 p)) * (x1 p.a - x0 p.a - (x1 p.b - x0 p.b))) := ls_nonneg fun p hp => by
    have := mono_term (monoN hw0) hp (dr x1 p) (dr x0 p)
    unfold dr at this ⊢
    grind
  rw [← E] at R
  have c : ∀ n, n ∈ T ++ J → (x1 n - x0 n) * out (A ++ B) (fun p => psiN p (dr x1 p) - psiN p (dr x0 p)) n = (if f.a = n then -(f.w * (x1 f.a - x1 f.b) * (x1 n - x0 n)) else 0) - (if f.b = n then -(f.w * (x1 f.a - x1 f.b) * (x1 n - x0 n)) else 0) := by
    intro n hn
    rcases List.mem_append.mp hn with h | h
    · rw [r1.t n h, r0.t n h]
      split <;> split <;> grind
    · have h0 := r0.j n h
      have h1 := r1.j n h
      unfold outW at h0 h1
      rw [out_mid, psiN_opened] at h1
      rw [out_sub, h0]
      have e : dr x1 (opened f) = x1 f.a - x1 f.b := rfl
      rw [e] at h1
      have e2 : (opened f).a = f.a := rfl
      have e3 : (opened f).b = f.b := rfl
      rw [e2, e3] at h1
      by_cases g1 : f.a = n <;> by_cases g2 : f.b = n
      · rw [if_pos g1, if_pos g2] at h1 ⊢; grind
      · rw [if_pos g1, if_neg g2] at h1 ⊢; grind
      · rw [if_neg g1, if_pos g2] at h1 ⊢; grind
      · rw [if_neg g1, if_neg g2] at h1 ⊢; grind
  rw [ls_congr c, ls_sub, ls_pick N.nd, ls_pick N.nd, if_pos fa, if_pos fb] at R
  have w0 := w_pos (hw f (List.mem_append_right _ List.mem_cons_self))
  have R2 : 0 ≤ (f.w : Rat) * (-((x1 f.a - x1 f.b) * ((x1 f.a - x0 f.a) - (x1 f.b - x0 f.b)))) := by grind
  apply Classical.byContradiction
  intro no
  have := Rat.mul_pos w0 (show 0 < -(-((x1 f.a - x1 f.b) * ((x1 f.a - x0 f.a) - (x1 f.b - x0 f.b)))) by grind)
  grind
theorem run_app {T J : List Str} {A B : List Pi} {f g : Pi} {τ θ : Str → Int} {x : Lv} (ha : g.a = f.a) (hb : g.b = f.b) (e : psiN f (dr x f) = psiN g (dr x g)) (r : Run T J (A ++ g :: B) τ θ x) : Run T J (A ++ f :: B) τ θ x := by
  refine ⟨r.t, fun n hn => ?_⟩
  have h := r.j n hn
  unfold outW at h ⊢
  rw [out_mid] at h ⊢
  rw [e, ← ha, ← hb]; exact h
theorem run_app0 {T J : List Str} {A B : List Pi} {f : Pi} {τ θ : Str → Int} {x : Lv} (e : psiN f (dr x f) = 0) (r : Run T J (A ++ B) τ θ x) : Run T J (A ++ f :: B) τ θ x := by
  refine ⟨r.t, fun n hn => ?_⟩
  have h := r.j n hn
  unfold outW at h ⊢
  rw [out_mid, e, h]; split <;> split <;> grind
theorem run_ex {T J : List Str} {τ θ : Str → Int} : ∀ (k : Nat) (P : List Pi), (P.filter isFlap).length = k → Net T J P → (∀ p, p ∈ P → 1 ≤ p.w) → ∃ x, Run T J P τ θ x
  | 0, P, h, N, hw => by
    obtain ⟨x, r⟩ := runL_ex N hw [] τ θ
    refine ⟨x, r.t, fun j hj => ?_⟩
    rw [← r.j j hj]
    refine out_congr fun p hp => ?_
    have hf : isFlap p = false := by
      cases e : isFlap p with
      | false => rfl
      | true =>
        have := List.mem_filter.mpr ⟨hp, e⟩
        rw [List.eq_nil_of_length_eq_zero h] at this
        exact absurd this List.not_mem_nil
    have hf' : p.f = "" := by simpa [isFlap] using hf
    unfold psiN psiL gL goesB
    rw [if_pos hf', if_pos (by rw [hf]; rfl)]
  | k + 1, P, h, N, hw => by
    obtain ⟨f, hf⟩ := List.exists_mem_of_length_pos (l := P.filter isFlap) (by omega)
    have hm := (List.mem_filter.mp hf).1
    replace hf := (List.mem_filter.mp hf).2
    obtain ⟨A, B, rfl⟩ := List.append_of_mem hm
    have l := flap_len (A := A) (B := B) (f := f)
    rw [if_pos hf] at l
    have l2 := flap_len (A := A) (B := B) (f := opened f)
    rw [if_neg (by simp [opened, isFlap])] at l2
    have hw0 : ∀ p, p ∈ A ++ B → 1 ≤ p.w := fun p hp => hw p (by
      rcases List.mem_append.mp hp with h | h
      · exact List.mem_append_left _ h
      · exact List.mem_append_right _ (List.mem_cons_of_mem _ h))
    have hwf := hw f (List.mem_append_right _ List.mem_cons_self)
    have hw1 : ∀ p, p ∈ A ++ opened f :: B → 1 ≤ p.w := fun p hp => by
      rcases List.mem_append.mp hp with h | h
      · exact hw p (List.mem_append_left _ h)
      · rcases List.mem_cons.mp h with h | h
        · rw [h]; exact hwf
        · exact hw p (List.mem_append_right _ (List.mem_cons_of_mem _ h))
    obtain ⟨x0, r0⟩ := run_ex (τ := τ) (θ := θ) k (A ++ B) (by omega) (net_shut hf N) hw0
    obtain ⟨x1, r1⟩ := run_ex (τ := τ) (θ := θ) k (A ++ opened f :: B) (by omega) (net_open hf N) hw1
    have S := swing hf N hw r0 r1
    have hf' : ¬ f.f = "" := by simpa [isFlap] using hf
    have o : ∀ d, psiN f d = (if f.f = ">" then (if 0 < d then f.w * d else 0) else (if d < 0 then f.w * d else 0)) := fun d => by unfold psiN; rw [if_neg hf']
    by_cases g : f.f = ">"
    · have o : ∀ d, psiN f d = if 0 < d then f.w * d else 0 := fun d => by rw [o, if_pos g]
      by_cases h0 : 0 < dr x0 f
      · by_cases h1 : 0 ≤ dr x1 f
        · refine ⟨x1, run_app (g := opened f) rfl rfl ?_ r1⟩
          rw [o, psiN_opened]
          have : dr x1 (opened f) = dr x1 f := rfl
          rw [this]; split <;> grind
        · exfalso
          unfold dr at h0 h1
          have : 0 < (-(x1 f.a - x1 f.b)) * (-((x1 f.a - x0 f.a) - (x1 f.b - x0 f.b))) := Rat.mul_pos (by grind) (by grind)
          grind
      · exact ⟨x0, run_app0 (by rw [o, if_neg h0]) r0⟩
    · have o : ∀ d, psiN f d = if d < 0 then f.w * d else 0 := fun d => by rw [o, if_neg g]
      by_cases h0 : dr x0 f < 0
      · by_cases h1 : dr x1 f ≤ 0
        · refine ⟨x1, run_app (g := opened f) rfl rfl ?_ r1⟩
          rw [o, psiN_opened]
          have : dr x1 (opened f) = dr x1 f := rfl
          rw [this]; split <;> grind
        · exfalso
          unfold dr at h0 h1
          have : 0 < (x1 f.a - x1 f.b) * ((x1 f.a - x0 f.a) - (x1 f.b - x0 f.b)) := Rat.mul_pos (by grind) (by grind)
          grind
      · exact ⟨x0, run_app0 (by rw [o, if_neg h0]) r0⟩
/-! ### .. and a lot of flaps that tells them -/
def liftQ' (x : Lv) (p : Pi) : Rat := if p.f = ">" then x p.a - x p.b else x p.b - x p.a
theorem psiN_flap {p : Pi} {d : Rat} (h : ¬ p.f = "") : psiN p d = if p.f = ">" then (if 0 < d then p.w * d else 0) else (if d < 0 then p.w * d else 0) := by unfold psiN; rw [if_neg h]
theorem psiL_flap {p : Pi} {S : Lot} {d : Rat} (h : isFlap p = true) : psiL S p d = if pk p ∈ S then p.w * d else 0 := by
  unfold psiL gL goesB
  rw [h]
  by_cases hS : pk p ∈ S
  · rw [if_pos hS, if_pos (by simp [hS])]
  · rw [if_neg hS, if_neg (by simp [hS])]; grind
/-- levels found with a lot open are right -/
theorem run_of_lot {T J : List Str} {P : List Pi} {S : Lot} {τ θ : Str → Int} {x : Lv} (r : RunL T J P S τ θ x)
    (h : ∀ p, p ∈ P → isFlap p = true → if pk p ∈ S then 0 ≤ liftQ' x p else liftQ' x p ≤ 0) : Run T J P τ θ x := by
  refine ⟨r.t, fun n hn => ?_⟩
  rw [← r.j n hn]
  refine out_congr fun p hp => ?_
  by_cases hf : p.f = ""
  · unfold psiN psiL gL goesB
    rw [if_pos hf, if_pos (by simp [isFlap, hf])]
  · have hF : isFlap p = true := by simp [isFlap, hf]
    have := h p hp hF
    unfold liftQ' at this
    rw [psiL_flap hF, psiN_flap hf]
    unfold dr
    by_cases hS : pk p ∈ S <;> by_cases g : p.f = ">"
    · rw [if_pos hS, if_pos g] at this; rw [if_pos hS, if_pos g]; split <;> grind
    · rw [if_pos hS, if_neg g] at this; rw [if_pos hS, if_neg g]; split <;> grind
    · rw [if_neg hS, if_pos g] at this; rw [if_neg hS, if_pos g]; split <;> grind
    · rw [if_neg hS, if_neg g] at this; rw [if_neg hS, if_neg g]; split <;> grind
/-- the flaps that are open -/
def openLot (P : List Pi) (x : Lv) : Lot := ((P.filter isFlap).filter fun p => decide (0 < liftQ' x p)).map pk
theorem lot_of_run {T J : List Str} {P : List Pi} {τ θ : Str → Int} {x : Lv} (hk : (P.map pk).Nodup) (r : Run T J P τ θ x) : RunL T J P (openLot P x) τ θ x := by
  refine ⟨r.t, fun n hn => ?_⟩
  rw [← r.j n hn]
  refine out_congr fun p hp => ?_
  by_cases hf : p.f = ""
  · unfold psiN psiL gL goesB
    rw [if_pos hf, if_pos (by simp [isFlap, hf])]
  · have hF : isFlap p = true := by simp [isFlap, hf]
    have hm : pk p ∈ openLot P x ↔ 0 < liftQ' x p := by
      unfold openLot
      constructor
      · intro h
        obtain ⟨q, hq, e⟩ := List.mem_map.mp h
        obtain ⟨h1, h2⟩ := List.mem_filter.mp hq
        obtain ⟨h3, h4⟩ := List.mem_filter.mp h1
        have : q = p := by
          obtain ⟨i, hi, e1⟩ := List.getElem_of_mem h3
          obtain ⟨j, hj, e2⟩ := List.getElem_of_mem hp
          have : i = j := by
            refine (List.getElem_inj (h₀ := by rw [List.length_map]; exact hi) (h₁ := by rw [List.length_map]; exact hj) hk).mp ?_
            rw [List.getElem_map, List.getElem_map, e1, e2]; exact e
          subst this
          exact e1.symm.trans e2
        rw [← this]; exact of_decide_eq_true h2
      · intro h
        exact List.mem_map.mpr ⟨p, List.mem_filter.mpr ⟨List.mem_filter.mpr ⟨hp, hF⟩, decide_eq_true h⟩, rfl⟩
    unfold liftQ' at hm
    rw [psiL_flap hF, psiN_flap hf]
    unfold dr
    by_cases hS : pk p ∈ openLot P x <;> by_cases g : p.f = ">"
    · rw [if_pos g] at hm; rw [if_pos hS, if_pos g, if_pos (hm.mp hS)]
    · rw [if_neg g] at hm; have := hm.mp hS; rw [if_pos hS, if_neg g, if_pos (by grind)]
    · rw [if_pos g] at hm; rw [if_neg hS, if_pos g, if_neg fun h => hS (hm.mpr h)]
    · rw [if_neg g] at hm; rw [if_neg hS, if_neg g, if_neg fun h => hS (hm.mpr (by grind))]
end FW

set_option Elab.async false
set_option linter.all false
set_option maxRecDepth 100000
/-! DG2: the walk through solved. -/
namespace FW
open PySem
def rowD (n : Nat) (r : Nat → Rat) : D := .lst ((List.range (n + 1)).map fun c => fr (r c))
def tabD (n : Nat) (T : Tab) : List D := (List.range n).map fun k => rowD n (T k)
theorem rowD_at {n : Nat} {r : Nat → Rat} {c : Nat} (h : c ≤ n) : ((List.range (n + 1)).map fun c => fr (r c))[c]? = some (fr (r c)) := by
  rw [List.getElem?_map, List.getElem?_range (by omega)]; rfl
theorem tabD_at {n : Nat} {T : Tab} {k : Nat} (h : k < n) : (tabD n T)[k]? = some (rowD n (T k)) := by
  unfold tabD
  rw [List.getElem?_map, List.getElem?_range h]; rfl
theorem tabD_len {n : Nat} {T : Tab} : (tabD n T).length = n := by unfold tabD; rw [List.length_map, List.length_range]
theorem tabD_set {n : Nat} {T : Tab} {k : Nat} {r : Nat → Rat} (h : k < n) : (tabD n T).set k (rowD n r) = tabD n fun j => if j = k then r else T j := by
  apply List.ext_getElem?
  intro j
  by_cases hj : j < n
  · rw [tabD_at hj]
    by_cases e : k = j
    · subst e
      rw [List.getElem?_set_self (by rw [tabD_len]; exact hj), if_pos rfl]
    · rw [List.getElem?_set_ne e, tabD_at hj, if_neg (fun h => e h.symm)]
  · rw [List.getElem?_eq_none (by rw [List.length_set, tabD_len]; omega), List.getElem?_eq_none (by rw [tabD_len]; omega)]
theorem ixn {n k : Nat} (h : k < n) : L2.ixN n (k : Int) = some k := by
  unfold L2.ixN
  rw [if_pos (by omega), if_pos (by omega)]; rfl
/-- the row of table k, after k rows of the inner loop -/
def mixT (S : Tab) (p k : Nat) : Tab := fun j => if j < k then elimT S p j else S j
theorem mix_p {S : Tab} {p k : Nat} : mixT S p k p = S p := by
  unfold mixT; split
  · exact funext fun c => if_pos rfl
  · rfl
theorem mix_k {S : Tab} {p k : Nat} : mixT S p k k = S k := if_neg (Nat.lt_irrefl _)
theorem mix_step {S : Tab} {p k : Nat} (h : k ≠ p) : (fun j => if j = k then (fun c => S k c - S k p * S p c) else mixT S p k j) = mixT S p (k + 1) := by
  funext j
  unfold mixT
  by_cases e : j = k
  · rw [if_pos e, if_pos (by omega), e]
    exact (funext fun c => (if_neg h : elimT S p k c = _)).symm
  · rw [if_neg e]
    by_cases e2 : j < k
    · rw [if_pos e2, if_pos (by omega)]
    · rw [if_neg e2, if_neg (by omega)]
theorem mix_skip {S : Tab} {p k : Nat} (h : k = p ∨ S k p = 0) : mixT S p k = mixT S p (k + 1) := by
  funext j
  unfold mixT
  by_cases e2 : j < k
  · rw [if_pos e2, if_pos (by omega)]
  · rw [if_neg e2]
    by_cases e : j = k
    · rw [if_pos (by omega), e]
      funext c
      unfold elimT
      split
      · rename_i h1; rw [h1]
      · rcases h with h | h
        · contradiction
        · rw [h]; grind
    · rw [if_neg (by omega)]
theorem zipD_map {α : Type} (f g : α → D) : ∀ xs : List α, zipD (xs.map f) (xs.map g) = xs.map fun x => .tup [f x, g x]
  | [] => rfl
  | x :: xs => by rw [List.map_cons, List.map_cons, zipD, zipD_map f g xs]; rfl
theorem eqW_fr {μ : Mu} {p q : Rat} {k : Bool → Prop} (h : k (decide (p = q))) : eqW μ (fr p) (fr q) k := ⟨⟨rfl, rfl, .inl (shal_fr p)⟩, by show k (eqD (fr p) (fr q)); rw [eqD_fr]; exact h⟩
theorem eqW_int {μ : Mu} {p q : Int} {k : Bool → Prop} (h : k (decide (p = q))) : eqW μ (.int p) (.int q) k := ⟨⟨rfl, rfl, .inl (shal_int p)⟩, by show k (eqD (.int p) (.int q)); rw [eqD_int]; exact h⟩
def elimIR : ISs := (.cons (.asg (.n 8) (.ix (.ix (.v 1) (.v 6)) (.v 3))) (.cons (.iff (.bop .And (.cons (.cmp .NotEq (.v 6) (.v 3)) (.cons (.cmp .NotEq (.v 8) (.g "NOUGHT" (.tup [.int 0, .int 1]))) .nil))) (.cons (.asg (.sub (.v 1) (.v 6)) (.lc false [9, 10] (.call "minus" false (.cons (.v 9) (.cons (.call "times" false (.cons (.v 8) (.cons (.v 10) .nil))) .nil))) (.t [9, 10]) (.zip (.ix (.v 1) (.v 6)) (.ix (.v 1) (.v 3))) .nil)) .nil) .nil) .nil))
theorem ix_cel {μ : Mu} {c : List D} {i : Int} {Q : QD} {r : Mu} : ixW (.cel μ.length) (.int i) (μ ++ some (MO.lst c) :: r) Q = onS (L2.atI c i) fun d => Q d (μ ++ some (MO.lst c) :: r) := by
  show (match (μ ++ some (MO.lst c) :: r)[μ.length]? with
    | some (some (.lst xs)) => asI (.int i) fun i => onS (atD xs i) fun d => Q d (μ ++ some (MO.lst c) :: r)
    | some (some (.dk ks ds)) => _
    | some (some (.dt ks ds)) => _
    | _ => False) = _
  rw [cg0]
  rfl
theorem elim_loop (Φ : Str → FS) (h1 : Φ "minus" = fs_arith (· - ·)) (h2 : Φ "times" = fs_arith (· * ·)) (μ : Mu) (n p : Nat) (hn : n ≤ 100) (hp : p < n) (S : Tab) (hb : ∀ k, k < n → ∀ c, c ≤ n → RB 3300 (S k c)) (hb2 : ∀ k, k < n → ∀ c, c ≤ n → RB 3700 (S k p * S p c)) (x0 x4 x5 : Option D) :
    ∀ (m k : Nat) (x6 x8 x7 x9 x10 : Option D) (Dn : EnD), k + m = n →
    (∀ x6 x8 x7 x9 x10, Dn.nx [x0, some (.cel μ.length), some (.int n), some (.int p), x4, x5, x6, x7, x8, x9, x10] (μ ++ [some (.lst (tabD n (elimT S p)))])) →
    FL Φ (.n 6) elimIR (fun _ => True) (intsD (k : Int) m) [x0, some (.cel μ.length), some (.int n), some (.int p), x4, x5, x6, x7, x8, x9, x10] (μ ++ [some (.lst (tabD n (mixT S p k)))]) Dn := by
  intro m
  induction m with
  | zero =>
    intro k x6 x8 x7 x9 x10 Dn hk h
    have e : mixT S p k = mixT S p n := by rw [show k = n by omega]
    have e2 : tabD n (mixT S p k) = tabD n (elimT S p) := by
      rw [e]; unfold tabD
      exact List.map_congr_left fun j hj => by rw [show mixT S p n j = elimT S p j from if_pos (List.mem_range.mp hj)]
    rw [e2]
    exact h _ _ _ _ _
  | succ m ih =>
    intro k x6 x8 x7 x9 x10 Dn hk h
    have hkn : k < n := by omega
    rw [intsD, FL_cons]
    unfold elimIR
    simp only [tgW, st, s_cons, s_nil, s_asg, s_iff, s_sub, e_ix, e_v, e_k, e_g, lk, onS_some, ix_cel, at_nat, tabD_at hkn, tabD_at hp, e_bop, b_and, b_one, e_cmp, cmpW, fr_zero, mix_k, mix_p, rowD, ix_lst, rowD_at (show p ≤ n by omega)]
    refine eqW_int ?_
    simp only [asB_bl]
    refine ⟨fun g => ?_, fun g => ?_⟩
    · have hkp : k ≠ p := fun e => by subst e; simp at g
      refine eqW_fr ?_
      refine ⟨fun g2 => ?_, fun g2 => ?_⟩
      · have hx : ∀ {d : D} {μ : Mu} {ys : List D}, d = .lst ys → True := fun _ => trivial
        simp only [asB_bl, e_lc, i_zip, e_ix, e_v, lk, onS_some, ix_cel, at_nat, tabD_at hkn, tabD_at hp, mix_k, mix_p, rowD, zipW, zipD_map, List.length_map, newL_f, wp0, wp0.wipe1, true_and]
        refine LC_maps (fun c => D.tup [fr (S k c), fr (S p c)]) (fun c => fr (S k c - S k p * S p c)) trivial _ ?_ (by show _ ≤ _; rw [List.length_range]; omega) ?_
        · intro c hc R r
          have hc : c ≤ n := by have := List.mem_range.mp hc; omega
          simp only [tgW, stAll, st, onS_some, e_call, es_cons, es_nil, e_v, lk, h1, h2]
          exact ⟨_, _, _, _, rfl, hb k hkn p (by omega), hb p hp c hc, by decide, _, _, _, _, rfl, hb k hkn c hc, hb2 k hkn c hc, by decide, r⟩
        · simp only [setW, cg0, cs0, asI_int, tabD_len, ixn hkn, onS_some]
          have e := tabD_set (T := mixT S p k) (r := fun c => S k c - S k p * S p c) hkn
          rw [mix_step hkp] at e
          unfold rowD at e
          rw [e]
          exact ih (k + 1) _ _ _ _ _ Dn (by omega) h
      · have e0 : S k p = 0 := by simpa using g2
        rw [mix_skip (.inr e0)]
        exact ⟨trivial, ih (k + 1) _ _ _ _ _ Dn (by omega) h⟩
    · have hkp : k = p := by have := of_decide_eq_true ((Bool.not_eq_false' _).mp g); omega
      rw [mix_skip (.inl hkp)]
      exact ⟨fun z => (by cases z), fun _ => ⟨trivial, ih (k + 1) _ _ _ _ _ Dn (by omega) h⟩⟩
end FW
set_option Elab.async false
set_option linter.all false
set_option maxRecDepth 100000
/-! DG3: solved. -/
namespace FW
open PySem
/-- a turn's filter: the rows from p on that have something in column p -/
def cand (n p : Nat) (T : Tab) : List Nat := ((List.range (n - p)).map (p + ·)).filter fun k => decide (T k p ≠ 0)
theorem cand_head {n p : Nat} {T : Tab} (h : ∃ f, p ≤ f ∧ f < n ∧ T f p ≠ 0) : ∃ f r, cand n p T = f :: r ∧ p ≤ f ∧ f < n ∧ T f p ≠ 0 := by
  obtain ⟨f, h1, h2, h3⟩ := h
  have hm : f ∈ cand n p T := by
    unfold cand
    exact List.mem_filter.mpr ⟨List.mem_map.mpr ⟨f - p, List.mem_range.mpr (by omega), by omega⟩, by simpa using h3⟩
  cases e : cand n p T with
  | nil => rw [e] at hm; exact absurd hm List.not_mem_nil
  | cons g r =>
    have hg : g ∈ cand n p T := by rw [e]; exact List.mem_cons_self
    obtain ⟨a, b⟩ := List.mem_filter.mp hg
    obtain ⟨j, hj, rfl⟩ := List.mem_map.mp a
    exact ⟨_, r, rfl, by omega, by have := List.mem_range.mp hj; omega, by simpa using b⟩
theorem swap_tab {n p f : Nat} {T : Tab} (hp : p < n) (hf : f < n) : ((tabD n T).set p (rowD n (T f))).set f (rowD n (T p)) = tabD n (swapT T p f) := by
  rw [tabD_set hp, tabD_set hf]
  congr 1
  funext j
  unfold swapT
  by_cases h1 : j = f
  · rw [if_pos h1]
    by_cases h2 : j = p
    · rw [if_pos h2, ← h1, h2]
    · rw [if_neg h2, if_pos h1]
  · rw [if_neg h1]
    by_cases h2 : j = p
    · rw [if_pos h2, if_pos h2]
    · rw [if_neg h2, if_neg h2, if_neg h1]
theorem scale_tab {n p : Nat} {S : Tab} (hp : p < n) : (tabD n S).set p (rowD n fun c => S p c / S p p) = tabD n (scaleT S p) := by
  rw [tabD_set hp]
  congr 1
  funext j
  unfold scaleT
  by_cases h2 : j = p
  · rw [if_pos h2]; exact funext fun c => (if_pos h2).symm
  · rw [if_neg h2]; exact funext fun c => (if_neg h2).symm
def placeIR : ISs := (.cons (.asg (.n 4) (.ix (.lc false [6] (.v 6) (.n 6) (.rng (.cons (.v 3) (.cons (.v 2) .nil))) (.cons (.cmp .NotEq (.ix (.ix (.v 1) (.v 6)) (.v 3)) (.g "NOUGHT" (.tup [.int 0, .int 1]))) .nil)) (.k (.int 0)))) (.cons (.swp (.v 1) (.v 3) (.v 1) (.v 4) (.ix (.v 1) (.v 4)) (.ix (.v 1) (.v 3))) (.cons (.asg (.n 5) (.ix (.ix (.v 1) (.v 3)) (.v 3))) (.cons (.asg (.sub (.v 1) (.v 3)) (.lc false [9] (.call "shared" false (.cons (.v 9) (.cons (.v 5) .nil))) (.n 9) (.seq (.ix (.v 1) (.v 3))) .nil)) (.cons (.for_ (.n 6) (.rng (.cons (.v 2) .nil)) elimIR) .nil)))))
theorem turn (Φ : Str → FS) (h1 : Φ "minus" = fs_arith (· - ·)) (h2 : Φ "times" = fs_arith (· * ·)) (h3 : Φ "shared" = fs_shared) (μ : Mu) (n p f : Nat) (rest : List Nat) (hn : n ≤ 100) (hp : p < n) (hf : f < n) (T : Tab) (hc : cand n p T = f :: rest) (h0 : T f p ≠ 0)
    (hb : ∀ k, k < n → ∀ c, c ≤ n → RB 3300 (T k c)) (hbs : ∀ k, k < n → ∀ c, c ≤ n → RB 3300 (scaleT (swapT T p f) p k c)) (hb2 : ∀ k, k < n → ∀ c, c ≤ n → RB 3700 (scaleT (swapT T p f) p k p * scaleT (swapT T p f) p p c)) (x0 x4 x5 x6 x7 x8 x9 x10 : Option D) (Dn : EnD)
    (h : ∀ x4 x5 x6 x7 x8 x9 x10, Dn.nx [x0, some (.cel μ.length), some (.int n), some (.int p), x4, x5, x6, x7, x8, x9, x10] (μ ++ [some (.lst (tabD n (stageT T p f)))])) :
    wSs Φ placeIR [x0, some (.cel μ.length), some (.int n), some (.int p), x4, x5, x6, x7, x8, x9, x10] (μ ++ [some (.lst (tabD n T))]) Dn := by
  unfold placeIR
  simp only [s_cons, s_nil, s_asg, e_ix, e_v, e_k, e_g, lk, st, onS_some, e_lc, i_rng, es_cons, es_nil, rngW, newL_f, wp0, wp0.wipe1]
  refine ⟨by omega, ?_⟩
  rw [intsD_map, show ((n : Int) - (p : Int)).toNat = n - p by omega]
  rw [show (fun k : Nat => D.int ((p : Int) + (k : Int))) = (fun k : Nat => D.int (k : Int)) ∘ (p + ·) from funext fun k => by show D.int _ = D.int ((p + k : Nat) : Int); congr 1, ← List.map_map]
  refine LC_fm (fun k : Nat => D.int k) (fun k => decide (T k p ≠ 0)) (fun k : Nat => D.int k) trivial _ ?_ (by show _ ≤ _; rw [List.length_map, List.length_range]; omega) ?_
  · intro k hk R R2 r1 r2
    obtain ⟨j, hj, rfl⟩ := List.mem_map.mp hk
    have hkn : p + j < n := by have := List.mem_range.mp hj; omega
    simp only [tgW, st, c_cons, e_cmp, cmpW, e_ix, e_v, e_g, lk, onS_some, ix_cel, at_nat, tabD_at hkn, rowD, ix_lst, rowD_at (show p ≤ n by omega), fr_zero]
    refine eqW_fr ?_
    simp only [asB_bl]
    rw [← decide_not]
    exact ⟨r1, r2⟩
  rw [show ((List.range (n - p)).map (p + ·)).filter (fun k => decide (T k p ≠ 0)) = f :: rest from hc, List.map_cons]
  simp only [ix_lst, at0, onS_some, s_swp, e_ix, e_v, lk, ix_cel, at_nat, tabD_at hp, tabD_at hf, setW, cg0, cs0, asI_int, tabD_len, List.length_set, ixn hp, ixn hf, swap_tab hp hf]
  have hpp : swapT T p f p p ≠ 0 := by rw [show swapT T p f p = T f from if_pos rfl]; exact h0
  have hbw : ∀ c, c ≤ n → RB 3300 (swapT T p f p c) := by rw [show swapT T p f p = T f from if_pos rfl]; exact hb f hf
  unfold stageT at h
  generalize swapT T p f = S at *
  simp only [rowD, ix_lst, at_nat, rowD_at (show p ≤ n by omega), onS_some, s_sub, st, e_lc, i_seq, e_ix, e_v, lk, ix_cel, tabD_at hp, seq_lst, newL_f, wp0, wp0.wipe1]
  refine LC_maps (fun c => fr (S p c)) (fun c => fr (S p c / S p p)) trivial _ ?_ (by show _ ≤ _; rw [List.length_range]; omega) ?_
  · intro c hc R r
    have hc : c ≤ n := by have := List.mem_range.mp hc; omega
    simp only [tgW, st, e_call, es_cons, es_nil, e_v, lk, onS_some, h3]
    exact ⟨_, _, _, _, rfl, hpp, hbw c hc, hbw p (by omega), by decide, r⟩
  have e := scale_tab (S := S) hp
  unfold rowD at e
  simp only [setW, cg0, cs0, asI_int, tabD_len, ixn hp, onS_some, e, s_for, i_rng, es_cons, es_nil, e_v, lk, rngW]
  refine ⟨by omega, ?_⟩
  have hz := elim_loop Φ h1 h2 μ n p hn hp (scaleT S p) hbs hb2 x0 (some (.int f)) (some (fr (S p p))) n 0 x6 x8 x7 x9 x10 Dn (by omega) (fun x6 x8 x7 x9 x10 => h _ _ _ _ _ _ _)
  exact hz
end FW
set_option Elab.async false
set_option linter.all false
set_option maxRecDepth 100000
/-! DG4: solved, whole. -/
namespace FW
open PySem
theorem FrB.rb {C B m : Nat} {q : Rat} (h : FrB C B q) (hC : C < 2 ^ m) (hB : B < 2 ^ m) : RB m q :=
  ⟨Nat.lt_of_le_of_lt h.num.1 hC, Nat.lt_of_le_of_lt h.num.2 hB⟩
theorem FrB.mul {C B C' B' : Nat} {p q : Rat} (hp : FrB C B p) (hq : FrB C' B' q) : FrB (C * C') (B * B') (p * q) := by
  obtain ⟨z, d, hd, h1, h2, e⟩ := hp
  obtain ⟨z', d', hd', h1', h2', e'⟩ := hq
  refine ⟨z * z', d * d', Int.mul_ne_zero hd hd', ?_, ?_, ?_⟩
  · rw [Int.natAbs_mul]; exact Nat.mul_le_mul h1 h1'
  · rw [Int.natAbs_mul]; exact Nat.mul_le_mul h2 h2'
  · rw [Rat.intCast_mul, Rat.intCast_mul, ← e, ← e']; grind
theorem FrB.mono {C B C' B' : Nat} {q : Rat} (h : FrB C B q) (hC : C ≤ C') (hB : B ≤ B') : FrB C' B' q := by
  obtain ⟨z, d, hd, h1, h2, e⟩ := h
  exact ⟨z, d, hd, Nat.le_trans h1 hB, Nat.le_trans h2 hC, e⟩
theorem RowB.last {n B C : Nat} {r : Nat → Rat} (h : RowB n B C r) : FrB C B (r n) := by
  obtain ⟨d, hd, hb, hz, z, h1, h2⟩ := h.ex
  exact ⟨z, d, hd, hb, h1, h2⟩
theorem big1 {C : Nat} (hC : C ≤ 2 ^ 2900) : Fs 5 * C < 2 ^ 3300 :=
  Nat.lt_of_le_of_lt (Nat.mul_le_mul (Nat.le_of_lt Fs5) hC) (by rw [← Nat.pow_add]; exact Nat.pow_lt_pow_right (by decide) (by decide))
theorem big2 {C : Nat} (hC : C ≤ 2 ^ 2900) : Bs 5 * (Fs 5 * C) < 2 ^ 3700 :=
  Nat.lt_of_le_of_lt (Nat.mul_le_mul (Nat.le_of_lt Bs5) (Nat.le_of_lt (big1 hC))) (by rw [← Nat.pow_add]; exact Nat.pow_lt_pow_right (by decide) (by decide))
theorem big3 : Bs 5 * Bs 5 < 2 ^ 3700 :=
  Nat.lt_of_le_of_lt (Nat.mul_le_mul (Nat.le_of_lt Bs5) (Nat.le_of_lt Bs5)) (by rw [← Nat.pow_add]; exact Nat.pow_lt_pow_right (by decide) (by decide))
theorem big0 : Bs 5 < 2 ^ 3300 := Nat.lt_of_lt_of_le Bs5 (Nat.pow_le_pow_right (by decide) (by decide))
theorem FF {p C : Nat} (hBC : 2 ^ 10 ≤ C) : Bs p ≤ Fs p * C := by
  induction p with
  | zero => show 2 ^ 10 ≤ 1 * C; rw [Nat.one_mul]; exact hBC
  | succ p ih =>
    show 2 * (Bs p * Bs p) ≤ 2 * (Bs p * Fs p) * C
    rw [Nat.mul_assoc, Nat.mul_assoc]
    exact Nat.mul_le_mul_left 2 (Nat.mul_le_mul_left _ ih)
theorem place_loop (Φ : Str → FS) (h1 : Φ "minus" = fs_arith (· - ·)) (h2 : Φ "times" = fs_arith (· * ·)) (h3 : Φ "shared" = fs_shared) (μ : Mu) (n C : Nat) (hn : n ≤ 5) (hC : C ≤ 2 ^ 2900) (hBC : 2 ^ 10 ≤ C) (T0 : Tab) (x0 : Option D) :
    ∀ (m p : Nat) (T : Tab) (x3 x4 x5 x6 x7 x8 x9 x10 : Option D) (Dn : EnD), p + m = n → Unit n T p → Ker n T → (∀ k, k < n → RowB n (Bs p) (Fs p * C) (T k)) → (∀ x, Sol n T x ↔ Sol n T0 x) →
    (∀ (U : Tab) (x3 x4 x5 x6 x7 x8 x9 x10 : Option D), Unit n U n → (∀ k, k < n → RowB n (Bs n) (Fs n * C) (U k)) → (∀ x, Sol n U x ↔ Sol n T0 x) → Dn.nx [x0, some (.cel μ.length), some (.int n), x3, x4, x5, x6, x7, x8, x9, x10] (μ ++ [some (.lst (tabD n U))])) →
    FL Φ (.n 3) placeIR (fun _ => True) (intsD (p : Int) m) [x0, some (.cel μ.length), some (.int n), x3, x4, x5, x6, x7, x8, x9, x10] (μ ++ [some (.lst (tabD n T))]) Dn := by
  intro m
  induction m with
  | zero =>
    intro p T x3 x4 x5 x6 x7 x8 x9 x10 Dn hp u k b s h
    have : p = n := by omega
    subst this
    exact h T _ _ _ _ _ _ _ _ u b s
  | succ m ih =>
    intro p T x3 x4 x5 x6 x7 x8 x9 x10 Dn hp u k b s h
    have hpn : p < n := by omega
    rw [intsD, FL_cons]
    simp only [tgW, st]
    obtain ⟨f, rest, hc, g1, g2, g3⟩ := cand_head (pivot hpn u k)
    have lB : Bs p ≤ Bs 5 := Bs_le (by omega)
    have lF : Fs p * C ≤ Fs 5 * C := Nat.mul_le_mul_right C (Fs_le (by omega))
    have bs := rows_scale hpn g2 g3 b
    refine turn Φ h1 h2 h3 μ n p f rest (by omega) hpn g2 T hc g3 ?_ ?_ ?_ x0 x4 x5 x6 x7 x8 x9 x10 _ ?_
    · intro k hk c hc
      exact (((b k hk).frb (FF hBC) hc).mono lF lB).rb (big1 hC) big0
    · intro k hk c hc
      exact (((bs k hk).frb (FF hBC) hc).mono lF lB).rb (big1 hC) big0
    · intro k hk c hc
      refine (((bs k hk).frb0 hpn).mul ((bs p hpn).frb (FF hBC) hc)).rb ?_ ?_
      · exact Nat.lt_of_le_of_lt (Nat.mul_le_mul lB lF) (big2 hC)
      · exact Nat.lt_of_le_of_lt (Nat.mul_le_mul lB lB) big3
    · intro x4 x5 x6 x7 x8 x9 x10
      have e : ∀ x, Sol n (stageT T p f) x ↔ Sol n T x := fun x => sol_stage hpn g2 g3
      refine ⟨trivial, ih (p + 1) (stageT T p f) _ _ _ _ _ _ _ _ Dn (by omega) (unit_stage hpn g2 g1 g3 u) (ker_of e k) ?_ (fun x => (e x).trans (s x)) h⟩
      have := rows_stage hpn g2 g3 (Bs_pos p) b
      intro k hk
      have q := this k hk
      have e : 2 * (Bs p * (Fs p * C)) = Fs (p + 1) * C := by
        show _ = 2 * (Bs p * Fs p) * C
        rw [Nat.mul_assoc 2, Nat.mul_assoc (Bs p)]
      rw [e] at q
      exact q
def rowL (n : Nat) (r : Nat → Rat) : List D := (List.range (n + 1)).map fun c => fr (r c)
def fs_solved : FS := fun ds μ Q _ => ∃ (n C : Nat) (T : Tab) (R : Nat → D), ds = [.lst ((List.range n).map R)] ∧ (∀ k, k < n → seqOf μ (R k) = some (rowL n (T k))) ∧ n ≤ 5 ∧ 2 ^ 10 ≤ C ∧ C ≤ 2 ^ 2900 ∧ Ker n T ∧ (∀ k, k < n → RowB n (2 ^ 10) C (T k)) ∧
  (∀ x : Nat → Rat, x n = -1 → Sol n T x → (∀ k, k < n → FrB (Fs 5 * C) (Bs 5) (x k)) → Q (.lst ((List.range n).map fun k => fr (x k))) μ)
theorem nc_fr (q : Rat) : (fr q).nc = true := rfl
theorem p_solved (Φ : Str → FS) (h1 : Φ "minus" = fs_arith (· - ·)) (h2 : Φ "times" = fs_arith (· * ·)) (h3 : Φ "shared" = fs_shared) : ∀ ds μ Qd Ed, ds.length = 1 → fs_solved ds μ Qd Ed → wSs Φ ir_solved (start0 N_solved.length ds) μ (endD μ Qd Ed) := by
  rintro ds μ Q E _ ⟨n, C, T, R, rfl, hR, hn, hBC, hC, hk, hb, q⟩
  unfold ir_solved
  change wSs Φ _ [some _, none, none, none, none, none, none, none, none, none, none] μ _
  simp only [s_cons, s_nil, s_asg, e_lc, i_seq, e_v, lk, onS_some, seq_lst, wp0, wp0.wipe1]
  refine LC_maps R (fun k => rowD n (T k)) trivial _ ?_ (by show _ ≤ _; rw [List.length_range]; omega) ?_
  · intro k hk' R2 r
    have hk' := List.mem_range.mp hk'
    simp only [tgW, st, e_bi, es_cons, es_nil, e_v, lk, onS_some, biW, hR k hk', newL_f]
    exact r
  rw [show (List.range n).map (fun k => rowD n (T k)) = tabD n T from rfl]
  have hl : ∀ {r : Mu}, lenD (μ ++ some (MO.lst (tabD n T)) :: r) (.cel μ.length) = some n := by
    intro r
    show (match (μ ++ some (MO.lst (tabD n T)) :: r)[μ.length]? with
      | some (some (.lst xs)) => some xs.length
      | some (some (.dk ks _)) => some ks.length
      | some (some (.dt ks _)) => some ks.length
      | _ => none) = some n
    rw [cg0]
    exact congrArg some tabD_len
  simp only [newL_t, st, s_asg, e_bi, es_cons, es_nil, e_v, lk, onS_some, biW, hl, s_for, i_rng, rngW]
  refine ⟨by omega, ?_⟩
  rw [show ((n : Int)).toNat = n by omega]
  refine place_loop Φ h1 h2 h3 μ n C hn hC hBC T _ n 0 T _ _ _ _ _ _ _ _ _ (by omega) (fun c hc => by omega) hk (by
    intro k hk; rw [show Fs 0 * C = C from Nat.one_mul C]; exact hb k hk) (fun _ => Iff.rfl) ?_
  intro U x3 x4 x5 x6 x7 x8 x9 x10 u b s
  have sq : ∀ {r : Mu}, seqOf (μ ++ some (MO.lst (tabD n U)) :: r) (.cel μ.length) = some (tabD n U) := by
    intro r
    show (match (μ ++ some (MO.lst (tabD n U)) :: r)[μ.length]? with
      | some (some (.lst xs)) => some xs
      | _ => none) = _
    rw [cg0]
  simp only [s_ret, e_lc, i_seq, e_v, lk, onS_some, sq, wp0, wp0.wipe1, newL_f]
  refine LC_maps (fun k => rowD n (U k)) (fun k => fr (U k n)) (by show _ = _; rw [cg0]) _ ?_ (by show _ ≤ _; rw [List.length_range]; omega) ?_
  · intro k hk' R2 r
    simp only [tgW, st, e_ix, e_v, lk, onS_some, rowD, ix_lst, at_nat, rowD_at (Nat.le_refl n)]
    exact r
  have z := q (fun c => if c = n then -1 else U c n) (by simp) ((s _).mp ((unit_end u (by simp)).mpr fun k hk => by simp only [show ¬ k = n by omega, if_false])) (fun k hk => by
    simp only [show ¬ k = n by omega, if_false]
    exact (b k hk).last.mono (Nat.mul_le_mul_right C (Fs_le hn)) (Bs_le hn))
  have e : (List.range n).map (fun k => fr ((fun c => if c = n then -1 else U c n) k)) = (List.range n).map (fun k => fr (U k n)) := List.map_congr_left fun k hk => by
    have := List.mem_range.mp hk
    simp only [show ¬ k = n by omega, if_false]
  rw [e] at z
  exact rt_new (by simp only [D.nc]; exact ncA_map _ (fun _ => nc_fr _) _) z
end FW

set_option Elab.async false
set_option linter.all false
set_option maxRecDepth 100000
/-! DN3: the table of the system of equations. -/
namespace FW
open PySem
/-! ### the table, a pipe at a time -/
def addT (M : Tab) (k c : Nat) (v : Rat) : Tab := fun k' c' => if k' = k ∧ c' = c then M k c + v else M k' c'
theorem jn_iff {J : List Str} (nd : J.Nodup) {a : Str} {ka k : Nat} (hka : ka < J.length) (e : jn J ka = a) (hk : k < J.length) : a = jn J k ↔ k = ka := by
  constructor
  · intro h; exact jn_inj nd hk hka (h.symm.trans e.symm)
  · rintro rfl; exact e.symm
theorem jn_not {J : List Str} {a : Str} (h : ¬ a ∈ J) {k : Nat} (hk : k < J.length) : ¬ a = jn J k := fun e => h (e ▸ jn_mem hk)
theorem out_snoc {A : List Pi} {p : Pi} {φ : Pi → Rat} {n : Str} : out (A ++ [p]) φ n = out A φ n + ((if p.a = n then φ p else 0) - (if p.b = n then φ p else 0)) := by
  rw [out_mid, List.append_nil]
theorem TT_c {T J : List Str} {A : List Pi} {p : Pi} {S : Lot} {τ θ : Str → Int} {k c : Nat} (hc : c < J.length) :
    TT T J (A ++ [p]) S τ θ k c = TT T J A S τ θ k c + ((if p.a = jn J k then gL S p * ((if p.a = jn J c then 1 else 0) - (if p.b = jn J c then 1 else 0)) else 0) - (if p.b = jn J k then gL S p * ((if p.a = jn J c then 1 else 0) - (if p.b = jn J c then 1 else 0)) else 0)) := by
  unfold TT
  rw [if_pos hc, if_pos hc, out_snoc]; rfl
theorem TT_n {T J : List Str} {A : List Pi} {p : Pi} {S : Lot} {τ θ : Str → Int} {k : Nat} :
    TT T J (A ++ [p]) S τ θ k J.length = TT T J A S τ θ k J.length - ((if p.a = jn J k then gL S p * (tx T τ p.a - tx T τ p.b) else 0) - (if p.b = jn J k then gL S p * (tx T τ p.a - tx T τ p.b) else 0)) := by
  unfold TT
  rw [if_neg (Nat.lt_irrefl _), if_neg (Nat.lt_irrefl _), out_snoc]; grind
theorem TT_shut {T J : List Str} {A : List Pi} {p : Pi} {S : Lot} {τ θ : Str → Int} (g : goesB p S = false) : TT T J (A ++ [p]) S τ θ = TT T J A S τ θ := by
  have e : gL S p = 0 := by unfold gL; rw [g]; rfl
  funext k c
  unfold TT
  rw [out_snoc, out_snoc, e]
  split <;> (split <;> split <;> grind)
section
variable {T J : List Str} {A : List Pi} {p : Pi} {S : Lot} {τ θ : Str → Int} (nd : (T ++ J).Nodup) (g : goesB p S = true) (hab : p.a ≠ p.b)
include nd g hab
theorem TT_jj {ka kb : Nat} (ha : ka < J.length) (ea : jn J ka = p.a) (hb : kb < J.length) (eb : jn J kb = p.b) {k c : Nat} (hk : k < J.length) (hc : c ≤ J.length) :
    addT (addT (addT (addT (TT T J A S τ θ) ka ka p.w) ka kb (-p.w)) kb kb p.w) kb ka (-p.w) k c = TT T J (A ++ [p]) S τ θ k c := by
  have ndJ := (List.nodup_append.mp nd).2.1
  have eg : gL S p = p.w := by unfold gL; rw [if_pos g]
  have kne : ka ≠ kb := fun h => hab (by rw [← ea, ← eb, h])
  have nT : ∀ n, n ∈ J → tx T τ n = 0 := fun n hn => if_neg fun h => (List.nodup_append.mp nd).2.2 n h n hn rfl
  by_cases e : c = J.length
  · subst e
    rw [TT_n, nT _ (ea ▸ jn_mem ha), nT _ (eb ▸ jn_mem hb)]
    unfold addT
    rw [if_neg (by omega), if_neg (by omega), if_neg (by omega), if_neg (by omega)]
    split <;> split <;> grind
  · have hc : c < J.length := by omega
    rw [TT_c hc, eg]
    simp only [jn_iff ndJ ha ea hk, jn_iff ndJ ha ea hc, jn_iff ndJ hb eb hk, jn_iff ndJ hb eb hc]
    unfold addT
    by_cases h1 : k = ka <;> by_cases h2 : k = kb <;> by_cases h3 : c = ka <;> by_cases h4 : c = kb <;> simp [h1, h2, h3, h4, kne, kne.symm] <;> grind
theorem TT_jt {ka : Nat} (ha : ka < J.length) (ea : jn J ka = p.a) (hb : p.b ∈ T) {k c : Nat} (hk : k < J.length) (hc : c ≤ J.length) :
    addT (addT (TT T J A S τ θ) ka ka p.w) ka J.length (p.w * τ p.b) k c = TT T J (A ++ [p]) S τ θ k c := by
  have ndJ := (List.nodup_append.mp nd).2.1
  have eg : gL S p = p.w := by unfold gL; rw [if_pos g]
  have nT : ∀ n, n ∈ J → tx T τ n = 0 := fun n hn => if_neg fun h => (List.nodup_append.mp nd).2.2 n h n hn rfl
  have tb : tx T τ p.b = τ p.b := if_pos hb
  have nb : ¬ p.b ∈ J := fun h => (List.nodup_append.mp nd).2.2 _ hb _ h rfl
  by_cases e : c = J.length
  · subst e
    rw [TT_n, nT _ (ea ▸ jn_mem ha), tb, eg, if_neg (jn_not nb hk)]
    simp only [jn_iff ndJ ha ea hk]
    unfold addT
    by_cases h1 : k = ka
    · rw [if_pos ⟨h1, rfl⟩, if_pos h1, if_neg (by omega), h1]; grind
    · rw [if_neg (by omega), if_neg (by omega), if_neg h1]; grind
  · have hc : c < J.length := by omega
    rw [TT_c hc, eg, if_neg (jn_not nb hk), if_neg (jn_not nb hc)]
    simp only [jn_iff ndJ ha ea hk, jn_iff ndJ ha ea hc]
    unfold addT
    rw [if_neg (by omega)]
    by_cases h1 : k = ka <;> by_cases h3 : c = ka <;> simp [h1, h3] <;> grind
theorem TT_tj {kb : Nat} (hb : kb < J.length) (eb : jn J kb = p.b) (ha : p.a ∈ T) {k c : Nat} (hk : k < J.length) (hc : c ≤ J.length) :
    addT (addT (TT T J A S τ θ) kb kb p.w) kb J.length (p.w * τ p.a) k c = TT T J (A ++ [p]) S τ θ k c := by
  have ndJ := (List.nodup_append.mp nd).2.1
  have eg : gL S p = p.w := by unfold gL; rw [if_pos g]
  have nT : ∀ n, n ∈ J → tx T τ n = 0 := fun n hn => if_neg fun h => (List.nodup_append.mp nd).2.2 n h n hn rfl
  have ta : tx T τ p.a = τ p.a := if_pos ha
  have na : ¬ p.a ∈ J := fun h => (List.nodup_append.mp nd).2.2 _ ha _ h rfl
  by_cases e : c = J.length
  · subst e
    rw [TT_n, nT p.b (eb ▸ jn_mem hb), ta, eg, if_neg (jn_not na hk)]
    simp only [jn_iff ndJ hb eb hk]
    unfold addT
    by_cases h1 : k = kb
    · rw [if_pos ⟨h1, rfl⟩, if_pos h1, if_neg (by omega), h1]; grind
    · rw [if_neg (by omega), if_neg (by omega), if_neg h1]; grind
  · have hc : c < J.length := by omega
    rw [TT_c hc, eg, if_neg (jn_not na hk), if_neg (jn_not na hc)]
    simp only [jn_iff ndJ hb eb hk, jn_iff ndJ hb eb hc]
    unfold addT
    rw [if_neg (by omega)]
    by_cases h1 : k = kb <;> by_cases h3 : c = kb <;> simp [h1, h3] <;> grind
omit g in
theorem TT_tt (ha : p.a ∈ T) (hb : p.b ∈ T) {k c : Nat} (hk : k < J.length) (hc : c ≤ J.length) : TT T J A S τ θ k c = TT T J (A ++ [p]) S τ θ k c := by
  have na : ¬ p.a ∈ J := fun h => (List.nodup_append.mp nd).2.2 _ ha _ h rfl
  have nb : ¬ p.b ∈ J := fun h => (List.nodup_append.mp nd).2.2 _ hb _ h rfl
  by_cases e : c = J.length
  · subst e
    rw [TT_n, if_neg (jn_not na hk), if_neg (jn_not nb hk)]; grind
  · have hc : c < J.length := by omega
    rw [TT_c hc, if_neg (jn_not na hk), if_neg (jn_not nb hk)]; grind
end
/-- whole entries, bounded -/
def IntB (m : Nat) (q : Rat) : Prop := ∃ z : Int, z.natAbs ≤ m ∧ q = z
theorem IntB.add {m n : Nat} {p q : Rat} (hp : IntB m p) (hq : IntB n q) : IntB (m + n) (p + q) := by
  obtain ⟨z, h1, rfl⟩ := hp
  obtain ⟨y, h2, rfl⟩ := hq
  exact ⟨z + y, by omega, (Rat.intCast_add ..).symm⟩
theorem IntB.mono {m n : Nat} {p : Rat} (hp : IntB m p) (h : m ≤ n) : IntB n p := by
  obtain ⟨z, h1, rfl⟩ := hp
  exact ⟨z, by omega, rfl⟩
theorem IntB.neg {m : Nat} {p : Rat} (hp : IntB m p) : IntB m (-p) := by
  obtain ⟨z, h1, rfl⟩ := hp
  exact ⟨-z, by omega, (Rat.intCast_neg ..).symm⟩
theorem IntB.mul {m n : Nat} {p q : Rat} (hp : IntB m p) (hq : IntB n q) : IntB (m * n) (p * q) := by
  obtain ⟨z, h1, rfl⟩ := hp
  obtain ⟨y, h2, rfl⟩ := hq
  exact ⟨z * y, by rw [Int.natAbs_mul]; exact Nat.mul_le_mul h1 h2, (Rat.intCast_mul ..).symm⟩
theorem gL_int {S : Lot} {p : Pi} (h : 1 ≤ p.w) (h' : p.w ≤ 100) : IntB 100 (gL S p) := by
  unfold gL; split
  · exact ⟨p.w, by omega, rfl⟩
  · exact ⟨0, by decide, rfl⟩
theorem int0 {m : Nat} : IntB m 0 := ⟨0, by omega, rfl⟩
theorem TT_int {T J : List Str} {S : Lot} {τ θ : Str → Int} {m : Nat} (nd : (T ++ J).Nodup) (hτ : ∀ t, t ∈ T → (τ t).natAbs ≤ m) (hθ : ∀ j, j ∈ J → (θ j).natAbs ≤ m) {k c : Nat} (hk : k < J.length) (hc : c ≤ J.length) :
    ∀ {A : List Pi}, (∀ p, p ∈ A → p.a ≠ p.b ∧ 1 ≤ p.w ∧ p.w ≤ 100) → IntB (if c = J.length then m + A.length * (100 * m) else A.length * 100) (TT T J A S τ θ k c) := by
  intro A
  suffices go : ∀ (B A : List Pi), (∀ p, p ∈ A ++ B → p.a ≠ p.b ∧ 1 ≤ p.w ∧ p.w ≤ 100) → IntB (if c = J.length then m + A.length * (100 * m) else A.length * 100) (TT T J A S τ θ k c) → IntB (if c = J.length then m + (A ++ B).length * (100 * m) else (A ++ B).length * 100) (TT T J (A ++ B) S τ θ k c) by
    intro h
    refine go A [] h ?_
    unfold TT out
    by_cases e : c < J.length
    · rw [if_pos e, ls]; exact int0
    · rw [if_neg e, if_pos (by omega), ls]
      have this : IntB m (-(θ (jn J k) : Rat) - 0) := ⟨-θ (jn J k), by have := hθ _ (jn_mem hk); omega, by rw [Rat.intCast_neg]; grind⟩
      exact this.mono (by omega)
  intro B
  induction B with
  | nil => intro A _ h; rw [List.append_nil]; exact h
  | cons p r ih =>
    intro A h h0
    have e : A ++ p :: r = (A ++ [p]) ++ r := by simp
    rw [e]
    obtain ⟨hab, w1, w2⟩ := h p (List.mem_append_right _ List.mem_cons_self)
    refine ih (A ++ [p]) (by rw [← e]; exact h) ?_
    rw [List.length_append, List.length_singleton]
    have gi := gL_int (S := S) w1 w2
    have dI : ∀ n, IntB m (tx T τ n) := fun n => by
      unfold tx; split
      · rename_i h; exact ⟨_, hτ n h, rfl⟩
      · exact int0
    by_cases ec : c = J.length
    · rw [if_pos ec] at h0 ⊢
      rw [ec] at h0 ⊢
      rw [TT_n]
      have tb : ∀ n, n ∈ J → tx T τ n = 0 := fun n hn => if_neg fun h => (List.nodup_append.mp nd).2.2 n h n hn rfl
      have hm := jn_mem hk
      have key : IntB (100 * m) (-((if p.a = jn J k then gL S p * (tx T τ p.a - tx T τ p.b) else 0) - (if p.b = jn J k then gL S p * (tx T τ p.a - tx T τ p.b) else 0))) := by
        by_cases h1 : p.a = jn J k
        · rw [if_pos h1, if_neg (fun h2 => hab (h1.trans h2.symm)), tb p.a (h1 ▸ hm)]
          have := gi.mul (dI p.b)
          rw [show -(gL S p * (0 - tx T τ p.b) - 0) = gL S p * tx T τ p.b by grind]
          exact this
        · rw [if_neg h1]
          by_cases h2 : p.b = jn J k
          · rw [if_pos h2, tb p.b (h2 ▸ hm)]
            have := gi.mul (dI p.a)
            rw [show -(0 - gL S p * (tx T τ p.a - 0)) = gL S p * tx T τ p.a by grind]
            exact this
          · rw [if_neg h2]
            exact int0.mono (Nat.zero_le _) |> fun h => by rw [show -((0 : Rat) - 0) = 0 by grind]; exact h
      have := h0.add key
      rw [show TT T J A S τ θ k J.length - ((if p.a = jn J k then gL S p * (tx T τ p.a - tx T τ p.b) else 0) - (if p.b = jn J k then gL S p * (tx T τ p.a - tx T τ p.b) else 0)) = TT T J A S τ θ k J.length + -((if p.a = jn J k then gL S p * (tx T τ p.a - tx T τ p.b) else 0) - (if p.b = jn J k then gL S p * (tx T τ p.a - tx T τ p.b) else 0)) by grind]
      exact this.mono (by rw [Nat.add_mul, Nat.one_mul]; omega)
    · rw [if_neg ec] at h0 ⊢
      rw [TT_c (by omega)]
      have key : IntB 100 ((if p.a = jn J k then gL S p * ((if p.a = jn J c then 1 else 0) - (if p.b = jn J c then 1 else 0)) else 0) - (if p.b = jn J k then gL S p * ((if p.a = jn J c then 1 else 0) - (if p.b = jn J c then 1 else 0)) else 0)) := by
        have o : IntB 1 ((if p.a = jn J c then 1 else 0) - (if p.b = jn J c then 1 else 0)) := by
          by_cases h1 : p.a = jn J c
          · rw [if_pos h1, if_neg (fun h2 => hab (h1.trans h2.symm))]; exact ⟨1, by decide, by decide +kernel⟩
          · rw [if_neg h1]; split
            · exact ⟨-1, by decide, by decide +kernel⟩
            · exact ⟨0, by decide, by decide +kernel⟩
        have t := gi.mul o
        generalize ((if p.a = jn J c then (1 : Rat) else 0) - (if p.b = jn J c then 1 else 0)) = o' at t ⊢
        by_cases h1 : p.a = jn J k
        · rw [if_pos h1, if_neg (fun h2 => hab (h1.trans h2.symm))]
          rw [show ∀ q : Rat, q - 0 = q from fun q => by grind]; exact t
        · rw [if_neg h1]; split
          · rw [show ∀ q : Rat, 0 - q = -q from fun q => by grind]; exact t.neg
          · rw [show (0 : Rat) - 0 = 0 by grind]; exact int0
      exact (h0.add key).mono (by omega)
theorem TT_rows {T J : List Str} {S : Lot} {τ θ : Str → Int} {m : Nat} {P : List Pi} (nd : (T ++ J).Nodup) (hτ : ∀ t, t ∈ T → (τ t).natAbs ≤ m) (hθ : ∀ j, j ∈ J → (θ j).natAbs ≤ m) (h : ∀ p, p ∈ P → p.a ≠ p.b ∧ 1 ≤ p.w ∧ p.w ≤ 100) (hP : P.length ≤ 9) :
    ∀ k, k < J.length → RowB J.length (2 ^ 10) (2 ^ 10 * (m + 1)) (TT T J P S τ θ k) := by
  intro k hk
  refine ⟨1, by decide, by decide, fun c hc => ?_, ?_⟩
  · obtain ⟨z, h1, h2⟩ := TT_int (S := S) nd hτ hθ hk (Nat.le_of_lt hc) h
    rw [if_neg (by omega)] at h1
    exact ⟨z, by omega, by rw [h2, Rat.intCast_one]; grind⟩
  · obtain ⟨z, h1, h2⟩ := TT_int (S := S) nd hτ hθ hk (Nat.le_refl _) h
    rw [if_pos rfl] at h1
    refine ⟨z, Nat.le_trans h1 ?_, by rw [h2, Rat.intCast_one]; grind⟩
    have : P.length * (100 * m) ≤ 9 * (100 * m) := Nat.mul_le_mul_right _ hP
    omega
end FW

set_option Elab.async false
set_option linter.all false
set_option maxRecDepth 100000
/-! DG5: levels_with. -/
namespace FW
open PySem
def cellsT (n : Nat) (T : Tab) : Mu := (List.range n).map fun k => some (.lst (rowL n (T k)))
theorem cells_get {μ : Mu} {n : Nat} {T : Tab} {k : Nat} {r : Mu} (h : k < n) : (μ ++ cellsT n T ++ r)[μ.length + k]? = some (some (.lst (rowL n (T k)))) := by
  have hl : (cellsT n T).length = n := by unfold cellsT; rw [List.length_map, List.length_range]
  rw [List.append_assoc, List.getElem?_append_right (by omega), Nat.add_sub_cancel_left, List.getElem?_append_left (by omega)]
  unfold cellsT
  rw [List.getElem?_map, List.getElem?_range h]; rfl
theorem cells_get' {μ : Mu} {n : Nat} {T : Tab} {k : Nat} (h : k < n) : (μ ++ cellsT n T)[μ.length + k]? = some (some (.lst (rowL n (T k)))) := by
  have := cells_get (μ := μ) (T := T) (r := []) h
  rw [List.append_nil] at this; exact this
theorem rowL_len {n : Nat} {r : Nat → Rat} : (rowL n r).length = n + 1 := by unfold rowL; rw [List.length_map, List.length_range]
theorem rowL_at {n : Nat} {r : Nat → Rat} {c : Nat} (h : c ≤ n) : (rowL n r)[c]? = some (fr (r c)) := rowD_at h
theorem rowL_set {n : Nat} {r : Nat → Rat} {c : Nat} {v : Rat} (h : c ≤ n) : (rowL n r).set c (fr v) = rowL n fun c' => if c' = c then v else r c' := by
  apply List.ext_getElem?
  intro j
  by_cases hj : j ≤ n
  · rw [rowL_at hj]
    by_cases e : c = j
    · subst e
      rw [List.getElem?_set_self (by rw [rowL_len]; omega), if_pos rfl]
    · rw [List.getElem?_set_ne e, rowL_at hj, if_neg (fun h => e h.symm)]
  · rw [List.getElem?_eq_none (by rw [List.length_set, rowL_len]; omega), List.getElem?_eq_none (by rw [rowL_len]; omega)]
theorem cells_set {μ : Mu} {n : Nat} {T : Tab} {k c : Nat} {v : Rat} (h : k < n) (hc : c ≤ n) : (μ ++ cellsT n T).set (μ.length + k) (some (.lst ((rowL n (T k)).set c (fr (T k c + v))))) = μ ++ cellsT n (addT T k c v) := by
  rw [List.set_append_right _ _ (by omega), Nat.add_sub_cancel_left, rowL_set hc]
  congr 1
  apply List.ext_getElem?
  intro j
  have hl : ∀ M : Tab, (cellsT n M).length = n := fun M => by unfold cellsT; rw [List.length_map, List.length_range]
  by_cases hj : j < n
  · have g : ∀ M : Tab, (cellsT n M)[j]? = some (some (.lst (rowL n (M j)))) := fun M => by unfold cellsT; rw [List.getElem?_map, List.getElem?_range hj]; rfl
    rw [g]
    by_cases e : k = j
    · subst e
      rw [List.getElem?_set_self (by rw [hl]; exact hj)]
      congr 4
      funext c'
      unfold addT
      by_cases e2 : c' = c
      · rw [if_pos e2, if_pos ⟨rfl, e2⟩]
      · rw [if_neg e2, if_neg (by omega)]
    · rw [List.getElem?_set_ne e, g]
      congr 4
      funext c'
      unfold addT
      rw [if_neg (by omega)]
  · rw [List.getElem?_eq_none (by rw [List.length_set, hl]; omega), List.getElem?_eq_none (by rw [hl]; omega)]
theorem ix_celg {μ : Mu} {m : Nat} {xs : List D} {i : Int} {Q : QD} (h : μ[m]? = some (some (.lst xs))) : ixW (.cel m) (.int i) μ Q = onS (L2.atI xs i) fun d => Q d μ := by
  show (match μ[m]? with
    | some (some (.lst xs)) => asI (.int i) fun i => onS (atD xs i) fun d => Q d μ
    | some (some (.dk ks ds)) => _
    | some (some (.dt ks ds)) => _
    | _ => False) = _
  rw [h]; rfl
theorem set_celg {μ : Mu} {m : Nat} {xs : List D} {i : Int} {d : D} {Q : Mu → Prop} (h : μ[m]? = some (some (.lst xs))) : setW (.cel m) (.int i) d μ Q = onS (L2.ixN xs.length i) fun q => Q (μ.set m (some (.lst (xs.set q d)))) := by
  show (match μ[m]? with
    | some (some (.lst xs)) => asI (.int i) fun j => onS (L2.ixN xs.length j) fun q => Q (μ.set m (some (.lst (xs.set q d))))
    | some (some (.dk ks ds)) => _
    | some (some (.dt ks ds)) => _
    | _ => False) = _
  rw [h]; rfl
theorem lookD_get {κ : Type} [DecidableEq κ] : ∀ {ks : List κ} {vs : List D} {k : Nat} {x : κ} {v : D}, ks.Nodup → ks[k]? = some x → vs[k]? = some v → lookD ks vs x = some v
  | [], _, _, _, _, _, h, _ => by simp at h
  | _ :: _, [], _, _, _, _, _, h => by simp at h
  | a :: ks, b :: vs, 0, x, v, nd, h1, h2 => by
    rw [List.getElem?_cons_zero] at h1 h2
    cases h1; cases h2
    rw [lookD, if_pos rfl]
  | a :: ks, b :: vs, k + 1, x, v, nd, h1, h2 => by
    rw [List.getElem?_cons_succ] at h1 h2
    have : a ≠ x := fun e => (List.nodup_cons.mp nd).1 (e ▸ List.mem_of_getElem? h1)
    rw [lookD, if_neg this]
    exact lookD_get (List.nodup_cons.mp nd).2 h1 h2
theorem lookD_map {κ : Type} [DecidableEq κ] {f : κ → D} : ∀ {ks : List κ} {x : κ}, x ∈ ks → lookD ks (ks.map f) x = some (f x)
  | [], _, h => absurd h List.not_mem_nil
  | a :: ks, x, h => by
    rw [List.map_cons, lookD]
    by_cases e : a = x
    · rw [if_pos e, e]
    · rw [if_neg e]
      exact lookD_map ((List.mem_cons.mp h).resolve_left fun h => e h.symm)
theorem jn_get {J : List Str} {k : Nat} (h : k < J.length) : J[k]? = some (jn J k) := by
  unfold jn; rw [List.getD_eq_getElem?_getD, List.getElem?_eq_getElem h]; rfl
theorem find_jn {J : List Str} (nd : J.Nodup) {k : Nat} (h : k < J.length) : J.findIdx? (fun z => decide (z = jn J k)) = some k := by
  rw [List.findIdx?_eq_some_iff_getElem]
  refine ⟨h, ?_, fun j hj => ?_⟩
  · have := jn_get h
    rw [List.getElem?_eq_getElem h] at this
    exact decide_eq_true (Option.some.inj this)
  · have hj' : j < J.length := by omega
    have := jn_get hj'
    rw [List.getElem?_eq_getElem hj'] at this
    rw [Option.some.inj this]
    simp only [decide_eq_true_eq, decide_eq_false_iff_not, Bool.not_eq_true, Bool.not_eq_true']
    exact fun e => by have := jn_inj nd hj' h e; omega
def halfIR : ISs := (.cons (.iff (.cmp .In (.v 12) (.v 5)) (.cons (.par 14 15 (.ix (.v 5) (.v 12)) (.me .index (.v 4) (.cons (.v 12) .nil))) (.cons (.asg (.sub (.v 14) (.v 15)) (.call "plus" false (.cons (.ix (.v 14) (.v 15)) (.cons (.tup (.cons (.v 9) (.cons (.k (.int 1)) .nil))) .nil)))) (.cons (.iff (.cmp .In (.v 13) (.v 5)) (.cons (.asg (.sub (.v 14) (.me .index (.v 4) (.cons (.v 13) .nil))) (.call "minus" false (.cons (.ix (.v 14) (.me .index (.v 4) (.cons (.v 13) .nil))) (.cons (.tup (.cons (.v 9) (.cons (.k (.int 1)) .nil))) .nil)))) .nil) (.cons (.asg (.sub (.v 14) (.neg (.k (.int 1)))) (.call "plus" false (.cons (.ix (.v 14) (.neg (.k (.int 1)))) (.cons (.call "times" false (.cons (.tup (.cons (.v 9) (.cons (.k (.int 1)) .nil))) (.cons (.ix (.v 1) (.v 13)) .nil))) .nil)))) .nil)) .nil))) .nil) .nil)
/-- the slots -/
def lwE (μ : Mu) (d lt : D) (Tn Jn : List Str) (τ θ : Str → Int) (x6 x7 x8 x9 x10 x11 x12 x13 x14 x15 : Option D) : En :=
  [some d, some (.dct Tn (Tn.map fun n => fr (τ n))), some (.dct Jn (Jn.map fun n => .int (θ n))), some lt, some (.lst (Jn.map .str)), some (.dct Jn ((List.range Jn.length).map fun k => .cel (μ.length + k))), x6, x7, x8, x9, x10, x11, x12, x13, x14, x15]
theorem mem_dct {μ : Mu} {ks : List Str} {vs : List D} {x : Str} {k : Bool → Prop} : memW μ (.str x) (.dct ks vs) k = k (decide (x ∈ ks)) := rfl
theorem rb_int {m : Nat} {z : Int} (h : z.natAbs < 2 ^ m) (hm : 1 ≤ m) : RB m (z : Rat) := by
  refine ⟨by rw [Rat.num_intCast]; exact h, ?_⟩
  rw [Rat.den_intCast]
  have := Nat.pow_le_pow_right (n := 2) (by decide) hm
  omega
theorem IntB.rb {b m : Nat} {q : Rat} (h : IntB b q) (hb : b < 2 ^ m) (hm : 1 ≤ m) : RB m q := by
  obtain ⟨z, h1, rfl⟩ := h
  exact rb_int (by omega) hm
theorem at_neg1 {n : Nat} {r : Nat → Rat} : L2.atI (rowL n r) (-1) = some (fr (r n)) := by
  rw [at_last, List.getLast?_eq_getElem?, rowL_len]
  exact rowL_at (Nat.le_refl n)
theorem ix_neg1 {n : Nat} : L2.ixN (n + 1) (-1) = some n := by
  unfold L2.ixN
  rw [if_neg (by omega), if_pos (by omega)]
  congr 1
  omega
theorem half (Φ : Str → FS) (h1 : Φ "minus" = fs_arith (· - ·)) (h2 : Φ "times" = fs_arith (· * ·)) (h3 : Φ "plus" = fs_arith (· + ·)) (μ : Mu) (d lt : D) (Tn Jn : List Str) (nd : (Tn ++ Jn).Nodup) (τ θ : Str → Int) (w : Int) (hw : w.natAbs ≤ 100) (M : Tab)
    (hτ : ∀ t, t ∈ Tn → (τ t).natAbs < 2 ^ 2890) (hM : ∀ k, k < Jn.length → ∀ c, c ≤ Jn.length → RB 2950 (M k c)) (x6 x7 x8 x10 x11 x14 x15 : Option D) (h t : Str) (hht : h ≠ t) (ht : t ∈ Tn ∨ t ∈ Jn) (Dn : EnD)
    (n1 : ∀ kh, kh < Jn.length → jn Jn kh = h → ∀ kt, kt < Jn.length → jn Jn kt = t → ∀ x14 x15, Dn.nx (lwE μ d lt Tn Jn τ θ x6 x7 x8 (some (.int w)) x10 x11 (some (.str h)) (some (.str t)) x14 x15) (μ ++ cellsT Jn.length (addT (addT M kh kh w) kh kt (-w))))
    (n2 : ∀ kh, kh < Jn.length → jn Jn kh = h → t ∈ Tn → ∀ x14 x15, Dn.nx (lwE μ d lt Tn Jn τ θ x6 x7 x8 (some (.int w)) x10 x11 (some (.str h)) (some (.str t)) x14 x15) (μ ++ cellsT Jn.length (addT (addT M kh kh w) kh Jn.length (w * τ t))))
    (n3 : ¬ h ∈ Jn → Dn.nx (lwE μ d lt Tn Jn τ θ x6 x7 x8 (some (.int w)) x10 x11 (some (.str h)) (some (.str t)) x14 x15) (μ ++ cellsT Jn.length M)) :
    wSs Φ halfIR (lwE μ d lt Tn Jn τ θ x6 x7 x8 (some (.int w)) x10 x11 (some (.str h)) (some (.str t)) x14 x15) (μ ++ cellsT Jn.length M) Dn := by
  have ndJ := (List.nodup_append.mp nd).2.1
  unfold halfIR
  unfold lwE at *
  simp only [s_cons, s_nil, s_iff, e_cmp, cmpW, e_v, lk, onS_some, mem_dct, asB_bl]
  refine ⟨fun g => ?_, fun g => n3 (of_decide_eq_false g)⟩
  obtain ⟨kh, hk, rfl⟩ := jn_of (of_decide_eq_true g)
  have lkh : lookD Jn ((List.range Jn.length).map fun k => D.cel (μ.length + k)) (jn Jn kh) = some (.cel (μ.length + kh)) :=
    lookD_get ndJ (jn_get hk) (by rw [List.getElem?_map, List.getElem?_range hk]; rfl)
  have hwR : RB 10 (w : Rat) := rb_int (by omega) (by decide)
  have hrow : rowL Jn.length (M kh) = rowL Jn.length (M kh) := rfl
  simp only [s_cons, s_par, s_sub, s_iff, s_nil, e_ix, e_v, e_k, lk, st, onS_some, ix_dct, lkh, e_me, meTy, lst_lst, es_cons, es_nil, meW, allStr_str, asS, find_jn ndJ hk, true_and, e_call, e_tup, h3, ix_celg (cells_get' hk), at_nat, rowL_at (Nat.le_of_lt hk), fr_int]
  refine ⟨_, _, _, _, rfl, hM kh hk kh (Nat.le_of_lt hk), hwR, by decide, ?_⟩
  simp only [e_v, lk, onS_some, set_celg (cells_get' hk), rowL_len, ixn (show kh < Jn.length + 1 by omega), cells_set hk (Nat.le_of_lt hk), e_cmp, cmpW, mem_dct, asB_bl]
  refine ⟨fun g2 => ?_, fun g2 => ?_⟩
  · obtain ⟨kt, hkt, et⟩ := jn_of (of_decide_eq_true g2)
    have fk : Jn.findIdx? (fun z => decide (z = t)) = some kt := by rw [← et]; exact find_jn ndJ hkt
    have hne : kt ≠ kh := fun e => hht (by rw [← et, e])
    have e1 : addT M kh kh w kh kt = M kh kt := by unfold addT; rw [if_neg (by omega)]
    simp only [s_cons, s_sub, s_nil, e_ix, e_v, e_k, lk, st, onS_some, e_me, meTy, lst_lst, es_cons, es_nil, meW, allStr_str, asS, fk, true_and, e_call, e_tup, h1, ix_celg (cells_get' hk), at_nat, rowL_at (Nat.le_of_lt hkt), fr_int]
    refine ⟨_, _, _, _, rfl, by rw [e1]; exact hM kh hk kt (Nat.le_of_lt hkt), hwR, by decide, ?_⟩
    simp only [e_v, lk, onS_some, e_me, meTy, lst_lst, es_cons, es_nil, meW, allStr_str, asS, fk, true_and, set_celg (cells_get' hk), rowL_len, ixn (show kt < Jn.length + 1 by omega)]
    rw [show addT M kh kh w kh kt - (w : Rat) = addT M kh kh w kh kt + (-w) by grind, cells_set hk (Nat.le_of_lt hkt)]
    exact n1 kh hk rfl kt hkt et _ _
  · have htT : t ∈ Tn := ht.resolve_right (of_decide_eq_false g2)
    have lt' : lookD Tn (Tn.map fun n => fr (τ n)) t = some (fr (τ t)) := lookD_map (f := fun n => fr (τ n)) htT
    have e1 : addT M kh kh w kh Jn.length = M kh Jn.length := by unfold addT; rw [if_neg (by omega)]
    simp only [s_cons, s_sub, s_nil, e_ix, e_v, e_k, e_neg, asI_int, lk, st, onS_some, es_cons, es_nil, e_call, e_tup, h2, h3, ix_celg (cells_get' hk), at_neg1, ix_dct, lt', fr_int]
    have hwt : RB 2900 ((w : Rat) * (τ t : Rat)) := by
      rw [← Rat.intCast_mul]
      refine rb_int ?_ (by decide)
      rw [Int.natAbs_mul]
      have := hτ t htT
      calc w.natAbs * (τ t).natAbs ≤ 100 * (τ t).natAbs := Nat.mul_le_mul_right _ hw
        _ < 2 ^ 10 * 2 ^ 2890 := by
          have : (100 : Nat) < 2 ^ 10 := by decide
          have h5 := Nat.mul_le_mul_left 100 (Nat.le_of_lt (hτ t htT))
          have h6 : 100 * 2 ^ 2890 < 2 ^ 10 * 2 ^ 2890 := Nat.mul_lt_mul_of_pos_right this (Nat.pow_pos (by decide))
          omega
        _ = 2 ^ 2900 := by rw [← Nat.pow_add]
    refine ⟨_, _, _, _, rfl, hwR, (rb_int (hτ t htT) (by decide)), by decide, _, _, _, _, rfl, by rw [e1]; exact hM kh hk _ (Nat.le_refl _), hwt, by decide, ?_⟩
    simp only [e_v, e_neg, e_k, asI_int, lk, onS_some, set_celg (cells_get' hk), rowL_len, ix_neg1, cells_set hk (Nat.le_refl _)]
    exact n2 kh hk rfl htT _ _
end FW

set_option Elab.async false
set_option linter.all false
set_option maxRecDepth 100000
/-! DN4: works that are right make a net. -/
namespace FW
open PySem
theorem dedup_len : ∀ (xs acc : List Str), (xs.foldl ddStep acc).length ≤ acc.length + xs.length
  | [], acc => Nat.le_refl _
  | x :: r, acc => by
    have h := dedup_len r (ddStep acc x)
    have : (ddStep acc x).length ≤ acc.length + 1 := by
      unfold ddStep; split
      · omega
      · rw [List.length_append]; exact Nat.le_refl _
    show (r.foldl ddStep (ddStep acc x)).length ≤ acc.length + (r.length + 1)
    omega
theorem dedup_nodup : ∀ (xs acc : List Str), acc.Nodup → (xs.foldl ddStep acc).length = acc.length + xs.length → (acc ++ xs).Nodup
  | [], acc, h, _ => by rw [List.append_nil]; exact h
  | x :: r, acc, h, e => by
    have e : (r.foldl ddStep (ddStep acc x)).length = acc.length + (r.length + 1) := e
    have l := dedup_len r (ddStep acc x)
    by_cases hx : x ∈ acc
    · have : ddStep acc x = acc := if_pos hx
      rw [this] at e l; omega
    · have d : ddStep acc x = acc ++ [x] := if_neg hx
      rw [d] at e
      have := dedup_nodup r (acc ++ [x]) (by
        rw [List.nodup_append]
        exact ⟨h, by simp, fun a ha b hb => by rw [List.mem_singleton.mp hb]; exact fun e => hx (e ▸ ha)⟩) (by rw [e, List.length_append]; show _ = _ + 1 + _; omega)
      rw [List.append_assoc] at this; exact this
theorem ltS_trans {a b c : Str} (h1 : ltS a b = true) (h2 : ltS b c = true) : ltS a c = true := by
  unfold ltS at *
  exact decide_eq_true (List.lt_trans (of_decide_eq_true h1) (of_decide_eq_true h2))
theorem ltS_irrefl (a : Str) : ltS a a = false := by unfold ltS; exact decide_eq_false (List.lt_irrefl _)
/-- pairs in order -/
def ltP (a b : Str × Str) : Bool := if a.1 = b.1 then ltS a.2 b.2 else ltS a.1 b.1
theorem ltP_irrefl (a : Str × Str) : ltP a a = false := by unfold ltP; rw [if_pos rfl]; exact ltS_irrefl _
theorem ltP_trans {a b c : Str × Str} (h1 : ltP a b = true) (h2 : ltP b c = true) : ltP a c = true := by
  unfold ltP at *
  by_cases e1 : a.1 = b.1
  · rw [if_pos e1] at h1
    by_cases e2 : b.1 = c.1
    · rw [if_pos e2] at h2; rw [if_pos (e1.trans e2)]; exact ltS_trans h1 h2
    · rw [if_neg e2] at h2; rw [if_neg (by rw [e1]; exact e2), e1]; exact h2
  · rw [if_neg e1] at h1
    by_cases e2 : b.1 = c.1
    · rw [if_pos e2] at h2; rw [if_neg (by rw [← e2]; exact e1), ← e2]; exact h1
    · rw [if_neg e2] at h2
      have := ltS_trans h1 h2
      rw [if_neg (fun e => by rw [e, ltS_irrefl] at this; cases this)]; exact this
theorem rises_pw {α : Type} {lt : α → α → Bool} (tr : ∀ a b c, lt a b = true → lt b c = true → lt a c = true) : ∀ {xs : List α}, risesB lt xs = true → xs.Pairwise fun a b => lt a b = true
  | [], _ => .nil
  | [a], _ => by simp
  | a :: b :: r, h => by
    rw [risesB, Bool.and_eq_true] at h
    have := rises_pw tr h.2
    refine List.pairwise_cons.mpr ⟨fun c hc => ?_, this⟩
    rcases List.mem_cons.mp hc with rfl | hc
    · exact h.1
    · exact tr _ _ _ h.1 ((List.pairwise_cons.mp this).1 c hc)
theorem rises_map {α β : Type} {lt : β → β → Bool} {f : α → β} {lt' : α → α → Bool} (e : ∀ a b, lt (f a) (f b) = lt' a b) : ∀ {xs : List α}, risesB lt (xs.map f) = risesB lt' xs
  | [] => rfl
  | [a] => rfl
  | a :: b :: r => by
    have := rises_map e (xs := b :: r)
    rw [List.map_cons, List.map_cons, risesB, risesB, e, ← List.map_cons, this]
theorem pw_nodup {α : Type} {lt : α → α → Bool} (ir : ∀ a, lt a a = false) {xs : List α} (h : xs.Pairwise fun a b => lt a b = true) : xs.Nodup :=
  h.imp fun {a b} h e => by subst e; rw [ir] at h; cases h
def Wk.tn (W : Wk) : List Str := W.T.map (·.1)
def Wk.jn (W : Wk) : List Str := W.J.map (·.1)
theorem Wk.names_eq (W : Wk) : W.names = W.tn ++ W.jn := by unfold Wk.names Wk.tn Wk.jn; rw [List.map_append]
def lookN (ps : List (Str × Int)) (n : Str) : Int := match ps.find? fun p => decide (p.1 = n) with
  | some p => p.2
  | none => 0
def Wk.τ (W : Wk) (n : Str) : Int := lookN W.T n
def Wk.θ (W : Wk) (n : Str) : Int := lookN W.J n
theorem lookN_mem : ∀ {ps : List (Str × Int)} {p : Str × Int}, (ps.map (·.1)).Nodup → p ∈ ps → lookN ps p.1 = p.2
  | [], _, _, h => absurd h List.not_mem_nil
  | q :: r, p, nd, h => by
    rw [List.map_cons] at nd
    obtain ⟨n1, n2⟩ := List.nodup_cons.mp nd
    unfold lookN
    rw [List.find?_cons]
    rcases List.mem_cons.mp h with rfl | h
    · rw [decide_eq_true rfl]
    · have : ¬ q.1 = p.1 := fun e => n1 (e ▸ List.mem_map.mpr ⟨p, h, rfl⟩)
      rw [decide_eq_false this]
      exact lookN_mem n2 h
/-- good works, numbers below a bound -/
structure GW (W : Wk) (A : Nat) : Prop where
  net : Net W.tn W.jn W.P
  pipe : ∀ p, p ∈ W.P → p.a ≠ p.b ∧ 1 ≤ p.w ∧ p.w ≤ 100
  pks : (W.P.map pk).Pairwise fun a b => ltP a b = true
  lt1 : 1 ≤ W.T.length
  lt : W.T.length ≤ 4
  lj : W.J.length ≤ 5
  lp : W.P.length ≤ 9
  lf : W.flaps.length ≤ 5
  bt : ∀ p, p ∈ W.T → p.2.natAbs ≤ A
  bj : ∀ p, p ∈ W.J → p.2.natAbs ≤ A
  fl : ∀ p, p ∈ W.P → p.f = "" ∨ p.f = ">" ∨ p.f = "<"
theorem GW.w {W : Wk} {A : Nat} (g : GW W A) : ∀ p, p ∈ W.P → 1 ≤ p.w := fun p h => (g.pipe p h).2.1
theorem GW.nt {W : Wk} {A : Nat} (g : GW W A) : W.tn.Nodup := (List.nodup_append.mp g.net.nd).1
theorem GW.nj {W : Wk} {A : Nat} (g : GW W A) : W.jn.Nodup := (List.nodup_append.mp g.net.nd).2.1
theorem GW.τb {W : Wk} {A : Nat} (g : GW W A) : ∀ t, t ∈ W.tn → (W.τ t).natAbs ≤ A := fun t h => by
  obtain ⟨p, hp, rfl⟩ := List.mem_map.mp h
  rw [show W.τ p.1 = p.2 from lookN_mem g.nt hp]; exact g.bt p hp
theorem GW.θb {W : Wk} {A : Nat} (g : GW W A) : ∀ t, t ∈ W.jn → (W.θ t).natAbs ≤ A := fun t h => by
  obtain ⟨p, hp, rfl⟩ := List.mem_map.mp h
  rw [show W.θ p.1 = p.2 from lookN_mem g.nj hp]; exact g.bj p hp
theorem hang_step {Z : Str → Prop} {p : Pi} {found : List Str} (h : ∀ x, x ∈ found → Z x) (hz : p.f = "" → (Z p.a ↔ Z p.b)) : ∀ x, x ∈ hangStep found p → Z x := by
  intro x hx
  unfold hangStep at hx
  split at hx
  · rename_i g
    obtain ⟨g1, g2⟩ := g
    rcases List.mem_append.mp hx with hx | hx
    · exact h x hx
    · rw [List.mem_singleton.mp hx]
      by_cases ha : p.a ∈ found
      · rw [if_pos ha]; exact (hz g1).mp (h _ ha)
      · rw [if_neg ha]
        have hb : p.b ∈ found := by
          apply Classical.byContradiction; intro hb
          exact g2 (by rw [decide_eq_false ha, decide_eq_false hb])
        exact (hz g1).mpr (h _ hb)
  · exact h x hx
theorem hang_fold {Z : Str → Prop} : ∀ {ps : List Pi} {found : List Str}, (∀ x, x ∈ found → Z x) → (∀ p, p ∈ ps → p.f = "" → (Z p.a ↔ Z p.b)) → ∀ x, x ∈ ps.foldl hangStep found → Z x
  | [], _, h, _ => h
  | p :: r, _, h, hz => hang_fold (ps := r) (hang_step h (hz p List.mem_cons_self)) fun q hq => hz q (List.mem_cons_of_mem _ hq)
theorem hang_of {W : Wk} (h : W.hangsB = true) : Hang W.tn W.jn W.P := by
  intro Z z1 z2 j hj
  obtain ⟨p, hp, rfl⟩ := List.mem_map.mp hj
  have hm : p.1 ∈ W.found := of_decide_eq_true (List.all_eq_true.mp h p hp)
  have go : ∀ (js : List (Str × Int)) (found : List Str), (∀ x, x ∈ found → Z x) → ∀ x, x ∈ js.foldl (fun f _ => W.P.foldl hangStep f) found → Z x := by
    intro js
    induction js with
    | nil => exact fun _ h => h
    | cons a r ih => exact fun found h => ih _ (hang_fold h z2)
  exact go W.J _ z1 _ hm
theorem ltS_ne {a b : Str} (h : ltS a b = true) : a ≠ b := fun e => by rw [e, ltS_irrefl] at h; cases h
theorem places_b {ps : List (Str × Int)} {most low : Int} (h : placesB ps most low = true) : (ps.length : Int) ≤ most ∧ ∀ p, p ∈ ps → low ≤ p.2 ∧ p.2 ≤ 1000 := by
  unfold placesB at h
  simp only [Bool.and_eq_true, decide_eq_true_eq] at h
  refine ⟨h.1, fun p hp => ?_⟩
  have := List.all_eq_true.mp h.2.2.1 p hp
  unfold wholeB at this
  simpa using this
theorem gw_of_ok {W : Wk} (h : W.okB = true) (hT : W.T ≠ []) : GW W 1000 := by
  unfold Wk.okB at h
  simp only [Bool.and_eq_true, decide_eq_true_eq] at h
  obtain ⟨h1, h2, h3, h4, h5, h6, h7, h8⟩ := h
  have b1 := places_b h1
  have b2 := places_b h2
  have nd : (W.tn ++ W.jn).Nodup := by
    rw [← Wk.names_eq]
    have := dedup_nodup W.names [] .nil (by rw [List.length_nil, Nat.zero_add]; exact h3)
    exact this
  have pp : ∀ p, p ∈ W.P → pipeB W.names p = true := fun p hp => List.all_eq_true.mp h5 p hp
  have e6 : risesB dLt (W.P.map fun p => pr2 p.a p.b) = risesB ltP (W.P.map pk) := by
    have a1 : risesB dLt (W.P.map fun p => pr2 p.a p.b) = risesB (fun a b => ltP (pk a) (pk b)) W.P := rises_map fun a b => dLt_pr2 a.a a.b b.a b.b
    have a2 : risesB ltP (W.P.map pk) = risesB (fun a b => ltP (pk a) (pk b)) W.P := rises_map fun _ _ => rfl
    rw [a1, a2]
  rw [e6] at h6
  refine ⟨⟨nd, fun p hp => ?_, hang_of h8⟩, fun p hp => ?_, rises_pw (fun a b c => ltP_trans (a := a) (b := b) (c := c)) h6, by have := List.length_pos_iff.mpr hT; omega, by omega, by omega, h4, h7, fun p hp => by have := b1.2 p hp; omega, fun p hp => by have := b2.2 p hp; omega, fun p hp => ?_⟩
  all_goals
    have := pp p hp
    unfold pipeB at this
    simp only [Bool.and_eq_true, decide_eq_true_eq] at this
    obtain ⟨⟨q1, q2, q3⟩, q4, q5⟩ := this
  · rw [← Wk.names_eq]; exact ⟨q1, q2⟩
  · unfold wholeB at q4
    simp only [Bool.and_eq_true, decide_eq_true_eq] at q4
    exact ⟨ltS_ne q3, q4.1, q4.2⟩
  · exact q5
/-- the levels -/
noncomputable def Wk.x (W : Wk) : Lv := @dite _ (∃ x, Run W.tn W.jn W.P W.τ W.θ x) (Classical.propDecidable _) (fun h => Classical.choose h) fun _ _ => 0
theorem GW.run {W : Wk} {A : Nat} (g : GW W A) : Run W.tn W.jn W.P W.τ W.θ W.x := by
  have h : ∃ x, Run W.tn W.jn W.P W.τ W.θ x := run_ex _ W.P rfl g.net g.w
  unfold Wk.x
  rw [dif_pos h]
  exact Classical.choose_spec h
theorem GW.eq {W : Wk} {A : Nat} (g : GW W A) {x : Lv} (r : Run W.tn W.jn W.P W.τ W.θ x) : ∀ n, n ∈ W.tn ++ W.jn → x n = W.x n := run_uniq g.net g.w r g.run
/-- flaps wedged -/
theorem wedge_a {lot : Lot} {p : Pi} : (wedgeP lot p).a = p.a ∧ (wedgeP lot p).b = p.b ∧ (wedgeP lot p).w = p.w := by
  unfold wedgeP; split <;> exact ⟨rfl, rfl, rfl⟩
theorem wedge_f {lot : Lot} {p : Pi} : (wedgeP lot p).f = p.f ∨ (wedgeP lot p).f = "" := by
  unfold wedgeP; split
  · exact .inr rfl
  · exact .inl rfl
theorem wedge_pk {lot : Lot} {p : Pi} : pk (wedgeP lot p) = pk p := by
  unfold pk; rw [wedge_a.1, wedge_a.2.1]
theorem GW.wedge {W : Wk} {A : Nat} (g : GW W A) (lot : Lot) : GW (W.wedge lot) A := by
  have hm : ∀ {q}, q ∈ W.P.map (wedgeP lot) → ∃ p, p ∈ W.P ∧ wedgeP lot p = q := fun h => List.mem_map.mp h
  refine ⟨⟨g.net.nd, fun q hq => ?_, fun Z z1 z2 => g.net.hang Z z1 fun p hp hf => ?_⟩, fun q hq => ?_, ?_, g.lt1, g.lt, g.lj, ?_, ?_, g.bt, g.bj, fun q hq => ?_⟩
  · obtain ⟨p, hp, rfl⟩ := hm hq
    rw [wedge_a.1, wedge_a.2.1]; exact g.net.ends p hp
  · have := z2 (wedgeP lot p) (List.mem_map.mpr ⟨p, hp, rfl⟩) (by rcases wedge_f (lot := lot) (p := p) with h | h <;> rw [h]; exact hf)
    rw [wedge_a.1, wedge_a.2.1] at this; exact this
  · obtain ⟨p, hp, rfl⟩ := hm hq
    rw [wedge_a.1, wedge_a.2.1, wedge_a.2.2]; exact g.pipe p hp
  · show ((W.P.map (wedgeP lot)).map pk).Pairwise _
    rw [List.map_map, show pk ∘ wedgeP lot = pk from funext fun p => wedge_pk]; exact g.pks
  · show (W.P.map (wedgeP lot)).length ≤ 9
    rw [List.length_map]; exact g.lp
  · show ((W.P.map (wedgeP lot)).filter isFlap).length ≤ 5
    rw [List.filter_map, List.length_map]
    refine Nat.le_trans ?_ g.lf
    show (W.P.filter (isFlap ∘ wedgeP lot)).length ≤ (W.P.filter isFlap).length
    exact (List.Sublist.length_le (by
      have : W.P.filter (isFlap ∘ wedgeP lot) = (W.P.filter isFlap).filter (isFlap ∘ wedgeP lot) := by
        rw [List.filter_filter]
        refine List.filter_congr fun p _ => ?_
        show isFlap (wedgeP lot p) = (isFlap (wedgeP lot p) && isFlap p)
        rcases wedge_f (lot := lot) (p := p) with h | h
        · rw [show isFlap (wedgeP lot p) = isFlap p by unfold isFlap; rw [h], Bool.and_self]
        · rw [show isFlap (wedgeP lot p) = false by unfold isFlap; rw [h]; rfl]; rfl
      rw [this]; exact List.filter_sublist))
  · obtain ⟨p, hp, rfl⟩ := hm hq
    rcases wedge_f (lot := lot) (p := p) with h | h
    · rw [h]; exact g.fl p hp
    · exact .inl h
end FW

set_option Elab.async false
set_option linter.all false
set_option maxRecDepth 100000
/-! DG6: levels_with, whole. -/
namespace FW
open PySem
theorem cellsT_congr {n : Nat} {M M' : Tab} (h : ∀ k, k < n → ∀ c, c ≤ n → M k c = M' k c) : cellsT n M = cellsT n M' := by
  unfold cellsT
  refine List.map_congr_left fun k hk => ?_
  have hk := List.mem_range.mp hk
  have e : rowL n (M k) = rowL n (M' k) := List.map_congr_left fun c hc => by rw [h k hk c (by have := List.mem_range.mp hc; omega)]
  rw [e]
theorem addT_int {M : Tab} {a b k c : Nat} {v : Rat} (hM : ∀ k c, IntB a (M k c)) (hv : IntB b v) : ∀ k' c', IntB (a + b) (addT M k c v k' c') := by
  intro k' c'
  unfold addT
  split
  · exact (hM k c).add hv
  · exact (hM k' c').mono (by omega)
def pipeIR : ISs := (.cons (.iff (.call "goes" false (.cons (.tup (.cons (.v 7) (.cons (.v 8) (.cons (.v 9) (.cons (.v 10) .nil))))) (.cons (.v 3) .nil))) (.cons (.for_ (.t [12, 13]) (.seq (.tup (.cons (.tup (.cons (.v 7) (.cons (.v 8) .nil))) (.cons (.tup (.cons (.v 8) (.cons (.v 7) .nil))) .nil)))) halfIR) .nil) .nil) .nil)
/-- a table cut to its size -/
def cutT (n : Nat) (M : Tab) : Tab := fun k c => if k < n ∧ c ≤ n then M k c else 0
theorem cutT_cells {n : Nat} {M : Tab} : cellsT n (cutT n M) = cellsT n M := cellsT_congr fun k hk c hc => if_pos ⟨hk, hc⟩
theorem p100 {m : Nat} (h : m ≤ 2 ^ 2880) : m + 9 * (100 * m) + 1000 + 200 * m < 2 ^ 2900 := by
  have h1 : m + 9 * (100 * m) + 1000 + 200 * m ≤ 2 ^ 2880 * 2101 := by
    have : 0 < 2 ^ 2880 := Nat.pow_pos (by decide)
    omega
  have h2 : 2 ^ 2880 * 2101 < 2 ^ 2880 * 2 ^ 20 := Nat.mul_lt_mul_of_pos_left (by decide) (Nat.pow_pos (by decide))
  rw [← Nat.pow_add] at h2
  omega
theorem both (Φ : Str → FS) (h1 : Φ "minus" = fs_arith (· - ·)) (h2 : Φ "times" = fs_arith (· * ·)) (h3 : Φ "plus" = fs_arith (· + ·)) (μ : Mu) (d lt : D) (Tn Jn : List Str) (nd : (Tn ++ Jn).Nodup) (τ θ : Str → Int) (m : Nat) (hm : m ≤ 2 ^ 2880)
    (hτ : ∀ t, t ∈ Tn → (τ t).natAbs ≤ m) (hθ : ∀ j, j ∈ Jn → (θ j).natAbs ≤ m) (S : Lot) (A : List Pi) (p : Pi) (hA : A.length ≤ 9) (hp : ∀ p', p' ∈ A ++ [p] → p'.a ≠ p'.b ∧ 1 ≤ p'.w ∧ p'.w ≤ 100) (ha : p.a ∈ Tn ++ Jn) (hb : p.b ∈ Tn ++ Jn) (g : goesB p S = true)
    (x6 x7 x8 x10 x11 x12 x13 x14 x15 : Option D) (src : Mu → Prop) (hs : ∀ m, src m) (Dn : EnD)
    (n : ∀ x12 x13 x14 x15, Dn.nx (lwE μ d lt Tn Jn τ θ x6 x7 x8 (some (.int p.w)) x10 x11 x12 x13 x14 x15) (μ ++ cellsT Jn.length (TT Tn Jn (A ++ [p]) S τ θ))) :
    FL Φ (.t [12, 13]) halfIR src [.tup [.str p.a, .str p.b], .tup [.str p.b, .str p.a]] (lwE μ d lt Tn Jn τ θ x6 x7 x8 (some (.int p.w)) x10 x11 x12 x13 x14 x15) (μ ++ cellsT Jn.length (TT Tn Jn A S τ θ)) Dn := by
  obtain ⟨hab, w1, w2⟩ := hp p (List.mem_append_right _ List.mem_cons_self)
  have hpA : ∀ p', p' ∈ A → p'.a ≠ p'.b ∧ 1 ≤ p'.w ∧ p'.w ≤ 100 := fun q hq => hp q (List.mem_append_left _ hq)
  have hw : p.w.natAbs ≤ 100 := by omega
  have hτ' : ∀ t, t ∈ Tn → (τ t).natAbs < 2 ^ 2890 := fun t ht => Nat.lt_of_le_of_lt (hτ t ht) (Nat.lt_of_le_of_lt hm (Nat.pow_lt_pow_right (by decide) (by decide)))
  have big := p100 hm
  have bigp : (2 : Nat) ^ 2900 < 2 ^ 2950 := Nat.pow_lt_pow_right (by decide) (by decide)
  have hl : A.length * (100 * m) ≤ 9 * (100 * m) := Nat.mul_le_mul_right _ hA
  have I0 : ∀ k c, IntB (m + 9 * (100 * m) + 900) (cutT Jn.length (TT Tn Jn A S τ θ) k c) := fun k c => by
    unfold cutT; split
    · rename_i h
      refine (TT_int (S := S) nd hτ hθ h.1 h.2 hpA).mono ?_
      split <;> omega
    · exact int0
  have R0 : ∀ k, k < Jn.length → ∀ c, c ≤ Jn.length → RB 2950 (cutT Jn.length (TT Tn Jn A S τ θ) k c) := fun k _ c _ => (I0 k c).rb (by omega) (by decide)
  rw [← cutT_cells]
  have wI : IntB 100 (p.w : Rat) := ⟨p.w, hw, rfl⟩
  have wT : ∀ t, t ∈ Tn → IntB (100 * m) ((p.w : Rat) * τ t) := fun t ht => wI.mul ⟨τ t, hτ t ht, rfl⟩
  have cong : ∀ {M : Tab}, (∀ k, k < Jn.length → ∀ c, c ≤ Jn.length → M k c = TT Tn Jn (A ++ [p]) S τ θ k c) → cellsT Jn.length M = cellsT Jn.length (TT Tn Jn (A ++ [p]) S τ θ) := cellsT_congr
  have cadd : ∀ {M M' : Tab} {k c : Nat} {v : Rat}, (∀ k, k < Jn.length → ∀ c, c ≤ Jn.length → M k c = M' k c) → k < Jn.length → c ≤ Jn.length → (∀ k', k' < Jn.length → ∀ c', c' ≤ Jn.length → addT M k c v k' c' = addT M' k c v k' c') := by
    intro M M' k c v h hk hc k' hk' c' hc'
    unfold addT
    split
    · rw [h k hk c hc]
    · rw [h k' hk' c' hc']
  have c0 : ∀ k, k < Jn.length → ∀ c, c ≤ Jn.length → cutT Jn.length (TT Tn Jn A S τ θ) k c = TT Tn Jn A S τ θ k c := fun k hk c hc => if_pos ⟨hk, hc⟩
  have notJ : ∀ {x}, x ∈ Tn → ¬ x ∈ Jn := fun hx h => (List.nodup_append.mp nd).2.2 _ hx _ h rfl
  have fin : ∀ {M : Tab} (x14 x15 : Option D), (∀ k, k < Jn.length → ∀ c, c ≤ Jn.length → M k c = TT Tn Jn (A ++ [p]) S τ θ k c) → src (μ ++ cellsT Jn.length M) ∧ FL Φ (.t [12, 13]) halfIR src [] (lwE μ d lt Tn Jn τ θ x6 x7 x8 (some (.int p.w)) x10 x11 (some (.str p.b)) (some (.str p.a)) x14 x15) (μ ++ cellsT Jn.length M) Dn := by
    intro M x14 x15 h
    refine ⟨hs _, ?_⟩
    rw [FL_nil, cong h]
    exact n _ _ _ _
  rw [FL_cons]
  change wSs Φ halfIR (lwE μ d lt Tn Jn τ θ x6 x7 x8 (some (.int p.w)) x10 x11 (some (.str p.a)) (some (.str p.b)) x14 x15) _ _
  refine half Φ h1 h2 h3 μ d lt Tn Jn nd τ θ p.w hw _ hτ' R0 x6 x7 x8 x10 x11 x14 x15 p.a p.b hab (List.mem_append.mp hb) _ ?_ ?_ ?_
  · intro ka hka ea kb hkb eb x14 x15
    refine ⟨hs _, ?_⟩
    rw [FL_cons]
    change wSs Φ halfIR (lwE μ d lt Tn Jn τ θ x6 x7 x8 (some (.int p.w)) x10 x11 (some (.str p.b)) (some (.str p.a)) x14 x15) _ _
    refine half Φ h1 h2 h3 μ d lt Tn Jn nd τ θ p.w hw _ hτ' (fun k _ c _ => (addT_int (addT_int I0 wI) wI.neg k c).rb (by omega) (by decide)) x6 x7 x8 x10 x11 x14 x15 p.b p.a hab.symm (List.mem_append.mp ha) _ ?_ ?_ ?_
    · intro kb' hkb' eb' ka' hka' ea' x14 x15
      have e1 : kb' = kb := jn_inj (List.nodup_append.mp nd).2.1 hkb' hkb (eb'.trans eb.symm)
      have e2 : ka' = ka := jn_inj (List.nodup_append.mp nd).2.1 hka' hka (ea'.trans ea.symm)
      subst e1 e2
      refine fin _ _ fun k hk c hc => ?_
      rw [← TT_jj nd g hab hka ea hkb eb hk hc]
      exact cadd (cadd (cadd (cadd c0 hka (Nat.le_of_lt hka)) hka (Nat.le_of_lt hkb)) hkb (Nat.le_of_lt hkb)) hkb (Nat.le_of_lt hka) k hk c hc
    · intro _ _ _ hT
      exact absurd (ea ▸ jn_mem hka) (notJ hT)
    · intro hn
      exact absurd (eb ▸ jn_mem hkb) hn
  · intro ka hka ea hT x14 x15
    refine ⟨hs _, ?_⟩
    rw [FL_cons]
    change wSs Φ halfIR (lwE μ d lt Tn Jn τ θ x6 x7 x8 (some (.int p.w)) x10 x11 (some (.str p.b)) (some (.str p.a)) x14 x15) _ _
    refine half Φ h1 h2 h3 μ d lt Tn Jn nd τ θ p.w hw _ hτ' (fun k _ c _ => (addT_int (addT_int I0 wI) (wT _ hT) k c).rb (by omega) (by decide)) x6 x7 x8 x10 x11 x14 x15 p.b p.a hab.symm (List.mem_append.mp ha) _ ?_ ?_ ?_
    · intro kb hkb eb
      exact absurd (eb ▸ jn_mem hkb) (notJ hT)
    · intro kb hkb eb
      exact absurd (eb ▸ jn_mem hkb) (notJ hT)
    · intro _
      refine fin _ _ fun k hk c hc => ?_
      rw [← TT_jt nd g hab hka ea hT hk hc]
      exact cadd (cadd c0 hka (Nat.le_of_lt hka)) hka (Nat.le_refl _) k hk c hc
  · intro hn
    have haT : p.a ∈ Tn := (List.mem_append.mp ha).resolve_right hn
    refine ⟨hs _, ?_⟩
    rw [FL_cons]
    change wSs Φ halfIR (lwE μ d lt Tn Jn τ θ x6 x7 x8 (some (.int p.w)) x10 x11 (some (.str p.b)) (some (.str p.a)) x14 x15) _ _
    refine half Φ h1 h2 h3 μ d lt Tn Jn nd τ θ p.w hw _ hτ' R0 x6 x7 x8 x10 x11 x14 x15 p.b p.a hab.symm (List.mem_append.mp ha) _ ?_ ?_ ?_
    · intro _ _ _ ka hka ea
      exact absurd (ea ▸ jn_mem hka) hn
    · intro kb hkb eb _ x14 x15
      refine fin _ _ fun k hk c hc => ?_
      rw [← TT_tj nd g hab hkb eb haT hk hc]
      exact cadd (cadd c0 hkb (Nat.le_of_lt hkb)) hkb (Nat.le_refl _) k hk c hc
    · intro hn2
      refine fin _ _ fun k hk c hc => ?_
      rw [← TT_tt nd hab haT ((List.mem_append.mp hb).resolve_right hn2) hk hc]
      exact c0 k hk c hc
theorem pipes_loop (Φ : Str → FS) (h1 : Φ "minus" = fs_arith (· - ·)) (h2 : Φ "times" = fs_arith (· * ·)) (h3 : Φ "plus" = fs_arith (· + ·)) (h4 : Φ "goes" = fs_goes) (μ : Mu) (d : D) (Tn Jn : List Str) (nd : (Tn ++ Jn).Nodup) (τ θ : Str → Int) (m : Nat) (hm : m ≤ 2 ^ 2880)
    (hτ : ∀ t, t ∈ Tn → (τ t).natAbs ≤ m) (hθ : ∀ j, j ∈ Jn → (θ j).natAbs ≤ m) (S : Lot) (P : List Pi) (hP : P.length ≤ 9) (hp : ∀ p', p' ∈ P → p'.a ≠ p'.b ∧ 1 ≤ p'.w ∧ p'.w ≤ 100) (he : ∀ p', p' ∈ P → p'.a ∈ Tn ++ Jn ∧ p'.b ∈ Tn ++ Jn) (src : Mu → Prop) (hs : ∀ m, src m) :
    ∀ (ps A : List Pi) (x6 x7 x8 x9 x10 x11 x12 x13 x14 x15 : Option D) (Dn : EnD), A ++ ps = P →
    (∀ x7 x8 x9 x10 x12 x13 x14 x15, Dn.nx (lwE μ d (lotL S) Tn Jn τ θ x6 x7 x8 x9 x10 x11 x12 x13 x14 x15) (μ ++ cellsT Jn.length (TT Tn Jn P S τ θ))) →
    FL Φ (.t [7, 8, 9, 10]) pipeIR src (ps.map pid) (lwE μ d (lotL S) Tn Jn τ θ x6 x7 x8 x9 x10 x11 x12 x13 x14 x15) (μ ++ cellsT Jn.length (TT Tn Jn A S τ θ)) Dn := by
  intro ps
  induction ps with
  | nil =>
    intro A x6 x7 x8 x9 x10 x11 x12 x13 x14 x15 Dn e n
    rw [List.append_nil] at e
    subst e
    exact n _ _ _ _ _ _ _ _
  | cons p r ih =>
    intro A x6 x7 x8 x9 x10 x11 x12 x13 x14 x15 Dn e n
    have e' : (A ++ [p]) ++ r = P := by rw [← e]; simp
    have hpm : p ∈ P := by rw [← e]; exact List.mem_append_right _ List.mem_cons_self
    rw [List.map_cons, FL_cons]
    unfold pipeIR
    simp only [pid, tgW, lwE, stAll, st, onS_some, s_cons, s_nil, s_iff, e_call, e_tup, es_cons, es_nil, e_v, lk, h4]
    refine ⟨p, S, _, rfl, .inr rfl, ?_⟩
    simp only [asB_bl]
    refine ⟨fun g => ?_, fun g => ?_⟩
    · simp only [s_for, i_seq, e_tup, es_cons, es_nil, e_v, lk, onS_some, seq_tup]
      refine both Φ h1 h2 h3 μ d (lotL S) Tn Jn nd τ θ m hm hτ hθ S A p (by rw [← e, List.length_append] at hP; omega) (fun q hq => hp q (by rw [← e']; exact List.mem_append_left _ hq)) (he p hpm).1 (he p hpm).2 g _ _ _ _ _ _ _ _ _ _ (fun _ => trivial) _ ?_
      intro x12 x13 x14 x15
      exact ⟨hs _, ih (A ++ [p]) _ _ _ _ _ _ _ _ _ _ _ e' n⟩
    · rw [← TT_shut g]
      exact ⟨hs _, ih (A ++ [p]) _ _ _ _ _ _ _ _ _ _ _ e' n⟩
theorem putD_new {ks : List Str} {ds : List D} {x : Str} {e : D} (h : ¬ x ∈ ks) : putD ks ds x e = (ks ++ [x], ds ++ [e]) := if_neg h
theorem putAll_zip : ∀ (ks2 : List Str) (ds2 : List D) (ks : List Str) (ds : List D), (ks ++ ks2).Nodup → ks2.length = ds2.length → putAll ks ds (ks2.zip ds2) = (ks ++ ks2, ds ++ ds2)
  | [], [], ks, ds, _, _ => by simp [putAll]
  | [], _ :: _, _, _, _, h => by simp at h
  | _ :: _, [], _, _, _, h => by simp at h
  | k :: ks2, d :: ds2, ks, ds, nd, h => by
    have hk : ¬ k ∈ ks := fun hk => (List.nodup_append.mp nd).2.2 k hk k List.mem_cons_self rfl
    rw [List.zip_cons_cons, putAll, putD_new hk]
    have := putAll_zip ks2 ds2 (ks ++ [k]) (ds ++ [d]) (by rw [List.append_assoc]; exact nd) (by simpa using h)
    rw [this]; simp
theorem jn_range {J : List Str} {α : Type} (f : Str → α) : J.map f = (List.range J.length).map fun k => f (jn J k) := by
  apply List.ext_getElem?
  intro j
  by_cases hj : j < J.length
  · rw [List.getElem?_map, List.getElem?_map, List.getElem?_range hj, jn_get hj]; rfl
  · rw [List.getElem?_eq_none (by rw [List.length_map]; omega), List.getElem?_eq_none (by rw [List.length_map, List.length_range]; omega)]
def fs_levels_with : FS := fun ds μ Q _ => ∃ (W : Wk) (d : D) (τ θ : Str → Int) (S : Lot) (m : Nat), ds = [d, .dct W.tn (W.tn.map fun n => fr (τ n)), .dct W.jn (W.jn.map fun n => .int (θ n)), lotL S] ∧ IsW W d ∧
  Net W.tn W.jn W.P ∧ (∀ p, p ∈ W.P → p.a ≠ p.b ∧ 1 ≤ p.w ∧ p.w ≤ 100) ∧ W.T.length ≤ 100 ∧ W.J.length ≤ 5 ∧ W.P.length ≤ 9 ∧ m ≤ 2 ^ 2880 ∧ (∀ t, t ∈ W.tn → (τ t).natAbs ≤ m) ∧ (∀ j, j ∈ W.jn → (θ j).natAbs ≤ m) ∧
  (∀ x : Lv, RunL W.tn W.jn W.P S τ θ x → (∀ n, n ∈ W.jn → FrB (Fs 5 * (2 ^ 10 * (m + 1))) (Bs 5) (x n)) → Q (.dct (W.tn ++ W.jn) ((W.tn ++ W.jn).map fun n => fr (x n))) μ)
end FW

set_option Elab.async false
set_option linter.all false
set_option maxRecDepth 100000
/-! DG7: levels_with, the walk. -/
namespace FW
open PySem
theorem TT_nil {T J : List Str} {S : Lot} {τ θ : Str → Int} {k : Nat} : rowL J.length (TT T J [] S τ θ k) = List.replicate J.length (fr 0) ++ [fr (0 - (θ (jn J k) : Rat))] := by
  unfold rowL
  rw [List.range_succ, List.map_append]
  congr 1
  · apply List.ext_getElem?
    intro j
    by_cases hj : j < J.length
    · rw [List.getElem?_map, List.getElem?_range hj, List.getElem?_replicate, if_pos hj]
      show some (fr (TT T J [] S τ θ k j)) = _
      unfold TT out
      rw [if_pos hj, ls]
    · rw [List.getElem?_eq_none (by rw [List.length_map, List.length_range]; omega), List.getElem?_eq_none (by rw [List.length_replicate]; omega)]
  · show [fr (TT T J [] S τ θ k J.length)] = _
    unfold TT out
    rw [if_neg (Nat.lt_irrefl _), ls]
    congr 2
    grind
theorem flat_rep {x : D} : ∀ n : Nat, (List.replicate n [x]).flatten = List.replicate n x
  | 0 => rfl
  | n + 1 => by rw [List.replicate_succ, List.flatten_cons, flat_rep n]; rfl

theorem ncA_app : ∀ {xs ys : List D}, ncA (xs ++ ys) = (ncA xs && ncA ys)
  | [], _ => rfl
  | x :: r, ys => by rw [List.cons_append, ncA, ncA, ncA_app, Bool.and_assoc]
/-- the rows of the table, made one by one -/
theorem rows_loop (Φ : Str → FS) (h1 : Φ "minus" = fs_arith (· - ·)) (μ : Mu) (d lt : D) (Tn Jn : List Str) (nd : Jn.Nodup) (hJ : Jn.length ≤ 5) (τ θ : Str → Int) (m : Nat) (hm : m ≤ 2 ^ 2880) (hθ : ∀ j, j ∈ Jn → (θ j).natAbs ≤ m) (S : Lot) (x5 x6 x7 x8 x9 x10 x12 x13 x14 x15 : Option D) (Q : List Str → List D → Mu → Prop)
    (q : Q Jn ((List.range Jn.length).map fun k => .cel (μ.length + k)) (μ ++ cellsT Jn.length (TT Tn Jn [] S τ θ))) :
    ∀ (r i : Nat), i + r = Jn.length → DC Φ (.v 11) (.op .Add true (.op .Mult false (.lst false (.cons (.g "NOUGHT" (.tup [.int 0, .int 1])) .nil)) (.bi .len false (.cons (.v 4) .nil))) (.lst false (.cons (.call "minus" false (.cons (.g "NOUGHT" (.tup [.int 0, .int 1])) (.cons (.tup (.cons (.ix (.v 2) (.v 11)) (.cons (.k (.int 1)) .nil))) .nil))) .nil))) (.n 11) (fun _ => True)
      [some d, some (.dct Tn (Tn.map fun n => fr (τ n))), some (.dct Jn (Jn.map fun n => .int (θ n))), some lt, some (.lst (Jn.map .str)), x5, x6, x7, x8, x9, x10, none, x12, x13, x14, x15]
      ((Jn.drop i).map .str) (Jn.take i) ((List.range i).map fun k => .cel (μ.length + k)) (μ ++ (List.range i).map fun k => some (.lst (rowL Jn.length (TT Tn Jn [] S τ θ k)))) Q := by
  intro r
  induction r with
  | zero =>
    intro i hi
    have : i = Jn.length := by omega
    subst this
    rw [List.drop_length, List.take_length, List.map_nil, DC_nil]
    exact q
  | succ r ih =>
    intro i hi
    have hlt : i < Jn.length := by omega
    have hd : Jn.drop i = jn Jn i :: Jn.drop (i + 1) := by
      rw [List.drop_eq_getElem_cons hlt]
      congr 1
      have := jn_get hlt
      rw [List.getElem?_eq_getElem hlt] at this
      exact Option.some.inj this
    have ht : Jn.take (i + 1) = Jn.take i ++ [jn Jn i] := by rw [List.take_add_one, jn_get hlt]; rfl
    rw [hd, List.map_cons, DC_cons]
    have lk' : lookD Jn (Jn.map fun n => D.int (θ n)) (jn Jn i) = some (.int (θ (jn Jn i))) := lookD_map (f := fun n => D.int (θ n)) (jn_mem hlt)
    have hθi := hθ _ (jn_mem hlt)
    have lJ : (Jn.map D.str).length = Jn.length := List.length_map ..
    simp only [tgW, st, e_v, lk, onS_some, asS, e_op, e_lst, e_g, es_cons, es_nil, newL_f, e_bi, biW, len_lst, lJ, bopW]
    have mw : ∀ (R : QD) (μ' : Mu), R (.lst (List.replicate Jn.length (fr 0))) μ' → mulW false (.lst [.tup [.int 0, .int 1]]) (.int (Jn.length : Nat)) μ' R := by
      intro R μ' h
      refine ⟨⟨by omega, by omega, by decide⟩, ?_⟩
      show R (.lst (List.replicate ((Jn.length : Nat) : Int).toNat [D.tup [.int 0, .int 1]]).flatten) μ'
      rw [show ((Jn.length : Nat) : Int).toNat = Jn.length by omega, flat_rep]; exact h
    refine mw _ _ ?_
    simp only [e_call, es_cons, es_nil, e_g, e_tup, e_ix, e_v, e_k, lk, onS_some, ix_dct, lk', h1]
    refine ⟨0, (θ (jn Jn i) : Rat), 1, 2890, by rw [← fr_int]; rfl, ⟨by decide, by decide⟩, rb_int (Nat.lt_of_le_of_lt hθi (Nat.lt_of_le_of_lt hm (Nat.pow_lt_pow_right (by decide) (by decide)))) (by decide), by decide, ?_⟩
    show Sz _ ∧ _
    refine ⟨by show _ ≤ _; rw [List.length_replicate]; show _ + 1 ≤ _; omega, ?_⟩
    show newL true (List.replicate Jn.length (fr 0) ++ [fr (0 - (θ (jn Jn i) : Rat))]) _ _
    rw [newL_t, ← TT_nil (T := Tn) (S := S) (τ := τ)]
    refine ⟨⟨trivial, by show _ ≤ _; rw [List.length_take]; omega⟩, ?_⟩
    have hn : ¬ jn Jn i ∈ Jn.take i := fun h => by
      obtain ⟨j, hj, e⟩ := List.getElem_of_mem h
      rw [List.length_take] at hj
      have hj' : j < Jn.length := by omega
      rw [List.getElem_take] at e
      have := jn_get hj'
      rw [List.getElem?_eq_getElem hj'] at this
      have := jn_inj nd hj' hlt ((Option.some.inj this).symm.trans e)
      omega
    rw [putD_new hn]
    have := ih (i + 1) (by omega)
    rw [ht, List.range_succ, List.map_append, List.map_append, ← List.append_assoc] at this
    have e2 : (μ ++ (List.range i).map fun k => some (MO.lst (rowL Jn.length (TT Tn Jn [] S τ θ k)))).length = μ.length + i := by rw [List.length_append, List.length_map, List.length_range]
    rw [e2]
    exact this
def rowIR : IE := (.op .Add true (.op .Mult false (.lst false (.cons (.g "NOUGHT" (.tup [.int 0, .int 1])) .nil)) (.bi .len false (.cons (.v 4) .nil))) (.lst false (.cons (.call "minus" false (.cons (.g "NOUGHT" (.tup [.int 0, .int 1])) (.cons (.tup (.cons (.ix (.v 2) (.v 11)) (.cons (.k (.int 1)) .nil))) .nil))) .nil)))
theorem rows_all (Φ : Str → FS) (h1 : Φ "minus" = fs_arith (· - ·)) (μ : Mu) (d lt : D) (Tn Jn : List Str) (nd : Jn.Nodup) (hJ : Jn.length ≤ 5) (τ θ : Str → Int) (m : Nat) (hm : m ≤ 2 ^ 2880) (hθ : ∀ j, j ∈ Jn → (θ j).natAbs ≤ m) (S : Lot) (x5 x6 x7 x8 x9 x10 x12 x13 x14 x15 : Option D) (Q : List Str → List D → Mu → Prop)
    (q : Q Jn ((List.range Jn.length).map fun k => .cel (μ.length + k)) (μ ++ cellsT Jn.length (TT Tn Jn [] S τ θ))) :
    DC Φ (.v 11) rowIR (.n 11) (fun _ => True)
      [some d, some (.dct Tn (Tn.map fun n => fr (τ n))), some (.dct Jn (Jn.map fun n => .int (θ n))), some lt, some (.lst (Jn.map .str)), x5, x6, x7, x8, x9, x10, none, x12, x13, x14, x15]
      (Jn.map .str) [] [] μ Q := by
  have h := rows_loop Φ h1 μ d lt Tn Jn nd hJ τ θ m hm hθ S x5 x6 x7 x8 x9 x10 x12 x13 x14 x15 Q q Jn.length 0 (by omega)
  simp only [List.drop_zero, List.take_zero, List.range_zero, List.map_nil, List.append_nil] at h
  exact h
theorem p_levels_with (Φ : Str → FS) (h1 : Φ "minus" = fs_arith (· - ·)) (h2 : Φ "times" = fs_arith (· * ·)) (h3 : Φ "plus" = fs_arith (· + ·)) (h4 : Φ "goes" = fs_goes) (h5 : Φ "solved" = fs_solved) : ∀ ds μ Qd Ed, ds.length = 4 → fs_levels_with ds μ Qd Ed → wSs Φ ir_levels_with (start0 N_levels_with.length ds) μ (endD μ Qd Ed) := by
  rintro ds μ Q E _ ⟨W, d, τ, θ, S, m, rfl, ⟨t, j, p, rfl, rfl, hj, hpp⟩, N, hP, l1, l2, l3, hm, hτ, hθ, q⟩
  unfold ir_levels_with
  change wSs Φ _ [some _, some _, some _, some _, none, none, none, none, none, none, none, none, none, none, none, none] μ _
  have nd := N.nd
  have ndJ : W.jn.Nodup := (List.nodup_append.mp nd).2.1
  have lj : W.jn.length = W.J.length := by unfold Wk.jn; rw [List.length_map]
  simp only [s_cons, s_nil, s_asg, e_lc, i_seq, e_ix, e_v, e_k, lk, st, onS_some, ix_tup, at1, hj.seq.seq, newL_f, wp0, wp0.wipe1]
  refine LC_maps plc (fun p => .str p.1) (by rw [hj.seq.src (μ := μ)]; trivial) _ ?_ (by show _ ≤ _; omega) ?_
  · intro a ha R r
    simp only [tgW, st, e_ix, e_v, e_k, lk, onS_some, ix_tup, plc, at0]
    exact r
  rw [show W.J.map (fun p => D.str p.1) = W.jn.map .str by unfold Wk.jn; rw [List.map_map]; rfl]
  simp only [e_dc, i_seq, e_v, lk, onS_some, seq_lst, wp0, wp0.wipe1, srcOf]
  refine rows_all Φ h1 μ _ (lotL S) W.tn W.jn ndJ (by omega) τ θ m hm hθ S none none none none none none none none none none _ ?_
  simp only [s_for, i_seq, e_ix, e_v, e_k, lk, st, onS_some, ix_tup, at2, hpp.seq.seq, newDk]
  refine pipes_loop Φ h1 h2 h3 h4 μ _ W.tn W.jn nd τ θ m hm hτ hθ S W.P l3 hP N.ends _ (fun _ => by rw [hpp.seq.src (μ := μ)]; trivial) W.P [] _ _ _ _ _ _ _ _ _ _ _ rfl ?_
  intro x7 x8 x9 x10 x12 x13 x14 x15
  generalize hμ' : μ ++ cellsT W.jn.length (TT W.tn W.jn W.P S τ θ) = μ'
  have hlook : ∀ k, k < W.jn.length → ∀ r : Mu, seqOf (μ' ++ r) (.cel (μ.length + k)) = some (rowL W.jn.length (TT W.tn W.jn W.P S τ θ k)) := by
    intro k hk r
    show (match (μ' ++ r)[μ.length + k]? with
      | some (some (.lst xs)) => some xs
      | _ => none) = _
    rw [← hμ', cells_get hk]
  simp only [lwE, s_asg, s_ex, e_bi, biW, es_cons, es_nil, e_v, lk, onS_some, dictW, dicOf, newDk, st, e_me, meTy, cellK, cg0, true_and, e_call, e_lc, i_seq, seq_lst, wp0, wp0.wipe1, newL_f, h5]
  rw [jn_range D.str]
  refine LC_maps (fun k => .str (jn W.jn k)) (fun k => .cel (μ.length + k)) trivial _ ?_ (by show _ ≤ _; rw [List.length_range]; omega) ?_
  · intro k hk R r
    have hk := List.mem_range.mp hk
    have lkh : lookD W.jn ((List.range W.jn.length).map fun k => D.cel (μ.length + k)) (jn W.jn k) = some (.cel (μ.length + k)) :=
      lookD_get ndJ (jn_get hk) (by rw [List.getElem?_map, List.getElem?_range hk]; rfl)
    simp only [tgW, st, e_ix, e_v, lk, onS_some, ix_dct, lkh]
    exact r
  have C1 : 2 ^ 10 ≤ 2 ^ 10 * (m + 1) := Nat.le_mul_of_pos_right _ (by omega)
  have C2 : 2 ^ 10 * (m + 1) ≤ 2 ^ 2900 := by
    have h6 : m + 1 ≤ 2 ^ 2890 := Nat.le_trans (Nat.succ_le_succ hm) (Nat.succ_le_of_lt (Nat.pow_lt_pow_right (by decide) (by decide)))
    have := Nat.mul_le_mul_left (2 ^ 10) h6
    rw [← Nat.pow_add] at this; exact this
  refine ⟨W.jn.length, 2 ^ 10 * (m + 1), TT W.tn W.jn W.P S τ θ, fun k => .cel (μ.length + k), rfl, fun k hk => hlook k hk _, by omega, C1, C2, ker_TT N (fun p hp => (hP p hp).2.1), TT_rows nd hτ hθ hP l3, ?_⟩
  intro x hx hs hb
  have rl := sol_run N hx hs
  have q := q (ext W.tn W.jn τ x) rl (fun n hn => by
    obtain ⟨k, hk, rfl⟩ := jn_of hn
    rw [ext_j nd hk]; exact hb k hk)
  rw [List.map_append, jn_range (J := W.jn) fun n => fr (ext W.tn W.jn τ x n)] at q
  have e1 : (List.range W.jn.length).map (fun k => fr (ext W.tn W.jn τ x (jn W.jn k))) = (List.range W.jn.length).map (fun k => fr (x k)) := List.map_congr_left fun k hk => by rw [ext_j nd (List.mem_range.mp hk)]
  have e2 : W.tn.map (fun n => fr (ext W.tn W.jn τ x n)) = W.tn.map (fun n => fr (τ n)) := List.map_congr_left fun n hn => by rw [ext_t nd hn]
  rw [e1, e2] at q
  rw [← jn_range D.str]
  have z1 := putAll_zip W.jn ((List.range W.jn.length).map fun k => fr (x k)) [] [] ndJ (by rw [List.length_map, List.length_range])
  have z2 := putAll_zip W.jn ((List.range W.jn.length).map fun k => fr (x k)) W.tn (W.tn.map fun n => fr (τ n)) nd (by rw [List.length_map, List.length_range])
  have lt' : W.tn.length = W.T.length := by unfold Wk.tn; rw [List.length_map]
  simp only [lst_lst, onS_some, allStr_str, List.length_map, List.length_range, z1, List.nil_append, meW, cellK, cg0, cs0, z2]
  refine ⟨⟨trivial, by show _ ≤ _; omega⟩, by show _ ≤ _; omega, ?_⟩
  simp only [s_fz, fzW, lk, cg0, cs0, st, s_cons, s_ret, e_v, onS_some]
  rw [← hμ', List.append_assoc]
  refine rt_new ?_ q
  show ncA _ = true
  rw [ncA_app, ncA_map _ (fun _ => nc_fr _), ncA_map _ (fun _ => nc_fr _)]
  rfl
end FW

set_option Elab.async false
set_option linter.all false
set_option maxRecDepth 100000
/-! DG8: all_levels, levels. -/
namespace FW
open PySem
/-- works whose junctions' tuple is known to be plain -/
def IsWp (W : Wk) (d : D) : Prop := ∃ p, d = .tup [.tup (W.T.map plc), .ptp (W.J.map plc), p] ∧ IsTup p (W.P.map pid)
theorem IsWp.w {W : Wk} {d : D} (h : IsWp W d) : IsW W d := by
  obtain ⟨p, rfl, hp⟩ := h
  exact ⟨_, _, p, rfl, rfl, .inr rfl, hp⟩
theorem choices_mem : ∀ (xs : Lot) (f : List Lot) (l : Lot), (∃ l0 ∈ f, ∃ s, s.Sublist xs ∧ l = l0 ++ s) → l ∈ xs.foldl chStep f := by
  intro xs
  induction xs with
  | nil =>
    rintro f l ⟨l0, h0, s, hs, rfl⟩
    rw [List.sublist_nil.mp hs, List.append_nil]; exact h0
  | cons x r ih =>
    rintro f l ⟨l0, h0, s, hs, rfl⟩
    refine ih (chStep f x) _ ?_
    cases hs with
    | cons _ h => exact ⟨l0, List.mem_append_left _ h0, s, h, rfl⟩
    | cons_cons _ h => rename_i s'; exact ⟨l0 ++ [x], List.mem_append_right _ (List.mem_map.mpr ⟨l0, h0, rfl⟩), s', h, by simp⟩
def consB (W : Wk) (S : Lot) (x : Lv) : Bool := W.flaps.all fun p => if pk p ∈ S then !decide (liftQ p x < 0) else !decide (0 < liftQ p x)
/-- the bound of a level -/
def LB (A : Nat) (q : Rat) : Prop := FrB (Fs 5 * (2 ^ 10 * (A + 1))) (Bs 5) q
theorem LB.rb {A : Nat} {q : Rat} (h : LB A q) (hA : A ≤ 2 ^ 2880) : RB 3300 q := by
  refine FrB.rb h (big1 ?_) big0
  have h6 : A + 1 ≤ 2 ^ 2890 := Nat.le_trans (Nat.succ_le_succ hA) (Nat.succ_le_of_lt (Nat.pow_lt_pow_right (by decide) (by decide)))
  have := Nat.mul_le_mul_left (2 ^ 10) h6
  rw [← Nat.pow_add] at this; exact this
theorem LB.int {A : Nat} {z : Int} (h : z.natAbs ≤ A) : LB A (z : Rat) := by
  refine ⟨z, 1, by decide, Bs_pos 5, Nat.le_trans h ?_, by rw [Rat.intCast_one]; grind⟩
  have h1 : 1 ≤ Fs 5 := Fs_le (Nat.zero_le 5)
  have := Nat.mul_le_mul h1 (show A ≤ 2 ^ 10 * (A + 1) by omega)
  omega
noncomputable def fs_all_levels : FS := fun ds μ Q _ => ∃ (W : Wk) (d : D) (A : Nat), ds = [d] ∧ IsWp W d ∧ GW W A ∧ A ≤ 2 ^ 2880 ∧ ((∀ n, n ∈ W.tn ++ W.jn → LB A (W.x n)) → Q (.dct (W.tn ++ W.jn) ((W.tn ++ W.jn).map fun n => fr (W.x n))) μ)
theorem dct_tanks {W : Wk} {A : Nat} (g : GW W A) : W.T.map (fun p => fr (p.2 : Rat)) = W.tn.map fun n => fr (W.τ n) := by
  unfold Wk.tn
  rw [List.map_map]
  exact List.map_congr_left fun p hp => by show _ = fr (W.τ p.1); rw [show W.τ p.1 = p.2 from lookN_mem g.nt hp]
theorem allPr_plc : ∀ ps : List (Str × Int), allPr (ps.map plc) = some (ps.map fun p => (p.1, D.int p.2))
  | [] => rfl
  | p :: r => by rw [List.map_cons, plc, allPr, allPr_plc r]; rfl
theorem putAll_plc {ps : List (Str × Int)} {f : Str × Int → D} (nd : (ps.map (·.1)).Nodup) : putAll [] [] (ps.map fun p => (p.1, f p)) = (ps.map (·.1), ps.map f) := by
  have := putAll_zip (ps.map fun p : Str × Int => p.1) (ps.map f) [] [] nd (by rw [List.length_map, List.length_map])
  rw [show (ps.map fun p : Str × Int => p.1).zip (ps.map f) = ps.map fun p => (p.1, f p) by rw [List.zip_map']] at this
  exact this
theorem DC_maps {Φ : Str → FS} {env : En} {μ : Mu} {α : Type} {k e : IE} {tg : Tg} {src : Mu → Prop} {Q : List Str → List D → Mu → Prop} (enc : α → D) (fk : α → Str) (f : α → D) (hs : src μ) : ∀ (xs : List α) (ks : List Str) (vs : List D),
    (∀ a ∈ xs, ∀ R : Str → D → Mu → Prop, R (fk a) (f a) μ → tgW tg (enc a) μ env fun env' => wE Φ k env' μ (fun x μ1 => asS x fun c => wE Φ e env' μ1 (fun y μ2 => R c y μ2) NoX) NoX) → (ks ++ xs.map fk).Nodup → ks.length + xs.length ≤ 100000 → Q (ks ++ xs.map fk) (vs ++ xs.map f) μ → DC Φ k e tg src env (xs.map enc) ks vs μ Q
  | [], ks, vs, _, _, _, q => by rw [List.map_nil, DC_nil]; simpa using q
  | a :: r, ks, vs, h, nd, hz, q => by
    have hz : ks.length + (r.length + 1) ≤ 100000 := hz
    have hk : ¬ fk a ∈ ks := fun hk => (List.nodup_append.mp nd).2.2 _ hk _ List.mem_cons_self rfl
    rw [List.map_cons, DC_cons]
    refine h a List.mem_cons_self (fun c y μ2 => (src μ2 ∧ Sz (ks.length + 1)) ∧ DC Φ k e tg src env (r.map enc) (putD ks vs c y).1 (putD ks vs c y).2 μ2 Q) ⟨⟨hs, by show _ ≤ _; omega⟩, ?_⟩
    rw [putD_new hk]
    refine DC_maps enc fk f hs r _ _ (fun b hb => h b (List.mem_cons_of_mem _ hb)) (by rw [List.append_assoc]; exact nd) (by rw [List.length_append, List.length_singleton]; omega) (by simpa using q)
theorem FrB.sub {C B C' B' : Nat} {p q : Rat} (hp : FrB C B p) (hq : FrB C' B' q) : FrB (C * B' + C' * B) (B * B') (p - q) := by
  obtain ⟨z, d, hd, h1, h2, e⟩ := hp
  obtain ⟨z', d', hd', h1', h2', e'⟩ := hq
  refine ⟨z * d' - z' * d, d * d', Int.mul_ne_zero hd hd', ?_, ?_, ?_⟩
  · rw [Int.natAbs_mul]; exact Nat.mul_le_mul h1 h1'
  · have a1 : (z * d').natAbs ≤ C * B' := by rw [Int.natAbs_mul]; exact Nat.mul_le_mul h2 h1'
    have a2 : (z' * d).natAbs ≤ C' * B := by rw [Int.natAbs_mul]; exact Nat.mul_le_mul h2' h1
    omega
  · rw [Rat.intCast_mul, Rat.intCast_sub, Rat.intCast_mul, Rat.intCast_mul, ← e, ← e']; grind
theorem RB.frb {n : Nat} {q : Rat} (h : RB n q) : FrB (2 ^ n) (2 ^ n) q := by
  refine ⟨q.num, q.den, by have := q.den_pos; omega, by have := h.2; omega, by have := h.1; omega, ?_⟩
  have := Rat.divInt_eq_div q.num q.den
  rw [Rat.num_divInt_den] at this
  have d0 : ((q.den : Int) : Rat) ≠ 0 := by
    intro h; have := Rat.intCast_inj.mp (h.trans Rat.intCast_zero.symm); have := den_pos' q; omega
  conv => lhs; rw [this]
  grind
theorem RB.sub {n : Nat} {p q : Rat} (hp : RB n p) (hq : RB n q) : RB (n + n + 2) (p - q) := by
  have := (hp.frb).sub hq.frb
  refine this.rb ?_ ?_
  · rw [← Nat.pow_add, Nat.pow_succ, Nat.pow_succ]
    have := Nat.pow_pos (n := n + n) (show 0 < 2 by decide)
    omega
  · rw [← Nat.pow_add]
    exact Nat.pow_lt_pow_right (by decide) (by omega)
theorem lift_rb {n : Nat} {p : Pi} {x : Lv} (ha : RB n (x p.a)) (hb : RB n (x p.b)) : RB (n + n + 2) (liftQ p x) := by
  unfold liftQ; split
  · exact ha.sub hb
  · exact hb.sub ha
theorem consB_open {W : Wk} {A : Nat} (g : GW W A) {x : Lv} (r : RunL W.tn W.jn W.P (openLot W.P W.x) W.τ W.θ x) : consB W (openLot W.P W.x) x = true := by
  have nk : (W.P.map pk).Nodup := pw_nodup ltP_irrefl g.pks
  have e := runL_uniq g.net g.w r (lot_of_run nk g.run)
  unfold consB
  rw [List.all_eq_true]
  intro p hp
  obtain ⟨h1, h2⟩ := List.mem_filter.mp hp
  have el : liftQ p x = liftQ' W.x p := by
    unfold liftQ liftQ'
    rw [e _ (g.net.ends p h1).1, e _ (g.net.ends p h1).2]
  rw [el]
  by_cases h : 0 < liftQ' W.x p
  · have : pk p ∈ openLot W.P W.x := List.mem_map.mpr ⟨p, List.mem_filter.mpr ⟨hp, decide_eq_true h⟩, rfl⟩
    rw [if_pos this, decide_eq_false (by grind)]; rfl
  · split
    · rename_i hm
      obtain ⟨p', hp', e'⟩ := List.mem_map.mp hm
      obtain ⟨h3, h4⟩ := List.mem_filter.mp hp'
      obtain ⟨h5, h6⟩ := List.mem_filter.mp h3
      obtain ⟨i, hi, e1⟩ := List.getElem_of_mem h5
      obtain ⟨j, hj, e2⟩ := List.getElem_of_mem h1
      have : i = j := by
        refine (List.getElem_inj (h₀ := by rw [List.length_map]; exact hi) (h₁ := by rw [List.length_map]; exact hj) nk).mp ?_
        rw [List.getElem_map, List.getElem_map, e1, e2]; exact e'
      subst this
      rw [← e1.symm.trans e2] at h
      exact absurd (of_decide_eq_true h4) h
    · rw [decide_eq_false h]; rfl
theorem cons_run {W : Wk} {A : Nat} (g : GW W A) {S : Lot} {x : Lv} (r : RunL W.tn W.jn W.P S W.τ W.θ x) (c : consB W S x = true) : ∀ n, n ∈ W.tn ++ W.jn → x n = W.x n := by
  refine g.eq (run_of_lot r fun p hp hf => ?_)
  unfold consB at c
  rw [List.all_eq_true] at c
  have := c p (List.mem_filter.mpr ⟨hp, hf⟩)
  have el : liftQ p x = liftQ' x p := rfl
  rw [el] at this
  split
  · rename_i h; rw [if_pos h] at this; simp at this; grind
  · rename_i h; rw [if_neg h] at this; simp at this; grind
def lotIR : ISs := (.cons (.asg (.n 4) (.call "levels_with" false (.cons (.v 0) (.cons (.v 2) (.cons (.v 3) (.cons (.v 1) .nil)))))) (.cons (.asg (.n 5) (.lc false [6] (.tup (.cons (.cmp .In (.sl false (.v 6) .nil (.cons (.k (.int 2)) .nil)) (.v 1)) (.cons (.call "lift" false (.cons (.v 6) (.cons (.v 4) .nil))) .nil))) (.n 6) (.seq (.call "flaps_of" false (.cons (.v 0) .nil))) .nil)) (.cons (.iff (.bi .all false (.cons (.lc false [9, 10] (.ife (.v 9) (.not (.call "is_less" false (.cons (.v 10) (.cons (.g "NOUGHT" (.tup [.int 0, .int 1])) .nil)))) (.not (.call "is_less" false (.cons (.g "NOUGHT" (.tup [.int 0, .int 1])) (.cons (.v 10) .nil))))) (.t [9, 10]) (.seq (.v 5)) .nil) .nil)) (.cons (.ret (.v 4)) .nil) .nil) .nil)))
theorem rb0 {n : Nat} (h : 1 ≤ n) : RB n 0 := by
  have := Nat.pow_le_pow_right (n := 2) (by decide) h
  exact ⟨by show 0 < _; omega, by show 1 < _; omega⟩
theorem lots_try (Φ : Str → FS) (h1 : Φ "levels_with" = fs_levels_with) (h2 : Φ "lift" = fs_lift) (h3 : Φ "flaps_of" = fs_flaps_of) (h4 : Φ "is_less" = fs_less) (μ : Mu) (W : Wk) (d : D) (hd : IsWp W d) (A : Nat) (g : GW W A) (hA : A ≤ 2 ^ 2880) (src : Mu → Prop) (hs : src μ) (Dn : EnD)
    (q : (∀ n, n ∈ W.tn ++ W.jn → LB A (W.x n)) → Dn.rt (.dct (W.tn ++ W.jn) ((W.tn ++ W.jn).map fun n => fr (W.x n))) μ) :
    ∀ (lots : List Lot) (x1 x4 x5 x6 x7 x8 x9 x10 : Option D), (∃ S ∈ lots, ∀ x, RunL W.tn W.jn W.P S W.τ W.θ x → consB W S x = true) →
    FL Φ (.n 1) lotIR src (lots.map lotL) [some d, x1, some (.dct W.tn (W.tn.map fun n => fr (W.τ n))), some (.dct W.jn (W.jn.map fun n => .int (W.θ n))), x4, x5, x6, x7, x8, x9, x10] μ Dn := by
  intro lots
  induction lots with
  | nil => rintro _ _ _ _ _ _ _ _ ⟨S, h, _⟩; exact absurd h List.not_mem_nil
  | cons S r ih =>
    rintro x1 x4 x5 x6 x7 x8 x9 x10 ⟨S', hS', hc⟩
    rw [List.map_cons, FL_cons]
    unfold lotIR
    simp only [tgW, st, s_cons, s_nil, s_asg, e_call, es_cons, es_nil, e_v, lk, onS_some, h1]
    refine ⟨W, d, W.τ, W.θ, S, A, rfl, hd.w, g.net, g.pipe, Nat.le_trans g.lt (by decide), g.lj, g.lp, hA, g.τb, g.θb, fun x rl hb => ?_⟩
    have xb : ∀ n, n ∈ W.tn ++ W.jn → LB A (x n) := fun n hn => by
      rcases List.mem_append.mp hn with h | h
      · rw [rl.t n h]; exact LB.int (g.τb n h)
      · exact hb n h
    simp only [s_cons, s_nil, s_asg, e_lc, i_seq, e_call, es_cons, es_nil, e_v, lk, st, onS_some, h3, wp0, wp0.wipe1]
    refine ⟨W, d, rfl, hd.w, Nat.le_trans g.lp (by decide), ?_⟩
    simp only [seq_lst, onS_some]
    have hfl : ∀ p, p ∈ W.flaps → p ∈ W.P := fun p hp => (List.mem_filter.mp hp).1
    refine LC_maps pid (fun p => .tup [.bl (decide (pk p ∈ S)), fr (liftQ p x)]) trivial _ ?_ (by have := g.lf; show _ ≤ _; omega) ?_
    · intro p hp R r
      have he := g.net.ends p (hfl p hp)
      have lkx : ∀ n, n ∈ W.tn ++ W.jn → lookF (W.tn ++ W.jn) ((W.tn ++ W.jn).map fun n => fr (x n)) x n := fun n hn => ⟨lookD_map (f := fun n => fr (x n)) hn, ((xb n hn).rb hA).mono (by decide)⟩
      simp only [tgW, st, e_tup, es_cons, es_nil, e_cmp, cmpW, e_sl, o_nil, o_cons, e_v, e_k, lk, onS_some, asI_int, pid, slW, cut2]
      refine mem_lot (pk p) .l (.inr rfl) ?_
      simp only [e_call, es_cons, es_nil, e_v, lk, onS_some, h2]
      exact ⟨p, _, _, x, rfl, lkx _ he.1, lkx _ he.2, r⟩
    simp only [newL_f, s_cons, s_nil, s_iff, e_bi, es_cons, es_nil, e_lc, i_seq, e_v, lk, st, onS_some, seq_lst, wp0, wp0.wipe1]
    refine LC_maps (fun p => .tup [.bl (decide (pk p ∈ S)), fr (liftQ p x)]) (fun p => .bl (if pk p ∈ S then !decide (liftQ p x < 0) else !decide (0 < liftQ p x))) trivial _ ?_ (by have := g.lf; show _ ≤ _; omega) ?_
    · intro p hp R r
      have he := g.net.ends p (hfl p hp)
      have rb : RB 6602 (liftQ p x) := lift_rb ((xb _ he.1).rb hA) ((xb _ he.2).rb hA)
      simp only [tgW, stAll, st, e_ife, e_not, e_call, e_g, es_cons, es_nil, e_v, lk, onS_some, asB_bl, h4]
      refine ⟨fun gg => ⟨_, _, 6602, rfl, rb, rb0 (by decide), by decide, ?_⟩, fun gg => ⟨_, _, 6602, rfl, rb0 (by decide), rb, by decide, ?_⟩⟩
      · rw [if_pos (of_decide_eq_true gg)] at r; exact r
      · rw [if_neg (of_decide_eq_false gg)] at r; exact r
    have ec : W.flaps.all (fun p => if pk p ∈ S then !decide (liftQ p x < 0) else !decide (0 < liftQ p x)) = consB W S x := rfl
    simp only [newL_f, biW, lst_lst, onS_some, allB_bl, all_map, ec, asB_bl]
    refine ⟨fun gg => ?_, fun gg => ?_⟩
    · have eq := cons_run g rl gg
      simp only [s_cons, s_ret, e_v, lk, onS_some]
      rw [List.map_congr_left fun n hn => by rw [eq n hn]]
      exact q fun n hn => by rw [← eq n hn]; exact xb n hn
    · refine ⟨hs, ih _ _ _ _ _ _ _ _ ⟨S', ?_, hc⟩⟩
      rcases List.mem_cons.mp hS' with rfl | h
      · rw [hc x rl] at gg; cases gg
      · exact h
theorem p_all_levels (Φ : Str → FS) (h1 : Φ "levels_with" = fs_levels_with) (h2 : Φ "lift" = fs_lift) (h3 : Φ "flaps_of" = fs_flaps_of) (h4 : Φ "is_less" = fs_less) (h5 : Φ "choices" = fs_choices) : ∀ ds μ Qd Ed, ds.length = 1 → fs_all_levels ds μ Qd Ed → wSs Φ ir_all_levels (start0 N_all_levels.length ds) μ (endD μ Qd Ed) := by
  rintro ds μ Q E _ ⟨W, d, A, rfl, hd, g, hA, q⟩
  have hd' := hd
  obtain ⟨p, rfl, hp⟩ := hd
  unfold ir_all_levels
  change wSs Φ _ [some _, none, none, none, none, none, none, none, none, none, none] μ _
  have lT := g.lt
  have lJ := g.lj
  simp only [s_cons, s_nil, s_par, e_dc, i_seq, e_ix, e_v, e_k, lk, st, onS_some, ix_tup, at0, at1, seq_tup, wp0, wp0.wipe1]
  refine DC_maps plc (fun p => p.1) (fun p => fr (p.2 : Rat)) trivial _ [] [] ?_ g.nt (by show 0 + _ ≤ _; omega) ?_
  · intro a ha R r
    simp only [tgW, plc, stAll, st, e_v, e_tup, e_k, es_cons, es_nil, lk, onS_some, asS, fr_int]
    exact r
  rw [List.nil_append, List.nil_append, dct_tanks g]
  have ej : W.J.map (fun p => D.int p.2) = W.jn.map fun n => .int (W.θ n) := by
    unfold Wk.jn
    rw [List.map_map]
    exact List.map_congr_left fun p hp => by show _ = D.int (W.θ p.1); rw [show W.θ p.1 = p.2 from lookN_mem g.nj hp]
  simp only [newDk, e_bi, biW, es_cons, es_nil, e_ix, e_v, e_k, lk, st, onS_some, ix_tup, at1, dictW, dicOf, allPr_plc, putAll_plc g.nj, List.length_map]
  refine ⟨by show _ ≤ _; omega, ?_⟩
  rw [show W.J.map (·.1) = W.jn from rfl, ej]
  simp only [s_cons, s_nil, s_for, i_seq, e_call, es_cons, es_nil, e_lc, e_v, lk, st, onS_some, wp0, wp0.wipe1, h3]
  refine ⟨W, _, rfl, hd'.w, Nat.le_trans g.lp (by decide), ?_⟩
  simp only [seq_lst, onS_some]
  refine LC_maps pid (fun p => prd (pk p)) trivial _ ?_ (by have := g.lf; show _ ≤ _; omega) ?_
  · intro a ha R r
    simp only [tgW, st, pid, e_sl, e_v, e_k, lk, onS_some, o_nil, o_cons, slW, asI_int, cut2]
    exact r
  rw [show W.flaps.map (fun p => prd (pk p)) = (W.flaps.map pk).map prd by rw [List.map_map]; rfl]
  simp only [newL_f, h5]
  refine ⟨W.flaps.map pk, rfl, by have := g.lf; rw [List.length_map]; omega, ?_⟩
  simp only [seq_lst, onS_some]
  refine lots_try Φ h1 h2 h3 h4 μ W _ hd' A g hA _ trivial _ (fun b => rt_same ?_ (q b)) _ _ _ _ _ _ _ _ _ ⟨openLot W.P W.x, ?_, fun x r => consB_open g r⟩
  · show ncA _ = true
    exact ncA_map _ (fun _ => nc_fr _) _
  · refine choices_mem _ [[]] _ ⟨[], List.mem_singleton_self _, openLot W.P W.x, ?_, rfl⟩
    unfold openLot
    exact (List.filter_sublist).map pk
noncomputable def lvD (W : Wk) : D := .lst (W.J.map fun p => .tup [.str p.1, fr (W.x p.1)])
/-- names short enough -/
def ShortN (W : Wk) : Prop := ∀ p ∈ W.T ++ W.J, p.1.length ≤ 100000
noncomputable def fs_levels : FS := fun ds μ Q _ => ∃ (W : Wk) (d : D), ds = [d] ∧ IsWp W d ∧ W.T ≠ [] ∧ ShortN W ∧ W.okB = true ∧ ((∀ n, n ∈ W.tn ++ W.jn → LB 1000 (W.x n)) → Q (lvD W) μ)
theorem p_levels (Φ : Str → FS) (h1 : Φ "need_works" = fs_need_works) (h2 : Φ "all_levels" = fs_all_levels) : ∀ ds μ Qd Ed, ds.length = 1 → fs_levels ds μ Qd Ed → wSs Φ ir_levels (start0 N_levels.length ds) μ (endD μ Qd Ed) := by
  rintro ds μ Q E _ ⟨W, d, rfl, hd, hT, hn, ok, q⟩
  have g := gw_of_ok ok hT
  unfold ir_levels
  change wSs Φ _ [some d, none, none] μ _
  have lT := g.lt
  have lJ := g.lj
  have lP := g.lp
  simp only [s_cons, s_nil, s_ex, s_asg, e_call, es_cons, es_nil, e_v, lk, st, onS_some, h1]
  refine ⟨W, d, rfl, hd.w, hT, by omega, by omega, by omega, hn, ok, ?_⟩
  simp only [s_cons, s_nil, s_ex, s_asg, e_call, es_cons, es_nil, e_v, lk, st, onS_some, h2]
  refine ⟨W, d, 1000, rfl, hd, g, Nat.le_trans (show 1000 ≤ 2 ^ 10 by decide) (Nat.pow_le_pow_right (by decide) (by decide)), fun b => ?_⟩
  obtain ⟨p, rfl, hp⟩ := hd
  simp only [s_ret, e_lc, i_seq, e_ix, ix_tup, e_v, e_k, lk, at1, onS_some, wp0, wp0.wipe1, seqOf]
  refine LC_maps plc (fun p => .tup [.str p.1, fr (W.x p.1)]) trivial _ ?_ (by show _ ≤ _; omega) ?_
  · intro a ha R r
    have hm : a.1 ∈ W.tn ++ W.jn := List.mem_append_right _ (List.mem_map.mpr ⟨a, ha, rfl⟩)
    simp only [tgW, st, e_tup, es_cons, es_nil, e_ix, ix_tup, e_v, e_k, lk, onS_some, plc, at0, ix_dct, lookD_map (f := fun n => fr (W.x n)) hm]
    exact r
  · refine rt_same ?_ (q b)
    show ncA _ = true
    exact ncA_map _ (fun _ => rfl) _
end FW

set_option Elab.async false
set_option linter.all false
set_option maxRecDepth 100000
/-! DG9: fewest_wedged. -/
namespace FW
open PySem
theorem IsWp.wedge {W : Wk} {d d' : D} {lot : Lot} (h : IsWp W d) : True := trivial
/-- the lots, fewer first -/
def lotsAll (xs : Lot) : List Lot := (List.range (xs.length + 1)).flatMap fun m => lotsF m xs
noncomputable def goodB (W : Wk) (x : Str) (q : Rat) (l : Lot) : Bool := !decide ((W.wedge l).x x < q)
def optL : Option Lot → D
  | some l => lotT l
  | none => .non
noncomputable def fs_fewest : FS := fun ds μ Q _ => ∃ (W : Wk) (d : D) (x : Str) (q : Rat), ds = [d, .str x, fr q] ∧ IsWp W d ∧ W.T ≠ [] ∧ ShortN W ∧ W.okB = true ∧ x ∈ W.jn ∧ RB 6000 q ∧ Q (optL ((lotsAll (W.flaps.map pk)).find? (goodB W x q))) μ
/-- wedged keeps the junctions' tuple -/
def fs_wedgedp : FS := fun ds μ Q _ => ∃ (W : Wk) (d e : D) (lot : Lot), ds = [d, e] ∧ IsWp W d ∧ W.P.length ≤ 100 ∧ (e = lotT lot ∨ e = lotL lot) ∧ (∀ d', IsWp (W.wedge lot) d' → d'.nc = true → Q d' μ)
theorem p_wedgedp (Φ : Str → FS) : ∀ ds μ Qd Ed, ds.length = 2 → fs_wedgedp ds μ Qd Ed → wSs Φ ir_wedged (start0 N_wedged.length ds) μ (endD μ Qd Ed) := by
  rintro ds μ Q E _ ⟨W, d, e, lot, rfl, ⟨p, rfl, hpp⟩, l3, he, q⟩
  unfold ir_wedged
  change wSs Φ _ [some _, some _, none] μ _
  have ct : cutD [D.tup (W.T.map plc), .ptp (W.J.map plc), p] none (some 2) = [D.tup (W.T.map plc), .ptp (W.J.map plc)] := rfl
  simp only [s_cons, s_nil, s_ret, e_op, e_sl, o_nil, o_cons, e_v, e_k, e_tup, es_cons, es_nil, e_bi, e_lc, i_seq, e_ix, ix_tup, at2, lk, onS_some, asI_int, slW, ct, hpp.seq.seq, newL_f, wp0, wp0.wipe1]
  refine LC_maps pid (fun x => pid (wedgeP lot x)) (by rw [hpp.seq.src (μ := μ)]; trivial) _ ?_ (by show _ ≤ _; omega) ?_
  · intro x hx R r
    have hs : IsSeq e (lot.map prd) := by rcases he with rfl | rfl; exact .t; exact .l
    simp only [tgW, st, e_ife, e_cmp, cmpW, e_sl, o_nil, o_cons, e_v, e_k, lk, onS_some, pid, asI_int, slW, cut2]
    refine mem_lot (pk x) hs he ?_
    simp only [asB_bl]
    unfold wedgeP at r
    refine ⟨fun g => ?_, fun g => ?_⟩
    · rw [if_pos (of_decide_eq_true g)] at r
      simp only [e_op, bopW, e_sl, o_nil, o_cons, e_v, e_k, e_tup, es_cons, es_nil, lk, onS_some, asI_int, slW, cut3, addW]
      exact ⟨by show 4 ≤ 100000; omega, r⟩
    · rw [if_neg (of_decide_eq_false g)] at r
      exact r
  · simp only [biW, tupW, seq_lst, onS_some, bopW, addW]
    have nc : (D.tup ([D.tup (W.T.map plc), .ptp (W.J.map plc)] ++ [.tup (W.P.map fun x => pid (wedgeP lot x))])).nc = true := by
      simp only [D.nc, ncA, List.cons_append, List.nil_append, ncA_map plc (fun _ => rfl), ncA_map (fun x => pid (wedgeP lot x)) (fun _ => rfl), Bool.and_self]
    refine ⟨by show 3 ≤ 100000; omega, rt_same nc (q _ ⟨_, rfl, .inl ?_⟩ nc)⟩
    unfold Wk.wedge; rw [List.map_map]; rfl
theorem find_app {α : Type} {p : α → Bool} {xs ys : List α} : (xs ++ ys).find? p = match xs.find? p with
    | some a => some a
    | none => ys.find? p := by
  rw [List.find?_append]
  cases xs.find? p <;> rfl
def tryIR : ISs := (.cons (.iff (.not (.call "is_less" false (.cons (.ix (.call "all_levels" false (.cons (.call "wedged" false (.cons (.v 0) (.cons (.v 5) .nil))) .nil)) (.v 1)) (.cons (.v 2) .nil)))) (.cons (.ret (.v 5)) .nil) .nil) .nil)
theorem p1000 : (1000 : Nat) ≤ 2 ^ 2880 := Nat.le_trans (show 1000 ≤ 2 ^ 10 by decide) (Nat.pow_le_pow_right (by decide) (by decide))
theorem try_loop (Φ : Str → FS) (h1 : Φ "is_less" = fs_less) (h2 : Φ "all_levels" = fs_all_levels) (h3 : Φ "wedged" = fs_wedgedp) (μ : Mu) (W : Wk) (d : D) (hd : IsWp W d) (g : GW W 1000) (x : Str) (hx : x ∈ W.jn) (qq : Rat) (hq : RB 6000 qq) (src : Mu → Prop) (hs : src μ) (x3 x4 : Option D) (Dn : EnD) :
    ∀ (lots : List Lot) (x5 x6 : Option D), (∀ l, lots.find? (goodB W x qq) = some l → Dn.rt (lotT l) μ) → (lots.find? (goodB W x qq) = none → ∀ x5 x6, Dn.nx [some d, some (.str x), some (fr qq), x3, x4, x5, x6] μ) →
    FL Φ (.n 5) tryIR src (lots.map lotT) [some d, some (.str x), some (fr qq), x3, x4, x5, x6] μ Dn := by
  intro lots
  induction lots with
  | nil => intro x5 x6 _ h; exact h rfl _ _
  | cons l r ih =>
    intro x5 x6 a b
    have gw := g.wedge l
    rw [List.map_cons, FL_cons]
    unfold tryIR
    simp only [tgW, st, s_cons, s_nil, s_iff, e_not, e_call, es_cons, es_nil, e_ix, e_v, lk, onS_some, h3]
    refine ⟨W, d, _, l, rfl, hd, Nat.le_trans g.lp (by decide), .inl rfl, fun d' hd' _ => ?_⟩
    simp only [h2]
    refine ⟨W.wedge l, d', 1000, rfl, hd', gw, p1000, fun b' => ?_⟩
    have hx' : x ∈ (W.wedge l).tn ++ (W.wedge l).jn := List.mem_append_right _ hx
    simp only [e_v, lk, onS_some, ix_dct, lookD_map (f := fun n => fr ((W.wedge l).x n)) hx', h1]
    refine ⟨_, _, 6000, rfl, ((b' _ hx').rb p1000).mono (by decide), hq, by decide, ?_⟩
    rw [List.find?_cons] at a b
    simp only [asB_bl]
    have e : goodB W x qq l = !decide ((W.wedge l).x x < qq) := rfl
    refine ⟨fun gg => ?_, fun gg => ?_⟩
    · rw [e, gg] at a
      simp only [s_cons, s_ret, e_v, lk, onS_some]
      exact a l rfl
    · rw [e, gg] at a b
      exact ⟨hs, ih _ _ a b⟩
def manyIR : ISs := (.cons (.for_ (.n 5) (.seq (.call "lots" false (.cons (.v 3) (.cons (.v 4) .nil)))) tryIR) .nil)
theorem many_loop (Φ : Str → FS) (h1 : Φ "is_less" = fs_less) (h2 : Φ "all_levels" = fs_all_levels) (h3 : Φ "wedged" = fs_wedgedp) (bb : Nat) (h4 : Φ "lots" = fs_lots bb) (μ : Mu) (W : Wk) (d : D) (hd : IsWp W d) (g : GW W 1000) (x : Str) (hx : x ∈ W.jn) (qq : Rat) (hq : RB 6000 qq) (xs : Lot) (hxs : xs.length ≤ 5) (Dn : EnD) :
    ∀ (r i : Nat) (x4 x5 x6 : Option D), i + r ≤ bb + 1 → (∀ l, ((List.range r).flatMap fun m => lotsF (i + m) xs).find? (goodB W x qq) = some l → Dn.rt (lotT l) μ) → (((List.range r).flatMap fun m => lotsF (i + m) xs).find? (goodB W x qq) = none → ∀ x4 x5 x6, Dn.nx [some d, some (.str x), some (fr qq), some (lotL xs), x4, x5, x6] μ) →
    FL Φ (.n 4) manyIR (fun _ => True) (intsD (i : Nat) r) [some d, some (.str x), some (fr qq), some (lotL xs), x4, x5, x6] μ Dn := by
  intro r
  induction r with
  | zero => intro i x4 x5 x6 _ _ h; exact h rfl _ _ _
  | succ r ih =>
    intro i x4 x5 x6 hi a b
    rw [intsD, FL_cons]
    unfold manyIR
    simp only [tgW, st, s_cons, s_nil, s_for, i_seq, e_call, es_cons, es_nil, e_v, lk, onS_some, h4]
    refine ⟨xs, i, rfl, by omega, by omega, ?_⟩
    simp only [seq_lst, onS_some]
    have er : (List.range (r + 1)).flatMap (fun m => lotsF (i + m) xs) = lotsF i xs ++ (List.range r).flatMap fun m => lotsF (i + 1 + m) xs := by
      rw [List.range_succ_eq_map, List.flatMap_cons, List.flatMap_map]
      congr 1
      exact congrArg (fun f => List.flatMap f (List.range r)) (funext fun m => by show lotsF (i + (m + 1)) xs = _; rw [show i + (m + 1) = i + 1 + m by omega])
    rw [er, List.find?_append] at a b
    refine try_loop Φ h1 h2 h3 μ W d hd g x hx qq hq _ trivial _ _ _ _ _ _ (fun l h => ?_) fun h x5 x6 => ⟨trivial, ?_⟩
    · exact a l (by rw [h]; rfl)
    · refine ih (i + 1) _ _ _ (by omega) (fun l h' => a l (by rw [h]; exact h')) fun h' => b (by rw [h]; exact h')
theorem p_fewest (Φ : Str → FS) (h1 : Φ "is_less" = fs_less) (h2 : Φ "all_levels" = fs_all_levels) (h3 : Φ "wedged" = fs_wedgedp) (bb : Nat) (hbb : 5 ≤ bb) (h4 : Φ "lots" = fs_lots bb) (h5 : Φ "need_works" = fs_need_works) (h6 : Φ "need_junction" = fs_need_junction) (h7 : Φ "need_level" = fs_need_level) (h8 : Φ "flaps_of" = fs_flaps_of) : ∀ ds μ Qd Ed, ds.length = 3 → fs_fewest ds μ Qd Ed → wSs Φ ir_fewest_wedged (start0 N_fewest_wedged.length ds) μ (endD μ Qd Ed) := by
  rintro ds μ Q E _ ⟨W, d, x, qq, rfl, hd, hT, hn, ok, hx, hq, q⟩
  have g := gw_of_ok ok hT
  unfold ir_fewest_wedged
  change wSs Φ _ [some d, some _, some _, none, none, none, none] μ _
  have lT := g.lt
  have lJ := g.lj
  have lP := g.lp
  have lF := g.lf
  simp only [s_cons, s_nil, s_ex, e_call, es_cons, es_nil, e_v, lk, st, onS_some, h5]
  refine ⟨W, d, rfl, hd.w, hT, by omega, by omega, by omega, hn, ok, ?_⟩
  simp only [s_cons, s_nil, s_ex, e_call, es_cons, es_nil, e_v, lk, st, onS_some, h6]
  refine ⟨W, d, x, rfl, hd.w, by omega, hx, ?_⟩
  simp only [s_cons, s_nil, s_ex, e_call, es_cons, es_nil, e_v, lk, st, onS_some, h7]
  refine ⟨qq, rfl, ?_⟩
  simp only [s_cons, s_nil, s_asg, e_lc, i_seq, e_call, es_cons, es_nil, e_v, lk, st, onS_some, wp0, wp0.wipe1, h8]
  refine ⟨W, d, rfl, hd.w, by omega, ?_⟩
  simp only [seq_lst, onS_some]
  refine LC_maps pid (fun p => prd (pk p)) trivial _ ?_ (by show _ ≤ _; omega) ?_
  · intro a ha R r
    simp only [tgW, st, pid, e_sl, e_v, e_k, lk, onS_some, o_nil, o_cons, slW, asI_int, cut2]
    exact r
  rw [show W.flaps.map (fun p => prd (pk p)) = (W.flaps.map pk).map prd by rw [List.map_map]; rfl]
  have ll : (W.flaps.map pk).length = W.flaps.length := List.length_map ..
  simp only [newL_f, s_cons, s_for, i_rng, es_cons, es_nil, e_op, bopW, addW, e_bi, biW, e_v, e_k, lk, st, onS_some, len_lst, List.length_map, rngW]
  refine ⟨by omega, ?_⟩
  rw [show ((W.flaps.length : Int) + 1).toNat = (W.flaps.map pk).length + 1 by rw [ll]; omega]
  have e0 : (List.range ((W.flaps.map pk).length + 1)).flatMap (fun m => lotsF (0 + m) (W.flaps.map pk)) = lotsAll (W.flaps.map pk) := by
    unfold lotsAll
    exact congrArg (fun f => List.flatMap f (List.range ((W.flaps.map pk).length + 1))) (funext fun m => by rw [Nat.zero_add])
  refine many_loop Φ h1 h2 h3 bb h4 μ W d hd g x hx qq hq (W.flaps.map pk) (by omega) _ _ 0 _ _ _ (by omega) (fun l h => ?_) fun h x4 x5 x6 => ?_
  · rw [e0] at h
    rw [h] at q
    exact rt_same (nc_lotT l) q
  · rw [e0] at h
    rw [h] at q
    simp only [s_nil, s_cons, s_ret, e_k]
    exact rt_same rfl q
end FW

set_option Elab.async false
set_option linter.all false
set_option maxRecDepth 100000
/-! DW0: the laws' helpers: wells, fractions. -/
namespace FW
open PySem
/-! ### fractions again -/
theorem lfrac_loop (Φ : Str → FS) (Dn : EnD) (μ : Mu) (x0 x1 : Option D) : ∀ (n : Nat) (a b : Int), 0 ≤ a → 0 ≤ b → b.toNat < n → Dn.nx [x0, x1, some (.int (Int.gcd a b)), some (.int 0)] μ →
    WL Φ (.cmp .Gt (.v 3) (.k (.int 0))) (.cons (.par 2 3 (.v 3) (.op .Mod false (.v 2) (.v 3))) .nil) n [x0, x1, some (.int a), some (.int b)] μ Dn := by
  intro n
  induction n with
  | zero => intro a b _ _ h; omega
  | succ n ih =>
    intro a b ha hb hn q
    simp only [WL_s, s_cons, s_nil, s_par, e_cmp, e_v, e_k, e_op, lk, st, onS_some, cmpW, asB_bl, bopW, asI_int]
    refine ⟨fun g => ?_, fun g => ?_⟩
    · have hb0 : 0 < b := of_decide_eq_true g
      refine ⟨by omega, ih b _ hb ?_ ?_ ?_⟩
      · rw [Int.fmod_eq_emod_of_nonneg _ hb]; exact Int.emod_nonneg _ (by omega)
      · rw [Int.fmod_eq_emod_of_nonneg _ hb]; have := Int.emod_lt_of_pos a hb0; omega
      · rw [Int.fmod_eq_emod_of_nonneg _ hb]
        rw [gcd_step ha hb]; exact q
    · have hb0 : b = 0 := by have := of_decide_eq_false g; omega
      subst hb0
      rw [Int.gcd_zero_right] at q
      have : (a.natAbs : Int) = a := by omega
      rw [this] at q
      exact q
theorem p_lfrac (Φ : Str → FS) : ∀ ds μ Qd Ed, ds.length = 2 → fs_fraction ds μ Qd Ed → wSs Φ ir__law_frac (start0 N__law_frac.length ds) μ (endD μ Qd Ed) := by
  rintro ds μ Q E _ ⟨a, b, rfl, hb, hz, q⟩
  unfold ir__law_frac
  change wSs Φ _ [some (.int a), some (.int b), none, none] μ _
  simp only [s_cons, s_nil, s_par, s_whl, e_bi, es_cons, es_nil, biW, e_v, lk, st, onS_some, asI_int, abs_if]
  refine ⟨(b.natAbs : Int).toNat + 1, lfrac_loop Φ _ μ _ _ _ _ _ (by omega) (by omega) (by omega) ?_⟩
  have hg : (Int.gcd a b : Int) ≠ 0 := by
    have := Int.gcd_pos_of_ne_zero_right a hb; omega
  have hl : (Int.gcd a b) < 2 ^ 8999 := by
    have := Int.gcd_le_natAbs_right a hb; omega
  have e0 : Int.gcd (a.natAbs : Int) (b.natAbs : Int) = Int.gcd a b := rfl
  have t := frac_top (a := a) hb
  have u := frac_bottom (a := a) hb
  rw [e0]
  simp only [s_asg, s_ret, e_ife, e_cmp, cmpW, e_neg, e_v, e_k, lk, st, onS_some, asI_int, asB_bl]
  refine ⟨fun h => ?_, fun h => ?_⟩
  · rw [if_pos (by simpa using h)] at t u
    rw [Int.mul_one] at t u
    simp only [e_tup, es_cons, es_nil, e_op, bopW, e_v, asI_int, lk, st, onS_some]
    have hk : DivOk ((Int.gcd a b : Nat) : Int) := ⟨hg, (DivOk.of (n := 8999) hg (by rw [Int.natAbs_natCast]; exact hl) (by decide)).2⟩
    exact ⟨hk, hk, rt_same rfl (by rw [t, u]; exact q)⟩
  · rw [if_neg (by simpa using h)] at t u
    have hk : DivOk (-((Int.gcd a b : Nat) : Int)) := .of (n := 8999) (by omega) (by rw [Int.natAbs_neg, Int.natAbs_natCast]; exact hl) (by decide)
    rw [Int.mul_neg, Int.mul_one] at t u
    simp only [e_tup, es_cons, es_nil, e_op, bopW, e_v, asI_int, lk, st, onS_some]
    exact ⟨hk, hk, rt_same rfl (by rw [t, u]; exact q)⟩
theorem p_lplus (Φ : Str → FS) (h1 : Φ "_law_frac" = fs_fraction) : ∀ ds μ Qd Ed, ds.length = 2 → fs_arith (· + ·) ds μ Qd Ed → wSs Φ ir__law_plus (start0 N__law_plus.length ds) μ (endD μ Qd Ed) := by
  rintro ds μ Q E _ ⟨p, q, m, n, rfl, hp, hq, hmn, k⟩
  unfold ir__law_plus
  change wSs Φ _ [some (fr p), some (fr q)] μ _
  simp only [fr, s_cons, s_asg, s_ret, s_nil, e_v, e_k, e_op, e_ix, e_call, es_cons, es_nil, lk, st, onS_some, asI_int, asB_bl, ixW, at0, at1, bopW, mulW, addW, h1, fs_fraction]
  have k : Q (fr (p + q)) μ := k
  rw [ad] at k
  have b1 := hp.num (by omega)
  have b2 := hp.den (by omega)
  have b3 := hq.num (by omega)
  have b4 := hq.den (by omega)
  have b5 : ((p.den : Int) * q.den).natAbs < 2 ^ 8999 := Nat.lt_of_lt_of_le (dens hp hq) (Nat.pow_le_pow_right (by decide) hmn)
  simp only [b1, b2, b3, b4, true_and]
  exact ⟨_, _, rfl, den_ne, b5, rt_same rfl k⟩
theorem p_lless (Φ : Str → FS) : ∀ ds μ Qd Ed, ds.length = 2 → fs_less ds μ Qd Ed → wSs Φ ir__law_less (start0 N__law_less.length ds) μ (endD μ Qd Ed) := p_is_less Φ
/-! ### wells -/
structure We where
  a : Int
  b : Int
  p : Int
structure We.ok (w : We) : Prop where
  a0 : 0 ≤ w.a
  b0 : 0 ≤ w.b
  b1 : w.b < 2 ^ 40
  p0 : 0 < w.p
  p1 : w.p < 2 ^ 32
def We.l (w : We) : List D := [.int w.a, .int w.b, .int w.p]
/-- a store whose thing number n is a well -/
def WM (μ : Mu) (n : Nat) (w : We) (rest : Mu) : Mu := μ.set n (some (.lst w.l)) ++ rest
theorem WM_get {μ : Mu} {n : Nat} {w : We} {rest : Mu} (h : n < μ.length) : (WM μ n w rest)[n]? = some (some (.lst w.l)) := by
  unfold WM
  rw [List.getElem?_append_left (by rw [List.length_set]; exact h), List.getElem?_set_self h]
theorem WM_set {μ : Mu} {n : Nat} {w w' : We} {rest : Mu} (h : n < μ.length) : (WM μ n w rest).set n (some (.lst w'.l)) = WM μ n w' rest := by
  unfold WM
  rw [List.set_append_left _ _ (by rw [List.length_set]; exact h), List.set_set]
theorem WM_len {μ : Mu} {n : Nat} {w : We} {rest : Mu} : (WM μ n w rest).length = μ.length + rest.length := by
  unfold WM; rw [List.length_append, List.length_set]
theorem WM_cell {μ : Mu} {n : Nat} {w : We} {r : Mu} {i : Nat} : (WM μ n w r)[μ.length + i]? = r[i]? := by
  unfold WM
  rw [List.getElem?_append_right (by rw [List.length_set]; omega), List.length_set, Nat.add_sub_cancel_left]
theorem WM_put {μ : Mu} {n : Nat} {w : We} {r : Mu} {i : Nat} {o : Option MO} : (WM μ n w r).set (μ.length + i) o = WM μ n w (r.set i o) := by
  unfold WM
  rw [List.set_append_right _ _ (by rw [List.length_set]; omega), List.length_set, Nat.add_sub_cancel_left]
theorem WM_app {μ : Mu} {n : Nat} {w : We} {r s : Mu} : WM μ n w r ++ s = WM μ n w (r ++ s) := by
  unfold WM; rw [List.append_assoc]
theorem WM_self {μ : Mu} {n : Nat} {w : We} (h : μ[n]? = some (some (.lst w.l))) : WM μ n w [] = μ := by
  unfold WM
  rw [List.append_nil]
  apply List.ext_getElem?
  intro j
  by_cases e : n = j
  · subst e
    rw [List.getElem?_set_self (by exact (List.getElem?_eq_some_iff.mp h).1), h]
  · rw [List.getElem?_set_ne e]
/-- a return where cells of before have other plain contents -/
theorem rt_well {μ : Mu} {n : Nat} {w w' : We} {rest : Mu} {Q : QD} {d : D} (hn : n < μ.length) (hd : d.nc = true) (q : Q d (WM μ n w [])) : retW μ Q d (WM μ n w rest) := by
  refine ⟨fun k o l h => ?_, .inl ⟨hd, ?_⟩⟩
  · unfold WM at h
    rw [List.getElem?_append_left (by rw [List.length_set]; exact l)] at h
    by_cases e : n = k
    · subst e
      rw [List.getElem?_set_self hn] at h
      cases h
      exact .inr rfl
    · rw [List.getElem?_set_ne e] at h
      exact .inl h
  · have : (WM μ n w rest).take μ.length = WM μ n w [] := by
      unfold WM
      rw [List.append_nil, List.take_append_of_le_length (by rw [List.length_set]; exact Nat.le_refl _), List.take_of_length_le (by rw [List.length_set]; exact Nat.le_refl _)]
    rw [this]; exact q
def fs_take : FS := fun ds μ Q _ => ∃ (n : Nat) (w : We) (many : Int), ds = [.cel n, .int many] ∧ μ[n]? = some (some (.lst w.l)) ∧ w.ok ∧ 1 ≤ many ∧ many ≤ 2 ^ 60 ∧ ∀ (r : Int) (w' : We), w'.ok → 0 ≤ r → r < many → Q (.int r) (WM μ n w' [])
theorem take_call {μ : Mu} {n : Nat} {w : We} {rest : Mu} {many : Int} {Q : QD} {E : XD} (hn : n < μ.length) (hw : w.ok) (h1 : 1 ≤ many) (h2 : many ≤ 2 ^ 60) (q : ∀ (r : Int) (w' : We), w'.ok → 0 ≤ r → r < many → Q (.int r) (WM μ n w' rest)) :
    fs_take [.cel n, .int many] (WM μ n w rest) Q E := by
  refine ⟨n, w, many, rfl, WM_get hn, hw, h1, h2, fun r w' ok a b => ?_⟩
  have e : WM (WM μ n w rest) n w' [] = WM μ n w' rest := by
    rw [show WM (WM μ n w rest) n w' [] = (WM μ n w rest).set n (some (.lst w'.l)) from List.append_nil _, WM_set hn]
  rw [e]
  exact q r w' ok a b
theorem BigI.s {i : Int} (h0 : -2 ^ 90 < i) (h : i < 2 ^ 90) : BigI i := .of (n := 90) (by omega) (by decide)
theorem p_take (Φ : Str → FS) : ∀ ds μ Qd Ed, ds.length = 2 → fs_take ds μ Qd Ed → wSs Φ ir__law_take (start0 N__law_take.length ds) μ (endD μ Qd Ed) := by
  rintro ds μ Q E _ ⟨n, w, many, rfl, hg, ok, m1, m2, q⟩
  obtain ⟨a0, b0, b1, p0, p1⟩ := ok
  have hn : n < μ.length := (List.getElem?_eq_some_iff.mp hg).1
  unfold ir__law_take
  change wSs Φ _ [some (.cel n), some (.int many), none] μ _
  have ia : ∀ {Q : QD}, ixW (.cel n) (.int 0) μ Q = Q (.int w.a) μ := by intro Q; rw [ix_celg hg]; rfl
  have ib : ∀ {Q : QD}, ixW (.cel n) (.int 1) μ Q = Q (.int w.b) μ := by intro Q; rw [ix_celg hg]; rfl
  have ip : ∀ {Q : QD}, ixW (.cel n) (.int 2) μ Q = Q (.int w.p) μ := by intro Q; rw [ix_celg hg]; rfl
  simp only [s_cons, s_nil, s_iff, e_cmp, cmpW, e_ix, e_v, e_k, lk, onS_some, ia, asI_int, asB_bl]
  have dm : DivOk many := .of (n := 61) (by omega) (by omega) (by decide)
  have wm : ∀ w' : We, μ.set n (some (.lst w'.l)) = WM μ n w' [] := fun w' => by unfold WM; rw [List.append_nil]
  refine ⟨fun g => ?_, fun g => ?_⟩
  · simp only [s_cons, s_nil, s_asg, s_sub, s_ret, e_op, bopW, e_ix, e_v, e_k, lk, st, onS_some, ia, asI_int, set_celg hg]
    refine ⟨by omega, dm, ?_⟩
    have e : μ.set n (some (.lst ([.int (w.a.fdiv many), .int w.b, .int w.p]))) = WM μ n ⟨w.a.fdiv many, w.b, w.p⟩ [] := wm ⟨w.a.fdiv many, w.b, w.p⟩
    show retW μ Q (.int (w.a.fmod many)) (μ.set n (some (.lst ([.int (w.a.fdiv many), .int w.b, .int w.p]))))
    rw [e]
    refine rt_well (w' := w) hn rfl (q _ _ ⟨?_, b0, b1, p0, p1⟩ ?_ ?_)
    · show 0 ≤ w.a.fdiv many
      rw [Int.fdiv_eq_ediv_of_nonneg _ (by omega)]; exact Int.ediv_nonneg a0 (by omega)
    · rw [Int.fmod_eq_emod_of_nonneg _ (by omega)]; exact Int.emod_nonneg _ (by omega)
    · rw [Int.fmod_eq_emod_of_nonneg _ (by omega)]; exact Int.emod_lt_of_pos _ (by omega)
  · have hb : BigI w.b := .s (by omega) (by omega)
    simp only [s_cons, s_nil, s_asg, s_sub, s_ret, e_op, bopW, mulW, addW, e_ix, e_v, e_k, lk, st, onS_some, ib, ip, asI_int, set_celg hg]
    refine ⟨hb, .s (by decide) (by decide), by omega, ?_⟩
    show onS (some 1) _
    have e : μ.set n (some (.lst ([.int w.a, .int ((w.b * 48271).fmod w.p + 1), .int w.p]))) = WM μ n ⟨w.a, (w.b * 48271).fmod w.p + 1, w.p⟩ [] := wm ⟨w.a, (w.b * 48271).fmod w.p + 1, w.p⟩
    simp only [onS_some]
    have hs : (w.l.set 1 (.int ((w.b * 48271).fmod w.p + 1))) = [.int w.a, .int ((w.b * 48271).fmod w.p + 1), .int w.p] := rfl
    rw [hs, e]
    have f0 : 0 ≤ (w.b * 48271).fmod w.p := by rw [Int.fmod_eq_emod_of_nonneg _ (by omega)]; exact Int.emod_nonneg _ (by omega)
    have f1 : (w.b * 48271).fmod w.p < w.p := by rw [Int.fmod_eq_emod_of_nonneg _ (by omega)]; exact Int.emod_lt_of_pos _ p0
    generalize hz : (w.b * 48271).fmod w.p + 1 = z at *
    have hg' : (WM μ n ⟨w.a, z, w.p⟩ [])[n]? = some (some (.lst (We.l ⟨w.a, z, w.p⟩))) := WM_get hn
    have iz : ∀ {Q : QD}, ixW (.cel n) (.int 1) (WM μ n ⟨w.a, z, w.p⟩ []) Q = Q (.int z) (WM μ n ⟨w.a, z, w.p⟩ []) := by intro Q; rw [ix_celg hg']; rfl
    simp only [iz, asI_int]
    refine ⟨.s (by omega) (by omega), .s (by omega) (by omega), by decide, ⟨by decide, by decide⟩, by omega, ?_⟩
    refine rt_well (w' := w) hn rfl (q _ _ ⟨a0, ?_, ?_, p0, p1⟩ ?_ ?_)
    · show 0 ≤ z; omega
    · show z < 2 ^ 40; omega
    · rw [Int.fmod_eq_emod_of_nonneg _ (by omega)]; exact Int.emod_nonneg _ (by omega)
    · rw [Int.fmod_eq_emod_of_nonneg _ (by omega)]; exact Int.emod_lt_of_pos _ (by omega)
end FW

set_option Elab.async false
set_option linter.all false
set_option maxRecDepth 100000
/-! DW1: wells from the script. -/
namespace FW
open PySem
/-- the script as handed in -/
def fs_well : FS := fun ds μ Q _ => ∃ (xs : List Int) (k : Int), ds = [.rol (xs.map .int), .int k] ∧ 0 ≤ k ∧ k ≤ 1000 ∧ ∀ w : We, w.ok → Q (.cel μ.length) (μ ++ [some (.lst w.l)])
theorem ix_rol {μ : Mu} {xs : List D} {i : Int} {Q : QD} : ixW (.rol xs) (.int i) μ Q = onS (L2.atI xs i) fun d => Q d μ := rfl
def wellTail : ISs := (.cons (.asg (.n 3) (.lst false (.cons (.k (.int 2147483647)) (.cons (.k (.int 2147483629)) (.cons (.k (.int 2147483587)) (.cons (.k (.int 2147483579)) (.cons (.k (.int 2147483563)) (.cons (.k (.int 2147483549)) (.cons (.k (.int 2147483543)) (.cons (.k (.int 2147483497)) .nil)))))))))) (.cons (.asg (.n 4) (.op .Mod false (.op .Mult false (.op .Add false (.op .Mod false (.v 2) (.k (.int 2147483489))) (.k (.int 1))) (.op .Add false (.k (.int 48271)) (.op .Mult false (.k (.int 2)) (.v 1)))) (.k (.int 2147483489)))) (.cons (.asg (.n 4) (.op .Add false (.op .Add false (.op .Mod false (.op .Mult false (.v 4) (.v 4)) (.k (.int 2147483477))) (.v 1)) (.k (.int 1)))) (.cons (.iff (.cmp .GtE (.v 2) (.op .Pow false (.k (.int 10)) (.k (.int 18)))) (.cons (.ret (.lst true (.cons (.v 2) (.cons (.v 4) (.cons (.ix (.v 3) (.op .Mod false (.v 1) (.k (.int 8)))) .nil))))) .nil) .nil) (.cons (.ret (.lst true (.cons (.k (.int 0)) (.cons (.v 4) (.cons (.ix (.v 3) (.op .Mod false (.v 1) (.k (.int 8)))) .nil))))) .nil)))))
theorem well_eq : ir__law_well = .cons (.asg (.n 2) (.k (.int 0))) (.cons (.iff (.cmp .Lt (.v 1) (.bi .len false (.cons (.v 0) .nil))) (.cons (.asg (.n 2) (.ix (.v 0) (.v 1))) .nil) .nil) wellTail) := rfl
theorem p_well (Φ : Str → FS) : ∀ ds μ Qd Ed, ds.length = 2 → fs_well ds μ Qd Ed → wSs Φ ir__law_well (start0 N__law_well.length ds) μ (endD μ Qd Ed) := by
  rintro ds μ Q E _ ⟨xs, k, rfl, k0, k1, q⟩
  rw [well_eq]
  change wSs Φ _ [some (.rol (xs.map .int)), some (.int k), none, none, none] μ _
  have fin : ∀ cell : Int, wSs Φ wellTail [some (.rol (xs.map .int)), some (.int k), some (.int cell), none, none] μ (endD μ Q E) := by
    intro cell
    unfold wellTail
    simp only [s_cons, s_nil, s_asg, e_lst, es_cons, es_nil, newL_f, e_op, bopW, mulW, addW, e_v, e_k, lk, st, onS_some, asI_int, s_iff, e_cmp, cmpW, geW, asB_bl]
    have c0 : 0 ≤ cell.fmod 2147483489 := by rw [Int.fmod_eq_emod_of_nonneg _ (by omega)]; exact Int.emod_nonneg _ (by omega)
    have c1 : cell.fmod 2147483489 < 2147483489 := by rw [Int.fmod_eq_emod_of_nonneg _ (by omega)]; exact Int.emod_lt_of_pos _ (by omega)
    generalize cell.fmod 2147483489 = c at *
    refine ⟨by decide, .s (by decide) (by decide), .s (by omega) (by omega), .s (by omega) (by omega), .s (by omega) (by omega), by decide, ?_⟩
    generalize hs : ((c + 1) * (48271 + 2 * k)).fmod 2147483489 = s
    have s0 : 0 ≤ s := by rw [← hs, Int.fmod_eq_emod_of_nonneg _ (by omega)]; exact Int.emod_nonneg _ (by omega)
    have s1 : s < 2147483489 := by rw [← hs, Int.fmod_eq_emod_of_nonneg _ (by omega)]; exact Int.emod_lt_of_pos _ (by omega)
    refine ⟨.s (by omega) (by omega), .s (by omega) (by omega), by decide, ?_⟩
    generalize ht : (s * s).fmod 2147483477 = t
    have t0 : 0 ≤ t := by rw [← ht, Int.fmod_eq_emod_of_nonneg _ (by omega)]; exact Int.emod_nonneg _ (by omega)
    have t1 : t < 2147483477 := by rw [← ht, Int.fmod_eq_emod_of_nonneg _ (by omega)]; exact Int.emod_lt_of_pos _ (by omega)
    have m0 : 0 ≤ k.fmod 8 := by rw [Int.fmod_eq_emod_of_nonneg _ (by omega)]; exact Int.emod_nonneg _ (by omega)
    have m1 : k.fmod 8 < 8 := by rw [Int.fmod_eq_emod_of_nonneg _ (by omega)]; exact Int.emod_lt_of_pos _ (by omega)
    obtain ⟨i, hi⟩ := Int.eq_ofNat_of_zero_le m0
    have pr : ∃ p : Int, L2.atI [D.int 2147483647, .int 2147483629, .int 2147483587, .int 2147483579, .int 2147483563, .int 2147483549, .int 2147483543, .int 2147483497] (k.fmod 8) = some (.int p) ∧ 0 < p ∧ p < 2 ^ 32 := by
      rw [hi, at_nat]
      have : i < 8 := by omega
      match i, this with
      | 0, _ => exact ⟨_, rfl, by decide, by decide⟩
      | 1, _ => exact ⟨_, rfl, by decide, by decide⟩
      | 2, _ => exact ⟨_, rfl, by decide, by decide⟩
      | 3, _ => exact ⟨_, rfl, by decide, by decide⟩
      | 4, _ => exact ⟨_, rfl, by decide, by decide⟩
      | 5, _ => exact ⟨_, rfl, by decide, by decide⟩
      | 6, _ => exact ⟨_, rfl, by decide, by decide⟩
      | 7, _ => exact ⟨_, rfl, by decide, by decide⟩
    obtain ⟨p, hp, p0, p1⟩ := pr
    refine ⟨by decide, fun g => ?_, fun g => ?_⟩
    · simp only [s_cons, s_ret, e_lst, es_cons, es_nil, e_ix, ix_lst, e_op, bopW, e_v, e_k, lk, onS_some, asI_int, newL_t]
      refine ⟨by decide, ?_⟩
      rw [hp, onS_some]
      have hc : (10 : Int) ^ (18 : Int).toNat ≤ cell := of_decide_eq_true g
      have hc : 0 ≤ cell := Int.le_trans (by decide) hc
      exact rt_cell (cs := [some (.lst (We.l ⟨cell, t + k + 1, p⟩))]) (i := 0) rfl rfl (q ⟨cell, t + k + 1, p⟩ ⟨hc, by show 0 ≤ t + k + 1; omega, by show t + k + 1 < _; omega, p0, p1⟩)
    · simp only [s_cons, s_ret, e_lst, es_cons, es_nil, e_ix, ix_lst, e_op, bopW, e_v, e_k, lk, onS_some, asI_int, newL_t]
      refine ⟨by decide, ?_⟩
      rw [hp, onS_some]
      exact rt_cell (cs := [some (.lst (We.l ⟨0, t + k + 1, p⟩))]) (i := 0) rfl rfl (q ⟨0, t + k + 1, p⟩ ⟨Int.le_refl 0, by show 0 ≤ t + k + 1; omega, by show t + k + 1 < _; omega, p0, p1⟩)
  have hlen : lenD μ (.rol (xs.map .int)) = some xs.length := by show some (xs.map D.int).length = _; rw [List.length_map]
  simp only [s_cons, s_nil, s_asg, s_iff, e_cmp, cmpW, ltW, e_bi, es_cons, es_nil, biW, e_ix, ix_rol, e_v, e_k, lk, st, onS_some, hlen, asB_bl]
  refine ⟨fun g => ?_, fun g => fin 0⟩
  have hk : k < xs.length := of_decide_eq_true g
  obtain ⟨i, rfl⟩ := Int.eq_ofNat_of_zero_le k0
  have hi : i < xs.length := by omega
  have g1 : L2.atI (xs.map D.int) ((i : Nat) : Int) = some (.int xs[i]) := by rw [at_nat, List.getElem?_map, List.getElem?_eq_getElem hi]; rfl
  rw [g1, onS_some]
  exact fin xs[i]
end FW

set_option Elab.async false
set_option linter.all false
set_option maxRecDepth 100000
/-! DW2: orders, sorting, hanging: what makes works right. -/
namespace FW
open PySem
/-- a strict total order -/
structure STO {α : Type} (lt : α → α → Bool) : Prop where
  ir : ∀ a, lt a a = false
  tr : ∀ a b c, lt a b = true → lt b c = true → lt a c = true
  tri : ∀ a b, a ≠ b → lt a b = true ∨ lt b a = true
def leO {α : Type} (lt : α → α → Bool) (a b : α) : Bool := !lt b a
section
variable {α : Type} {lt : α → α → Bool} (o : STO lt)
include o
theorem STO.le_tr (a b c : α) (h1 : leO lt a b = true) (h2 : leO lt b c = true) : leO lt a c = true := by
  unfold leO at *
  simp only [Bool.not_eq_true'] at *
  cases h : lt c a with
  | false => rfl
  | true =>
    by_cases e : a = b
    · rw [← e, h] at h2; cases h2
    · rcases o.tri a b e with g | g
      · rw [o.tr _ _ _ h g] at h2; cases h2
      · rw [g] at h1; cases h1
theorem STO.le_to (a b : α) : (leO lt a b || leO lt b a) = true := by
  unfold leO
  cases h1 : lt b a with
  | false => rfl
  | true =>
    cases h2 : lt a b with
    | false => rfl
    | true =>
      have := o.tr _ _ _ h1 h2
      rw [o.ir] at this; cases this
theorem STO.sort {xs : List α} (nd : xs.Nodup) : (xs.mergeSort (leO lt)).Pairwise fun a b => lt a b = true := by
  have h := List.pairwise_mergeSort (le := leO lt) o.le_tr o.le_to xs
  have n : (xs.mergeSort (leO lt)).Nodup := (List.mergeSort_perm xs _).nodup_iff.mpr nd
  have n' : (xs.mergeSort (leO lt)).Pairwise fun a b => a ≠ b := n
  refine (h.and n').imp fun {a b} ⟨h1, h2⟩ => ?_
  rcases o.tri a b h2 with g | g
  · exact g
  · unfold leO at h1; rw [g] at h1; cases h1
theorem STO.asymm {a b : α} (h1 : lt a b = true) (h2 : lt b a = true) : False := by
  have := o.tr _ _ _ h1 h2
  rw [o.ir] at this; cases this
theorem STO.uniq : ∀ {xs ys : List α}, xs.Pairwise (fun a b => lt a b = true) → ys.Pairwise (fun a b => lt a b = true) → (∀ a, a ∈ xs ↔ a ∈ ys) → xs = ys
  | [], [], _, _, _ => rfl
  | [], b :: s, _, _, h => absurd ((h b).mpr List.mem_cons_self) List.not_mem_nil
  | a :: r, [], _, _, h => absurd ((h a).mp List.mem_cons_self) List.not_mem_nil
  | a :: r, b :: s, h1, h2, h => by
    obtain ⟨p1, p2⟩ := List.pairwise_cons.mp h1
    obtain ⟨q1, q2⟩ := List.pairwise_cons.mp h2
    have e : a = b := by
      rcases List.mem_cons.mp ((h a).mp List.mem_cons_self) with e | e
      · exact e
      · rcases List.mem_cons.mp ((h b).mpr List.mem_cons_self) with e' | e'
        · exact e'.symm
        · exact (o.asymm (q1 a e) (p1 b e')).elim
    subst e
    congr 1
    refine STO.uniq p2 q2 fun c => ⟨fun hc => ?_, fun hc => ?_⟩
    · rcases List.mem_cons.mp ((h c).mp (List.mem_cons_of_mem _ hc)) with e | e
      · subst e
        have := p1 c hc
        rw [o.ir] at this; cases this
      · exact e
    · rcases List.mem_cons.mp ((h c).mpr (List.mem_cons_of_mem _ hc)) with e | e
      · subst e
        have := q1 c hc
        rw [o.ir] at this; cases this
      · exact e
omit o in
theorem pw_rises : ∀ {xs : List α}, xs.Pairwise (fun a b => lt a b = true) → risesB lt xs = true
  | [], _ => rfl
  | [a], _ => rfl
  | a :: b :: r, h => by
    obtain ⟨h1, h2⟩ := List.pairwise_cons.mp h
    rw [risesB, h1 b List.mem_cons_self, pw_rises h2]; rfl
end
theorem str_ext {a b : Str} (h : a.cps.toList = b.cps.toList) : a = b := by
  cases a; cases b
  congr 1
  exact Array.toList_inj.mp h
theorem ltS_so : STO ltS := by
  refine ⟨ltS_irrefl, fun a b c => ltS_trans, fun a b h => ?_⟩
  unfold ltS
  by_cases h1 : a.cps.toList < b.cps.toList
  · exact .inl (decide_eq_true h1)
  · by_cases h2 : b.cps.toList < a.cps.toList
    · exact .inr (decide_eq_true h2)
    · exact absurd (str_ext (List.le_antisymm (List.not_lt.mp h2) (List.not_lt.mp h1))) h
/-- the order of pairs by two orders -/
def ltL {α β : Type} [DecidableEq α] (l1 : α → α → Bool) (l2 : β → β → Bool) (a b : α × β) : Bool := if a.1 = b.1 then l2 a.2 b.2 else l1 a.1 b.1
theorem ltL_so {α β : Type} [DecidableEq α] {l1 : α → α → Bool} {l2 : β → β → Bool} (o1 : STO l1) (o2 : STO l2) : STO (ltL l1 l2) := by
  refine ⟨fun a => ?_, fun a b c h1 h2 => ?_, fun a b h => ?_⟩
  · unfold ltL; rw [if_pos rfl]; exact o2.ir _
  · unfold ltL at *
    by_cases e1 : a.1 = b.1
    · rw [if_pos e1] at h1
      by_cases e2 : b.1 = c.1
      · rw [if_pos e2] at h2; rw [if_pos (e1.trans e2)]; exact o2.tr _ _ _ h1 h2
      · rw [if_neg e2] at h2; rw [if_neg (by rw [e1]; exact e2), e1]; exact h2
    · rw [if_neg e1] at h1
      by_cases e2 : b.1 = c.1
      · rw [if_pos e2] at h2; rw [if_neg (by rw [← e2]; exact e1), ← e2]; exact h1
      · rw [if_neg e2] at h2
        have := o1.tr _ _ _ h1 h2
        rw [if_neg (fun e => by rw [e, o1.ir] at this; cases this)]; exact this
  · unfold ltL
    by_cases e : a.1 = b.1
    · rw [if_pos e, if_pos e.symm]
      exact o2.tri _ _ fun h' => h (Prod.ext e h')
    · rw [if_neg e, if_neg (fun h' => e h'.symm)]
      exact o1.tri _ _ e
def ltI (a b : Int) : Bool := decide (a < b)
theorem ltI_so : STO ltI := ⟨fun a => decide_eq_false (by omega), fun a b c h1 h2 => decide_eq_true (by have := of_decide_eq_true h1; have := of_decide_eq_true h2; omega), fun a b h => by
  unfold ltI
  rcases Int.lt_or_gt_of_ne h with g | g
  · exact .inl (decide_eq_true g)
  · exact .inr (decide_eq_true g)⟩
theorem ltP_so : STO ltP := ltL_so ltS_so ltS_so
def ltQ : Str × Int → Str × Int → Bool := ltL ltS ltI
theorem ltQ_so : STO ltQ := ltL_so ltS_so ltI_so
theorem dLt_plc' (p q : Str × Int) : dLt (plc p) (plc q) = ltQ p q := dLt_plc p q
theorem sortD_map {α : Type} {lt : α → α → Bool} {enc : α → D} (h : ∀ a b, dLt (enc a) (enc b) = lt a b) (xs : List α) : sortD (xs.map enc) = (xs.mergeSort (leO lt)).map enc := by
  unfold sortD
  rw [List.map_mergeSort (s := fun a b => !PySem.W.dataLt b.py a.py)]
  intro a _ b _
  show (!lt b a) = !dLt (enc b) (enc a)
  rw [h]
theorem nodup_of_map {α β : Type} {f : α → β} {xs : List α} (h : (xs.map f).Nodup) : xs.Nodup := (List.pairwise_map.mp h).imp fun h e => h (congrArg f e)
theorem names_rise {ps : List (Str × Int)} (nd : (ps.map (·.1)).Nodup) : risesB dLt ((ps.mergeSort (leO ltQ)).map plc) = true := by
  have nd' : ps.Nodup := nodup_of_map nd
  rw [rises_map (lt' := ltQ) dLt_plc']
  exact pw_rises (ltQ_so.sort nd')
/-! ### hanging, by rounds -/
theorem hangStep_sub {p : Pi} {f : List Str} {x : Str} (h : x ∈ f) : x ∈ hangStep f p := by
  unfold hangStep; split
  · exact List.mem_append_left _ h
  · exact h
theorem hangFold_sub : ∀ (ps : List Pi) {f : List Str} {x : Str}, x ∈ f → x ∈ ps.foldl hangStep f
  | [], _, _, h => h
  | p :: r, _, _, h => hangFold_sub r (hangStep_sub h)
theorem hangStep_nd {p : Pi} {f : List Str} (h : f.Nodup) : (hangStep f p).Nodup := by
  unfold hangStep; split
  · rename_i g
    obtain ⟨_, g2⟩ := g
    rw [List.nodup_append]
    refine ⟨h, by simp, fun a ha b hb => ?_⟩
    rw [List.mem_singleton.mp hb]
    intro e
    subst e
    by_cases h1 : p.a ∈ f
    · rw [if_pos h1] at ha
      rw [decide_eq_true h1, decide_eq_true ha] at g2
      exact g2 rfl
    · rw [if_neg h1] at ha; exact h1 ha
  · exact h
theorem hangFold_nd : ∀ (ps : List Pi) {f : List Str}, f.Nodup → (ps.foldl hangStep f).Nodup
  | [], _, h => h
  | p :: r, _, h => hangFold_nd r (hangStep_nd h)
theorem hangFold_len (ps : List Pi) : ∀ (f : List Str), f.length ≤ (ps.foldl hangStep f).length ∧ ((ps.foldl hangStep f).length = f.length → ps.foldl hangStep f = f ∧ ∀ p, p ∈ ps → p.f = "" → (p.a ∈ f ↔ p.b ∈ f)) := by
  induction ps with
  | nil => intro f; exact ⟨Nat.le_refl _, fun _ => ⟨rfl, fun _ h => absurd h List.not_mem_nil⟩⟩
  | cons p r ih =>
    intro f
    obtain ⟨a, b⟩ := ih (hangStep f p)
    show f.length ≤ (r.foldl hangStep (hangStep f p)).length ∧ _
    by_cases g : p.f = "" ∧ (decide (p.a ∈ f)) ≠ (decide (p.b ∈ f))
    · have e : (hangStep f p).length = f.length + 1 := by unfold hangStep; rw [if_pos g, List.length_append]; rfl
      exact ⟨by omega, fun h => by have h : (r.foldl hangStep (hangStep f p)).length = f.length := h; omega⟩
    · have e : hangStep f p = f := if_neg g
      rw [e] at a b ⊢
      refine ⟨a, fun h => ?_⟩
      obtain ⟨c, d⟩ := b (by have h : (r.foldl hangStep (hangStep f p)).length = f.length := h; rw [e] at h; exact h)
      refine ⟨by show r.foldl hangStep (hangStep f p) = f; rw [e]; exact c, fun q hq hf => ?_⟩
      rcases List.mem_cons.mp hq with rfl | hq
      · have : ¬ decide (q.a ∈ f) ≠ decide (q.b ∈ f) := fun h => g ⟨hf, h⟩
        have := Classical.not_not.mp this
        rw [decide_eq_decide] at this
        exact this
      · exact d q hq hf
def closedF (P : List Pi) (f : List Str) : Prop := ∀ p, p ∈ P → p.f = "" → (p.a ∈ f ↔ p.b ∈ f)
theorem fix_fold {P : List Pi} : ∀ (ps : List Pi) {f : List Str}, (∀ p, p ∈ ps → p.f = "" → (p.a ∈ f ↔ p.b ∈ f)) → ps.foldl hangStep f = f
  | [], _, _ => rfl
  | p :: r, f, h => by
    have e : hangStep f p = f := if_neg fun ⟨g1, g2⟩ => g2 (by rw [decide_eq_decide]; exact h p List.mem_cons_self g1)
    show r.foldl hangStep (hangStep f p) = f
    rw [e]
    exact fix_fold (P := P) r fun q hq => h q (List.mem_cons_of_mem _ hq)
theorem rounds {α : Type} (P : List Pi) : ∀ (js : List α) (f : List Str), f.Nodup → closedF P (js.foldl (fun f _ => P.foldl hangStep f) f) ∨ f.length + js.length ≤ (js.foldl (fun f _ => P.foldl hangStep f) f).length
  | [], f, _ => .inr (Nat.le_refl _)
  | j :: r, f, nd => by
    show closedF P (r.foldl _ (P.foldl hangStep f)) ∨ f.length + (r.length + 1) ≤ (r.foldl _ (P.foldl hangStep f)).length
    obtain ⟨h1, h2⟩ := hangFold_len P f
    by_cases e : (P.foldl hangStep f).length = f.length
    · obtain ⟨h3, h4⟩ := h2 e
      rw [h3]
      have c : closedF P f := h4
      have : ∀ (r : List α), r.foldl (fun f _ => P.foldl hangStep f) f = f := by
        intro r
        induction r with
        | nil => rfl
        | cons a r ih => show r.foldl _ (P.foldl hangStep f) = f; rw [h3]; exact ih
      rw [this]
      exact .inl c
    · rcases rounds P r _ (hangFold_nd P nd) with h | h
      · exact .inl h
      · exact .inr (by omega)
theorem roundsF_sub {α : Type} (P : List Pi) : ∀ (js : List α) {f : List Str} {x : Str}, x ∈ f → x ∈ js.foldl (fun f _ => P.foldl hangStep f) f
  | [], _, _, h => h
  | j :: r, _, _, h => roundsF_sub P r (hangFold_sub P h)
theorem roundsF_nd {α : Type} (P : List Pi) : ∀ (js : List α) {f : List Str}, f.Nodup → (js.foldl (fun f _ => P.foldl hangStep f) f).Nodup
  | [], _, h => h
  | j :: r, _, h => roundsF_nd P r (hangFold_nd P h)
theorem roundsF_in {α : Type} {P : List Pi} {N : List Str} (he : ∀ p, p ∈ P → p.a ∈ N ∧ p.b ∈ N) : ∀ (js : List α) {f : List Str}, (∀ x, x ∈ f → x ∈ N) → ∀ x, x ∈ js.foldl (fun f _ => P.foldl hangStep f) f → x ∈ N
  | [], _, h => h
  | j :: r, f, h => roundsF_in he r (f := P.foldl hangStep f) (by
    have go : ∀ (ps : List Pi) (f : List Str), (∀ p, p ∈ ps → p.a ∈ N ∧ p.b ∈ N) → (∀ x, x ∈ f → x ∈ N) → ∀ x, x ∈ ps.foldl hangStep f → x ∈ N := by
      intro ps
      induction ps with
      | nil => exact fun f _ h => h
      | cons p r ih =>
        intro f he h
        refine ih _ (fun q hq => he q (List.mem_cons_of_mem _ hq)) fun x hx => ?_
        unfold hangStep at hx
        split at hx
        · rcases List.mem_append.mp hx with hx | hx
          · exact h x hx
          · rw [List.mem_singleton.mp hx]
            split
            · exact (he p List.mem_cons_self).2
            · exact (he p List.mem_cons_self).1
        · exact h x hx
    exact go P f he h)
/-- a nodup list within another one and as long holds all of it -/
theorem full_of_len {α : Type} [DecidableEq α] : ∀ {xs ys : List α}, xs.Nodup → (∀ x, x ∈ xs → x ∈ ys) → ys.length ≤ xs.length → ∀ y, y ∈ ys → y ∈ xs := by
  intro xs ys nd hs hl y hy
  apply Classical.byContradiction
  intro hn
  have h1 : xs ⊆ ys.erase y := fun x hx => (List.mem_erase_of_ne (fun e => hn (by rw [← e]; exact hx))).mpr (hs x hx)
  have h2 : xs.length ≤ (ys.erase y).length := nd.length_le_of_subset h1
  rw [List.length_erase_of_mem hy] at h2
  have := List.length_pos_of_mem hy
  omega
/-- junctions that hang are found -/
theorem hangs_of {W : Wk} (nd : W.names.Nodup) (he : ∀ p, p ∈ W.P → p.a ∈ W.names ∧ p.b ∈ W.names) (h : Hang W.tn W.jn W.P) : W.hangsB = true := by
  unfold Wk.hangsB
  rw [List.all_eq_true]
  intro j hj
  refine decide_eq_true ?_
  have ndT : W.tn.Nodup := by rw [Wk.names_eq] at nd; exact (List.nodup_append.mp nd).1
  have hm : j.1 ∈ W.jn := List.mem_map.mpr ⟨j, hj, rfl⟩
  rcases rounds W.P W.J W.tn ndT with c | c
  · refine h (fun n => n ∈ W.found) (fun t ht => roundsF_sub W.P W.J ht) (fun p hp hf => c p hp hf) _ hm
  · refine full_of_len (roundsF_nd W.P W.J ndT) (roundsF_in he W.J fun x hx => by rw [Wk.names_eq]; exact List.mem_append_left _ hx) (?_ : W.names.length ≤ _) _ (by rw [Wk.names_eq]; exact List.mem_append_right _ hm)
    rw [Wk.names_eq, List.length_append, show W.jn.length = W.J.length from List.length_map _]
    exact c
theorem dedup_of_nodup : ∀ (xs acc : List Str), (acc ++ xs).Nodup → xs.foldl ddStep acc = acc ++ xs
  | [], acc, _ => (List.append_nil _).symm
  | x :: r, acc, h => by
    have hx : ¬ x ∈ acc := fun hx => (List.nodup_append.mp h).2.2 x hx x List.mem_cons_self rfl
    show r.foldl ddStep (ddStep acc x) = _
    rw [show ddStep acc x = acc ++ [x] from if_neg hx, dedup_of_nodup r _ (by rw [List.append_assoc]; exact h), List.append_assoc]; rfl
/-- works put together -/
structure Made (W : Wk) : Prop where
  nd : W.names.Nodup
  nm : ∀ p, p ∈ W.T ++ W.J → isNameB p.1 = true
  rt : risesB dLt (W.T.map plc) = true
  rj : risesB dLt (W.J.map plc) = true
  lt : W.T.length ≤ 4
  lj : W.J.length ≤ 5
  bt : ∀ p, p ∈ W.T → -1000 ≤ p.2 ∧ p.2 ≤ 1000
  bj : ∀ p, p ∈ W.J → 0 ≤ p.2 ∧ p.2 ≤ 1000
  lp : W.P.length ≤ 9
  pp : ∀ p, p ∈ W.P → p.a ∈ W.names ∧ p.b ∈ W.names ∧ ltS p.a p.b = true ∧ 1 ≤ p.w ∧ p.w ≤ 100 ∧ (p.f = "" ∨ p.f = ">" ∨ p.f = "<")
  rp : (W.P.map pk).Pairwise fun a b => ltP a b = true
  lf : W.flaps.length ≤ 5
  hg : Hang W.tn W.jn W.P
theorem Made.ok {W : Wk} (m : Made W) : W.okB = true := by
  unfold Wk.okB
  simp only [Bool.and_eq_true, decide_eq_true_eq]
  have pl : ∀ (ps : List (Str × Int)) (most low : Int), (ps.length : Int) ≤ most → (∀ p, p ∈ ps → isNameB p.1 = true) → (∀ p, p ∈ ps → low ≤ p.2 ∧ p.2 ≤ 1000) → risesB dLt (ps.map plc) = true → placesB ps most low = true := by
    intro ps most low h1 h2 h3 h4
    unfold placesB
    rw [decide_eq_true h1, List.all_eq_true.mpr h2, List.all_eq_true.mpr (fun p hp => by unfold wholeB; rw [decide_eq_true (h3 p hp).1, decide_eq_true (h3 p hp).2]; rfl), h4]; rfl
  have e6 : risesB dLt (W.P.map fun p => pr2 p.a p.b) = risesB ltP (W.P.map pk) := by
    have a1 : risesB dLt (W.P.map fun p => pr2 p.a p.b) = risesB (fun a b => ltP (pk a) (pk b)) W.P := rises_map fun a b => dLt_pr2 a.a a.b b.a b.b
    have a2 : risesB ltP (W.P.map pk) = risesB (fun a b => ltP (pk a) (pk b)) W.P := rises_map fun _ _ => rfl
    rw [a1, a2]
  refine ⟨pl _ _ _ (by have := m.lt; omega) (fun p hp => m.nm p (List.mem_append_left _ hp)) m.bt m.rt, pl _ _ _ (by have := m.lj; omega) (fun p hp => m.nm p (List.mem_append_right _ hp)) m.bj m.rj, ?_, m.lp, ?_, ?_, m.lf, hangs_of m.nd (fun p hp => ⟨(m.pp p hp).1, (m.pp p hp).2.1⟩) m.hg⟩
  · unfold dedupS
    rw [dedup_of_nodup _ _ (by rw [List.nil_append]; exact m.nd)]; rfl
  · rw [List.all_eq_true]
    intro p hp
    obtain ⟨h1, h2, h3, h4, h5, h6⟩ := m.pp p hp
    unfold pipeB wholeB
    rw [decide_eq_true h1, decide_eq_true h2, h3, decide_eq_true h4, decide_eq_true h5, decide_eq_true]
    · rfl
    · exact h6
  · rw [e6]; exact pw_rises m.rp
end FW

set_option Elab.async false
set_option linter.all false
set_option maxRecDepth 100000
/-! DW3: a pipe drawn; the first part of drawing works. -/
namespace FW
open PySem
def wkS12 : IS := (.ret (.tup (.cons (.v 7) (.cons (.bi .tuple true (.cons (.bi .sortedZip false (.cons (.v 5) (.cons (.v 8) .nil))) .nil)) (.cons (.v 12) .nil)))))
def wkT12 : ISs := .cons wkS12 .nil
def wkS11 : IS := (.asg (.n 12) (.bi .tuple false (.cons (.lc false [20] (.op .Add false (.v 20) (.ix (.v 15) (.v 20))) (.n 20) (.seq (.bi .sortedDk false (.cons (.v 15) .nil))) .nil) .nil)))
def wkT11 : ISs := .cons wkS11 wkT12
def wkS10 : IS := (.for_ (.n 11) (.rng (.cons (.call "_law_take" false (.cons (.v 0) (.cons (.k (.int 8)) .nil))) .nil)) (.cons (.par 18 19 (.ix (.v 16) (.call "_law_take" false (.cons (.v 0) (.cons (.bi .len false (.cons (.v 16) .nil)) .nil)))) (.ix (.v 16) (.call "_law_take" false (.cons (.v 0) (.cons (.bi .len false (.cons (.v 16) .nil)) .nil))))) (.cons (.asg (.n 17) (.ife (.cmp .Lt (.v 10) (.k (.int 5))) (.ix (.lst false (.cons (.k (.str "")) (.cons (.k (.str "<")) (.cons (.k (.str ">")) .nil)))) (.call "_law_take" false (.cons (.v 0) (.cons (.k (.int 3)) .nil)))) (.k (.str "")))) (.cons (.iff (.bop .And (.cons (.cmp .NotEq (.v 18) (.v 19)) (.cons (.cmp .Lt (.bi .len false (.cons (.v 15) .nil)) (.k (.int 9))) (.cons (.cmp .NotIn (.tup (.cons (.bi .min2 false (.cons (.v 18) (.cons (.v 19) .nil))) (.cons (.bi .max2 false (.cons (.v 18) (.cons (.v 19) .nil))) .nil))) (.v 15)) .nil)))) (.cons (.ex (.call "_law_pipe" false (.cons (.v 0) (.cons (.v 15) (.cons (.v 18) (.cons (.v 19) (.cons (.v 17) .nil))))))) (.cons (.asg (.n 10) (.op .Add false (.v 10) (.bi .int false (.cons (.cmp .NotEq (.v 17) (.k (.str ""))) .nil)))) .nil)) .nil) .nil))))
def wkT10 : ISs := .cons wkS10 wkT11
def wkS9 : IS := (.asg (.n 10) (.k (.int 0)))
def wkT9 : ISs := .cons wkS9 wkT10
def wkS8 : IS := (.for_ (.n 9) (.seq (.v 5)) (.cons (.ex (.call "_law_pipe" false (.cons (.v 0) (.cons (.v 15) (.cons (.v 9) (.cons (.ix (.v 16) (.call "_law_take" false (.cons (.v 0) (.cons (.bi .len false (.cons (.v 16) .nil)) .nil)))) (.cons (.k (.str "")) .nil))))))) (.cons (.ex (.me .append (.v 16) (.cons (.v 9) .nil))) .nil)))
def wkT8 : ISs := .cons wkS8 wkT9
def wkS7 : IS := (.asg (.t [15, 16]) (.tup (.cons (.d0 true) (.cons (.bi .list true (.cons (.v 4) .nil)) .nil))))
def wkT7 : ISs := .cons wkS7 wkT8
def wkS6 : IS := (.asg (.n 8) (.lc false [9] (.ife (.v 3) (.k (.int 0)) (.call "_law_take" false (.cons (.v 0) (.cons (.ix (.lst false (.cons (.k (.int 1)) (.cons (.k (.int 5)) (.cons (.k (.int 60)) .nil)))) (.call "_law_take" false (.cons (.v 0) (.cons (.k (.int 3)) .nil)))) .nil)))) (.n 9) (.seq (.v 5)) .nil))
def wkT6 : ISs := .cons wkS6 wkT7
def wkS5 : IS := (.asg (.n 7) (.bi .tuple false (.cons (.bi .sorted false (.cons (.lc false [9] (.tup (.cons (.v 9) (.cons (.op .Sub false (.call "_law_take" false (.cons (.v 0) (.cons (.op .Add false (.op .Mult false (.k (.int 2)) (.v 6)) (.k (.int 1))) .nil))) (.v 6)) .nil))) (.n 9) (.seq (.v 4)) .nil) .nil)) .nil)))
def wkT5 : ISs := .cons wkS5 wkT6
def wkS4 : IS := (.asg (.n 6) (.ix (.lst false (.cons (.k (.int 9)) (.cons (.k (.int 100)) (.cons (.k (.int 1000)) .nil)))) (.call "_law_take" false (.cons (.v 0) (.cons (.k (.int 3)) .nil)))))
def wkT4 : ISs := .cons wkS4 wkT5
def wkS3 : IS := (.asg (.n 5) (.sl false (.v 14) (.cons (.bi .len false (.cons (.v 4) .nil)) .nil) (.cons (.op .Add false (.bi .len false (.cons (.v 4) .nil)) (.call "_law_take" false (.cons (.v 0) (.cons (.op .Add false (.v 2) (.k (.int 1))) .nil)))) .nil)))
def wkT3 : ISs := .cons wkS3 wkT4
def wkS2 : IS := (.asg (.n 4) (.sl false (.v 14) .nil (.cons (.op .Add false (.k (.int 1)) (.call "_law_take" false (.cons (.v 0) (.cons (.v 1) .nil)))) .nil)))
def wkT2 : ISs := .cons wkS2 wkT3
def wkS1 : IS := (.whl (.cmp .NotEq (.v 13) (.lst false .nil)) (.cons (.ex (.me .append (.v 14) (.cons (.me .popi (.v 13) (.cons (.call "_law_take" false (.cons (.v 0) (.cons (.bi .len false (.cons (.v 13) .nil)) .nil))) .nil)) .nil))) .nil))
def wkT1 : ISs := .cons wkS1 wkT2
def wkS0 : IS := (.par 13 14 (.lst true (.cons (.k (.str "al")) (.cons (.k (.str "bo")) (.cons (.k (.str "cy")) (.cons (.k (.str "di")) (.cons (.k (.str "ed")) (.cons (.k (.str "fay")) (.cons (.k (.str "gus")) (.cons (.k (.str "hal")) (.cons (.k (.str "ida")) .nil)))))))))) (.lst true .nil))
def wkT0 : ISs := .cons wkS0 wkT1
theorem wk_eq : ir__law_works = wkT0 := rfl
theorem lst_celg {μ : Mu} {k : Nat} {xs : List D} (h : μ[k]? = some (some (.lst xs))) : lstOf μ (.cel k) = some xs := by
  show (match μ[k]? with
    | some (some (.lst xs)) => some xs
    | _ => none) = _
  rw [h]
theorem seq_celg {μ : Mu} {k : Nat} {xs : List D} (h : μ[k]? = some (some (.lst xs))) : seqOf μ (.cel k) = some xs := by
  show (match μ[k]? with
    | some (some (.lst xs)) => some xs
    | _ => none) = _
  rw [h]
theorem res_celg {μ : Mu} {k : Nat} {xs : List D} (h : μ[k]? = some (some (.lst xs))) : resOf μ (.cel k) = .lst xs := by
  show (match μ[k]? with
    | some (some (.lst xs)) => D.lst xs
    | _ => D.cel k) = _
  rw [h]
theorem len_celg {μ : Mu} {k : Nat} {xs : List D} (h : μ[k]? = some (some (.lst xs))) : lenD μ (.cel k) = some xs.length := by
  show (match μ[k]? with
      | some (some (.lst xs)) => some xs.length
      | some (some (.dk ks _)) => some ks.length
      | some (some (.dt ks _)) => some ks.length
      | _ => none) = _
  rw [h]
theorem cellL_g {μ : Mu} {n : Nat} {xs : List D} {k : Nat → List D → Prop} (h : μ[n]? = some (some (.lst xs))) : cellL μ (.cel n) k = k n xs := by
  show (match μ[n]? with
    | some (some (.lst xs)) => k n xs
    | _ => False) = _
  rw [h]
theorem len_celt {μ : Mu} {k : Nat} {ks : List (List Str)} {vs : List D} (h : μ[k]? = some (some (.dt ks vs))) : lenD μ (.cel k) = some ks.length := by
  show (match μ[k]? with
      | some (some (.lst xs)) => some xs.length
      | some (some (.dk ks _)) => some ks.length
      | some (some (.dt ks _)) => some ks.length
      | _ => none) = _
  rw [h]
theorem mem_celt {μ : Mu} {k : Nat} {ks : List (List Str)} {vs : List D} {a b : Str} {q : Bool → Prop} (h : μ[k]? = some (some (.dt ks vs))) : memW μ (.tup [.str a, .str b]) (.cel k) q = q (decide ([a, b] ∈ ks)) := by
  show (match μ[k]? with
    | some (some (.lst xs)) => _
    | some (some (.dk ks _)) => _
    | some (some (.dt ks _)) => q (decide ([a, b] ∈ ks))
    | _ => False) = _
  rw [h]
theorem ix_celt {μ : Mu} {k : Nat} {ks : List (List Str)} {vs : List D} {a b : Str} {Q : QD} (h : μ[k]? = some (some (.dt ks vs))) : ixW (.cel k) (.tup [.str a, .str b]) μ Q = onS (lookD ks vs [a, b]) fun d => Q d μ := by
  show (match μ[k]? with
    | some (some (.lst xs)) => asI (.tup [.str a, .str b]) _
    | some (some (.dk ks ds)) => _
    | some (some (.dt ks ds)) => onS (lookD ks ds [a, b]) fun d => Q d μ
    | _ => False) = _
  rw [h]
theorem set_celt {μ : Mu} {k : Nat} {ks : List (List Str)} {vs : List D} {a b : Str} {d : D} {Q : Mu → Prop} (h : μ[k]? = some (some (.dt ks vs))) : setW (.cel k) (.tup [.str a, .str b]) d μ Q = (Sz (ks.length + 1) ∧ Q (μ.set k (some (.dt (putD ks vs [a, b] d).1 (putD ks vs [a, b] d).2)))) := by
  show (match μ[k]? with
    | some (some (.lst xs)) => asI (.tup [.str a, .str b]) _
    | some (some (.dk ks ds)) => _
    | some (some (.dt ks ds)) => Sz (ks.length + 1) ∧ Q (μ.set k (some (.dt (putD ks ds [a, b] d).1 (putD ks ds [a, b] d).2)))
    | _ => False) = _
  rw [h]
theorem dt_keysg {μ : Mu} {k : Nat} {ks : List (List Str)} {vs : List D} (h : μ[k]? = some (some (.dt ks vs))) : dtKeys μ k = some ks := by
  unfold dtKeys; rw [h]
/-- the pipes so far, as a dict -/
def pkl (p : Pi) : List Str := [p.a, p.b]
def pvl (p : Pi) : D := .tup [.int p.w, .str p.f]
def pD (E : List Pi) : MO := .dt (E.map pkl) (E.map pvl)
def mm (a b : Str) : Str × Str := if ltS b a then (b, a) else (a, b)
def mkP (a b : Str) (w : Int) (f : Str) : Pi := ⟨(mm a b).1, (mm a b).2, w, f⟩
theorem nc_pD (E : List Pi) : (pD E).nc = true := ncA_map pvl (fun _ => rfl) E
theorem putT_new {ks : List (List Str)} {ds : List D} {x : List Str} {e : D} (h : ¬ x ∈ ks) : putD ks ds x e = (ks ++ [x], ds ++ [e]) := if_neg h
theorem pkl_mem {E : List Pi} {x : Str × Str} : [x.1, x.2] ∈ E.map pkl ↔ x ∈ E.map pk := by
  constructor
  · intro h
    obtain ⟨p, hp, e⟩ := List.mem_map.mp h
    have : p.a = x.1 ∧ p.b = x.2 := by unfold pkl at e; simpa using e
    exact List.mem_map.mpr ⟨p, hp, Prod.ext this.1 this.2⟩
  · intro h
    obtain ⟨p, hp, e⟩ := List.mem_map.mp h
    exact List.mem_map.mpr ⟨p, hp, by rw [← e]; rfl⟩
theorem mm_min {a b : Str} : (if ltS b a then b else a) = (mm a b).1 := by unfold mm; split <;> rfl
theorem mm_max {a b : Str} (h : a ≠ b) : (if ltS a b then b else a) = (mm a b).2 := by
  unfold mm
  rcases ltS_so.tri a b h with g | g
  · rw [if_pos g, if_neg (fun g' => ltS_so.asymm g g')]
  · rw [if_pos g, if_neg (fun g' => ltS_so.asymm g g')]
theorem mm_lt {a b : Str} (h : a ≠ b) : ltS (mm a b).1 (mm a b).2 = true := by
  unfold mm
  rcases ltS_so.tri a b h with g | g
  · rw [if_neg (fun g' => ltS_so.asymm g g')]; exact g
  · rw [if_pos g]; exact g
theorem mm_or (a b : Str) : (mm a b = (a, b)) ∨ (mm a b = (b, a)) := by
  unfold mm; split
  · exact .inr rfl
  · exact .inl rfl
theorem rt_two {μ : Mu} {n m : Nat} {o1 o2 : MO} {Q : QD} {d : D} (h1 : o1.nc = true) (h2 : o2.nc = true) (hd : d.nc = true) (q : Q d ((μ.set n (some o1)).set m (some o2))) : retW μ Q d ((μ.set n (some o1)).set m (some o2)) := by
  refine ⟨fun k o l h => ?_, .inl ⟨hd, ?_⟩⟩
  · by_cases e2 : m = k
    · subst e2
      rw [List.getElem?_set_self (by rw [List.length_set]; exact l)] at h
      cases h; exact .inr h2
    · rw [List.getElem?_set_ne e2] at h
      by_cases e1 : n = k
      · subst e1
        rw [List.getElem?_set_self l] at h
        cases h; exact .inr h1
      · rw [List.getElem?_set_ne e1] at h
        exact .inl h
  · rw [List.take_of_length_le (by rw [List.length_set, List.length_set]; exact Nat.le_refl _)]; exact q
def fs_lpipe : FS := fun ds μ Q _ => ∃ (n m : Nat) (w : We) (E : List Pi) (a b f : Str), ds = [.cel n, .cel m, .str a, .str b, .str f] ∧ n ≠ m ∧ μ[n]? = some (some (.lst w.l)) ∧ w.ok ∧ μ[m]? = some (some (pD E)) ∧ E.length ≤ 1000 ∧ a ≠ b ∧ ¬ mm a b ∈ E.map pk ∧
  ∀ (w' : We) (wd : Int), w'.ok → 1 ≤ wd → wd ≤ 100 → Q .non ((μ.set n (some (.lst w'.l))).set m (some (pD (E ++ [mkP a b wd f]))))
theorem WM_nil {μ : Mu} {n : Nat} {w : We} : WM μ n w [] = μ.set n (some (.lst w.l)) := List.append_nil _
theorem idx3 {a b c : Int} {r : Int} (h0 : 0 ≤ r) (h : r < 3) (P : Int → Prop) (pa : P a) (pb : P b) (pc : P c) : ∃ z, L2.atI [D.int a, .int b, .int c] r = some (.int z) ∧ P z := by
  obtain ⟨i, rfl⟩ := Int.eq_ofNat_of_zero_le h0
  have : i < 3 := by omega
  rw [show L2.atI [D.int a, .int b, .int c] ((i : Nat) : Int) = [D.int a, .int b, .int c][i]? from at_nat]
  match i, this with
  | 0, _ => exact ⟨a, rfl, pa⟩
  | 1, _ => exact ⟨b, rfl, pb⟩
  | 2, _ => exact ⟨c, rfl, pc⟩
theorem p_lpipe (Φ : Str → FS) (h1 : Φ "_law_take" = fs_take) : ∀ ds μ Qd Ed, ds.length = 5 → fs_lpipe ds μ Qd Ed → wSs Φ ir__law_pipe (start0 N__law_pipe.length ds) μ (endD μ Qd Ed) := by
  rintro ds μ Q E _ ⟨n, m, w, Es, a, b, f, rfl, hnm, hn, ok, hm, hE, hab, hnew, q⟩
  have ln : n < μ.length := (List.getElem?_eq_some_iff.mp hn).1
  unfold ir__law_pipe
  change wSs Φ _ [some (.cel n), some (.cel m), some (.str a), some (.str b), some (.str f), none] μ _
  simp only [s_cons, s_nil, s_asg, e_op, e_call, es_cons, es_nil, e_ix, e_lst, newL_f, e_v, e_k, lk, st, onS_some, h1]
  refine ⟨n, w, 3, rfl, hn, ok, by decide, by decide, fun r w1 ok1 r0 r1 => ?_⟩
  obtain ⟨z, hz, z1, z2⟩ := idx3 r0 r1 (a := 1) (b := 4) (c := 100) (fun z => 1 ≤ z ∧ z ≤ 100) (by decide) (by decide) (by decide)
  simp only [ix_lst, hz, onS_some]
  refine take_call ln ok1 z1 (by omega) fun r w2 ok2 r0 r1 => ?_
  have hm2 : (WM μ n w2 [])[m]? = some (some (.dt (Es.map pkl) (Es.map pvl))) := by rw [WM_nil, List.getElem?_set_ne hnm]; exact hm
  simp only [bopW, addW, s_sub, e_tup, es_cons, es_nil, e_bi, biW, e_v, lk, st, onS_some, minW, maxW, mm_min, mm_max hab, set_celt hm2]
  refine ⟨by show _ ≤ _; rw [List.length_map]; omega, ?_⟩
  rw [putT_new (fun h => hnew (pkl_mem.mp h)), WM_nil]
  have e : MO.dt (Es.map pkl ++ [[(mm a b).1, (mm a b).2]]) (Es.map pvl ++ [.tup [.int (1 + r), .str f]]) = pD (Es ++ [mkP a b (1 + r) f]) := by
    unfold pD; rw [List.map_append, List.map_append]; rfl
  show retW μ Q .non ((μ.set n (some (.lst w2.l))).set m (some (MO.dt (Es.map pkl ++ [[(mm a b).1, (mm a b).2]]) (Es.map pvl ++ [.tup [.int (1 + r), .str f]]))))
  rw [e]
  exact rt_two rfl (nc_pD _) rfl (q w2 (1 + r) ok2 (by omega) (by omega))
end FW

set_option Elab.async false
set_option linter.all false
set_option maxRecDepth 100000
/-! DW4: drawing names, tanks, taps. -/
namespace FW
open PySem
def base9 : List Str := ["al", "bo", "cy", "di", "ed", "fay", "gus", "hal", "ida"]
theorem base9_nd : base9.Nodup := by decide +kernel
theorem base9_ok : ∀ x, x ∈ base9 → isNameB x = true := by decide +kernel
theorem base9_len : ∀ x, x ∈ base9 → x.length ≤ 100000 := by decide +kernel
theorem eqD_lst (xs ys : List D) : eqD (.lst xs) (.lst ys) = PyData.eqvAll (pyA xs) (pyA ys) := by
  unfold eqD D.py
  rw [PyData.eqv]
theorem eqA_cn (x : D) (xs : List D) : PyData.eqvAll (pyA (x :: xs)) (pyA []) = false := by
  unfold pyA; rw [PyData.eqvAll]
theorem shal_lnil : shal (.lst []) := by simp [shal, D.py, pyA, PyData.depth, PyData.depthAll]
theorem cut_head {xs : List D} {k : Nat} (h : k ≤ xs.length) : cutD xs none (some (k : Int)) = xs.take k := by
  have e : HT.sIx xs.length xs.length (some (k : Int)) = k := by
    show (if (k : Int) < 0 then ((k : Int) + (xs.length : Int)).toNat else min (k : Int).toNat xs.length) = k
    rw [if_neg (by omega)]; omega
  have e2 : HT.sIx xs.length 0 none = 0 := rfl
  unfold cutD
  rw [e, e2, List.drop_zero, Nat.sub_zero]
theorem cut_mid {xs : List D} {i k : Nat} (hi : i ≤ xs.length) (h : i + k ≤ xs.length) : cutD xs (some (i : Int)) (some ((i : Int) + (k : Int))) = (xs.drop i).take k := by
  have e : HT.sIx xs.length xs.length (some ((i : Int) + (k : Int))) = i + k := by
    show (if ((i : Int) + (k : Int)) < 0 then (((i : Int) + (k : Int)) + (xs.length : Int)).toNat else min ((i : Int) + (k : Int)).toNat xs.length) = i + k
    rw [if_neg (by omega)]; omega
  have e2 : HT.sIx xs.length 0 (some (i : Int)) = i := by
    show (if (i : Int) < 0 then ((i : Int) + (xs.length : Int)).toNat else min (i : Int).toNat xs.length) = i
    rw [if_neg (by omega)]; omega
  unfold cutD
  rw [e, e2, Nat.add_sub_cancel_left]
theorem eraseIdx_map' {α β : Type} (f : α → β) : ∀ (xs : List α) (i : Nat), (xs.map f).eraseIdx i = (xs.eraseIdx i).map f
  | [], _ => rfl
  | x :: r, 0 => rfl
  | x :: r, i + 1 => by
    show f x :: (r.map f).eraseIdx i = f x :: (r.eraseIdx i).map f
    rw [eraseIdx_map' f r i]
theorem eraseIdx_perm {α : Type} : ∀ (xs : List α) (i : Nat) (h : i < xs.length), xs.Perm (xs[i] :: xs.eraseIdx i)
  | x :: r, 0, _ => List.Perm.refl _
  | x :: r, i + 1, h => by
    have hi : i < r.length := by simpa using h
    have := eraseIdx_perm r i hi
    show (x :: r).Perm (r[i] :: x :: r.eraseIdx i)
    exact (this.cons x).trans (List.Perm.swap _ _ _)
theorem drawLoop (Φ : Str → FS) (h1 : Φ "_law_take" = fs_take) (μ : Mu) (n : Nat) (hn : n < μ.length) (x1 x2 x3 x4 x5 x6 x7 x8 x9 x10 x11 x12 x15 x16 x17 x18 x19 x20 : Option D) (Dn : EnD)
    (q : ∀ (Dl : List Str) (w : We), Dl.Perm base9 → w.ok → Dn.nx [some (.cel n), x1, x2, x3, x4, x5, x6, x7, x8, x9, x10, x11, x12, some (.cel μ.length), some (.cel (μ.length + 1)), x15, x16, x17, x18, x19, x20] (WM μ n w [some (.lst []), some (.lst (Dl.map .str))])) :
    ∀ (fuel : Nat) (Nl Dl : List Str) (w : We), Nl.length < fuel → (Nl ++ Dl).Perm base9 → w.ok →
    WL Φ (.cmp .NotEq (.v 13) (.lst false .nil)) (.cons (.ex (.me .append (.v 14) (.cons (.me .popi (.v 13) (.cons (.call "_law_take" false (.cons (.v 0) (.cons (.bi .len false (.cons (.v 13) .nil)) .nil))) .nil)) .nil))) .nil) fuel
      [some (.cel n), x1, x2, x3, x4, x5, x6, x7, x8, x9, x10, x11, x12, some (.cel μ.length), some (.cel (μ.length + 1)), x15, x16, x17, x18, x19, x20] (WM μ n w [some (.lst (Nl.map .str)), some (.lst (Dl.map .str))]) Dn := by
  intro fuel
  induction fuel with
  | zero => intro Nl Dl w h; omega
  | succ fuel ih =>
    intro Nl Dl w hf hp ok
    have pl := plA_map D.str (fun _ => rfl) Nl
    have g0 : ∀ {w : We} {a b : List D}, (WM μ n w [some (.lst a), some (.lst b)])[μ.length]? = some (some (.lst a)) := fun {w a b} => WM_cell (i := 0)
    have g1 : ∀ {w : We} {a b : List D}, (WM μ n w [some (.lst a), some (.lst b)])[μ.length + 1]? = some (some (.lst b)) := fun {w a b} => WM_cell (i := 1)
    rw [WL_s]
    simp only [e_cmp, cmpW, e_v, e_lst, es_nil, lk, onS_some, newL_f, eqW, res_celg g0, res_lst]
    refine ⟨⟨pl, rfl, .inr shal_lnil⟩, ?_⟩
    simp only [asB_bl, eqD_lst]
    have hlen := hp.length_eq
    have h9 : base9.length = 9 := rfl
    rw [List.length_append, h9] at hlen
    cases Nl with
    | nil =>
      rw [show PyData.eqvAll (pyA (([] : List Str).map D.str)) (pyA []) = true from eqA_nil]
      refine ⟨fun h => (by cases h), fun _ => q Dl w (by simpa using hp) ok⟩
    | cons y r =>
      rw [List.map_cons, eqA_cn]
      refine ⟨fun _ => ?_, fun h => (by cases h)⟩
      rw [← List.map_cons]
      have hl : (y :: r).length ≤ 9 := by omega
      have hl2 : 1 ≤ (y :: r).length := by show 1 ≤ r.length + 1; omega
      simp only [s_cons, s_nil, s_ex, e_me, e_v, lk, onS_some, meTy, lst_celg g1, lst_celg g0, es_cons, es_nil, e_call, e_bi, biW, len_celg g0, List.length_map, h1, true_and]
      refine take_call hn ok (by omega) (by omega) fun rr w1 ok1 r0 r1 => ?_
      obtain ⟨i, rfl⟩ := Int.eq_ofNat_of_zero_le r0
      have hi : i < (y :: r).length := by omega
      have gi : ((y :: r).map D.str)[i]? = some (.str (y :: r)[i]) := by rw [List.getElem?_map, List.getElem?_eq_getElem hi]; rfl
      simp only [meW, cellL_g g0, asI_int]
      refine ⟨by show _ ≤ _; rw [List.length_map]; omega, ?_⟩
      rw [if_pos r0, show ((i : Nat) : Int).toNat = i by omega, gi, onS_some, show μ.length = μ.length + 0 from rfl, WM_put]
      show cellL _ _ _
      rw [show ([some (MO.lst ((y :: r).map D.str)), some (MO.lst (Dl.map D.str))] : Mu).set 0 (some (.lst (((y :: r).map D.str).eraseIdx i))) = [some (MO.lst (((y :: r).map D.str).eraseIdx i)), some (MO.lst (Dl.map D.str))] from rfl, cellL_g g1, WM_put]
      refine ⟨by show _ ≤ _; rw [List.length_map]; omega, ?_⟩
      have e1 : ((y :: r).map D.str).eraseIdx i = ((y :: r).eraseIdx i).map D.str := eraseIdx_map' _ _ _
      have e2 : Dl.map D.str ++ [.str (y :: r)[i]] = (Dl ++ [(y :: r)[i]]).map D.str := by rw [List.map_append]; rfl
      rw [show ([some (MO.lst (((y :: r).map D.str).eraseIdx i)), some (MO.lst (Dl.map D.str))] : Mu).set 1 (some (.lst (Dl.map D.str ++ [.str (y :: r)[i]]))) = [some (MO.lst (((y :: r).map D.str).eraseIdx i)), some (MO.lst (Dl.map D.str ++ [.str (y :: r)[i]]))] from rfl, e1, e2]
      refine ih _ _ _ ?_ ?_ ok1
      · rw [List.length_eraseIdx_of_lt hi]; omega
      · refine List.Perm.trans ?_ hp
        have p1 : (y :: r).Perm ((y :: r)[i] :: (y :: r).eraseIdx i) := eraseIdx_perm _ i hi
        refine List.Perm.trans ?_ (p1.symm.append_right Dl)
        rw [List.cons_append, ← List.append_assoc]
        exact List.perm_append_singleton _ _
/-- tanks drawn -/
theorem tanksLoop (Φ : Str → FS) (h1 : Φ "_law_take" = fs_take) (μ : Mu) (n : Nat) (hn : n < μ.length) (rest : Mu) (wd : Int) (hw0 : 0 ≤ wd) (hw1 : wd ≤ 1000) (x1 x2 x3 x4 x5 x7 x8 x9 x10 x11 x12 x13 x14 x15 x16 x17 x18 x19 x20 : Option D) (Q : List D → Mu → Prop) :
    ∀ (S : List Str) (acc : List (Str × Int)) (w : We), w.ok → acc.length + S.length ≤ 1000 →
    (∀ (ps : List (Str × Int)) (w' : We), ps.map (·.1) = S → (∀ p, p ∈ ps → -1000 ≤ p.2 ∧ p.2 ≤ 1000) → w'.ok → Q ((acc ++ ps).map plc) (WM μ n w' rest)) →
    LC Φ (.tup (.cons (.v 9) (.cons (.op .Sub false (.call "_law_take" false (.cons (.v 0) (.cons (.op .Add false (.op .Mult false (.k (.int 2)) (.v 6)) (.k (.int 1))) .nil))) (.v 6)) .nil))) (.n 9) .nil (fun _ => True)
      [some (.cel n), x1, x2, x3, x4, x5, some (.int wd), x7, x8, x9, x10, x11, x12, x13, x14, x15, x16, x17, x18, x19, x20] (S.map .str) (acc.map plc) (WM μ n w rest) Q := by
  intro S
  induction S with
  | nil =>
    intro acc w ok _ q
    have := q [] w rfl (fun _ h => absurd h List.not_mem_nil) ok
    rw [List.append_nil] at this
    exact this
  | cons y r ih =>
    intro acc w ok hl q
    have hl : acc.length + (r.length + 1) ≤ 1000 := hl
    rw [List.map_cons, LC_cons]
    simp only [tgW, st, c_nil, onB_true, e_tup, es_cons, es_nil, e_op, bopW, mulW, addW, e_call, e_v, e_k, lk, onS_some, asI_int, h1]
    refine ⟨.s (by decide) (by decide), .s (by omega) (by omega), ?_⟩
    refine take_call hn ok (by omega) (by omega) fun rr w1 ok1 r0 r1 => ?_
    refine ⟨⟨trivial, by show _ ≤ _; rw [List.length_map]; omega⟩, ?_⟩
    have e : acc.map plc ++ [.tup [.str y, .int (rr - wd)]] = (acc ++ [(y, rr - wd)]).map plc := by rw [List.map_append]; rfl
    show LC _ _ _ _ _ _ _ (acc.map plc ++ [.tup [.str y, .int (rr - wd)]]) _ _
    rw [e]
    refine ih _ w1 ok1 (by rw [List.length_append, List.length_singleton]; omega) fun ps w' e1 e2 ok' => ?_
    have := q ((y, rr - wd) :: ps) w' (by rw [List.map_cons, e1]) (fun p hp => by
      rcases List.mem_cons.mp hp with rfl | hp
      · exact ⟨by show -1000 ≤ rr - wd; omega, by show rr - wd ≤ 1000; omega⟩
      · exact e2 p hp) ok'
    rw [List.append_assoc]
    exact this
/-- taps drawn -/
theorem tapsLoop (Φ : Str → FS) (h1 : Φ "_law_take" = fs_take) (μ : Mu) (n : Nat) (hn : n < μ.length) (rest : Mu) (dry : Bool) (x1 x2 x4 x5 x6 x7 x8 x9 x10 x11 x12 x13 x14 x15 x16 x17 x18 x19 x20 : Option D) (Q : List D → Mu → Prop) :
    ∀ (S : List Str) (acc : List Int) (w : We), w.ok → acc.length + S.length ≤ 1000 →
    (∀ (ps : List Int) (w' : We), ps.length = S.length → (∀ p, p ∈ ps → 0 ≤ p ∧ p < 60 ∧ (dry = true → p = 0)) → w'.ok → Q ((acc ++ ps).map .int) (WM μ n w' rest)) →
    LC Φ (.ife (.v 3) (.k (.int 0)) (.call "_law_take" false (.cons (.v 0) (.cons (.ix (.lst false (.cons (.k (.int 1)) (.cons (.k (.int 5)) (.cons (.k (.int 60)) .nil)))) (.call "_law_take" false (.cons (.v 0) (.cons (.k (.int 3)) .nil)))) .nil)))) (.n 9) .nil (fun _ => True)
      [some (.cel n), x1, x2, some (.bl dry), x4, x5, x6, x7, x8, x9, x10, x11, x12, x13, x14, x15, x16, x17, x18, x19, x20] (S.map .str) (acc.map .int) (WM μ n w rest) Q := by
  intro S
  induction S with
  | nil =>
    intro acc w ok _ q
    have := q [] w rfl (fun _ h => absurd h List.not_mem_nil) ok
    rw [List.append_nil] at this
    exact this
  | cons y r ih =>
    intro acc w ok hl q
    have hl : acc.length + (r.length + 1) ≤ 1000 := hl
    have fin : ∀ (z : Int) (w1 : We), w1.ok → 0 ≤ z → z < 60 → (dry = true → z = 0) → (True ∧ Sz ((acc.map D.int).length + 1)) ∧ LC Φ (.ife (.v 3) (.k (.int 0)) (.call "_law_take" false (.cons (.v 0) (.cons (.ix (.lst false (.cons (.k (.int 1)) (.cons (.k (.int 5)) (.cons (.k (.int 60)) .nil)))) (.call "_law_take" false (.cons (.v 0) (.cons (.k (.int 3)) .nil)))) .nil)))) (.n 9) .nil (fun _ => True)
      [some (.cel n), x1, x2, some (.bl dry), x4, x5, x6, x7, x8, x9, x10, x11, x12, x13, x14, x15, x16, x17, x18, x19, x20] (r.map .str) (acc.map .int ++ [.int z]) (WM μ n w1 rest) Q := by
      intro z w1 ok1 z0 z1 z2
      refine ⟨⟨trivial, by show _ ≤ _; rw [List.length_map]; omega⟩, ?_⟩
      have e : acc.map D.int ++ [.int z] = (acc ++ [z]).map .int := by rw [List.map_append]; rfl
      rw [e]
      refine ih _ w1 ok1 (by rw [List.length_append, List.length_singleton]; omega) fun ps w' e1 e2 ok' => ?_
      have := q (z :: ps) w' (by rw [List.length_cons, e1]; rfl) (fun p hp => by
        rcases List.mem_cons.mp hp with rfl | hp
        · exact ⟨z0, z1, z2⟩
        · exact e2 p hp) ok'
      rw [List.append_assoc]
      exact this
    rw [List.map_cons, LC_cons]
    simp only [tgW, st, c_nil, onB_true, e_ife, e_v, e_k, lk, onS_some, asB_bl]
    refine ⟨fun g => fin 0 w ok (by decide) (by decide) fun _ => rfl, fun g => ?_⟩
    simp only [e_call, es_cons, es_nil, e_ix, e_lst, newL_f, e_v, e_k, lk, onS_some, h1]
    refine take_call hn ok (by decide) (by decide) fun rr w1 ok1 r0 r1 => ?_
    obtain ⟨z, hz, z1, z2⟩ := idx3 r0 r1 (a := 1) (b := 5) (c := 60) (fun z => 1 ≤ z ∧ z ≤ 60) (by decide) (by decide) (by decide)
    simp only [ix_lst, hz, onS_some]
    refine take_call hn ok1 z1 (by omega) fun rr w2 ok2 r0 r1 => ?_
    exact fin rr w2 ok2 r0 (by omega) fun h => by rw [h] at g; cases g
end FW

set_option Elab.async false
set_option linter.all false
set_option maxRecDepth 100000
/-! DW5: pipes drawn. -/
namespace FW
open PySem
/-- the pipes so far -/
structure PI (S jt : List Str) (E : List Pi) (c : Nat) : Prop where
  pp : ∀ p, p ∈ E → p.a ∈ S ++ jt ∧ p.b ∈ S ++ jt ∧ ltS p.a p.b = true ∧ 1 ≤ p.w ∧ p.w ≤ 100 ∧ (p.f = "" ∨ p.f = ">" ∨ p.f = "<")
  nk : (E.map pk).Nodup
  hg : Hang S jt E
  lf : (E.filter isFlap).length ≤ c
theorem mkP_ends {a b f : Str} {w : Int} {N : List Str} (ha : a ∈ N) (hb : b ∈ N) : (mkP a b w f).a ∈ N ∧ (mkP a b w f).b ∈ N := by
  unfold mkP
  rcases mm_or a b with h | h <;> rw [h]
  · exact ⟨ha, hb⟩
  · exact ⟨hb, ha⟩
theorem PI.add {S jt : List Str} {E : List Pi} {c : Nat} (h : PI S jt E c) {a b f : Str} {w : Int} (ha : a ∈ S ++ jt) (hb : b ∈ S ++ jt) (hab : a ≠ b) (hn : ¬ mm a b ∈ E.map pk) (w0 : 1 ≤ w) (w1 : w ≤ 100) (hf : f = "" ∨ f = ">" ∨ f = "<") : PI S jt (E ++ [mkP a b w f]) (c + if f = "" then 0 else 1) := by
  refine ⟨fun p hp => ?_, ?_, fun Z z1 z2 => h.hg Z z1 fun p hp => z2 p (List.mem_append_left _ hp), ?_⟩
  · rcases List.mem_append.mp hp with hp | hp
    · exact h.pp p hp
    · rw [List.mem_singleton.mp hp]
      exact ⟨(mkP_ends ha hb).1, (mkP_ends ha hb).2, mm_lt hab, w0, w1, hf⟩
  · rw [List.map_append, List.nodup_append]
    refine ⟨h.nk, by simp, fun x hx y hy e => ?_⟩
    rw [List.map_singleton] at hy
    rw [List.mem_singleton.mp hy] at e
    exact hn (by rw [← show pk (mkP a b w f) = mm a b from rfl, ← e]; exact hx)
  · rw [List.filter_append, List.length_append]
    have := h.lf
    by_cases e : f = ""
    · rw [if_pos e, List.filter_cons, if_neg (by simp [isFlap, mkP, e])]; simpa using this
    · rw [if_neg e, List.filter_cons, if_pos (by simp [isFlap, mkP, e])]; simpa using this
theorem PI.joint {S jt : List Str} {E : List Pi} {c : Nat} (h : PI S jt E c) {a b : Str} {w : Int} (ha : ¬ a ∈ S ++ jt) (hb : b ∈ S ++ jt) (w0 : 1 ≤ w) (w1 : w ≤ 100) : PI S (jt ++ [a]) (E ++ [mkP a b w ""]) c := by
  have hab : a ≠ b := fun e => ha (e ▸ hb)
  have sub : ∀ x, x ∈ S ++ jt → x ∈ S ++ (jt ++ [a]) := fun x hx => by rw [← List.append_assoc]; exact List.mem_append_left _ hx
  have ha' : a ∈ S ++ (jt ++ [a]) := by rw [← List.append_assoc]; exact List.mem_append_right _ (List.mem_singleton_self _)
  refine ⟨fun p hp => ?_, ?_, fun Z z1 z2 j hj => ?_, ?_⟩
  · rcases List.mem_append.mp hp with hp | hp
    · obtain ⟨h1, h2, h3⟩ := h.pp p hp
      exact ⟨sub _ h1, sub _ h2, h3⟩
    · rw [List.mem_singleton.mp hp]
      exact ⟨(mkP_ends ha' (sub _ hb)).1, (mkP_ends ha' (sub _ hb)).2, mm_lt hab, w0, w1, .inl rfl⟩
  · rw [List.map_append, List.nodup_append]
    refine ⟨h.nk, by simp, fun x hx y hy e => ?_⟩
    rw [List.map_singleton] at hy
    rw [List.mem_singleton.mp hy] at e
    obtain ⟨p, hp, e'⟩ := List.mem_map.mp hx
    obtain ⟨h1, h2, _⟩ := h.pp p hp
    rw [e] at e'
    have e1 : p.a = (mm a b).1 := congrArg Prod.fst e'
    have e2 : p.b = (mm a b).2 := congrArg Prod.snd e'
    rcases mm_or a b with g | g <;> rw [g] at e1 e2
    · exact ha (by rw [e1] at h1; exact h1)
    · exact ha (by rw [e2] at h2; exact h2)
  · have old : ∀ x, x ∈ jt → Z x := h.hg Z z1 fun p hp => z2 p (List.mem_append_left _ hp)
    rcases List.mem_append.mp hj with hj | hj
    · exact old j hj
    · rw [List.mem_singleton.mp hj]
      have zb : Z b := by
        rcases List.mem_append.mp hb with hb | hb
        · exact z1 b hb
        · exact old b hb
      have := z2 (mkP a b w "") (List.mem_append_right _ (List.mem_singleton_self _)) rfl
      unfold mkP at this
      rcases mm_or a b with g | g <;> rw [g] at this
      · exact this.mpr zb
      · exact this.mp zb
  · rw [List.filter_append, List.length_append, List.filter_cons, if_neg (by simp [isFlap, mkP])]
    have := h.lf
    simpa using this
def jointIR : ISs := (.cons (.ex (.call "_law_pipe" false (.cons (.v 0) (.cons (.v 15) (.cons (.v 9) (.cons (.ix (.v 16) (.call "_law_take" false (.cons (.v 0) (.cons (.bi .len false (.cons (.v 16) .nil)) .nil)))) (.cons (.k (.str "")) .nil))))))) (.cons (.ex (.me .append (.v 16) (.cons (.v 9) .nil))) .nil))
theorem W2 {μ : Mu} {n : Nat} {w : We} {a b c d : Option MO} : (WM μ n w [a, b, c, d])[μ.length + 2]? = some c := WM_cell (i := 2)
theorem W3 {μ : Mu} {n : Nat} {w : We} {a b c d : Option MO} : (WM μ n w [a, b, c, d])[μ.length + 3]? = some d := WM_cell (i := 3)
theorem WP2 {μ : Mu} {n : Nat} {w w' : We} {a b c d o : Option MO} (hn : n < μ.length) : ((WM μ n w [a, b, c, d]).set n (some (.lst w'.l))).set (μ.length + 2) o = WM μ n w' [a, b, o, d] := by
  rw [WM_set hn, WM_put]; rfl
theorem at_str {xs : List Str} {i : Nat} (h : i < xs.length) : L2.atI (xs.map D.str) (i : Int) = some (.str xs[i]) := by
  rw [at_nat, List.getElem?_map, List.getElem?_eq_getElem h]; rfl
theorem jointsLoop (Φ : Str → FS) (h1 : Φ "_law_take" = fs_take) (h2 : Φ "_law_pipe" = fs_lpipe) (μ : Mu) (n : Nat) (hn : n < μ.length) (S : List Str) (hS : 1 ≤ S.length) (c0 c1 : Option MO) (x1 x2 x3 x4 x5 x6 x7 x8 x10 x11 x12 x13 x14 x17 x18 x19 x20 : Option D) (src : Mu → Prop) (hs : ∀ m, src m) (Dn : EnD) :
    ∀ (js jt : List Str) (E : List Pi) (w : We) (x9 : Option D), w.ok → (S ++ (jt ++ js)).Nodup → (S ++ (jt ++ js)).length ≤ 9 → PI S jt E 0 → E.length = jt.length →
    (∀ (E : List Pi) (w : We) (x9 : Option D), w.ok → PI S (jt ++ js) E 0 → E.length = (jt ++ js).length → Dn.nx [some (.cel n), x1, x2, x3, x4, x5, x6, x7, x8, x9, x10, x11, x12, x13, x14, some (.cel (μ.length + 2)), some (.cel (μ.length + 3)), x17, x18, x19, x20] (WM μ n w [c0, c1, some (pD E), some (.lst ((S ++ (jt ++ js)).map .str))])) →
    FL Φ (.n 9) jointIR src (js.map .str) [some (.cel n), x1, x2, x3, x4, x5, x6, x7, x8, x9, x10, x11, x12, x13, x14, some (.cel (μ.length + 2)), some (.cel (μ.length + 3)), x17, x18, x19, x20] (WM μ n w [c0, c1, some (pD E), some (.lst ((S ++ jt).map .str))]) Dn := by
  intro js
  induction js with
  | nil =>
    intro jt E w x9 ok nd hl pi le q
    rw [List.append_nil] at q
    exact q E w x9 ok pi le
  | cons y r ih =>
    intro jt E w x9 ok nd hl pi le q
    have e0 : jt ++ y :: r = (jt ++ [y]) ++ r := by simp
    have hl' : S.length + (jt.length + (r.length + 1)) ≤ 9 := by
      rw [List.length_append, List.length_append] at hl; exact hl
    rw [List.map_cons, FL_cons]
    unfold jointIR
    have ll : (S ++ jt).length = S.length + jt.length := List.length_append
    simp only [tgW, st, s_cons, s_nil, s_ex, e_call, es_cons, es_nil, e_v, e_k, e_ix, e_bi, biW, lk, onS_some, len_celg W3, List.length_map, h1, h2]
    refine take_call hn ok (by omega) (by omega) fun rr w1 ok1 r0 r1 => ?_
    obtain ⟨i, rfl⟩ := Int.eq_ofNat_of_zero_le r0
    have hi : i < (S ++ jt).length := by omega
    have hyn : ¬ y ∈ S ++ jt := fun h => by
      rw [← List.append_assoc] at nd
      exact (List.nodup_append.mp nd).2.2 y h y List.mem_cons_self rfl
    have hb : (S ++ jt)[i] ∈ S ++ jt := List.getElem_mem hi
    have hne : y ≠ (S ++ jt)[i] := fun e => hyn (by rw [e]; exact hb)
    have fresh : ¬ mm y (S ++ jt)[i] ∈ E.map pk := fun h => by
      obtain ⟨p, hp, e⟩ := List.mem_map.mp h
      obtain ⟨g1, g2, _⟩ := pi.pp p hp
      have e1 : p.a = (mm y (S ++ jt)[i]).1 := congrArg Prod.fst e
      have e2 : p.b = (mm y (S ++ jt)[i]).2 := congrArg Prod.snd e
      rcases mm_or y (S ++ jt)[i] with g | g <;> rw [g] at e1 e2
      · exact hyn (by rw [e1] at g1; exact g1)
      · exact hyn (by rw [e2] at g2; exact g2)
    simp only [ix_celg W3]
    show onS (L2.atI ((S ++ jt).map D.str) ((i : Nat) : Int)) _
    rw [at_str hi, onS_some]
    refine ⟨n, μ.length + 2, w1, E, _, _, _, rfl, by omega, WM_get hn, ok1, W2, by omega, hne, fresh, fun w2 wd ok2 wd0 wd1 => ?_⟩
    rw [WP2 hn]
    simp only [e_me, e_v, lk, onS_some, meTy, lst_celg W3, es_cons, es_nil, meW, cellL_g W3, true_and, WM_put]
    refine ⟨by show _ ≤ _; rw [List.length_map]; omega, hs _, ?_⟩
    have e1 : (S ++ jt).map D.str ++ [.str y] = (S ++ (jt ++ [y])).map .str := by rw [← List.append_assoc, List.map_append (l₁ := S ++ jt)]; rfl
    rw [e1]
    refine ih (jt ++ [y]) (E ++ [mkP y (S ++ jt)[i] wd ""]) w2 _ ok2 (by rw [← e0]; exact nd) (by rw [← e0]; exact hl) (pi.joint hyn hb wd0 wd1) (by rw [List.length_append, List.length_append, le]; rfl) ?_
    rw [← e0]; exact q
def turnIR : ISs := (.cons (.par 18 19 (.ix (.v 16) (.call "_law_take" false (.cons (.v 0) (.cons (.bi .len false (.cons (.v 16) .nil)) .nil)))) (.ix (.v 16) (.call "_law_take" false (.cons (.v 0) (.cons (.bi .len false (.cons (.v 16) .nil)) .nil))))) (.cons (.asg (.n 17) (.ife (.cmp .Lt (.v 10) (.k (.int 5))) (.ix (.lst false (.cons (.k (.str "")) (.cons (.k (.str "<")) (.cons (.k (.str ">")) .nil)))) (.call "_law_take" false (.cons (.v 0) (.cons (.k (.int 3)) .nil)))) (.k (.str "")))) (.cons (.iff (.bop .And (.cons (.cmp .NotEq (.v 18) (.v 19)) (.cons (.cmp .Lt (.bi .len false (.cons (.v 15) .nil)) (.k (.int 9))) (.cons (.cmp .NotIn (.tup (.cons (.bi .min2 false (.cons (.v 18) (.cons (.v 19) .nil))) (.cons (.bi .max2 false (.cons (.v 18) (.cons (.v 19) .nil))) .nil))) (.v 15)) .nil)))) (.cons (.ex (.call "_law_pipe" false (.cons (.v 0) (.cons (.v 15) (.cons (.v 18) (.cons (.v 19) (.cons (.v 17) .nil))))))) (.cons (.asg (.n 10) (.op .Add false (.v 10) (.bi .int false (.cons (.cmp .NotEq (.v 17) (.k (.str ""))) .nil)))) .nil)) .nil) .nil)))
theorem turnsLoop (Φ : Str → FS) (h1 : Φ "_law_take" = fs_take) (h2 : Φ "_law_pipe" = fs_lpipe) (μ : Mu) (n : Nat) (hn : n < μ.length) (S jt : List Str) (hS : 1 ≤ S.length) (hl : (S ++ jt).length ≤ 9) (c0 c1 : Option MO) (x1 x2 x3 x4 x5 x6 x7 x8 x9 x12 x13 x14 x20 : Option D) (Dn : EnD)
    (q : ∀ (E : List Pi) (w : We) (c : Nat) (x10 x11 x17 x18 x19 : Option D), w.ok → PI S jt E c → c ≤ 5 → E.length ≤ 9 → Dn.nx [some (.cel n), x1, x2, x3, x4, x5, x6, x7, x8, x9, x10, x11, x12, x13, x14, some (.cel (μ.length + 2)), some (.cel (μ.length + 3)), x17, x18, x19, x20] (WM μ n w [c0, c1, some (pD E), some (.lst ((S ++ jt).map .str))])) :
    ∀ (m : Nat) (lo : Int) (E : List Pi) (w : We) (c : Nat) (x11 x17 x18 x19 : Option D), w.ok → PI S jt E c → c ≤ 5 → E.length ≤ 9 →
    FL Φ (.n 11) turnIR (fun _ => True) (intsD lo m) [some (.cel n), x1, x2, x3, x4, x5, x6, x7, x8, x9, some (.int c), x11, x12, x13, x14, some (.cel (μ.length + 2)), some (.cel (μ.length + 3)), x17, x18, x19, x20] (WM μ n w [c0, c1, some (pD E), some (.lst ((S ++ jt).map .str))]) Dn := by
  intro m
  induction m with
  | zero => intro lo E w c x11 x17 x18 x19 ok pi hc hE; exact q E w c _ _ _ _ _ ok pi hc hE
  | succ m ih =>
    intro lo E w c x11 x17 x18 x19 ok pi hc hE
    have ll : (S ++ jt).length = S.length + jt.length := List.length_append
    rw [intsD, FL_cons]
    unfold turnIR
    simp only [tgW, st, s_cons, s_nil, s_par, e_call, es_cons, es_nil, e_v, e_k, e_ix, e_bi, biW, lk, onS_some, len_celg W3, List.length_map, h1]
    refine take_call hn ok (by omega) (by omega) fun rr w1 ok1 r0 r1 => ?_
    obtain ⟨i, rfl⟩ := Int.eq_ofNat_of_zero_le r0
    have hi : i < (S ++ jt).length := by omega
    simp only [ix_celg W3]
    show onS (L2.atI ((S ++ jt).map D.str) ((i : Nat) : Int)) _
    rw [at_str hi, onS_some]
    simp only [len_celg W3, onS_some, List.length_map]
    refine take_call hn ok1 (by omega) (by omega) fun rr w2 ok2 r0' r1' => ?_
    obtain ⟨j, rfl⟩ := Int.eq_ofNat_of_zero_le r0'
    have hj : j < (S ++ jt).length := by omega
    simp only [ix_celg W3]
    show onS (L2.atI ((S ++ jt).map D.str) ((j : Nat) : Int)) _
    rw [at_str hj, onS_some]
    have ha : (S ++ jt)[i] ∈ S ++ jt := List.getElem_mem hi
    have hb : (S ++ jt)[j] ∈ S ++ jt := List.getElem_mem hj
    generalize (S ++ jt)[i] = a at ha
    generalize (S ++ jt)[j] = b at hb
    -- the rest of a turn, with its flap
    have rest : ∀ (f : Str) (w3 : We), w3.ok → (f = "" ∨ f = ">" ∨ f = "<") → (f = "" ∨ c < 5) →
        wSs Φ (.cons (.iff (.bop .And (.cons (.cmp .NotEq (.v 18) (.v 19)) (.cons (.cmp .Lt (.bi .len false (.cons (.v 15) .nil)) (.k (.int 9))) (.cons (.cmp .NotIn (.tup (.cons (.bi .min2 false (.cons (.v 18) (.cons (.v 19) .nil))) (.cons (.bi .max2 false (.cons (.v 18) (.cons (.v 19) .nil))) .nil))) (.v 15)) .nil)))) (.cons (.ex (.call "_law_pipe" false (.cons (.v 0) (.cons (.v 15) (.cons (.v 18) (.cons (.v 19) (.cons (.v 17) .nil))))))) (.cons (.asg (.n 10) (.op .Add false (.v 10) (.bi .int false (.cons (.cmp .NotEq (.v 17) (.k (.str ""))) .nil)))) .nil)) .nil) .nil)
          [some (.cel n), x1, x2, x3, x4, x5, x6, x7, x8, x9, some (.int c), some (.int lo), x12, x13, x14, some (.cel (μ.length + 2)), some (.cel (μ.length + 3)), some (.str f), some (.str a), some (.str b), x20] (WM μ n w3 [c0, c1, some (pD E), some (.lst ((S ++ jt).map .str))])
          { Dn with nx := fun e m_1 => True ∧ FL Φ (.n 11) turnIR (fun _ => True) (intsD (lo + 1) m) e m_1 Dn, ct := fun e m_1 => True ∧ FL Φ (.n 11) turnIR (fun _ => True) (intsD (lo + 1) m) e m_1 Dn, bk := Dn.nx } := by
      intro f w3 ok3 hf hfc
      have no : True ∧ FL Φ (.n 11) turnIR (fun _ => True) (intsD (lo + 1) m) [some (.cel n), x1, x2, x3, x4, x5, x6, x7, x8, x9, some (.int c), some (.int lo), x12, x13, x14, some (.cel (μ.length + 2)), some (.cel (μ.length + 3)), some (.str f), some (.str a), some (.str b), x20] (WM μ n w3 [c0, c1, some (pD E), some (.lst ((S ++ jt).map .str))]) Dn :=
        ⟨trivial, ih _ E w3 c _ _ _ _ ok3 pi hc hE⟩
      have hpD : (WM μ n w3 [c0, c1, some (pD E), some (.lst ((S ++ jt).map .str))])[μ.length + 2]? = some (some (.dt (E.map pkl) (E.map pvl))) := W2
      simp only [s_cons, s_nil, s_iff, e_bop, b_and, b_one, e_cmp, cmpW, eqW, e_v, e_k, lk, onS_some, res_str, eqD_str, asB_bl, e_bi, biW, es_cons, es_nil, len_celt hpD, List.length_map, ltW, e_tup]
      refine ⟨⟨rfl, rfl, .inl (shal_str _)⟩, fun g => ?_, fun g => ⟨fun h => (by cases h), fun _ => no⟩⟩
      have hab : a ≠ b := by simpa using g
      refine ⟨fun g => ?_, fun g => ⟨fun h => (by cases h), fun _ => no⟩⟩
      have hE9 : E.length < 9 := by have := of_decide_eq_true g; omega
      simp only [minW, maxW, mm_min, mm_max hab, mem_celt hpD]
      refine ⟨fun g => ?_, fun _ => no⟩
      have fresh : ¬ mm a b ∈ E.map pk := by
        have : ¬ [(mm a b).1, (mm a b).2] ∈ E.map pkl := by simpa using g
        exact fun h => this (pkl_mem.mpr h)
      simp only [s_cons, s_nil, s_ex, e_call, es_cons, es_nil, e_v, lk, onS_some, h2]
      refine ⟨n, μ.length + 2, w3, E, a, b, f, rfl, by omega, WM_get hn, ok3, W2, by omega, hab, fresh, fun w4 wd ok4 wd0 wd1 => ?_⟩
      rw [WP2 hn]
      simp only [s_asg, e_op, bopW, addW, e_bi, biW, es_cons, es_nil, e_cmp, cmpW, eqW, e_v, e_k, lk, st, onS_some, res_str, eqD_str, intW]
      refine ⟨⟨rfl, rfl, .inl (shal_str _)⟩, trivial, ?_⟩
      have pi' := pi.add ha hb hab fresh wd0 wd1 hf
      have e : ((c : Nat) : Int) + (if (!decide (f = "")) = true then 1 else 0) = ((c + if f = "" then 0 else 1 : Nat) : Int) := by
        by_cases h : f = ""
        · rw [if_pos h, decide_eq_true h]; rfl
        · rw [if_neg h, decide_eq_false h]; rfl
      rw [e]
      refine ih _ _ w4 _ _ _ _ _ ok4 pi' ?_ (by rw [List.length_append, List.length_singleton]; omega)
      rcases hfc with h | h
      · rw [if_pos h]; omega
      · split <;> omega
    simp only [s_asg, e_ife, e_cmp, cmpW, ltW, e_v, e_k, lk, st, onS_some, asB_bl]
    refine ⟨fun g => ?_, fun g => rest "" w2 ok2 (.inl rfl) (.inl rfl)⟩
    have hc5 : c < 5 := by have := of_decide_eq_true g; omega
    simp only [e_ix, e_lst, es_cons, es_nil, e_call, e_k, e_v, lk, onS_some, newL_f, h1]
    refine take_call hn ok2 (by decide) (by decide) fun rr w3 ok3 r0 r1 => ?_
    obtain ⟨k, rfl⟩ := Int.eq_ofNat_of_zero_le r0
    have hk : k < 3 := by omega
    simp only [ix_lst]
    show onS (L2.atI ((["", "<", ">"] : List Str).map D.str) ((k : Nat) : Int)) _
    rw [at_str (xs := (["", "<", ">"] : List Str)) hk, onS_some]
    refine rest _ w3 ok3 ?_ (.inr hc5)
    match k, hk with
    | 0, _ => exact .inl rfl
    | 1, _ => exact .inr (.inr rfl)
    | 2, _ => exact .inr (.inl rfl)
end FW

set_option Elab.async false
set_option linter.all false
set_option maxRecDepth 100000
/-! DW6: works drawn. -/
namespace FW
open PySem
/-- works as a law draws them -/
structure LW (W : Wk) (ts js : Nat) (dry : Bool) : Prop where
  ok : W.okB = true
  t0 : W.T ≠ []
  nm : ∀ p, p ∈ W.T ++ W.J → p.1 ∈ base9
  lt : W.T.length ≤ ts
  lj : W.J.length ≤ js
  tap : ∀ p, p ∈ W.J → p.2 < 60
  dr : dry = true → ∀ p, p ∈ W.J → p.2 = 0
def fs_lworks : FS := fun ds μ Q _ => ∃ (n : Nat) (w : We) (ts js : Nat) (dry : Bool), ds = [.cel n, .int ts, .int js, .bl dry] ∧ μ[n]? = some (some (.lst w.l)) ∧ w.ok ∧ 1 ≤ ts ∧ ts ≤ 4 ∧ js ≤ 5 ∧
  ∀ (W : Wk) (d : D) (w' : We), LW W ts js dry → IsWp W d → d.nc = true → w'.ok → Q d (WM μ n w' [])
def getP (E : List Pi) (k : Str × Str) : Pi := match E.find? fun p => decide (pk p = k) with
  | some p => p
  | none => ⟨k.1, k.2, 0, ""⟩
theorem getP_cons {p : Pi} {E : List Pi} {k : Str × Str} : getP (p :: E) k = if pk p = k then p else getP E k := by
  unfold getP
  rw [List.find?_cons]
  by_cases h : pk p = k
  · rw [decide_eq_true h, if_pos h]
  · rw [decide_eq_false h, if_neg h]
theorem pk_getP : ∀ (E : List Pi) (k : Str × Str), pk (getP E k) = k
  | [], k => rfl
  | p :: E, k => by
    rw [getP_cons]; split
    · assumption
    · exact pk_getP E k
theorem getP_mem : ∀ (E : List Pi) (k : Str × Str), k ∈ E.map pk → getP E k ∈ E
  | [], _, h => absurd h List.not_mem_nil
  | p :: E, k, h => by
    rw [getP_cons]; split
    · exact List.mem_cons_self
    · rename_i hne
      refine List.mem_cons_of_mem _ (getP_mem E k ?_)
      exact (List.mem_cons.mp h).resolve_left fun e => hne e.symm
theorem getP_pk : ∀ (E : List Pi) (p : Pi), (E.map pk).Nodup → p ∈ E → getP E (pk p) = p
  | [], _, _, h => absurd h List.not_mem_nil
  | q :: E, p, nd, h => by
    rw [getP_cons]
    rw [List.map_cons] at nd
    obtain ⟨n1, n2⟩ := List.nodup_cons.mp nd
    rcases List.mem_cons.mp h with rfl | h
    · rw [if_pos rfl]
    · rw [if_neg (fun e => n1 (by rw [e]; exact List.mem_map.mpr ⟨p, h, rfl⟩))]
      exact getP_pk E p n2 h
theorem look_E : ∀ (E : List Pi) (k : Str × Str), k ∈ E.map pk → lookD (E.map pkl) (E.map pvl) [k.1, k.2] = some (pvl (getP E k))
  | [], _, h => absurd h List.not_mem_nil
  | p :: E, k, h => by
    rw [List.map_cons, List.map_cons, lookD, getP_cons]
    by_cases e : pk p = k
    · rw [if_pos e, if_pos (by rw [← e]; rfl)]
    · rw [if_neg e, if_neg (fun e' => e (by unfold pkl at e'; injection e' with a b; injection b with b _; exact Prod.ext a b))]
      exact look_E E k ((List.mem_cons.mp h).resolve_left fun e' => e e'.symm)
def sortK (E : List Pi) : List (Str × Str) := (E.map pk).mergeSort (leO ltP)
def sortE (E : List Pi) : List Pi := (sortK E).map (getP E)
theorem sortK_perm (E : List Pi) : (sortK E).Perm (E.map pk) := List.mergeSort_perm _ _
theorem sortE_perm {E : List Pi} (nd : (E.map pk).Nodup) : (sortE E).Perm E := by
  have h1 := (sortK_perm E).map (getP E)
  have h2 : (E.map pk).map (getP E) = E := by
    rw [List.map_map]
    conv => rhs; rw [← List.map_id E]
    exact List.map_congr_left fun p hp => getP_pk E p nd hp
  rw [h2] at h1; exact h1
theorem sortE_pk (E : List Pi) : (sortE E).map pk = sortK E := by
  unfold sortE
  rw [List.map_map]
  conv => rhs; rw [← List.map_id (sortK E)]
  exact List.map_congr_left fun k _ => pk_getP E k
theorem sortE_pw {E : List Pi} (nd : (E.map pk).Nodup) : ((sortE E).map pk).Pairwise fun a b => ltP a b = true := by
  rw [sortE_pk]; exact ltP_so.sort nd
theorem dLt_prd (a b : Str × Str) : dLt (prd a) (prd b) = ltP a b := dLt_pr2 ..
theorem sortable_plc {ps : List (Str × Int)} (h : ps.length ≤ 100000) : sortable (ps.map plc) := by
  refine ⟨plA_map _ (fun _ => rfl) _, fun a ha b hb => ?_, fun d hd => ?_, .inl fun d hd => ?_, by show _ ≤ _; rw [List.length_map]; exact h⟩
  · obtain ⟨p, _, rfl⟩ := List.mem_map.mp ha
    obtain ⟨q, _, rfl⟩ := List.mem_map.mp hb
    simp [plc, D.py, pyA, PySem.W.alike, PySem.W.alikeAll]
  · obtain ⟨p, _, rfl⟩ := List.mem_map.mp hd
    simp [plc, shal, D.py, pyA, PyData.depth, PyData.depthAll]
  · obtain ⟨p, _, rfl⟩ := List.mem_map.mp hd
    exact ⟨_, _, rfl⟩
theorem sortable_prd {ps : List (Str × Str)} (h : ps.length ≤ 100000) : sortable (ps.map prd) := by
  refine ⟨plA_map _ (fun _ => rfl) _, fun a ha b hb => ?_, fun d hd => ?_, .inl fun d hd => ?_, by show _ ≤ _; rw [List.length_map]; exact h⟩
  · obtain ⟨p, _, rfl⟩ := List.mem_map.mp ha
    obtain ⟨q, _, rfl⟩ := List.mem_map.mp hb
    simp [prd, pr2, D.py, pyA, PySem.W.alike, PySem.W.alikeAll]
  · obtain ⟨p, _, rfl⟩ := List.mem_map.mp hd
    exact shal_prd p
  · obtain ⟨p, _, rfl⟩ := List.mem_map.mp hd
    exact ⟨_, _, rfl⟩
def sortT (ps : List (Str × Int)) : List (Str × Int) := ps.mergeSort (leO ltQ)
theorem sortT_perm (ps : List (Str × Int)) : (sortT ps).Perm ps := List.mergeSort_perm _ _
theorem sortD_plc (ps : List (Str × Int)) : sortD (ps.map plc) = (sortT ps).map plc := sortD_map dLt_plc' ps
theorem sortD_prd (ps : List (Str × Str)) : sortD (ps.map prd) = (ps.mergeSort (leO ltP)).map prd := sortD_map dLt_prd ps
theorem zip_plc : ∀ (J : List Str) (ds : List Int), zipD (J.map .str) (ds.map .int) = (J.zip ds).map plc
  | [], ds => by cases ds <;> rfl
  | j :: J, [] => rfl
  | j :: J, d :: ds => by rw [List.map_cons, List.map_cons, zipD, zip_plc J ds]; rfl
theorem WM_two {μ : Mu} {n : Nat} {w : We} {a b : Option MO} (h : μ[n]? = some (some (.lst w.l))) : μ ++ [a] ++ [b] = WM μ n w [a, b] := by
  conv => lhs; rw [← WM_self h]
  rw [WM_app, WM_app]; rfl
theorem sl_cel {m : Bool} {k : Nat} {lo hi : Option Int} {μ : Mu} {Q : QD} : slW m (.cel k) lo hi μ Q = onS (lstOf μ (.cel k)) fun xs => newL m (cutD xs lo hi) μ Q := rfl
/-- what is drawn is right -/
theorem made_ok {S Jn : List Str} {ps : List (Str × Int)} {ds : List Int} {E : List Pi} {c : Nat} (nd : (S ++ Jn).Nodup) (hb : ∀ x, x ∈ S ++ Jn → x ∈ base9) (lS : S.length ≤ 4) (lJ : Jn.length ≤ 5) (eS : ps.map (·.1) = S) (bS : ∀ p, p ∈ ps → -1000 ≤ p.2 ∧ p.2 ≤ 1000) (eJ : ds.length = Jn.length) (bJ : ∀ p, p ∈ ds → 0 ≤ p ∧ p < 60)
    (pi : PI S Jn E c) (hc : c ≤ 5) (lE : E.length ≤ 9) : (Wk.mk (sortT ps) (sortT (Jn.zip ds)) (sortE E)).okB = true := by
  have pT : ((sortT ps).map (·.1)).Perm S := by rw [← eS]; exact (sortT_perm ps).map _
  have eZ : (Jn.zip ds).map (·.1) = Jn := by
    rw [List.map_fst_zip]; omega
  have pJ : ((sortT (Jn.zip ds)).map (·.1)).Perm Jn := by
    have := (sortT_perm (Jn.zip ds)).map (·.1)
    rw [eZ] at this; exact this
  have pN : (Wk.mk (sortT ps) (sortT (Jn.zip ds)) (sortE E)).names.Perm (S ++ Jn) := by
    rw [Wk.names_eq]; exact pT.append pJ
  have pE := sortE_perm pi.nk
  have bz : ∀ p, p ∈ Jn.zip ds → 0 ≤ p.2 ∧ p.2 < 60 := fun p hp => bJ p.2 (List.of_mem_zip (a := p.1) (b := p.2) hp).2
  refine Made.ok ⟨pN.nodup_iff.mpr nd, fun p hp => ?_, ?_, ?_, ?_, ?_, fun p hp => bS p ((sortT_perm ps).mem_iff.mp hp), fun p hp => ?_, ?_, fun p hp => ?_, sortE_pw pi.nk, ?_, fun Z z1 z2 j hj => ?_⟩
  · refine base9_ok _ (hb _ (pN.mem_iff.mp ?_))
    exact List.mem_map.mpr ⟨p, hp, rfl⟩
  · exact names_rise (by rw [eS]; exact (List.nodup_append.mp nd).1)
  · exact names_rise (by rw [eZ]; exact (List.nodup_append.mp nd).2.1)
  · show (sortT ps).length ≤ 4
    have := pT.length_eq
    rw [List.length_map] at this; omega
  · show (sortT (Jn.zip ds)).length ≤ 5
    have := pJ.length_eq
    rw [List.length_map] at this; omega
  · have := bz p ((sortT_perm _).mem_iff.mp hp); omega
  · show (sortE E).length ≤ 9
    rw [pE.length_eq]; exact lE
  · obtain ⟨h1, h2, h3⟩ := pi.pp p (pE.mem_iff.mp hp)
    exact ⟨pN.mem_iff.mpr h1, pN.mem_iff.mpr h2, h3⟩
  · show ((sortE E).filter isFlap).length ≤ 5
    rw [(pE.filter isFlap).length_eq]; have := pi.lf; omega
  · exact pi.hg Z (fun t ht => z1 t (pT.mem_iff.mpr ht)) (fun p hp => z2 p (pE.mem_iff.mpr hp)) j (pJ.mem_iff.mp hj)
theorem add_int {m : Bool} {i j : Int} {μ : Mu} {Q : QD} : addW m (.int i) (.int j) μ Q = Q (.int (i + j)) μ := rfl
theorem p_lworks (Φ : Str → FS) (h1 : Φ "_law_take" = fs_take) (h2 : Φ "_law_pipe" = fs_lpipe) : ∀ ds μ Qd Ed, ds.length = 4 → fs_lworks ds μ Qd Ed → wSs Φ ir__law_works (start0 N__law_works.length ds) μ (endD μ Qd Ed) := by
  rintro ds μ Q E _ ⟨n, w, ts, js, dry, rfl, hw, ok, t1, t4, j5, q⟩
  have hn : n < μ.length := (List.getElem?_eq_some_iff.mp hw).1
  rw [wk_eq]
  change wSs Φ _ [some (.cel n), some (.int ts), some (.int js), some (.bl dry), none, none, none, none, none, none, none, none, none, none, none, none, none, none, none, none, none] μ _
  have W0 : ∀ {w : We} {a b : Option MO}, (WM μ n w [a, b])[μ.length]? = some a := fun {w a b} => WM_cell (i := 0)
  have W1 : ∀ {w : We} {a b : Option MO}, (WM μ n w [a, b])[μ.length + 1]? = some b := fun {w a b} => WM_cell (i := 1)
  -- names
  simp only [wkT0, wkS0, s_cons, s_par, e_lst, es_cons, es_nil, e_k, newL_t, st, List.length_append, List.length_singleton]
  rw [WM_two hw]
  simp only [wkT1, wkS1, s_cons, s_whl]
  refine ⟨10, drawLoop Φ h1 μ n hn _ _ _ _ _ _ _ _ _ _ _ _ _ _ _ _ _ _ _ ?_ 10 base9 [] w (by decide) (by rw [List.append_nil]) ok⟩
  intro Dl w1 pD1 ok1
  have lD := pD1.length_eq
  rw [show base9.length = 9 from rfl] at lD
  -- tanks' and junctions' names
  dsimp only
  rw [wkT2, s_cons]
  generalize hD2 : EnD.mk _ _ _ _ _ = D2
  simp only [wkS2, s_asg, e_sl, o_nil, o_cons, e_op, bopW, add_int, e_call, es_cons, es_nil, e_v, e_k, lk, st, onS_some, asI_int, h1]
  refine take_call hn ok1 (by omega) (by omega) fun r w2 ok2 r0 r1 => ?_
  obtain ⟨i, rfl⟩ := Int.eq_ofNat_of_zero_le r0
  have hi : i < ts := by omega
  simp only [add_int]
  simp only [asI_int]
  simp only [sl_cel]
  rw [lst_celg W1, onS_some, newL_f]
  rw [show (1 + ((i : Nat) : Int)) = ((i + 1 : Nat) : Int) by omega]
  rw [cut_head (by rw [List.length_map]; omega), ← List.map_take]
  have lS : (Dl.take (i + 1)).length = i + 1 := by rw [List.length_take]; omega
  subst hD2
  dsimp only
  rw [wkT3, s_cons]
  generalize hD3 : EnD.mk _ _ _ _ _ = D3
  simp only [wkS3, s_asg, e_sl, o_nil, o_cons, e_op, bopW, add_int, e_call, e_bi, biW, es_cons, es_nil, e_v, e_k, lk, st, onS_some, asI_int, h1, len_lst, List.length_map, lS]
  refine take_call hn ok2 (by omega) (by omega) fun r w3 ok3 r0 r1 => ?_
  obtain ⟨k, rfl⟩ := Int.eq_ofNat_of_zero_le r0
  have hk : k ≤ js := by omega
  simp only [add_int]
  simp only [asI_int]
  simp only [sl_cel]
  rw [lst_celg W1, onS_some, newL_f]
  rw [cut_mid (by rw [List.length_map]; omega) (by rw [List.length_map]; omega), ← List.map_drop, ← List.map_take]
  have lJ : ((Dl.drop (i + 1)).take k).length = k := by rw [List.length_take, List.length_drop]; omega
  have eSJ : Dl.take (i + 1) ++ (Dl.drop (i + 1)).take k = Dl.take (i + 1 + k) := List.take_add.symm
  have nd : (Dl.take (i + 1) ++ (Dl.drop (i + 1)).take k).Nodup := by
    rw [eSJ]
    exact (pD1.nodup_iff.mpr base9_nd).sublist (List.take_sublist _ _)
  have hb : ∀ x, x ∈ Dl.take (i + 1) ++ (Dl.drop (i + 1)).take k → x ∈ base9 := fun x hx => by
    rw [eSJ] at hx
    exact pD1.mem_iff.mp (List.mem_of_mem_take hx)
  generalize Dl.take (i + 1) = S at *
  generalize (Dl.drop (i + 1)).take k = Jn at *
  -- how wide
  subst hD3
  dsimp only
  rw [wkT4, s_cons]
  generalize hD4 : EnD.mk _ _ _ _ _ = D4
  simp only [wkS4, s_asg, e_ix, e_lst, e_call, es_cons, es_nil, e_v, e_k, lk, st, onS_some, newL_f, h1]
  refine take_call hn ok3 (by decide) (by decide) fun r w4 ok4 r0 r1 => ?_
  obtain ⟨wd, hz, wd0, wd1⟩ := idx3 r0 r1 (a := 9) (b := 100) (c := 1000) (fun z => 0 ≤ z ∧ z ≤ 1000) (by decide) (by decide) (by decide)
  simp only [ix_lst, hz, onS_some]
  -- tanks
  subst hD4
  dsimp only
  rw [wkT5, s_cons]
  generalize hD5 : EnD.mk _ _ _ _ _ = D5
  simp only [wkS5, s_asg, e_bi, es_cons, es_nil, e_lc, i_seq, e_v, lk, st, onS_some, seq_lst, newL_f, wp0, wp0.wipe1]
  refine tanksLoop Φ h1 μ n hn _ wd wd0 wd1 _ _ _ _ _ _ _ _ _ _ _ _ _ _ _ _ _ _ _ _ S [] w4 ok4 (by show 0 + _ ≤ _; omega) fun ps w5 e5 b5 ok5 => ?_
  have lps : ps.length = S.length := by rw [← e5, List.length_map]
  simp only [List.nil_append, biW, lst_lst, onS_some, newL_f, sortD_plc, tupW, seq_lst]
  refine ⟨sortable_plc (by omega), ?_⟩
  -- taps
  subst hD5
  dsimp only
  rw [wkT6, s_cons]
  generalize hD6 : EnD.mk _ _ _ _ _ = D6
  simp only [wkS6, s_asg, e_lc, i_seq, e_v, lk, st, onS_some, seq_lst, newL_f, wp0, wp0.wipe1]
  refine tapsLoop Φ h1 μ n hn _ dry _ _ _ _ _ _ _ _ _ _ _ _ _ _ _ _ _ _ _ _ Jn [] w5 ok5 (by show 0 + _ ≤ _; omega) fun ds w6 e6 b6 ok6 => ?_
  simp only [List.nil_append]
  -- no pipes yet
  subst hD6
  dsimp only
  rw [wkT7, s_cons]
  generalize hD7 : EnD.mk _ _ _ _ _ = D7
  simp only [wkS7, s_asgt, e_tup, es_cons, es_nil, e_d0, d0W, e_bi, biW, e_v, lk]
  rw [onS_some, seq_lst, onS_some, newL_t]
  have eW : WM μ n w6 [some (.lst []), some (.lst (Dl.map .str))] ++ [some (MO.dt [] [])] ++ [some (MO.lst (S.map .str))] = WM μ n w6 [some (.lst []), some (.lst (Dl.map .str)), some (pD []), some (.lst ((S ++ []).map .str))] := by
    rw [WM_app, WM_app, List.append_nil]; rfl
  have l1 : (WM μ n w6 [some (.lst []), some (.lst (Dl.map .str))]).length = μ.length + 2 := WM_len
  have l2 : (WM μ n w6 [some (.lst []), some (.lst (Dl.map .str))] ++ [some (MO.dt [] [])]).length = μ.length + 3 := by rw [List.length_append, l1]; rfl
  rw [eW, l1, l2]
  simp only [tgW, stAll, st]
  rw [onS_some]
  subst hD7
  dsimp only
  rw [wkT8, s_cons]
  generalize hD8 : EnD.mk _ _ _ _ _ = D8
  simp only [wkS8, s_for, i_seq, e_v, lk, onS_some, seq_lst]
  refine jointsLoop Φ h1 h2 μ n hn S (by omega) _ _ _ _ _ _ _ _ _ _ _ _ _ _ _ _ _ _ _ _ (fun _ => trivial) _ Jn [] [] w6 _ ok6 nd (by rw [List.nil_append, List.length_append]; omega) ⟨fun _ h => absurd h List.not_mem_nil, .nil, fun Z _ _ j hj => absurd hj List.not_mem_nil, Nat.le_refl _⟩ rfl ?_
  intro E1 w7 x9 ok7 pi1 le1
  rw [List.nil_append] at pi1 le1 ⊢
  subst hD8
  dsimp only
  rw [wkT9, s_cons]
  generalize hD9 : EnD.mk _ _ _ _ _ = D9
  simp only [wkS9, s_asg, e_k, st]
  subst hD9
  dsimp only
  rw [wkT10, s_cons]
  generalize hD10 : EnD.mk _ _ _ _ _ = D10
  simp only [wkS10, s_for, i_rng, e_call, es_cons, es_nil, e_v, e_k, lk, onS_some, h1]
  refine take_call hn ok7 (by decide) (by decide) fun r w8 ok8 r0 r1 => ?_
  refine ⟨by omega, ?_⟩
  refine turnsLoop Φ h1 h2 μ n hn S Jn (by omega) (by rw [List.length_append]; omega) _ _ _ _ _ _ _ _ _ _ _ _ _ _ _ _ ?_ _ 0 E1 w8 0 _ _ _ _ ok8 pi1 (by decide) (by omega)
  intro E2 w9 c x10 x11 x17 x18 x19 ok9 pi2 hc5 lE
  -- the rows
  have hpD : (WM μ n w9 [some (.lst []), some (.lst (Dl.map .str)), some (pD E2), some (.lst ((S ++ Jn).map .str))])[μ.length + 2]? = some (some (.dt (E2.map pkl) (E2.map pvl))) := W2
  have ek : (E2.map pkl).map (fun k => D.tup (k.map .str)) = (E2.map pk).map prd := by rw [List.map_map, List.map_map]; rfl
  subst hD10
  dsimp only
  rw [wkT11, s_cons]
  generalize hD11 : EnD.mk _ _ _ _ _ = D11
  simp only [wkS11, s_asg, e_bi, biW, es_cons, es_nil, e_lc, i_seq, e_v, lk, st, onS_some, dt_keysg hpD, ek, sortD_prd, newL_f, seq_lst, wp0, wp0.wipe1, List.length_map]
  refine ⟨⟨by show _ ≤ _; omega, sortable_prd (by rw [List.length_map]; omega)⟩, ?_⟩
  have lK : (sortK E2).length = E2.length := by rw [(sortK_perm E2).length_eq, List.length_map]
  refine LC_maps prd (fun k => pid (getP E2 k)) trivial (sortK E2) ?_ (by show _ ≤ _; omega) ?_
  · intro k hk R rr
    have hk' : k ∈ E2.map pk := (sortK_perm E2).mem_iff.mp hk
    simp only [tgW, st, e_op, bopW, e_ix, e_v, lk, onS_some, prd, pr2, ix_celt hpD, look_E E2 k hk', pvl, addW]
    refine ⟨by show 4 ≤ 100000; omega, ?_⟩
    have e : D.tup ([D.str k.1, .str k.2] ++ [.int (getP E2 k).w, .str (getP E2 k).f]) = pid (getP E2 k) := by
      have := pk_getP E2 k
      unfold pid
      rw [← show (getP E2 k).a = k.1 from congrArg Prod.fst this, ← show (getP E2 k).b = k.2 from congrArg Prod.snd this]
      rfl
    rw [e]; exact rr
  have eP : (sortK E2).map (fun k => pid (getP E2 k)) = (sortE E2).map pid := by unfold sortE; rw [List.map_map]; rfl
  simp only [tupW, seq_lst, onS_some, eP]
  subst hD11
  dsimp only
  simp only [wkT12, wkS12, s_cons, s_nil, s_ret, e_tup, es_cons, es_nil, e_bi, biW, e_v, lk, onS_some, lst_lst, zip_plc, sortD_plc, newL_f, tupW, List.length_map]
  have lz : (Jn.zip ds).length = k := by rw [List.length_zip]; omega
  refine ⟨⟨by omega, sortable_plc (by omega)⟩, ?_⟩
  have nc : (D.tup [.tup ((sortT ps).map plc), .ptp ((sortT (Jn.zip ds)).map plc), .tup ((sortE E2).map pid)]).nc = true := by
    simp only [D.nc, ncA, ncA_map plc (fun _ => rfl), ncA_map pid (fun _ => rfl), Bool.and_self]
  have lT : (sortT ps).length = S.length := by rw [(sortT_perm ps).length_eq, lps]
  have lJ' : (sortT (Jn.zip ds)).length = k := by rw [(sortT_perm _).length_eq, lz]
  have b6' : ∀ p, p ∈ ds → 0 ≤ p ∧ p < 60 := fun p hp => ⟨(b6 p hp).1, (b6 p hp).2.1⟩
  refine rt_well (w' := w) hn nc (q ⟨sortT ps, sortT (Jn.zip ds), sortE E2⟩ _ w9 ⟨made_ok nd hb (by omega) (by omega) e5 b5 (by omega) b6' pi2 hc5 lE, ?_, ?_, ?_, ?_, ?_, ?_⟩ ⟨_, rfl, .inl rfl⟩ nc ok9)
  · intro h
    have : (sortT ps).length = 0 := by rw [show sortT ps = [] from h]; rfl
    omega
  · intro p hp
    refine hb p.1 ?_
    rcases List.mem_append.mp hp with hp | hp
    · refine List.mem_append_left _ ?_
      rw [← e5]
      exact List.mem_map.mpr ⟨p, (sortT_perm ps).mem_iff.mp hp, rfl⟩
    · refine List.mem_append_right _ ?_
      exact (List.of_mem_zip (a := p.1) (b := p.2) ((sortT_perm _).mem_iff.mp hp)).1
  · show (sortT ps).length ≤ ts; omega
  · show (sortT (Jn.zip ds)).length ≤ js; omega
  · intro p hp
    exact (b6' p.2 (List.of_mem_zip (a := p.1) (b := p.2) ((sortT_perm _).mem_iff.mp hp)).2).2
  · intro hd p hp
    exact (b6 p.2 (List.of_mem_zip (a := p.1) (b := p.2) ((sortT_perm _).mem_iff.mp hp)).2).2.2 hd
end FW

set_option Elab.async false
set_option linter.all false
set_option maxRecDepth 100000
/-! DK0: all lots of flaps in the law's order; the law's own wedges. -/
namespace FW
open PySem
/-- lots in order, as tuples -/
def ltLs : Lot → Lot → Bool
  | [], [] => false
  | [], _ :: _ => true
  | _ :: _, [] => false
  | x :: xs, y :: ys => if x = y then ltLs xs ys else ltP x y
theorem ltLs_so : STO ltLs := by
  refine ⟨fun a => ?_, fun a => ?_, fun a => ?_⟩
  · induction a with
    | nil => rfl
    | cons x r ih => rw [ltLs, if_pos rfl]; exact ih
  · induction a with
    | nil =>
      intro b c h1 h2
      cases c with
      | nil =>
        cases b with
        | nil => exact h1
        | cons y s => exact h2
      | cons z t => rfl
    | cons x r ih =>
      intro b c h1 h2
      cases b with
      | nil => cases h1
      | cons y s =>
        cases c with
        | nil => cases h2
        | cons z t =>
          rw [ltLs] at h1 h2 ⊢
          by_cases e1 : x = y
          · rw [if_pos e1] at h1
            by_cases e2 : y = z
            · rw [if_pos e2] at h2
              rw [if_pos (e1.trans e2)]
              exact ih _ _ h1 h2
            · rw [if_neg e2] at h2
              rw [if_neg (by rw [e1]; exact e2), e1]; exact h2
          · rw [if_neg e1] at h1
            by_cases e2 : y = z
            · rw [if_pos e2] at h2
              rw [if_neg (by rw [← e2]; exact e1), ← e2]; exact h1
            · rw [if_neg e2] at h2
              have := ltP_so.tr _ _ _ h1 h2
              rw [if_neg (fun e => by rw [e, ltP_so.ir] at this; cases this)]; exact this
  · induction a with
    | nil =>
      intro b h
      cases b with
      | nil => exact absurd rfl h
      | cons y s => exact .inl rfl
    | cons x r ih =>
      intro b h
      cases b with
      | nil => exact .inr rfl
      | cons y s =>
        rw [ltLs, ltLs]
        by_cases e : x = y
        · rw [if_pos e, if_pos e.symm]
          exact ih s fun h' => h (by rw [e, h'])
        · rw [if_neg e, if_neg (fun h' => e h'.symm)]
          exact ltP_so.tri _ _ e
def ltN : Int × Lot → Int × Lot → Bool := ltL ltI ltLs
theorem ltN_so : STO ltN := ltL_so ltI_so ltLs_so
def nlD (p : Int × Lot) : D := .tup [.int p.1, lotT p.2]
theorem alike_lots : ∀ a b : Lot, PySem.W.alikeAll (pyA (a.map prd)) (pyA (b.map prd)) = true
  | [], b => by cases b <;> rfl
  | x :: r, [] => rfl
  | x :: r, y :: s => by
    show (PySem.W.alike _ _ && PySem.W.alikeAll (pyA (r.map prd)) (pyA (s.map prd))) = true
    rw [alike_lots r s]
    simp [prd, pr2, D.py, pyA, PySem.W.alike, PySem.W.alikeAll]
theorem lt_lots : ∀ a b : Lot, PyProof.Rows.lexLt PyProof.Rows.itemOrd (PySem.W.keyToksAll (pyA (a.map prd))) (PySem.W.keyToksAll (pyA (b.map prd))) = ltLs a b
  | [], [] => rfl
  | [], y :: s => rfl
  | x :: r, [] => rfl
  | x :: r, y :: s => by
    have al : PySem.W.alike (prd x).py (prd y).py = true := by simp [prd, pr2, D.py, pyA, PySem.W.alike, PySem.W.alikeAll]
    have h := PySem.W.dataLt_cons al (pyA (r.map prd)) (pyA (s.map prd))
    have e : PyData.eqv (prd x).py (prd y).py = decide (x = y) := eqD_prd x y
    have d : PySem.W.dataLt (prd x).py (prd y).py = ltP x y := dLt_prd x y
    show PyProof.Rows.lexLt PyProof.Rows.itemOrd (PySem.W.keyToksAll ((prd x).py :: pyA (r.map prd))) (PySem.W.keyToksAll ((prd y).py :: pyA (s.map prd))) = _
    rw [h, e, lt_lots r s, ltLs]
    by_cases g : x = y
    · rw [if_pos g, if_pos (decide_eq_true g)]
    · rw [if_neg g, if_neg (by rw [decide_eq_false g]; exact Bool.false_ne_true), d]
theorem eqA_lots : ∀ a b : Lot, PyData.eqvAll (pyA (a.map prd)) (pyA (b.map prd)) = decide (a = b)
  | [], [] => rfl
  | [], y :: s => rfl
  | x :: r, [] => rfl
  | x :: r, y :: s => by
    rw [List.map_cons, List.map_cons, eqA_cons, eqD_prd, eqA_lots r s, ← Bool.decide_and]
    congr 1
    apply propext
    simp
theorem dLt_lotT (a b : Lot) : PySem.W.dataLt (lotT a).py (lotT b).py = ltLs a b := by
  rw [← lt_lots]; rfl
theorem dLt_nlD (a b : Int × Lot) : dLt (nlD a) (nlD b) = ltN a b := by
  show PySem.W.dataLt (.tuple [.int a.1, (lotT a.2).py]) (.tuple [.int b.1, (lotT b.2).py]) = _
  have al : PySem.W.alike (lotT a.2).py (lotT b.2).py = true := alike_lots a.2 b.2
  rw [PySem.W.dataLt_pair (by simp [PySem.W.alike]) al]
  have e : PyData.eqv (lotT a.2).py (lotT b.2).py = decide (a.2 = b.2) := by
    show PyData.eqv (.tuple (pyA (a.2.map prd))) (.tuple (pyA (b.2.map prd))) = _
    rw [PyData.eqv]; exact eqA_lots a.2 b.2
  rw [e, dLt_lotT]
  simp only [int_ne, PySem.W.dataLt_int]
  unfold ltN ltL ltI
  split
  · by_cases g : a.2 = b.2
    · rw [if_pos (decide_eq_true g), g]; exact (ltLs_so.ir _).symm
    · rw [if_neg (by rw [decide_eq_false g]; exact Bool.false_ne_true)]
  · rfl
theorem depth_lot : ∀ a : Lot, PyData.depthAll (pyA (a.map prd)) ≤ 2
  | [] => by simp [pyA, PyData.depthAll]
  | x :: r => by
    have := depth_lot r
    show PyData.depthAll ((prd x).py :: pyA (r.map prd)) ≤ 2
    rw [PyData.depthAll]
    have : (prd x).py.depth ≤ 2 := by simp [prd, pr2, D.py, pyA, PyData.depth, PyData.depthAll]
    omega
theorem shal_lotT (a : Lot) : shal (lotT a) := by
  have := depth_lot a
  show PyData.depth (.tuple (pyA (a.map prd))) ≤ 40
  rw [PyData.depth]; omega
theorem shal_nlD (p : Int × Lot) : shal (nlD p) := by
  have := shal_lotT p.2
  have h := depth_lot p.2
  show PyData.depth (.tuple [.int p.1, .tuple (pyA (p.2.map prd))]) ≤ 40
  simp only [PyData.depth, PyData.depthAll]; omega
theorem pl_lotT (l : Lot) : (lotT l).pl = true := plA_map _ pl_prd _
theorem pl_nlD (p : Int × Lot) : (nlD p).pl = true := by
  show ((lotT p.2).pl && true) = true
  rw [pl_lotT]; rfl
theorem sortable_nl {ps : List (Int × Lot)} (h : ps.length ≤ 100000) : sortable (ps.map nlD) := by
  refine ⟨plA_map _ pl_nlD _, fun a ha b hb => ?_, fun d hd => ?_, .inl fun d hd => ?_, by show _ ≤ _; rw [List.length_map]; exact h⟩
  · obtain ⟨p, _, rfl⟩ := List.mem_map.mp ha
    obtain ⟨q, _, rfl⟩ := List.mem_map.mp hb
    have al : PySem.W.alike (lotT p.2).py (lotT q.2).py = true := alike_lots p.2 q.2
    show PySem.W.alike (.tuple [.int p.1, (lotT p.2).py]) (.tuple [.int q.1, (lotT q.2).py]) = true
    simp [PySem.W.alike, PySem.W.alikeAll, al]
  · obtain ⟨p, _, rfl⟩ := List.mem_map.mp hd
    exact shal_nlD p
  · obtain ⟨p, _, rfl⟩ := List.mem_map.mp hd
    exact ⟨_, _, rfl⟩
theorem sortD_nl (ps : List (Int × Lot)) : sortD (ps.map nlD) = (ps.mergeSort (leO ltN)).map nlD := sortD_map dLt_nlD ps
/-! ### the two orders of lots -/
theorem lotsF_mem : ∀ (xs : Lot) (m : Nat) (l : Lot), l.Sublist xs → l.length = m → l ∈ lotsF m xs
  | _, 0, l, _, h => by rw [lotsF, List.eq_nil_of_length_eq_zero h]; exact List.mem_singleton_self _
  | [], m + 1, l, hs, h => by rw [List.sublist_nil.mp hs] at h; cases h
  | x :: r, m + 1, l, hs, h => by
    rw [lotsF]
    cases hs with
    | cons _ h' => exact List.mem_append_right _ (lotsF_mem r (m + 1) l h' h)
    | cons_cons _ h' =>
      rename_i l'
      exact List.mem_append_left _ (List.mem_map.mpr ⟨l', lotsF_mem r m l' h' (by simpa using h), rfl⟩)
theorem lotsAll_iff {xs l : Lot} : l ∈ lotsAll xs ↔ l.Sublist xs := by
  unfold lotsAll
  rw [List.mem_flatMap]
  constructor
  · rintro ⟨m, _, h⟩; exact lotsF_sub xs m l h
  · intro h
    exact ⟨l.length, List.mem_range.mpr (by have := h.length_le; omega), lotsF_mem xs _ l h rfl⟩
theorem lotsF_pw : ∀ (xs : Lot) (m : Nat), xs.Pairwise (fun a b => ltP a b = true) → (lotsF m xs).Pairwise fun a b => ltLs a b = true
  | _, 0, _ => by rw [lotsF]; exact List.pairwise_singleton _ _
  | [], m + 1, _ => by rw [lotsF]; exact .nil
  | x :: r, m + 1, h => by
    obtain ⟨h1, h2⟩ := List.pairwise_cons.mp h
    rw [lotsF, List.pairwise_append]
    refine ⟨?_, lotsF_pw r (m + 1) h2, fun a ha b hb => ?_⟩
    · rw [List.pairwise_map]
      refine (lotsF_pw r m h2).imp fun {a b} h => ?_
      rw [ltLs, if_pos rfl]; exact h
    · obtain ⟨l, hl, rfl⟩ := List.mem_map.mp ha
      have hs := lotsF_sub r (m + 1) b hb
      have hn := lotsF_item r (m + 1) b hb
      cases b with
      | nil => cases hn
      | cons y s =>
        have hy : y ∈ r := hs.subset List.mem_cons_self
        have := h1 y hy
        rw [ltLs, if_neg (fun e => by rw [e, ltP_so.ir] at this; cases this)]; exact this
theorem lotsAll_pw {xs : Lot} (h : xs.Pairwise fun a b => ltP a b = true) : ((lotsAll xs).map fun l => ((l.length : Int), l)).Pairwise fun a b => ltN a b = true := by
  unfold lotsAll
  generalize xs.length + 1 = n
  induction n with
  | zero => exact .nil
  | succ n ih =>
    rw [List.range_succ, List.flatMap_append, List.map_append, List.pairwise_append]
    refine ⟨ih, ?_, fun a ha b hb => ?_⟩
    · rw [List.flatMap_cons, List.flatMap_nil, List.append_nil, List.pairwise_map]
      have hm : ∀ l, l ∈ lotsF n xs → l.length = n := lotsF_item xs n
      have := lotsF_pw xs n h
      refine List.Pairwise.imp_of_mem ?_ this
      intro a b ha hb h
      unfold ltN ltL
      rw [if_pos (by rw [hm a ha, hm b hb])]; exact h
    · obtain ⟨l, hl, rfl⟩ := List.mem_map.mp ha
      obtain ⟨l', hl', rfl⟩ := List.mem_map.mp hb
      obtain ⟨m, hm, h1⟩ := List.mem_flatMap.mp hl
      rw [List.flatMap_cons, List.flatMap_nil, List.append_nil] at hl'
      have e1 := lotsF_item xs m l h1
      have e2 := lotsF_item xs n l' hl'
      have := List.mem_range.mp hm
      unfold ltN ltL ltI
      rw [if_neg (by show ¬ ((l.length : Int) = l'.length); omega)]
      exact decide_eq_true (by show ((l.length : Int) < l'.length); omega)
theorem choices_sub : ∀ (xs : Lot) (f : List Lot) (l : Lot), l ∈ xs.foldl chStep f → ∃ l0 ∈ f, ∃ s, s.Sublist xs ∧ l = l0 ++ s := by
  intro xs
  induction xs with
  | nil => exact fun f l h => ⟨l, h, [], List.Sublist.refl _, (List.append_nil _).symm⟩
  | cons x r ih =>
    intro f l h
    obtain ⟨l0, h0, s, hs, rfl⟩ := ih (chStep f x) l h
    rcases List.mem_append.mp h0 with h0 | h0
    · exact ⟨l0, h0, s, hs.cons x, rfl⟩
    · obtain ⟨l1, h1, rfl⟩ := List.mem_map.mp h0
      exact ⟨l1, h1, x :: s, hs.cons_cons x, by simp⟩
theorem choices_nd : ∀ (xs : Lot) (f : List Lot), f.Nodup → xs.Nodup → (∀ l, l ∈ f → ∀ x, x ∈ xs → ¬ x ∈ l) → (xs.foldl chStep f).Nodup := by
  intro xs
  induction xs with
  | nil => exact fun f h _ _ => h
  | cons x r ih =>
    intro f h nd hn
    obtain ⟨n1, n2⟩ := List.nodup_cons.mp nd
    refine ih (chStep f x) ?_ n2 fun l hl y hy => ?_
    · unfold chStep
      rw [List.nodup_append]
      refine ⟨h, ?_, fun a ha b hb e => ?_⟩
      · refine List.pairwise_map.mpr (h.imp fun {a b} hab e => hab ?_)
        exact List.append_cancel_right e
      · obtain ⟨l, hl, rfl⟩ := List.mem_map.mp hb
        exact hn a ha x List.mem_cons_self (by rw [e]; exact List.mem_append_right _ (List.mem_singleton_self _))
    · rcases List.mem_append.mp hl with hl | hl
      · exact hn l hl y (List.mem_cons_of_mem _ hy)
      · obtain ⟨l0, h0, rfl⟩ := List.mem_map.mp hl
        intro hm
        rcases List.mem_append.mp hm with hm | hm
        · exact hn l0 h0 y (List.mem_cons_of_mem _ hy) hm
        · rw [List.mem_singleton.mp hm] at hy
          exact n1 hy
theorem lots_sort {xs : Lot} (h : xs.Pairwise fun a b => ltP a b = true) : ((choicesF xs).map fun l => ((l.length : Int), l)).mergeSort (leO ltN) = (lotsAll xs).map fun l => ((l.length : Int), l) := by
  have ndx : xs.Nodup := pw_nodup ltP_irrefl h
  have nd : (choicesF xs).Nodup := choices_nd xs [[]] (by simp) ndx fun l hl x _ => by rw [List.mem_singleton.mp hl]; exact List.not_mem_nil
  have nd' : ((choicesF xs).map fun l => ((l.length : Int), l)).Nodup := List.pairwise_map.mpr (nd.imp fun {a b} h e => h (congrArg Prod.snd e))
  refine ltN_so.uniq (ltN_so.sort nd') (lotsAll_pw h) fun p => ?_
  rw [(List.mergeSort_perm _ _).mem_iff, List.mem_map, List.mem_map]
  constructor
  · rintro ⟨l, hl, rfl⟩
    obtain ⟨l0, h0, s, hs, rfl⟩ := choices_sub xs [[]] l hl
    rw [List.mem_singleton.mp h0, List.nil_append]
    exact ⟨s, lotsAll_iff.mpr hs, rfl⟩
  · rintro ⟨l, hl, rfl⟩
    exact ⟨l, choices_mem xs [[]] l ⟨[], List.mem_singleton_self _, l, lotsAll_iff.mp hl, rfl⟩, rfl⟩
end FW

set_option Elab.async false
set_option linter.all false
set_option maxRecDepth 100000
/-! DK1: the law's own lots and wedges; wedging keeps works right. -/
namespace FW
open PySem
def fs_llots : FS := fun ds μ Q _ => ∃ xs : Lot, ds = [.lst (xs.map prd)] ∧ xs.length ≤ 10 ∧ xs.Pairwise (fun a b => ltP a b = true) ∧ Q (.lst ((lotsAll xs).map lotT)) μ
theorem llots_loop (Φ : Str → FS) (μ : Mu) (w : Option D) : ∀ (xs : Lot) (f : List Lot) (n : Nat) (x2 x3 x4 : Option D) (src : Mu → Prop) (Dn : EnD), (∀ m, src m) → n + xs.length ≤ 10 → f.length ≤ 2 ^ n → (∀ l ∈ f, l.length ≤ n) →
    (∀ x2 x3 x4, Dn.nx [w, some (.lst ((xs.foldl chStep f).map lotT)), x2, x3, x4] μ) →
    FL Φ (.n 2) (.cons (.asg (.n 1) (.op .Add false (.v 1) (.lc false [4] (.op .Add false (.v 4) (.tup (.cons (.v 2) .nil))) (.n 4) (.seq (.v 1)) .nil))) .nil)
      src (xs.map prd) [w, some (.lst (f.map lotT)), x2, x3, x4] μ Dn := by
  intro xs
  induction xs with
  | nil => intro f n x2 x3 x4 src Dn _ _ _ _ h; exact h _ _ _
  | cons x r ih =>
    intro f n x2 x3 x4 src Dn hs hn hf hl h
    have hn : n + (r.length + 1) ≤ 10 := hn
    have hp : 2 ^ n ≤ 2 ^ 9 := Nat.pow_le_pow_right (by decide) (by omega)
    have hp : 2 ^ n ≤ 512 := hp
    rw [List.map_cons, FL_cons]
    simp only [tgW, st, s_cons, s_nil, s_asg, e_op, e_v, lk, onS_some, e_lc, i_seq, seq_lst, wp0, wp0.wipe1, newL_f]
    refine LC_maps lotT (fun l => lotT (l ++ [x])) trivial _ ?_ (by show _ ≤ _; omega) ?_
    · intro l hl' R q
      simp only [tgW, st, e_op, e_tup, es_cons, es_nil, e_v, lk, onS_some, bopW]
      have := hl l hl'
      refine ⟨by show _ ≤ _; rw [List.length_map]; show _ + 1 ≤ _; omega, ?_⟩
      have e : l.map prd ++ [prd x] = (l ++ [x]).map prd := by rw [List.map_append]; rfl
      show R (.tup (l.map prd ++ [prd x])) μ
      rw [e]; exact q
    · refine ⟨by show _ ≤ _; rw [List.length_map, List.length_map]; omega, hs _, ?_⟩
      have e : f.map lotT ++ f.map (fun l => lotT (l ++ [x])) = (chStep f x).map lotT := by unfold chStep; rw [List.map_append, List.map_map]; rfl
      rw [e]
      refine ih _ (n + 1) _ _ _ _ _ hs (by omega) ?_ ?_ h
      · unfold chStep; rw [List.length_append, List.length_map, Nat.pow_succ]; omega
      · intro l hl'
        unfold chStep at hl'
        rcases List.mem_append.mp hl' with h1 | h1
        · have := hl l h1; omega
        · obtain ⟨l0, h2, rfl⟩ := List.mem_map.mp h1
          have := hl l0 h2
          rw [List.length_append]; show _ + 1 ≤ _; omega
theorem ch_len : ∀ (xs : Lot) (f : List Lot), (xs.foldl chStep f).length = f.length * 2 ^ xs.length
  | [], f => by show f.length = f.length * 1; omega
  | x :: r, f => by
    have e : (chStep f x).length = f.length * 2 := by
      unfold chStep
      rw [List.length_append, List.length_map]; omega
    show (r.foldl chStep (chStep f x)).length = _
    rw [ch_len r, e, List.length_cons, Nat.pow_succ, Nat.mul_comm (2 ^ r.length) 2, Nat.mul_assoc]
theorem p_llots (Φ : Str → FS) : ∀ ds μ Qd Ed, ds.length = 1 → fs_llots ds μ Qd Ed → wSs Φ ir__law_lots (start0 N__law_lots.length ds) μ (endD μ Qd Ed) := by
  rintro ds μ Q E _ ⟨xs, rfl, hl, hx, q⟩
  unfold ir__law_lots
  change wSs Φ _ [some _, none, none, none, none] μ _
  simp only [s_cons, s_nil, s_asg, s_ret, s_for, e_lst, e_tup, es_cons, es_nil, newL_f, e_v, lk, onS_some, i_seq, seq_lst, st]
  refine llots_loop Φ μ _ xs [[]] 0 _ _ _ _ _ (fun _ => trivial) (by omega) (by decide) ?_ ?_
  · intro l h
    rw [List.mem_singleton.mp h]; decide
  · intro x2 x3 x4
    rw [show xs.foldl chStep [[]] = choicesF xs from rfl]
    have lc : (choicesF xs).length ≤ 1024 := by
      have := ch_len xs [[]]
      rw [show choicesF xs = xs.foldl chStep [[]] from rfl, this]
      have : 2 ^ xs.length ≤ 2 ^ 10 := Nat.pow_le_pow_right (by decide) hl
      simpa using this
    have hitem : ∀ l, l ∈ choicesF xs → l.length ≤ 10 := fun l h => by
      obtain ⟨l0, h0, s, hs, rfl⟩ := choices_sub xs [[]] l h
      rw [List.mem_singleton.mp h0, List.nil_append]
      have := hs.length_le; omega
    simp only [s_ret, e_lc, i_seq, e_bi, es_cons, es_nil, e_v, lk, onS_some, seq_lst, wp0, wp0.wipe1]
    refine LC_maps lotT (fun l => nlD ((l.length : Int), l)) trivial _ ?_ (by show _ ≤ _; omega) ?_
    · intro l hl' R r
      simp only [tgW, st, e_tup, e_bi, biW, es_cons, es_nil, e_v, lk, onS_some]
      rw [show lenD μ (lotT l) = some l.length by show some (l.map prd).length = _; rw [List.length_map], onS_some]
      exact r
    rw [show (choicesF xs).map (fun l => nlD ((l.length : Int), l)) = ((choicesF xs).map fun l => ((l.length : Int), l)).map nlD by rw [List.map_map]; rfl]
    simp only [newL_f, biW, lst_lst, onS_some, sortD_nl, lots_sort hx]
    refine ⟨sortable_nl (by rw [List.length_map]; omega), ?_⟩
    simp only [seq_lst, onS_some]
    have ll : (lotsAll xs).length ≤ 1024 := by
      have := congrArg List.length (lots_sort hx)
      rw [(List.mergeSort_perm _ _).length_eq, List.length_map, List.length_map] at this
      omega
    rw [show ((lotsAll xs).map fun l => ((l.length : Int), l)).map nlD = (lotsAll xs).map fun l => nlD ((l.length : Int), l) by rw [List.map_map]; rfl]
    refine LC_maps (fun l : Lot => nlD ((l.length : Int), l)) lotT ?_ (lotsAll xs) ?_ (by show _ ≤ _; omega) ?_
    · trivial
    · intro l hl' R r
      simp only [nlD, tgW, stAll, st, e_v, lk, onS_some]
      exact r
    · exact rt_same (by simp only [D.nc]; exact ncA_map _ nc_lotT _) q
/-! ### the law's wedges -/
theorem lwedge_loop (Φ : Str → FS) (μ : Mu) (x0 : Option D) (lot : Lot) : ∀ (ps qs : List Pi) (x3 : Option D) (src : Mu → Prop) (Dn : EnD), (∀ m, src m) → qs.length + ps.length ≤ 1000 →
    (∀ x3, Dn.nx [x0, some (lotT lot), some (.cel μ.length), x3] (μ ++ [some (.lst ((qs ++ ps.map (wedgeP lot)).map pid))])) →
    FL Φ (.n 3) (.cons (.ex (.me .append (.v 2) (.cons (.ife (.cmp .In (.sl false (.v 3) .nil (.cons (.k (.int 2)) .nil)) (.v 1)) (.op .Add false (.sl false (.v 3) .nil (.cons (.k (.int 3)) .nil)) (.tup (.cons (.k (.str "")) .nil))) (.v 3)) .nil))) .nil)
      src (ps.map pid) [x0, some (lotT lot), some (.cel μ.length), x3] (μ ++ [some (.lst (qs.map pid))]) Dn := by
  intro ps
  induction ps with
  | nil => intro qs x3 src Dn _ _ h; have := h x3; rw [List.map_nil, List.append_nil] at this; exact this
  | cons p r ih =>
    intro qs x3 src Dn hs hl h
    have hl : qs.length + (r.length + 1) ≤ 1000 := hl
    have hc : ∀ {xs : List D}, (μ ++ [some (MO.lst xs)])[μ.length]? = some (some (.lst xs)) := fun {xs} => cg0
    rw [List.map_cons, FL_cons]
    have fin : src (μ ++ [some (.lst (qs.map pid ++ [pid (wedgeP lot p)]))]) ∧ FL Φ (.n 3) (.cons (.ex (.me .append (.v 2) (.cons (.ife (.cmp .In (.sl false (.v 3) .nil (.cons (.k (.int 2)) .nil)) (.v 1)) (.op .Add false (.sl false (.v 3) .nil (.cons (.k (.int 3)) .nil)) (.tup (.cons (.k (.str "")) .nil))) (.v 3)) .nil))) .nil)
        src (r.map pid) [x0, some (lotT lot), some (.cel μ.length), some (pid p)] (μ ++ [some (.lst (qs.map pid ++ [pid (wedgeP lot p)]))]) Dn := by
      refine ⟨hs _, ?_⟩
      rw [show qs.map pid ++ [pid (wedgeP lot p)] = (qs ++ [wedgeP lot p]).map pid by rw [List.map_append]; rfl]
      refine ih _ _ src Dn hs (by rw [List.length_append, List.length_singleton]; omega) fun x3 => ?_
      have := h x3
      rw [List.map_cons] at this
      rw [List.append_assoc]; exact this
    simp only [tgW, st, s_cons, s_nil, s_ex, e_me, e_v, lk, onS_some, meTy, lst_celg hc, es_cons, es_nil, e_ife, e_cmp, cmpW, e_sl, o_nil, o_cons, e_k, asI_int, pid, slW, cut2, true_and]
    refine mem_lot (pk p) .t (.inl rfl) ?_
    simp only [asB_bl]
    unfold wedgeP at fin
    refine ⟨fun g => ?_, fun g => ?_⟩
    · rw [if_pos (of_decide_eq_true g)] at fin
      simp only [e_op, bopW, e_sl, o_nil, o_cons, e_v, e_k, e_tup, es_cons, es_nil, lk, onS_some, asI_int, slW, cut3, addW, meW, cellL_g hc, cs0]
      exact ⟨by show 4 ≤ 100000; omega, by show _ ≤ _; rw [List.length_map]; omega, fin⟩
    · rw [if_neg (of_decide_eq_false g)] at fin
      simp only [e_v, lk, onS_some, meW, cellL_g hc, cs0]
      exact ⟨by show _ ≤ _; rw [List.length_map]; omega, fin⟩
theorem p_lwedged (Φ : Str → FS) : ∀ ds μ Qd Ed, ds.length = 2 → (fun ds μ Q E => (∃ lot, ds[1]? = some (lotT lot)) ∧ fs_wedgedp ds μ Q E) ds μ Qd Ed → wSs Φ ir__law_wedged (start0 N__law_wedged.length ds) μ (endD μ Qd Ed) := by
  rintro ds μ Q E _ ⟨⟨lt', hlt⟩, W, d, e, lot, rfl, ⟨p, rfl, hpp⟩, l3, he, q⟩
  have he : e = lotT lot := by
    rcases he with h | h
    · exact h
    · rw [h] at hlt; cases hlt
  subst he
  unfold ir__law_wedged
  change wSs Φ _ [some _, some _, none, none] μ _
  simp only [s_cons, s_nil, s_asg, e_lst, es_nil, newL_t, s_for, i_seq, e_ix, ix_tup, e_v, e_k, at2, lk, st, onS_some, hpp.seq.seq]
  refine lwedge_loop Φ μ _ lot W.P [] _ _ _ (fun _ => by rw [hpp.seq.src (μ := μ)]; trivial) (by show 0 + _ ≤ _; omega) fun x3 => ?_
  rw [List.nil_append]
  have hc : ∀ {xs : List D}, (μ ++ [some (MO.lst xs)])[μ.length]? = some (some (.lst xs)) := fun {xs} => cg0
  simp only [s_ret, e_tup, es_cons, es_nil, e_ix, ix_tup, e_v, e_k, at0, at1, lk, onS_some, e_bi, biW, tupW, seq_celg hc]
  have nc : (D.tup [.tup (W.T.map plc), .ptp (W.J.map plc), .tup ((W.P.map (wedgeP lot)).map pid)]).nc = true := by
    simp only [D.nc, ncA, ncA_map plc (fun _ => rfl), ncA_map pid (fun _ => rfl), Bool.and_self]
  exact rt_new nc (q _ ⟨_, rfl, .inl rfl⟩ nc)
/-! ### wedging keeps works right -/
theorem places_parts {ps : List (Str × Int)} {most low : Int} (h : placesB ps most low = true) : (∀ p, p ∈ ps → isNameB p.1 = true) ∧ risesB dLt (ps.map plc) = true := by
  unfold placesB at h
  simp only [Bool.and_eq_true] at h
  exact ⟨fun p hp => List.all_eq_true.mp h.2.1 p hp, h.2.2.2⟩
theorem made_of {W : Wk} (h : W.okB = true) (hT : W.T ≠ []) : Made W := by
  have g := gw_of_ok h hT
  unfold Wk.okB at h
  simp only [Bool.and_eq_true, decide_eq_true_eq] at h
  obtain ⟨h1, h2, h3, h4, h5, h6, h7, h8⟩ := h
  have p1 := places_parts h1
  have p2 := places_parts h2
  have b1 := places_b h1
  have b2 := places_b h2
  refine ⟨by rw [Wk.names_eq]; exact g.net.nd, fun p hp => ?_, p1.2, p2.2, g.lt, g.lj, b1.2, b2.2, g.lp, fun p hp => ?_, g.pks, g.lf, g.net.hang⟩
  · rcases List.mem_append.mp hp with hp | hp
    · exact p1.1 p hp
    · exact p2.1 p hp
  · have := List.all_eq_true.mp h5 p hp
    unfold pipeB wholeB at this
    simp only [Bool.and_eq_true, decide_eq_true_eq] at this
    obtain ⟨⟨q1, q2, q3⟩, ⟨q4, q5⟩, q6⟩ := this
    exact ⟨q1, q2, q3, q4, q5, q6⟩
theorem ok_wedge {W : Wk} (h : W.okB = true) (hT : W.T ≠ []) (lot : Lot) : (W.wedge lot).okB = true := by
  have m := made_of h hT
  have g := (gw_of_ok h hT).wedge lot
  refine Made.ok ⟨m.nd, m.nm, m.rt, m.rj, m.lt, m.lj, m.bt, m.bj, g.lp, fun q hq => ?_, g.pks, g.lf, g.net.hang⟩
  obtain ⟨p, hp, rfl⟩ := List.mem_map.mp hq
  obtain ⟨h1, h2, h3, h4, h5, h6⟩ := m.pp p hp
  rw [wedge_a.1, wedge_a.2.1, wedge_a.2.2]
  exact ⟨h1, h2, h3, h4, h5, g.fl _ hq⟩
end FW

set_option Elab.async false
set_option linter.all false
set_option maxRecDepth 100000
/-! DK2: law k31, its walk. -/
namespace FW
open PySem
def lwS7 : IS := (.for_ (.n 8) (.seq (.op .Add false (.v 7) (.lst false (.cons (.call "_law_plus" false (.cons (.ix (.ix (.v 5) (.k (.int 0))) (.k (.int 1))) (.cons (.tup (.cons (.k (.int 1)) (.cons (.k (.int 7)) .nil))) .nil))) (.cons (.tup (.cons (.k (.int 1000)) (.cons (.k (.int 1)) .nil))) (.cons (.tup (.cons (.neg (.k (.int 1000))) (.cons (.k (.int 1)) .nil))) .nil)))))) (.cons (.asg (.n 9) (.lc false [6, 11] (.v 6) (.t [6, 11]) (.seq (.v 5)) (.cons (.not (.call "_law_less" false (.cons (.v 11) (.cons (.v 8) .nil)))) .nil))) (.cons (.iff (.cmp .NotEq (.call "fewest_wedged" false (.cons (.v 3) (.cons (.v 4) (.cons (.v 8) .nil)))) (.ife (.cmp .NotEq (.v 9) (.lst false .nil)) (.ix (.v 9) (.k (.int 0))) (.k .non))) (.cons (.ret (.k (.bl false))) .nil) .nil) .nil)))
def lwT7 : ISs := .cons lwS7 .nil
def lwS6 : IS := (.asg (.n 7) (.lst false (.cons (.ix (.ix (.v 5) (.k (.int 0))) (.k (.int 1))) (.cons (.ix (.ix (.v 5) (.call "_law_take" false (.cons (.v 2) (.cons (.bi .len false (.cons (.v 5) .nil)) .nil)))) (.k (.int 1))) (.cons (.ix (.ix (.v 5) (.call "_law_take" false (.cons (.v 2) (.cons (.bi .len false (.cons (.v 5) .nil)) .nil)))) (.k (.int 1))) .nil)))))
def lwT6 : ISs := .cons lwS6 lwT7
def lwS5 : IS := (.for_ (.n 6) (.seq (.call "_law_lots" false (.cons (.lc false [10] (.sl false (.v 10) .nil (.cons (.k (.int 2)) .nil)) (.n 10) (.seq (.ix (.v 3) (.k (.int 2)))) (.cons (.cmp .NotEq (.ix (.v 10) (.k (.int 3))) (.k (.str ""))) .nil)) .nil))) (.cons (.ex (.me .append (.v 5) (.cons (.tup (.cons (.v 6) (.cons (.ix (.bi .dict false (.cons (.call "levels" false (.cons (.call "_law_wedged" false (.cons (.v 3) (.cons (.v 6) .nil))) .nil)) .nil)) (.v 4)) .nil))) .nil))) .nil))
def lwT5 : ISs := .cons lwS5 lwT6
def lwS4 : IS := (.asg (.n 5) (.lst true .nil))
def lwT4 : ISs := .cons lwS4 lwT5
def lwS3 : IS := (.asg (.n 4) (.ix (.ix (.ix (.v 3) (.k (.int 1))) (.call "_law_take" false (.cons (.v 2) (.cons (.bi .len false (.cons (.ix (.v 3) (.k (.int 1))) .nil)) .nil)))) (.k (.int 0))))
def lwT3 : ISs := .cons lwS3 lwT4
def lwS2 : IS := (.iff (.cmp .Eq (.ix (.v 3) (.k (.int 1))) (.tup .nil)) (.cons .cont .nil) .nil)
def lwT2 : ISs := .cons lwS2 lwT3
def lwS1 : IS := (.asg (.n 3) (.call "_law_works" false (.cons (.v 2) (.cons (.k (.int 4)) (.cons (.k (.int 5)) (.cons (.k (.bl false)) .nil))))))
def lwT1 : ISs := .cons lwS1 lwT2
def lwS0 : IS := (.asg (.n 2) (.call "_law_well" false (.cons (.v 0) (.cons (.v 1) .nil))))
def lwT0 : ISs := .cons lwS0 lwT1
def lwL : IS := (.for_ (.n 1) (.rng (.cons (.bi .max2 false (.cons (.k (.int 3)) (.cons (.bi .min2 false (.cons (.k (.int 6)) (.cons (.bi .len false (.cons (.v 0) .nil)) .nil))) .nil))) .nil)) lwT0)
def ir_law_k31 : ISs := .cons lwL (.cons (.ret (.k (.bl true))) .nil)
def N_law_k31 : List Str := ["script", "k", "well", "works", "name", "rows", "lot", "aims", "level", "due", "pipe", "there"]
theorem RB.neg {n : Nat} {q : Rat} (h : RB n q) : RB n (-q) := ⟨by rw [Rat.neg_num, Int.natAbs_neg]; exact h.1, by rw [Rat.neg_den]; exact h.2⟩
theorem RB.sub2 {m n : Nat} {p q : Rat} (hp : RB m p) (hq : RB n q) : RB (m + n + 2) (p - q) := by
  have := (hp.frb).sub hq.frb
  refine this.rb ?_ ?_
  · rw [Nat.mul_comm (2 ^ n), ← Nat.pow_add, Nat.pow_succ, Nat.pow_succ]
    have := Nat.pow_pos (n := m + n) (show 0 < 2 by decide)
    omega
  · rw [← Nat.pow_add]
    exact Nat.pow_lt_pow_right (by decide) (by omega)
theorem RB.add2 {m n : Nat} {p q : Rat} (hp : RB m p) (hq : RB n q) : RB (m + n + 2) (p + q) := by
  have := hp.sub2 hq.neg
  rw [show p - -q = p + q by grind] at this; exact this
noncomputable def rowW (W : Wk) (x : Str) (l : Lot) : D := .tup [lotT l, fr ((W.wedge l).x x)]
theorem LW.short {W : Wk} {ts js : Nat} {dry : Bool} (h : LW W ts js dry) : ShortN W := fun p hp => base9_len _ (h.nm p hp)
theorem allPr_lv (g : Str → Rat) : ∀ ps : List (Str × Int), allPr (ps.map fun p => D.tup [.str p.1, fr (g p.1)]) = some (ps.map fun p => (p.1, fr (g p.1)))
  | [] => rfl
  | p :: r => by rw [List.map_cons, allPr, allPr_lv g r]; rfl
def rowIR31 : ISs := (.cons (.ex (.me .append (.v 5) (.cons (.tup (.cons (.v 6) (.cons (.ix (.bi .dict false (.cons (.call "levels" false (.cons (.call "_law_wedged" false (.cons (.v 3) (.cons (.v 6) .nil))) .nil)) .nil)) (.v 4)) .nil))) .nil))) .nil)
theorem dict_lv {W : Wk} {A : Nat} (g : GW W A) {m : Mu} {Q : QD} (q : Q (.dct W.jn (W.jn.map fun n => fr (W.x n))) m) : dictW false (lvD W) m Q := by
  have lJ := g.lj
  unfold lvD dictW
  simp only [dicOf, lst_lst, onS_some, allPr_lv, putAll_plc (f := fun p => fr (W.x p.1)) g.nj, newDk, List.length_map]
  refine ⟨by show _ ≤ _; omega, ?_⟩
  have e : W.J.map (fun p => fr (W.x p.1)) = W.jn.map fun n => fr (W.x n) := by unfold Wk.jn; rw [List.map_map]; rfl
  rw [e]; exact q
theorem rows31 (Φ : Str → FS) (h1 : Φ "levels" = fs_levels) (h2 : Φ "_law_wedged" = fun ds μ Q E => (∃ lot, ds[1]? = some (lotT lot)) ∧ fs_wedgedp ds μ Q E) (B : Mu) (n : Nat) (w : We) (W : Wk) (d : D) (hd : IsWp W d) (hw : LW W 4 5 false) (x : Str) (hx : x ∈ W.jn) (x0 x1 x2 x7 x8 x9 x10 x11 : Option D) (src : Mu → Prop) (hs : ∀ m, src m) (Dn : EnD) :
    ∀ (lots acc : List Lot) (x6 : Option D), acc.length + lots.length ≤ 10000 →
    (∀ x6, Dn.nx [x0, x1, x2, some d, some (.str x), some (.cel B.length), x6, x7, x8, x9, x10, x11] (WM B n w [some (.lst ((acc ++ lots).map (rowW W x)))])) →
    FL Φ (.n 6) rowIR31 src (lots.map lotT) [x0, x1, x2, some d, some (.str x), some (.cel B.length), x6, x7, x8, x9, x10, x11] (WM B n w [some (.lst (acc.map (rowW W x)))]) Dn := by
  have g := gw_of_ok hw.ok hw.t0
  have lP := g.lp
  intro lots
  induction lots with
  | nil => intro acc x6 _ q; rw [List.append_nil] at q; exact q _
  | cons l r ih =>
    intro acc x6 hl q
    have hl : acc.length + (r.length + 1) ≤ 10000 := hl
    have gl := g.wedge l
    have hc : ∀ {a : List D}, (WM B n w [some (.lst a)])[B.length]? = some (some (.lst a)) := fun {a} => WM_cell (i := 0)
    rw [List.map_cons, FL_cons]
    unfold rowIR31
    simp only [tgW, st, s_cons, s_nil, s_ex, e_me, e_v, lk, onS_some, meTy, lst_celg hc, es_cons, es_nil, e_tup, e_ix, e_bi, e_call, h1, h2, true_and]
    refine ⟨⟨l, rfl⟩, W, d, _, l, rfl, hd, by omega, .inl rfl, fun d' hd' _ => ?_⟩
    refine ⟨W.wedge l, d', rfl, hd', hw.t0, hw.short, ok_wedge hw.ok hw.t0 l, fun _ => ?_⟩
    refine dict_lv gl ?_
    have hx' : x ∈ (W.wedge l).jn := hx
    simp only [e_v, lk, onS_some, ix_dct, lookD_map (f := fun n => fr ((W.wedge l).x n)) hx', meW, cellL_g hc]
    refine ⟨by show _ ≤ _; rw [List.length_map]; omega, hs _, ?_⟩
    rw [show B.length = B.length + 0 from rfl, WM_put]
    have e : acc.map (rowW W x) ++ [.tup [lotT l, fr ((W.wedge l).x x)]] = (acc ++ [l]).map (rowW W x) := by rw [List.map_append]; rfl
    show FL _ _ _ _ _ _ (WM B n w [some (.lst (acc.map (rowW W x) ++ [.tup [lotT l, fr ((W.wedge l).x x)]]))]) _
    rw [e]
    refine ih (acc ++ [l]) _ (by rw [List.length_append, List.length_singleton]; omega) fun x6 => ?_
    rw [List.append_assoc]; exact q x6
def lvIR31 : ISs := (.cons (.asg (.n 9) (.lc false [6, 11] (.v 6) (.t [6, 11]) (.seq (.v 5)) (.cons (.not (.call "_law_less" false (.cons (.v 11) (.cons (.v 8) .nil)))) .nil))) (.cons (.iff (.cmp .NotEq (.call "fewest_wedged" false (.cons (.v 3) (.cons (.v 4) (.cons (.v 8) .nil)))) (.ife (.cmp .NotEq (.v 9) (.lst false .nil)) (.ix (.v 9) (.k (.int 0))) (.k .non))) (.cons (.ret (.k (.bl false))) .nil) .nil) .nil))
theorem eqW_same {μ : Mu} {d : D} {k : Bool → Prop} (h1 : (resOf μ d).pl = true) (h2 : shal (resOf μ d)) (e : eqD (resOf μ d) (resOf μ d) = true) (q : k true) : eqW μ d d k := ⟨⟨h1, h1, .inl h2⟩, by rw [e]; exact q⟩
theorem opt_same {μ : Mu} {o : Option Lot} {k : Bool → Prop} (q : k true) : eqW μ (optL o) (optL o) k := by
  cases o with
  | none => exact eqW_same rfl (by simp [optL, resOf, shal, D.py, PyData.depth]) (by simp [optL, resOf, eqD, D.py, PyData.eqv]) q
  | some l => exact eqW_same (pl_lotT l) (shal_lotT l) (by show eqD (lotT l) (lotT l) = true; unfold lotT; rw [eqD_tup, eqA_lots]; exact decide_eq_true rfl) q
theorem lvs31 (Φ : Str → FS) (h1 : Φ "_law_less" = fs_less) (h2 : Φ "fewest_wedged" = fs_fewest) (B : Mu) (n : Nat) (w : We) (W : Wk) (d : D) (hd : IsWp W d) (hw : LW W 4 5 false) (x : Str) (hx : x ∈ W.jn) (xb : ∀ l, RB 3300 ((W.wedge l).x x)) (hl : (lotsAll (W.flaps.map pk)).length ≤ 10000) (x0 x1 x2 x7 x10 : Option D) (src : Mu → Prop) (hs : ∀ m, src m) (Dn : EnD)
    (q : ∀ x6 x8 x9 x11, Dn.nx [x0, x1, x2, some d, some (.str x), some (.cel B.length), x6, x7, x8, x9, x10, x11] (WM B n w [some (.lst ((lotsAll (W.flaps.map pk)).map (rowW W x)))])) :
    ∀ (qs : List Rat) (x6 x8 x9 x11 : Option D), (∀ q, q ∈ qs → RB 6000 q) →
    FL Φ (.n 8) lvIR31 src (qs.map fr) [x0, x1, x2, some d, some (.str x), some (.cel B.length), x6, x7, x8, x9, x10, x11] (WM B n w [some (.lst ((lotsAll (W.flaps.map pk)).map (rowW W x)))]) Dn := by
  intro qs
  induction qs with
  | nil => intro x6 x8 x9 x11 _; exact q _ _ _ _
  | cons qq r ih =>
    intro x6 x8 x9 x11 hq
    have hqq := hq qq List.mem_cons_self
    have hc : ∀ {a : List D}, (WM B n w [some (.lst a)])[B.length]? = some (some (.lst a)) := fun {a} => WM_cell (i := 0)
    rw [List.map_cons, FL_cons]
    unfold lvIR31
    simp only [tgW, st, s_cons, s_nil, s_asg, e_lc, i_seq, e_v, lk, onS_some, seq_celg hc, wp0, wp0.wipe1]
    refine LC_fm (rowW W x) (goodB W x qq) lotT ?_ (lotsAll (W.flaps.map pk)) ?_ (by show _ ≤ _; omega) ?_
    · exact hc
    · intro l hl' R R2 r1 r2
      simp only [rowW, tgW, stAll, st, c_cons, e_not, e_call, es_cons, es_nil, e_v, lk, onS_some, h1]
      refine ⟨_, _, 6000, rfl, (xb l).mono (by decide), hqq, by decide, ?_⟩
      simp only [asB_bl]
      exact ⟨fun g => r1 g, r2⟩
    generalize hDue : (lotsAll (W.flaps.map pk)).filter (goodB W x qq) = due
    have hh : (lotsAll (W.flaps.map pk)).find? (goodB W x qq) = due.head? := by rw [← hDue, List.head?_filter]
    rw [newL_f]
    simp only [s_iff, e_cmp, cmpW, e_call, es_cons, es_nil, e_v, lk, st, onS_some, h2]
    refine ⟨W, d, x, qq, rfl, hd, hw.t0, hw.short, hw.ok, hx, hqq, ?_⟩
    rw [hh]
    have fin : src (WM B n w [some (.lst ((lotsAll (W.flaps.map pk)).map (rowW W x)))]) ∧ FL Φ (.n 8) lvIR31 src (r.map fr) [x0, x1, x2, some d, some (.str x), some (.cel B.length), x6, x7, some (fr qq), some (.lst (due.map lotT)), x10, x11] (WM B n w [some (.lst ((lotsAll (W.flaps.map pk)).map (rowW W x)))]) Dn :=
      ⟨hs _, ih _ _ _ _ fun q hq' => hq q (List.mem_cons_of_mem _ hq')⟩
    simp only [e_ife, e_cmp, cmpW, e_lst, es_nil, newL_f, e_v, lk, onS_some]
    refine ⟨⟨plA_map _ pl_lotT _, rfl, .inr shal_lnil⟩, ?_⟩
    rw [res_lst, res_lst, eqD_lst]
    simp only [asB_bl]
    cases due with
    | nil =>
      rw [List.map_nil, show PyData.eqvAll (pyA []) (pyA []) = true from eqA_nil]
      refine ⟨fun h => (by cases h), fun _ => ?_⟩
      simp only [e_k]
      refine opt_same (o := none) ?_
      exact ⟨fun h => (by cases h), fun _ => fin⟩
    | cons a t =>
      rw [List.map_cons, eqA_cn]
      refine ⟨fun _ => ?_, fun h => (by cases h)⟩
      simp only [e_ix, e_v, e_k, lk, onS_some, ix_lst, at0]
      refine opt_same (o := some a) ?_
      exact ⟨fun h => (by cases h), fun _ => fin⟩
end FW

set_option Elab.async false
set_option linter.all false
set_option maxRecDepth 100000
/-! DK3: law k31, whole. -/
namespace FW
open PySem
theorem isWp_j {W : Wk} {d : D} (h : IsWp W d) {m : Mu} {Q : QD} : ixW d (.int 1) m Q = Q (.ptp (W.J.map plc)) m := by
  obtain ⟨p, rfl, _⟩ := h; rfl
theorem isWp_p {W : Wk} {d : D} (h : IsWp W d) : ∃ p, IsTup p (W.P.map pid) ∧ ∀ {m : Mu} {Q : QD}, ixW d (.int 2) m Q = Q p m := by
  obtain ⟨p, rfl, hp⟩ := h; exact ⟨p, hp, rfl⟩
theorem fr17 : D.tup [.int 1, .int 7] = fr (1 / 7) := by
  have h1 : ((1 : Rat) / 7).num = 1 := by decide +kernel
  have h2 : ((1 : Rat) / 7).den = 7 := by decide +kernel
  unfold fr; rw [h1, h2]; rfl
theorem ptp_len {m : Mu} {xs : List D} : lenD m (.ptp xs) = some xs.length := rfl
theorem ix_ptp {m : Mu} {xs : List D} {i : Int} {Q : QD} : ixW (.ptp xs) (.int i) m Q = onS (L2.atI xs i) fun d => Q d m := rfl
theorem res_ptp {μ : Mu} {xs : List D} : resOf μ (.ptp xs) = .ptp xs := rfl
theorem eqD_ptp (xs ys : List D) : eqD (.ptp xs) (.tup ys) = PyData.eqvAll (pyA xs) (pyA ys) := by
  unfold eqD D.py
  rw [PyData.eqv]
theorem shal_tnil : shal (.tup []) := by simp [shal, D.py, pyA, PyData.depth, PyData.depthAll]
theorem flaps_rise {W : Wk} {A : Nat} (g : GW W A) : (W.flaps.map pk).Pairwise fun a b => ltP a b = true :=
  List.pairwise_map.mpr ((List.pairwise_map.mp g.pks).filter _)
theorem lots_le {xs : Lot} (h : xs.Pairwise fun a b => ltP a b = true) (hl : xs.length ≤ 5) : (lotsAll xs).length ≤ 32 := by
  have e := congrArg List.length (lots_sort h)
  rw [(List.mergeSort_perm _ _).length_eq, List.length_map, List.length_map, show choicesF xs = xs.foldl chStep [[]] from rfl, ch_len] at e
  have : 2 ^ xs.length ≤ 2 ^ 5 := Nat.pow_le_pow_right (by decide) hl
  have e' : 1 * 2 ^ xs.length = (lotsAll xs).length := e
  omega
theorem lots_pos (xs : Lot) : 0 < (lotsAll xs).length := List.length_pos_of_mem (lotsAll_iff.mpr (List.nil_sublist xs))
theorem gauss_b {n C : Nat} : ∀ (m p : Nat) (T : Tab), p + m = n → Unit n T p → Ker n T → (∀ k, k < n → RowB n (Bs p) (Fs p * C) (T k)) → ∃ U : Tab, Unit n U n ∧ (∀ x, Sol n U x ↔ Sol n T x) ∧ ∀ k, k < n → RowB n (Bs n) (Fs n * C) (U k)
  | 0, p, T, h, u, _, b => ⟨T, by rw [show n = p by omega] at u ⊢; exact u, fun _ => Iff.rfl, by rw [show p = n by omega] at b; exact b⟩
  | m + 1, p, T, h, u, k, b => by
    obtain ⟨f, h1, h2, h3⟩ := pivot (by omega) u k
    have e : ∀ x, Sol n (stageT T p f) x ↔ Sol n T x := fun x => sol_stage (by omega) h2 h3
    have bb := rows_stage (by omega) h2 h3 (Bs_pos p) b
    obtain ⟨U, u1, u2, u3⟩ := gauss_b m (p + 1) (stageT T p f) (by omega) (unit_stage (by omega) h2 h1 h3 u) (ker_of e k) (fun k hk => by
      have q := bb k hk
      have e : 2 * (Bs p * (Fs p * C)) = Fs (p + 1) * C := by
        show _ = 2 * (Bs p * Fs p) * C
        rw [Nat.mul_assoc 2, Nat.mul_assoc (Bs p)]
      rw [e] at q
      exact q)
    exact ⟨U, u1, fun x => (u2 x).trans (e x), u3⟩
theorem GW.lb {W : Wk} {A : Nat} (g : GW W A) : ∀ n, n ∈ W.tn ++ W.jn → LB A (W.x n) := by
  have nk : (W.P.map pk).Nodup := pw_nodup ltP_irrefl g.pks
  have rl := lot_of_run nk g.run
  have kr := ker_TT (S := openLot W.P W.x) (τ := W.τ) (θ := W.θ) g.net g.w
  have rb := TT_rows (S := openLot W.P W.x) g.net.nd g.τb g.θb g.pipe g.lp
  obtain ⟨U, u1, u2, u3⟩ := gauss_b (C := 2 ^ 10 * (A + 1)) W.jn.length 0 _ (by omega) (fun c hc => by omega) kr (fun k hk => by
    rw [show Fs 0 * (2 ^ 10 * (A + 1)) = 2 ^ 10 * (A + 1) from Nat.one_mul _]; exact rb k hk)
  have hs := (u2 (fun c => if c = W.jn.length then -1 else U c W.jn.length)).mp ((unit_end u1 (by simp)).mpr fun k hk => by simp only [show ¬ k = W.jn.length by omega, if_false])
  have r2 := sol_run g.net (by simp) hs
  have e := runL_uniq g.net g.w rl r2
  intro n hn
  rw [e n hn]
  rcases List.mem_append.mp hn with h | h
  · rw [ext_t g.net.nd h]; exact LB.int (g.τb n h)
  · obtain ⟨k, hk, rfl⟩ := jn_of h
    have hk5 : W.jn.length ≤ 5 := by have := g.lj; rw [show W.jn.length = W.J.length from List.length_map _]; exact this
    rw [ext_j g.net.nd hk]
    simp only [show ¬ k = W.jn.length by omega, if_false]
    exact (u3 k hk).last.mono (Nat.mul_le_mul_right _ (Fs_le hk5)) (Bs_le hk5)
theorem add_lst {m : Bool} {xs ys : List D} {μ : Mu} {Q : QD} : addW m (.lst xs) (.lst ys) μ Q = (Sz (xs.length + ys.length) ∧ newL m (xs ++ ys) μ Q) := rfl
theorem turn31 (Φ : Str → FS) (h1 : Φ "_law_take" = fs_take) (h2 : Φ "_law_well" = fs_well) (h3 : Φ "_law_works" = fs_lworks) (h4 : Φ "_law_lots" = fs_llots) (h5 : Φ "levels" = fs_levels) (h6 : Φ "_law_wedged" = fun ds μ Q E => (∃ lot, ds[1]? = some (lotT lot)) ∧ fs_wedgedp ds μ Q E) (h7 : Φ "_law_less" = fs_less) (h8 : Φ "fewest_wedged" = fs_fewest) (h9 : Φ "_law_plus" = fs_arith (· + ·))
    (xs : List Int) (k : Int) (k0 : 0 ≤ k) (k1 : k ≤ 1000) (μ : Mu) (x2 x3 x4 x5 x6 x7 x8 x9 x10 x11 : Option D) (Dn : EnD)
    (q : ∀ x2 x3 x4 x5 x6 x7 x8 x9 x10 x11 m, Dn.nx [some (.rol (xs.map .int)), some (.int k), x2, x3, x4, x5, x6, x7, x8, x9, x10, x11] m)
    (qc : ∀ x2 x3 x4 x5 x6 x7 x8 x9 x10 x11 m, Dn.ct [some (.rol (xs.map .int)), some (.int k), x2, x3, x4, x5, x6, x7, x8, x9, x10, x11] m) :
    wSs Φ lwT0 [some (.rol (xs.map .int)), some (.int k), x2, x3, x4, x5, x6, x7, x8, x9, x10, x11] μ Dn := by
  -- well
  rw [lwT0, s_cons]
  generalize hD0 : EnD.mk _ _ _ _ _ = D0
  simp only [lwS0, s_asg, e_call, es_cons, es_nil, e_v, lk, onS_some, h2]
  refine ⟨xs, k, rfl, k0, k1, fun w0 ok0 => ?_⟩
  simp only [st]
  have hB0 : (μ ++ [some (MO.lst w0.l)])[μ.length]? = some (some (.lst w0.l)) := cg0
  have hn : μ.length < (μ ++ [some (MO.lst w0.l)]).length := by rw [List.length_append]; exact Nat.lt_succ_self _
  generalize (μ ++ [some (MO.lst w0.l)]) = B at hB0 hn
  generalize μ.length = n at hB0 hn
  subst hD0
  dsimp only
  -- works
  rw [lwT1, s_cons]
  generalize hD1 : EnD.mk _ _ _ _ _ = D1
  simp only [lwS1, s_asg, e_call, es_cons, es_nil, e_v, e_k, lk, onS_some, h3]
  refine ⟨n, w0, 4, 5, false, rfl, hB0, ok0, by decide, by decide, by decide, fun W d w1 hw hd _ ok1 => ?_⟩
  simp only [st]
  subst hD1
  dsimp only
  have g := gw_of_ok hw.ok hw.t0
  have lJ := g.lj
  have lF := g.lf
  -- no junctions
  rw [lwT2, s_cons]
  generalize hD2 : EnD.mk _ _ _ _ _ = D2
  have q2 : ∀ x2 x3 x4 x5 x6 x7 x8 x9 x10 x11 m, D2.ct [some (.rol (xs.map .int)), some (.int k), x2, x3, x4, x5, x6, x7, x8, x9, x10, x11] m := by rw [← hD2]; exact qc
  simp only [lwS2, s_iff, e_cmp, cmpW, e_ix, e_tup, es_nil, e_v, e_k, lk, onS_some, isWp_j hd]
  refine ⟨⟨plA_map _ (fun _ => rfl) _, rfl, .inr shal_tnil⟩, ?_⟩
  rw [res_ptp, res_tup, eqD_ptp]
  simp only [asB_bl]
  refine ⟨fun _ => ?_, fun gg => ?_⟩
  · simp only [s_cons, s_nil, s_cont]
    exact q2 _ _ _ _ _ _ _ _ _ _ _
  have hJ : W.J ≠ [] := fun h => by
    rw [h, List.map_nil, eqA_nil] at gg; cases gg
  have hJ1 : 1 ≤ W.J.length := List.length_pos_iff.mpr hJ
  rw [s_nil]
  subst hD2
  dsimp only
  -- a junction
  rw [lwT3, s_cons]
  generalize hD3 : EnD.mk _ _ _ _ _ = D3
  simp only [lwS3, s_asg, e_ix, e_call, e_bi, biW, es_cons, es_nil, e_v, e_k, lk, onS_some, isWp_j hd, ptp_len, List.length_map, h1]
  refine take_call hn ok1 (by omega) (by omega) fun r w2 ok2 r0 r1 => ?_
  obtain ⟨i, rfl⟩ := Int.eq_ofNat_of_zero_le r0
  have hi : i < W.J.length := by omega
  rw [ix_ptp, show L2.atI (W.J.map plc) ((i : Nat) : Int) = some (plc W.J[i]) by rw [at_nat, List.getElem?_map, List.getElem?_eq_getElem hi]; rfl, onS_some]
  have hx : (W.J[i]).1 ∈ W.jn := List.mem_map.mpr ⟨_, List.getElem_mem hi, rfl⟩
  generalize (W.J[i]) = j at hx
  obtain ⟨x, jt⟩ := j
  have hx : x ∈ W.jn := hx
  rw [show plc (x, jt) = .tup [.str x, .int jt] from rfl, ix_tup, at0, onS_some]
  simp only [st]
  subst hD3
  dsimp only
  -- rows
  rw [lwT4, s_cons]
  generalize hD4 : EnD.mk _ _ _ _ _ = D4
  simp only [lwS4, s_asg, e_lst, es_nil]
  rw [newL_t]
  simp only [st]
  rw [WM_app, WM_len, List.nil_append]
  show D4.nx [some (.rol (xs.map .int)), some (.int k), some (.cel n), some d, some (.str x), some (.cel B.length), x6, x7, x8, x9, x10, x11] (WM B n w2 [some (.lst [])])
  subst hD4
  dsimp only
  -- each lot
  rw [lwT5, s_cons]
  generalize hD5 : EnD.mk _ _ _ _ _ = D5
  obtain ⟨p, hp, ep⟩ := isWp_p hd
  simp only [lwS5, s_for, i_seq, e_call, es_cons, es_nil, e_lc, e_ix, e_v, e_k, lk, onS_some, ep, hp.seq.seq, wp0, wp0.wipe1, h4]
  refine LC_fm pid isFlap (fun p => prd (pk p)) (by rw [hp.seq.src (μ := μ)]; trivial) W.P ?_ (by have := g.lp; show _ ≤ _; omega) ?_
  · intro a ha R R2 r1 r2
    simp only [tgW, st, c_cons, e_cmp, cmpW, e_ix, e_sl, o_nil, o_cons, e_v, e_k, lk, onS_some, pid, ix_tup, at3, slW, asI_int, cut2]
    refine ⟨⟨rfl, rfl, .inl (shal_str _)⟩, ?_⟩
    rw [res_str, res_str, eqD_str]
    exact ⟨fun g => r1 g, r2⟩
  rw [newL_f, show (W.P.filter isFlap).map (fun p => prd (pk p)) = (W.flaps.map pk).map prd by rw [List.map_map]; rfl]
  have fr' := flaps_rise g
  have lf' : (W.flaps.map pk).length = W.flaps.length := List.length_map ..
  have ll := lots_le fr' (by omega)
  have lp := lots_pos (W.flaps.map pk)
  refine ⟨W.flaps.map pk, rfl, by omega, fr', ?_⟩
  simp only [seq_lst, onS_some]
  refine rows31 Φ h5 h6 B n w2 W d hd hw x hx _ _ _ _ _ _ _ _ _ (fun _ => trivial) D5 (lotsAll (W.flaps.map pk)) [] x6 (by show 0 + _ ≤ _; omega) fun x6 => ?_
  rw [List.nil_append]
  subst hD5
  dsimp only
  -- aims
  rw [lwT6, s_cons]
  generalize hD6 : EnD.mk _ _ _ _ _ = D6
  have hc : ∀ {w : We} {a : List D}, (WM B n w [some (.lst a)])[B.length]? = some (some (.lst a)) := fun {w a} => WM_cell (i := 0)
  have rowAt : ∀ (i : Nat), i < (lotsAll (W.flaps.map pk)).length → ∃ l, L2.atI ((lotsAll (W.flaps.map pk)).map (rowW W x)) ((i : Nat) : Int) = some (rowW W x l) := fun i hi => ⟨(lotsAll (W.flaps.map pk))[i], by rw [at_nat, List.getElem?_map, List.getElem?_eq_getElem hi]; rfl⟩
  have xb : ∀ l, RB 3300 ((W.wedge l).x x) := fun l => by
    exact ((g.wedge l).lb x (List.mem_append_right _ hx)).rb p1000
  obtain ⟨l0, hl0⟩ := rowAt 0 lp
  have ixr : ∀ {l : Lot} {m : Mu} {Q : QD}, ixW (rowW W x l) (.int 1) m Q = Q (fr ((W.wedge l).x x)) m := fun {l m Q} => rfl
  simp only [lwS6, s_asg, e_lst, es_cons, es_nil, e_ix, e_v, e_k, lk, onS_some, ix_celg hc]
  rw [show L2.atI ((lotsAll (W.flaps.map pk)).map (rowW W x)) 0 = some (rowW W x l0) from hl0, onS_some, ixr]
  simp only [e_call, es_cons, es_nil, e_bi, biW, e_v, lk, onS_some, h1, len_celg hc, List.length_map]
  refine take_call hn ok2 (by omega) (by omega) fun r w3 ok3 r0 r1 => ?_
  obtain ⟨i1, rfl⟩ := Int.eq_ofNat_of_zero_le r0
  obtain ⟨l1, hl1⟩ := rowAt i1 (by omega)
  rw [ix_celg hc, hl1, onS_some, ixr]
  simp only [e_call, es_cons, es_nil, e_bi, biW, e_v, lk, onS_some, h1, len_celg hc, List.length_map]
  refine take_call hn ok3 (by omega) (by omega) fun r w4 ok4 r0 r1 => ?_
  obtain ⟨i2, rfl⟩ := Int.eq_ofNat_of_zero_le r0
  obtain ⟨l2, hl2⟩ := rowAt i2 (by omega)
  rw [ix_celg hc, hl2, onS_some, ixr]
  rw [newL_f]
  simp only [st]
  subst hD6
  dsimp only
  -- each level
  rw [lwT7, s_cons]
  generalize hD7 : EnD.mk _ _ _ _ _ = D7
  simp only [lwS7, s_for, i_seq, e_op, bopW, e_lst, e_call, es_cons, es_nil, e_ix, e_v, e_k, lk, onS_some, ix_celg hc]
  rw [show L2.atI ((lotsAll (W.flaps.map pk)).map (rowW W x)) 0 = some (rowW W x l0) from hl0, onS_some, ixr]
  simp only [e_call, es_cons, es_nil, e_tup, e_k, h9]
  refine ⟨(W.wedge l0).x x, 1 / 7, 3300, 3, by rw [fr17], xb l0, ?_, by decide, ?_⟩
  · have h1 : ((1 : Rat) / 7).num = 1 := by decide +kernel
    have h2 : ((1 : Rat) / 7).den = 7 := by decide +kernel
    exact ⟨by rw [h1]; decide, by rw [h2]; decide⟩
  simp only [e_tup, es_cons, es_nil, e_k, e_neg, asI_int]
  rw [newL_f, add_lst]
  refine ⟨by show 3 + 3 ≤ 100000; omega, ?_⟩
  rw [newL_f, seq_lst, onS_some]
  rw [show ([fr ((W.wedge l0).x x), fr ((W.wedge l1).x x), fr ((W.wedge l2).x x)] ++ [fr ((W.wedge l0).x x + 1 / 7), .tup [.int 1000, .int 1], .tup [.int (-1000), .int 1]] : List D) = [(W.wedge l0).x x, (W.wedge l1).x x, (W.wedge l2).x x, (W.wedge l0).x x + 1 / 7, ((1000 : Int) : Rat), ((-1000 : Int) : Rat)].map fr by
    rw [fr_int, fr_int]; rfl]
  refine lvs31 Φ h7 h8 B n w4 W d hd hw x hx xb (by omega) _ _ _ _ _ _ (fun _ => trivial) D7 ?_ _ _ _ _ _ ?_
  · intro x6 x8 x9 x11
    subst hD7
    dsimp only
    rw [s_nil]
    exact q _ _ _ _ _ _ _ _ _ _ _
  · intro qq hq
    simp only [List.mem_cons, List.not_mem_nil, or_false] at hq
    rcases hq with rfl | rfl | rfl | rfl | rfl | rfl
    · exact (xb _).mono (by decide)
    · exact (xb _).mono (by decide)
    · exact (xb _).mono (by decide)
    · have h7' : RB 3 ((1 : Rat) / 7) := by
        have h1 : ((1 : Rat) / 7).num = 1 := by decide +kernel
        have h2 : ((1 : Rat) / 7).den = 7 := by decide +kernel
        exact ⟨by rw [h1]; decide, by rw [h2]; decide⟩
      exact ((xb l0).add2 h7').mono (by decide)
    · exact (rb_int (m := 10) (by decide) (by decide)).mono (by decide)
    · exact (rb_int (m := 10) (by decide) (by decide)).mono (by decide)
def fs_law : FS := fun ds μ Q _ => ∃ xs : List Int, ds = [.rol (xs.map .int)] ∧ μ = [] ∧ xs.length ≤ 63 ∧ Q (.bl true) []
theorem law31_loop (Φ : Str → FS) (h1 : Φ "_law_take" = fs_take) (h2 : Φ "_law_well" = fs_well) (h3 : Φ "_law_works" = fs_lworks) (h4 : Φ "_law_lots" = fs_llots) (h5 : Φ "levels" = fs_levels) (h6 : Φ "_law_wedged" = fun ds μ Q E => (∃ lot, ds[1]? = some (lotT lot)) ∧ fs_wedgedp ds μ Q E) (h7 : Φ "_law_less" = fs_less) (h8 : Φ "fewest_wedged" = fs_fewest) (h9 : Φ "_law_plus" = fs_arith (· + ·))
    (xs : List Int) (Dn : EnD) (q : ∀ x1 x2 x3 x4 x5 x6 x7 x8 x9 x10 x11 m, Dn.nx [some (.rol (xs.map .int)), x1, x2, x3, x4, x5, x6, x7, x8, x9, x10, x11] m) :
    ∀ (m : Nat) (k : Int) (μ : Mu) (x1 x2 x3 x4 x5 x6 x7 x8 x9 x10 x11 : Option D), 0 ≤ k → k + m ≤ 1000 →
    FL Φ (.n 1) lwT0 (fun _ => True) (intsD k m) [some (.rol (xs.map .int)), x1, x2, x3, x4, x5, x6, x7, x8, x9, x10, x11] μ Dn := by
  intro m
  induction m with
  | zero => intro k μ x1 x2 x3 x4 x5 x6 x7 x8 x9 x10 x11 _ _; exact q _ _ _ _ _ _ _ _ _ _ _ _
  | succ m ih =>
    intro k μ x1 x2 x3 x4 x5 x6 x7 x8 x9 x10 x11 k0 k1
    rw [intsD, FL_cons]
    simp only [tgW, st]
    exact turn31 Φ h1 h2 h3 h4 h5 h6 h7 h8 h9 xs k k0 (by omega) μ _ _ _ _ _ _ _ _ _ _ _ (fun _ _ _ _ _ _ _ _ _ _ _ => ⟨trivial, ih _ _ _ _ _ _ _ _ _ _ _ _ _ (by omega) (by omega)⟩) fun _ _ _ _ _ _ _ _ _ _ _ => ⟨trivial, ih _ _ _ _ _ _ _ _ _ _ _ _ _ (by omega) (by omega)⟩
theorem rol_len {m : Mu} {xs : List D} : lenD m (.rol xs) = some xs.length := rfl
theorem p_law31 (Φ : Str → FS) (h1 : Φ "_law_take" = fs_take) (h2 : Φ "_law_well" = fs_well) (h3 : Φ "_law_works" = fs_lworks) (h4 : Φ "_law_lots" = fs_llots) (h5 : Φ "levels" = fs_levels) (h6 : Φ "_law_wedged" = fun ds μ Q E => (∃ lot, ds[1]? = some (lotT lot)) ∧ fs_wedgedp ds μ Q E) (h7 : Φ "_law_less" = fs_less) (h8 : Φ "fewest_wedged" = fs_fewest) (h9 : Φ "_law_plus" = fs_arith (· + ·)) :
    ∀ ds μ Qd Ed, ds.length = 1 → fs_law ds μ Qd Ed → wSs Φ ir_law_k31 (start0 N_law_k31.length ds) μ (endD μ Qd Ed) := by
  rintro ds μ Q E _ ⟨xs, rfl, rfl, hl, q⟩
  unfold ir_law_k31
  change wSs Φ _ [some (.rol (xs.map .int)), none, none, none, none, none, none, none, none, none, none, none] [] _
  rw [s_cons]
  generalize hD : EnD.mk _ _ _ _ _ = D0
  have e : ∃ m : Nat, m ≤ 63 ∧ (if (if (xs.length : Int) < 6 then (xs.length : Int) else 6) > 3 then (if (xs.length : Int) < 6 then (xs.length : Int) else 6) else 3) = (m : Int) := by
    by_cases h : (xs.length : Int) < 6
    · rw [if_pos h]
      by_cases h' : (xs.length : Int) > 3
      · rw [if_pos h']; exact ⟨xs.length, hl, rfl⟩
      · rw [if_neg h']; exact ⟨3, by decide, rfl⟩
    · rw [if_neg h]; exact ⟨6, by decide, rfl⟩
  obtain ⟨m, hm, em⟩ := e
  simp only [lwL, s_for, i_rng, es_cons, es_nil, e_bi, biW, e_v, e_k, lk, onS_some, rol_len, List.length_map, minW, maxW]
  rw [show (if (3 : Int) < (if (xs.length : Int) < 6 then (xs.length : Int) else 6) then (if (xs.length : Int) < 6 then (xs.length : Int) else 6) else 3) = (m : Int) from em]
  refine ⟨by omega, ?_⟩
  rw [show ((m : Int)).toNat = m by omega]
  refine law31_loop Φ h1 h2 h3 h4 h5 h6 h7 h8 h9 xs D0 ?_ m 0 [] _ _ _ _ _ _ _ _ _ _ _ (by omega) (by omega)
  intro x1 x2 x3 x4 x5 x6 x7 x8 x9 x10 x11 mm
  subst hD
  dsimp only
  simp only [s_cons, s_ret, e_k]
  refine ⟨fun k o l h => absurd l (Nat.not_lt_zero _), .inl ⟨rfl, ?_⟩⟩
  rw [List.length_nil, List.take_zero]; exact q
end FW

set_option Elab.async false
set_option linter.all false
set_option maxRecDepth 100000
/-! DK4: lots, from the bottom. -/
namespace FW
open PySem
theorem p_lots0 (Φ : Str → FS) : ∀ ds μ Qd Ed, ds.length = 2 → fs_lots 0 ds μ Qd Ed → wSs Φ ir_lots (start0 N_lots.length ds) μ (endD μ Qd Ed) := by
  rintro ds μ Q E _ ⟨xs, m, rfl, hm, hl, q⟩
  unfold ir_lots
  change wSs Φ _ [some _, some _, none, none, none, none] μ _
  have g : m = 0 := by omega
  subst g
  simp only [s_cons, s_nil, s_iff, s_asg, s_ret, e_cmp, cmpW, eqW, e_v, e_k, lk, onS_some, res_int, eqD_int, asB_bl, e_lst, e_tup, es_cons, es_nil, newL_f, st]
  refine ⟨⟨rfl, rfl, .inl (shal_int _)⟩, fun _ => ?_, fun g => ?_⟩
  · rw [lotsF] at q
    exact rt_same rfl q
  · have := of_decide_eq_false g; omega
end FW

set_option Elab.async false
set_option linter.all false
set_option maxRecDepth 100000
set_option maxHeartbeats 0
/-! the law's text, its facts, its walk: put together -/
namespace FW
open PySem PySem.Spec PyProof.Rows L2
def top (i : Nat) : Stmt := PySem.Challenge.pw_flapworks_k31_whole_fewest_wedges.main.body.getD i (.Pass ⟨0, 0, 0, 0⟩)
def ct_divisor : Ct := ⟨N_divisor, defScope (top 2), [], [], [], [], false⟩
theorem chk_divisor : okSs ct_divisor ir_divisor (defBody (top 2)) = true := by kernel_rfl
theorem sc_divisor : FnScope N_divisor ["one", "other"] (defScope (top 2)) := ⟨rfl, rfl, rfl, by decide +kernel, rfl, by decide +kernel, by decide +kernel⟩
def ct_fraction : Ct := ⟨N_fraction, defScope (top 3), [("divisor", 2)], ["abs"], [], [], false⟩
theorem chk_fraction : okSs ct_fraction ir_fraction (defBody (top 3)) = true := by kernel_rfl
theorem sc_fraction : FnScope N_fraction ["top", "bottom"] (defScope (top 3)) := ⟨rfl, rfl, rfl, by decide +kernel, rfl, by decide +kernel, by decide +kernel⟩
def ct_plus : Ct := ⟨N_plus, defScope (top 4), [("fraction", 2)], [], [], [], false⟩
theorem chk_plus : okSs ct_plus ir_plus (defBody (top 4)) = true := by kernel_rfl
theorem sc_plus : FnScope N_plus ["one", "other"] (defScope (top 4)) := ⟨rfl, rfl, rfl, by decide +kernel, rfl, by decide +kernel, by decide +kernel⟩
def ct_minus : Ct := ⟨N_minus, defScope (top 5), [("fraction", 2)], [], [], [], false⟩
theorem chk_minus : okSs ct_minus ir_minus (defBody (top 5)) = true := by kernel_rfl
theorem sc_minus : FnScope N_minus ["one", "other"] (defScope (top 5)) := ⟨rfl, rfl, rfl, by decide +kernel, rfl, by decide +kernel, by decide +kernel⟩
def ct_times : Ct := ⟨N_times, defScope (top 6), [("fraction", 2)], [], [], [], false⟩
theorem chk_times : okSs ct_times ir_times (defBody (top 6)) = true := by kernel_rfl
theorem sc_times : FnScope N_times ["one", "other"] (defScope (top 6)) := ⟨rfl, rfl, rfl, by decide +kernel, rfl, by decide +kernel, by decide +kernel⟩
def ct_shared : Ct := ⟨N_shared, defScope (top 7), [("fraction", 2)], [], [], [], false⟩
theorem chk_shared : okSs ct_shared ir_shared (defBody (top 7)) = true := by kernel_rfl
theorem sc_shared : FnScope N_shared ["one", "other"] (defScope (top 7)) := ⟨rfl, rfl, rfl, by decide +kernel, rfl, by decide +kernel, by decide +kernel⟩
def ct_is_less : Ct := ⟨N_is_less, defScope (top 8), [], [], [], [], false⟩
theorem chk_is_less : okSs ct_is_less ir_is_less (defBody (top 8)) = true := by kernel_rfl
theorem sc_is_less : FnScope N_is_less ["one", "other"] (defScope (top 8)) := ⟨rfl, rfl, rfl, by decide +kernel, rfl, by decide +kernel, by decide +kernel⟩
def ct_is_whole : Ct := ⟨N_is_whole, defScope (top 9), [], ["isinstance", "int", "bool"], [], [], false⟩
theorem chk_is_whole : okSs ct_is_whole ir_is_whole (defBody (top 9)) = true := by kernel_rfl
theorem sc_is_whole : FnScope N_is_whole ["thing", "low", "high"] (defScope (top 9)) := ⟨rfl, rfl, rfl, by decide +kernel, rfl, by decide +kernel, by decide +kernel⟩
def ct_is_fraction : Ct := ⟨N_is_fraction, defScope (top 10), [("divisor", 2)], ["isinstance", "tuple", "len", "all", "int", "bool", "abs"], [], [], false⟩
theorem chk_is_fraction : okSs ct_is_fraction ir_is_fraction (defBody (top 10)) = true := by kernel_rfl
theorem sc_is_fraction : FnScope N_is_fraction ["thing"] (defScope (top 10)) := ⟨rfl, rfl, rfl, by decide +kernel, rfl, by decide +kernel, by decide +kernel⟩
def ct_solved : Ct := ⟨N_solved, defScope (top 12), [("shared", 2), ("minus", 2), ("times", 2)], ["list", "len", "range", "zip"], [("NOUGHT", (.tup [.int 0, .int 1]))], [], false⟩
theorem chk_solved : okSs ct_solved ir_solved (defBody (top 12)) = true := by kernel_rfl
theorem sc_solved : FnScope N_solved ["rows"] (defScope (top 12)) := ⟨rfl, rfl, rfl, by decide +kernel, rfl, by decide +kernel, by decide +kernel⟩
def ct_goes : Ct := ⟨N_goes, defScope (top 13), [], [], [], [], false⟩
theorem chk_goes : okSs ct_goes ir_goes (defBody (top 13)) = true := by kernel_rfl
theorem sc_goes : FnScope N_goes ["pipe", "is_open"] (defScope (top 13)) := ⟨rfl, rfl, rfl, by decide +kernel, rfl, by decide +kernel, by decide +kernel⟩
def ct_levels_with : Ct := ⟨N_levels_with, defScope (top 14), [("minus", 2), ("goes", 2), ("plus", 2), ("times", 2), ("solved", 1)], ["len", "dict", "zip"], [("NOUGHT", (.tup [.int 0, .int 1]))], [], false⟩
theorem chk_levels_with : okSs ct_levels_with ir_levels_with (defBody (top 14)) = true := by kernel_rfl
theorem sc_levels_with : FnScope N_levels_with ["works", "tanks", "taps", "is_open"] (defScope (top 14)) := ⟨rfl, rfl, rfl, by decide +kernel, rfl, by decide +kernel, by decide +kernel⟩
def ct_lift : Ct := ⟨N_lift, defScope (top 15), [("minus", 2)], [], [], [], false⟩
theorem chk_lift : okSs ct_lift ir_lift (defBody (top 15)) = true := by kernel_rfl
theorem sc_lift : FnScope N_lift ["pipe", "levels"] (defScope (top 15)) := ⟨rfl, rfl, rfl, by decide +kernel, rfl, by decide +kernel, by decide +kernel⟩
def ct_choices : Ct := ⟨N_choices, defScope (top 16), [], [], [], [], false⟩
theorem chk_choices : okSs ct_choices ir_choices (defBody (top 16)) = true := by kernel_rfl
theorem sc_choices : FnScope N_choices ["some"] (defScope (top 16)) := ⟨rfl, rfl, rfl, by decide +kernel, rfl, by decide +kernel, by decide +kernel⟩
def ct_flaps_of : Ct := ⟨N_flaps_of, defScope (top 17), [], [], [], [], false⟩
theorem chk_flaps_of : okSs ct_flaps_of ir_flaps_of (defBody (top 17)) = true := by kernel_rfl
theorem sc_flaps_of : FnScope N_flaps_of ["works"] (defScope (top 17)) := ⟨rfl, rfl, rfl, by decide +kernel, rfl, by decide +kernel, by decide +kernel⟩
def ct_is_name : Ct := ⟨N_is_name, defScope (top 31), [], ["isinstance", "str", "len", "all"], [("LETTERS", (.str "abcdefghijklmnopqrstuvwxyz"))], [], false⟩
theorem chk_is_name : okSs ct_is_name ir_is_name (defBody (top 31)) = true := by kernel_rfl
theorem sc_is_name : FnScope N_is_name ["thing"] (defScope (top 31)) := ⟨rfl, rfl, rfl, by decide +kernel, rfl, by decide +kernel, by decide +kernel⟩
def ct_are_rising : Ct := ⟨N_are_rising, defScope (top 32), [], ["all", "range", "len"], [], [], false⟩
theorem chk_are_rising : okSs ct_are_rising ir_are_rising (defBody (top 32)) = true := by kernel_rfl
theorem sc_are_rising : FnScope N_are_rising ["some"] (defScope (top 32)) := ⟨rfl, rfl, rfl, by decide +kernel, rfl, by decide +kernel, by decide +kernel⟩
def ct_are_places : Ct := ⟨N_are_places, defScope (top 33), [("is_name", 1), ("is_whole", 3), ("are_rising", 1)], ["isinstance", "tuple", "len", "all"], [("MOST_LEVEL", (.int 1000))], [], false⟩
theorem chk_are_places : okSs ct_are_places ir_are_places (defBody (top 33)) = true := by kernel_rfl
theorem sc_are_places : FnScope N_are_places ["thing", "most", "low"] (defScope (top 33)) := ⟨rfl, rfl, rfl, by decide +kernel, rfl, by decide +kernel, by decide +kernel⟩
def ct_is_pipe : Ct := ⟨N_is_pipe, defScope (top 34), [("is_whole", 3)], ["isinstance", "tuple", "len", "all", "str"], [("MOST_WIDTH", (.int 100))], [], false⟩
theorem chk_is_pipe : okSs ct_is_pipe ir_is_pipe (defBody (top 34)) = true := by kernel_rfl
theorem sc_is_pipe : FnScope N_is_pipe ["names", "thing"] (defScope (top 34)) := ⟨rfl, rfl, rfl, by decide +kernel, rfl, by decide +kernel, by decide +kernel⟩
def ct_names_of : Ct := ⟨N_names_of, defScope (top 35), [], [], [], [], false⟩
theorem chk_names_of : okSs ct_names_of ir_names_of (defBody (top 35)) = true := by kernel_rfl
theorem sc_names_of : FnScope N_names_of ["works"] (defScope (top 35)) := ⟨rfl, rfl, rfl, by decide +kernel, rfl, by decide +kernel, by decide +kernel⟩
def ct_hangs_on : Ct := ⟨N_hangs_on, defScope (top 36), [], ["all"], [], [], false⟩
theorem chk_hangs_on : okSs ct_hangs_on ir_hangs_on (defBody (top 36)) = true := by kernel_rfl
theorem sc_hangs_on : FnScope N_hangs_on ["works"] (defScope (top 36)) := ⟨rfl, rfl, rfl, by decide +kernel, rfl, by decide +kernel, by decide +kernel⟩
def ct_is_works : Ct := ⟨N_is_works, defScope (top 37), [("are_places", 3), ("names_of", 1), ("is_pipe", 2), ("are_rising", 1), ("hangs_on", 1)], ["isinstance", "tuple", "len", "set", "all"], [("MOST_TANKS", (.int 4)), ("MOST_LEVEL", (.int 1000)), ("MOST_JUNCTIONS", (.int 5)), ("MOST_PIPES", (.int 9)), ("MOST_FLAPS", (.int 5))], [], false⟩
theorem chk_is_works : okSs ct_is_works ir_is_works (defBody (top 37)) = true := by kernel_rfl
theorem sc_is_works : FnScope N_is_works ["thing"] (defScope (top 37)) := ⟨rfl, rfl, rfl, by decide +kernel, rfl, by decide +kernel, by decide +kernel⟩
def ct_need_works : Ct := ⟨N_need_works, defScope (top 38), [("is_works", 1)], [], [], [], false⟩
theorem chk_need_works : okSs ct_need_works ir_need_works (defBody (top 38)) = true := by kernel_rfl
theorem sc_need_works : FnScope N_need_works ["works"] (defScope (top 38)) := ⟨rfl, rfl, rfl, by decide +kernel, rfl, by decide +kernel, by decide +kernel⟩
def ct_need_junction : Ct := ⟨N_need_junction, defScope (top 39), [], ["isinstance", "str"], [], [], false⟩
theorem chk_need_junction : okSs ct_need_junction ir_need_junction (defBody (top 39)) = true := by kernel_rfl
theorem sc_need_junction : FnScope N_need_junction ["works", "junction"] (defScope (top 39)) := ⟨rfl, rfl, rfl, by decide +kernel, rfl, by decide +kernel, by decide +kernel⟩
def ct_need_level : Ct := ⟨N_need_level, defScope (top 40), [("is_fraction", 1)], [], [], [], false⟩
theorem chk_need_level : okSs ct_need_level ir_need_level (defBody (top 40)) = true := by kernel_rfl
theorem sc_need_level : FnScope N_need_level ["level"] (defScope (top 40)) := ⟨rfl, rfl, rfl, by decide +kernel, rfl, by decide +kernel, by decide +kernel⟩
def ct_all_levels : Ct := ⟨N_all_levels, defScope (top 42), [("choices", 1), ("flaps_of", 1), ("levels_with", 4), ("lift", 2), ("is_less", 2)], ["dict", "all"], [("NOUGHT", (.tup [.int 0, .int 1]))], [], false⟩
theorem chk_all_levels : okSs ct_all_levels ir_all_levels (defBody (top 42)) = true := by kernel_rfl
theorem sc_all_levels : FnScope N_all_levels ["works"] (defScope (top 42)) := ⟨rfl, rfl, rfl, by decide +kernel, rfl, by decide +kernel, by decide +kernel⟩
def ct_levels : Ct := ⟨N_levels, defScope (top 43), [("need_works", 1), ("all_levels", 1)], [], [], [], false⟩
theorem chk_levels : okSs ct_levels ir_levels (defBody (top 43)) = true := by kernel_rfl
theorem sc_levels : FnScope N_levels ["works"] (defScope (top 43)) := ⟨rfl, rfl, rfl, by decide +kernel, rfl, by decide +kernel, by decide +kernel⟩
def ct_lots : Ct := ⟨N_lots, defScope (top 45), [("lots", 2)], ["enumerate"], [], [], false⟩
theorem chk_lots : okSs ct_lots ir_lots (defBody (top 45)) = true := by kernel_rfl
theorem sc_lots : FnScope N_lots ["some", "many"] (defScope (top 45)) := ⟨rfl, rfl, rfl, by decide +kernel, rfl, by decide +kernel, by decide +kernel⟩
def ct_wedged : Ct := ⟨N_wedged, defScope (top 46), [], ["tuple"], [], [], false⟩
theorem chk_wedged : okSs ct_wedged ir_wedged (defBody (top 46)) = true := by kernel_rfl
theorem sc_wedged : FnScope N_wedged ["works", "some"] (defScope (top 46)) := ⟨rfl, rfl, rfl, by decide +kernel, rfl, by decide +kernel, by decide +kernel⟩
def ct_fewest_wedged : Ct := ⟨N_fewest_wedged, defScope (top 47), [("need_works", 1), ("need_junction", 2), ("need_level", 1), ("flaps_of", 1), ("lots", 2), ("is_less", 2), ("all_levels", 1), ("wedged", 2)], ["range", "len"], [], [], false⟩
theorem chk_fewest_wedged : okSs ct_fewest_wedged ir_fewest_wedged (defBody (top 47)) = true := by kernel_rfl
theorem sc_fewest_wedged : FnScope N_fewest_wedged ["works", "junction", "level"] (defScope (top 47)) := ⟨rfl, rfl, rfl, by decide +kernel, rfl, by decide +kernel, by decide +kernel⟩
def ct__law_well : Ct := ⟨N__law_well, defScope (top 49), [], ["len"], [], [], false⟩
theorem chk__law_well : okSs ct__law_well ir__law_well (defBody (top 49)) = true := by kernel_rfl
theorem sc__law_well : FnScope N__law_well ["script", "k"] (defScope (top 49)) := ⟨rfl, rfl, rfl, by decide +kernel, rfl, by decide +kernel, by decide +kernel⟩
def ct__law_take : Ct := ⟨N__law_take, defScope (top 50), [], [], [], [], false⟩
theorem chk__law_take : okSs ct__law_take ir__law_take (defBody (top 50)) = true := by kernel_rfl
theorem sc__law_take : FnScope N__law_take ["well", "many"] (defScope (top 50)) := ⟨rfl, rfl, rfl, by decide +kernel, rfl, by decide +kernel, by decide +kernel⟩
def ct__law_frac : Ct := ⟨N__law_frac, defScope (top 51), [], ["abs"], [], [], false⟩
theorem chk__law_frac : okSs ct__law_frac ir__law_frac (defBody (top 51)) = true := by kernel_rfl
theorem sc__law_frac : FnScope N__law_frac ["top", "bottom"] (defScope (top 51)) := ⟨rfl, rfl, rfl, by decide +kernel, rfl, by decide +kernel, by decide +kernel⟩
def ct__law_plus : Ct := ⟨N__law_plus, defScope (top 52), [("_law_frac", 2)], [], [], [], false⟩
theorem chk__law_plus : okSs ct__law_plus ir__law_plus (defBody (top 52)) = true := by kernel_rfl
theorem sc__law_plus : FnScope N__law_plus ["one", "other"] (defScope (top 52)) := ⟨rfl, rfl, rfl, by decide +kernel, rfl, by decide +kernel, by decide +kernel⟩
def ct__law_less : Ct := ⟨N__law_less, defScope (top 53), [], [], [], [], false⟩
theorem chk__law_less : okSs ct__law_less ir__law_less (defBody (top 53)) = true := by kernel_rfl
theorem sc__law_less : FnScope N__law_less ["one", "other"] (defScope (top 53)) := ⟨rfl, rfl, rfl, by decide +kernel, rfl, by decide +kernel, by decide +kernel⟩
def ct__law_works : Ct := ⟨N__law_works, defScope (top 54), [("_law_take", 2), ("_law_pipe", 5)], ["len", "tuple", "sorted", "list", "range", "min", "max", "int", "zip"], [], [], false⟩
theorem chk__law_works : okSs ct__law_works ir__law_works (defBody (top 54)) = true := by kernel_rfl
theorem sc__law_works : FnScope N__law_works ["well", "tanks_so", "junctions_so", "dry"] (defScope (top 54)) := ⟨rfl, rfl, rfl, by decide +kernel, rfl, by decide +kernel, by decide +kernel⟩
def ct__law_pipe : Ct := ⟨N__law_pipe, defScope (top 55), [("_law_take", 2)], ["min", "max"], [], [], false⟩
theorem chk__law_pipe : okSs ct__law_pipe ir__law_pipe (defBody (top 55)) = true := by kernel_rfl
theorem sc__law_pipe : FnScope N__law_pipe ["well", "pipes", "one", "other", "flap"] (defScope (top 55)) := ⟨rfl, rfl, rfl, by decide +kernel, rfl, by decide +kernel, by decide +kernel⟩
def ct__law_lots : Ct := ⟨N__law_lots, defScope (top 56), [], ["sorted", "len"], [], [], false⟩
theorem chk__law_lots : okSs ct__law_lots ir__law_lots (defBody (top 56)) = true := by kernel_rfl
theorem sc__law_lots : FnScope N__law_lots ["flaps"] (defScope (top 56)) := ⟨rfl, rfl, rfl, by decide +kernel, rfl, by decide +kernel, by decide +kernel⟩
def ct__law_wedged : Ct := ⟨N__law_wedged, defScope (top 57), [], ["tuple"], [], [], false⟩
theorem chk__law_wedged : okSs ct__law_wedged ir__law_wedged (defBody (top 57)) = true := by kernel_rfl
theorem sc__law_wedged : FnScope N__law_wedged ["works", "lot"] (defScope (top 57)) := ⟨rfl, rfl, rfl, by decide +kernel, rfl, by decide +kernel, by decide +kernel⟩
def ct_law : Ct := ⟨N_law_k31, defScope (top 58), [("_law_well", 2), ("_law_works", 4), ("_law_take", 2), ("_law_lots", 1), ("levels", 1), ("_law_wedged", 2), ("_law_plus", 2), ("_law_less", 2), ("fewest_wedged", 3)], ["range", "max", "min", "len", "dict"], [], [], false⟩
theorem chk_law : okSs ct_law ir_law_k31 (defBody (top 58)) = true := by kernel_rfl
theorem sc_law : FnScope N_law_k31 ["script"] (defScope (top 58)) := ⟨rfl, rfl, rfl, by decide +kernel, rfl, by decide +kernel, by decide +kernel⟩
noncomputable def PHI : Str → FS := fun x =>
  if x = "divisor" then fs_divisor else
  if x = "fraction" then fs_fraction else
  if x = "plus" then fs_arith (· + ·) else
  if x = "minus" then fs_arith (· - ·) else
  if x = "times" then fs_arith (· * ·) else
  if x = "shared" then fs_shared else
  if x = "is_less" then fs_less else
  if x = "is_whole" then fs_is_whole else
  if x = "is_fraction" then fs_is_fraction else
  if x = "solved" then fs_solved else
  if x = "goes" then fs_goes else
  if x = "levels_with" then fs_levels_with else
  if x = "lift" then fs_lift else
  if x = "choices" then fs_choices else
  if x = "flaps_of" then fs_flaps_of else
  if x = "is_name" then fs_is_name else
  if x = "are_rising" then fs_are_rising else
  if x = "are_places" then fs_are_places else
  if x = "is_pipe" then fs_is_pipe else
  if x = "names_of" then fs_names_of else
  if x = "hangs_on" then fs_hangs_on else
  if x = "is_works" then fs_is_works else
  if x = "need_works" then fs_need_works else
  if x = "need_junction" then fs_need_junction else
  if x = "need_level" then fs_need_level else
  if x = "all_levels" then fs_all_levels else
  if x = "levels" then fs_levels else
  if x = "lots" then fs_lots 5 else
  if x = "wedged" then fs_wedgedp else
  if x = "fewest_wedged" then fs_fewest else
  if x = "_law_well" then fs_well else
  if x = "_law_take" then fs_take else
  if x = "_law_frac" then fs_fraction else
  if x = "_law_plus" then fs_arith (· + ·) else
  if x = "_law_less" then fs_less else
  if x = "_law_works" then fs_lworks else
  if x = "_law_pipe" then fs_lpipe else
  if x = "_law_lots" then fs_llots else
  if x = "_law_wedged" then (fun ds μ Q E => (∃ lot, ds[1]? = some (lotT lot)) ∧ fs_wedgedp ds μ Q E) else
  if x = "law" then fs_law else
  fun _ _ _ _ => False
theorem phi_divisor : PHI "divisor" = fs_divisor := by unfold PHI; rw [if_pos rfl]
theorem phi_fraction : PHI "fraction" = fs_fraction := by unfold PHI; rw [if_neg (by decide +kernel), if_pos rfl]
theorem phi_plus : PHI "plus" = fs_arith (· + ·) := by unfold PHI; rw [if_neg (by decide +kernel), if_neg (by decide +kernel), if_pos rfl]
theorem phi_minus : PHI "minus" = fs_arith (· - ·) := by unfold PHI; rw [if_neg (by decide +kernel), if_neg (by decide +kernel), if_neg (by decide +kernel), if_pos rfl]
theorem phi_times : PHI "times" = fs_arith (· * ·) := by unfold PHI; rw [if_neg (by decide +kernel), if_neg (by decide +kernel), if_neg (by decide +kernel), if_neg (by decide +kernel), if_pos rfl]
theorem phi_shared : PHI "shared" = fs_shared := by unfold PHI; rw [if_neg (by decide +kernel), if_neg (by decide +kernel), if_neg (by decide +kernel), if_neg (by decide +kernel), if_neg (by decide +kernel), if_pos rfl]
theorem phi_is_less : PHI "is_less" = fs_less := by unfold PHI; rw [if_neg (by decide +kernel), if_neg (by decide +kernel), if_neg (by decide +kernel), if_neg (by decide +kernel), if_neg (by decide +kernel), if_neg (by decide +kernel), if_pos rfl]
theorem phi_is_whole : PHI "is_whole" = fs_is_whole := by unfold PHI; rw [if_neg (by decide +kernel), if_neg (by decide +kernel), if_neg (by decide +kernel), if_neg (by decide +kernel), if_neg (by decide +kernel), if_neg (by decide +kernel), if_neg (by decide +kernel), if_pos rfl]
theorem phi_is_fraction : PHI "is_fraction" = fs_is_fraction := by unfold PHI; rw [if_neg (by decide +kernel), if_neg (by decide +kernel), if_neg (by decide +kernel), if_neg (by decide +kernel), if_neg (by decide +kernel), if_neg (by decide +kernel), if_neg (by decide +kernel), if_neg (by decide +kernel), if_pos rfl]
theorem phi_solved : PHI "solved" = fs_solved := by unfold PHI; rw [if_neg (by decide +kernel), if_neg (by decide +kernel), if_neg (by decide +kernel), if_neg (by decide +kernel), if_neg (by decide +kernel), if_neg (by decide +kernel), if_neg (by decide +kernel), if_neg (by decide +kernel), if_neg (by decide +kernel), if_pos rfl]
theorem phi_goes : PHI "goes" = fs_goes := by unfold PHI; rw [if_neg (by decide +kernel), if_neg (by decide +kernel), if_neg (by decide +kernel), if_neg (by decide +kernel), if_neg (by decide +kernel), if_neg (by decide +kernel), if_neg (by decide +kernel), if_neg (by decide +kernel), if_neg (by decide +kernel), if_neg (by decide +kernel), if_pos rfl]
theorem phi_levels_with : PHI "levels_with" = fs_levels_with := by unfold PHI; rw [if_neg (by decide +kernel), if_neg (by decide +kernel), if_neg (by decide +kernel), if_neg (by decide +kernel), if_neg (by decide +kernel), if_neg (by decide +kernel), if_neg (by decide +kernel), if_neg (by decide +kernel), if_neg (by decide +kernel), if_neg (by decide +kernel), if_neg (by decide +kernel), if_pos rfl]
theorem phi_lift : PHI "lift" = fs_lift := by unfold PHI; rw [if_neg (by decide +kernel), if_neg (by decide +kernel), if_neg (by decide +kernel), if_neg (by decide +kernel), if_neg (by decide +kernel), if_neg (by decide +kernel), if_neg (by decide +kernel), if_neg (by decide +kernel), if_neg (by decide +kernel), if_neg (by decide +kernel), if_neg (by decide +kernel), if_neg (by decide +kernel), if_pos rfl]
theorem phi_choices : PHI "choices" = fs_choices := by unfold PHI; rw [if_neg (by decide +kernel), if_neg (by decide +kernel), if_neg (by decide +kernel), if_neg (by decide +kernel), if_neg (by decide +kernel), if_neg (by decide +kernel), if_neg (by decide +kernel), if_neg (by decide +kernel), if_neg (by decide +kernel), if_neg (by decide +kernel), if_neg (by decide +kernel), if_neg (by decide +kernel), if_neg (by decide +kernel), if_pos rfl]
theorem phi_flaps_of : PHI "flaps_of" = fs_flaps_of := by unfold PHI; rw [if_neg (by decide +kernel), if_neg (by decide +kernel), if_neg (by decide +kernel), if_neg (by decide +kernel), if_neg (by decide +kernel), if_neg (by decide +kernel), if_neg (by decide +kernel), if_neg (by decide +kernel), if_neg (by decide +kernel), if_neg (by decide +kernel), if_neg (by decide +kernel), if_neg (by decide +kernel), if_neg (by decide +kernel), if_neg (by decide +kernel), if_pos rfl]
theorem phi_is_name : PHI "is_name" = fs_is_name := by unfold PHI; rw [if_neg (by decide +kernel), if_neg (by decide +kernel), if_neg (by decide +kernel), if_neg (by decide +kernel), if_neg (by decide +kernel), if_neg (by decide +kernel), if_neg (by decide +kernel), if_neg (by decide +kernel), if_neg (by decide +kernel), if_neg (by decide +kernel), if_neg (by decide +kernel), if_neg (by decide +kernel), if_neg (by decide +kernel), if_neg (by decide +kernel), if_neg (by decide +kernel), if_pos rfl]
theorem phi_are_rising : PHI "are_rising" = fs_are_rising := by unfold PHI; rw [if_neg (by decide +kernel), if_neg (by decide +kernel), if_neg (by decide +kernel), if_neg (by decide +kernel), if_neg (by decide +kernel), if_neg (by decide +kernel), if_neg (by decide +kernel), if_neg (by decide +kernel), if_neg (by decide +kernel), if_neg (by decide +kernel), if_neg (by decide +kernel), if_neg (by decide +kernel), if_neg (by decide +kernel), if_neg (by decide +kernel), if_neg (by decide +kernel), if_neg (by decide +kernel), if_pos rfl]
theorem phi_are_places : PHI "are_places" = fs_are_places := by unfold PHI; rw [if_neg (by decide +kernel), if_neg (by decide +kernel), if_neg (by decide +kernel), if_neg (by decide +kernel), if_neg (by decide +kernel), if_neg (by decide +kernel), if_neg (by decide +kernel), if_neg (by decide +kernel), if_neg (by decide +kernel), if_neg (by decide +kernel), if_neg (by decide +kernel), if_neg (by decide +kernel), if_neg (by decide +kernel), if_neg (by decide +kernel), if_neg (by decide +kernel), if_neg (by decide +kernel), if_neg (by decide +kernel), if_pos rfl]
theorem phi_is_pipe : PHI "is_pipe" = fs_is_pipe := by unfold PHI; rw [if_neg (by decide +kernel), if_neg (by decide +kernel), if_neg (by decide +kernel), if_neg (by decide +kernel), if_neg (by decide +kernel), if_neg (by decide +kernel), if_neg (by decide +kernel), if_neg (by decide +kernel), if_neg (by decide +kernel), if_neg (by decide +kernel), if_neg (by decide +kernel), if_neg (by decide +kernel), if_neg (by decide +kernel), if_neg (by decide +kernel), if_neg (by decide +kernel), if_neg (by decide +kernel), if_neg (by decide +kernel), if_neg (by decide +kernel), if_pos rfl]
theorem phi_names_of : PHI "names_of" = fs_names_of := by unfold PHI; rw [if_neg (by decide +kernel), if_neg (by decide +kernel), if_neg (by decide +kernel), if_neg (by decide +kernel), if_neg (by decide +kernel), if_neg (by decide +kernel), if_neg (by decide +kernel), if_neg (by decide +kernel), if_neg (by decide +kernel), if_neg (by decide +kernel), if_neg (by decide +kernel), if_neg (by decide +kernel), if_neg (by decide +kernel), if_neg (by decide +kernel), if_neg (by decide +kernel), if_neg (by decide +kernel), if_neg (by decide +kernel), if_neg (by decide +kernel), if_neg (by decide +kernel), if_pos rfl]
theorem phi_hangs_on : PHI "hangs_on" = fs_hangs_on := by unfold PHI; rw [if_neg (by decide +kernel), if_neg (by decide +kernel), if_neg (by decide +kernel), if_neg (by decide +kernel), if_neg (by decide +kernel), if_neg (by decide +kernel), if_neg (by decide +kernel), if_neg (by decide +kernel), if_neg (by decide +kernel), if_neg (by decide +kernel), if_neg (by decide +kernel), if_neg (by decide +kernel), if_neg (by decide +kernel), if_neg (by decide +kernel), if_neg (by decide +kernel), if_neg (by decide +kernel), if_neg (by decide +kernel), if_neg (by decide +kernel), if_neg (by decide +kernel), if_neg (by decide +kernel), if_pos rfl]
theorem phi_is_works : PHI "is_works" = fs_is_works := by unfold PHI; rw [if_neg (by decide +kernel), if_neg (by decide +kernel), if_neg (by decide +kernel), if_neg (by decide +kernel), if_neg (by decide +kernel), if_neg (by decide +kernel), if_neg (by decide +kernel), if_neg (by decide +kernel), if_neg (by decide +kernel), if_neg (by decide +kernel), if_neg (by decide +kernel), if_neg (by decide +kernel), if_neg (by decide +kernel), if_neg (by decide +kernel), if_neg (by decide +kernel), if_neg (by decide +kernel), if_neg (by decide +kernel), if_neg (by decide +kernel), if_neg (by decide +kernel), if_neg (by decide +kernel), if_neg (by decide +kernel), if_pos rfl]
theorem phi_need_works : PHI "need_works" = fs_need_works := by unfold PHI; rw [if_neg (by decide +kernel), if_neg (by decide +kernel), if_neg (by decide +kernel), if_neg (by decide +kernel), if_neg (by decide +kernel), if_neg (by decide +kernel), if_neg (by decide +kernel), if_neg (by decide +kernel), if_neg (by decide +kernel), if_neg (by decide +kernel), if_neg (by decide +kernel), if_neg (by decide +kernel), if_neg (by decide +kernel), if_neg (by decide +kernel), if_neg (by decide +kernel), if_neg (by decide +kernel), if_neg (by decide +kernel), if_neg (by decide +kernel), if_neg (by decide +kernel), if_neg (by decide +kernel), if_neg (by decide +kernel), if_neg (by decide +kernel), if_pos rfl]
theorem phi_need_junction : PHI "need_junction" = fs_need_junction := by unfold PHI; rw [if_neg (by decide +kernel), if_neg (by decide +kernel), if_neg (by decide +kernel), if_neg (by decide +kernel), if_neg (by decide +kernel), if_neg (by decide +kernel), if_neg (by decide +kernel), if_neg (by decide +kernel), if_neg (by decide +kernel), if_neg (by decide +kernel), if_neg (by decide +kernel), if_neg (by decide +kernel), if_neg (by decide +kernel), if_neg (by decide +kernel), if_neg (by decide +kernel), if_neg (by decide +kernel), if_neg (by decide +kernel), if_neg (by decide +kernel), if_neg (by decide +kernel), if_neg (by decide +kernel), if_neg (by decide +kernel), if_neg (by decide +kernel), if_neg (by decide +kernel), if_pos rfl]
theorem phi_need_level : PHI "need_level" = fs_need_level := by unfold PHI; rw [if_neg (by decide +kernel), if_neg (by decide +kernel), if_neg (by decide +kernel), if_neg (by decide +kernel), if_neg (by decide +kernel), if_neg (by decide +kernel), if_neg (by decide +kernel), if_neg (by decide +kernel), if_neg (by decide +kernel), if_neg (by decide +kernel), if_neg (by decide +kernel), if_neg (by decide +kernel), if_neg (by decide +kernel), if_neg (by decide +kernel), if_neg (by decide +kernel), if_neg (by decide +kernel), if_neg (by decide +kernel), if_neg (by decide +kernel), if_neg (by decide +kernel), if_neg (by decide +kernel), if_neg (by decide +kernel), if_neg (by decide +kernel), if_neg (by decide +kernel), if_neg (by decide +kernel), if_pos rfl]
theorem phi_all_levels : PHI "all_levels" = fs_all_levels := by unfold PHI; rw [if_neg (by decide +kernel), if_neg (by decide +kernel), if_neg (by decide +kernel), if_neg (by decide +kernel), if_neg (by decide +kernel), if_neg (by decide +kernel), if_neg (by decide +kernel), if_neg (by decide +kernel), if_neg (by decide +kernel), if_neg (by decide +kernel), if_neg (by decide +kernel), if_neg (by decide +kernel), if_neg (by decide +kernel), if_neg (by decide +kernel), if_neg (by decide +kernel), if_neg (by decide +kernel), if_neg (by decide +kernel), if_neg (by decide +kernel), if_neg (by decide +kernel), if_neg (by decide +kernel), if_neg (by decide +kernel), if_neg (by decide +kernel), if_neg (by decide +kernel), if_neg (by decide +kernel), if_neg (by decide +kernel), if_pos rfl]
theorem phi_levels : PHI "levels" = fs_levels := by unfold PHI; rw [if_neg (by decide +kernel), if_neg (by decide +kernel), if_neg (by decide +kernel), if_neg (by decide +kernel), if_neg (by decide +kernel), if_neg (by decide +kernel), if_neg (by decide +kernel), if_neg (by decide +kernel), if_neg (by decide +kernel), if_neg (by decide +kernel), if_neg (by decide +kernel), if_neg (by decide +kernel), if_neg (by decide +kernel), if_neg (by decide +kernel), if_neg (by decide +kernel), if_neg (by decide +kernel), if_neg (by decide +kernel), if_neg (by decide +kernel), if_neg (by decide +kernel), if_neg (by decide +kernel), if_neg (by decide +kernel), if_neg (by decide +kernel), if_neg (by decide +kernel), if_neg (by decide +kernel), if_neg (by decide +kernel), if_neg (by decide +kernel), if_pos rfl]
theorem phi_lots : PHI "lots" = fs_lots 5 := by unfold PHI; rw [if_neg (by decide +kernel), if_neg (by decide +kernel), if_neg (by decide +kernel), if_neg (by decide +kernel), if_neg (by decide +kernel), if_neg (by decide +kernel), if_neg (by decide +kernel), if_neg (by decide +kernel), if_neg (by decide +kernel), if_neg (by decide +kernel), if_neg (by decide +kernel), if_neg (by decide +kernel), if_neg (by decide +kernel), if_neg (by decide +kernel), if_neg (by decide +kernel), if_neg (by decide +kernel), if_neg (by decide +kernel), if_neg (by decide +kernel), if_neg (by decide +kernel), if_neg (by decide +kernel), if_neg (by decide +kernel), if_neg (by decide +kernel), if_neg (by decide +kernel), if_neg (by decide +kernel), if_neg (by decide +kernel), if_neg (by decide +kernel), if_neg (by decide +kernel), if_pos rfl]
theorem phi_wedged : PHI "wedged" = fs_wedgedp := by unfold PHI; rw [if_neg (by decide +kernel), if_neg (by decide +kernel), if_neg (by decide +kernel), if_neg (by decide +kernel), if_neg (by decide +kernel), if_neg (by decide +kernel), if_neg (by decide +kernel), if_neg (by decide +kernel), if_neg (by decide +kernel), if_neg (by decide +kernel), if_neg (by decide +kernel), if_neg (by decide +kernel), if_neg (by decide +kernel), if_neg (by decide +kernel), if_neg (by decide +kernel), if_neg (by decide +kernel), if_neg (by decide +kernel), if_neg (by decide +kernel), if_neg (by decide +kernel), if_neg (by decide +kernel), if_neg (by decide +kernel), if_neg (by decide +kernel), if_neg (by decide +kernel), if_neg (by decide +kernel), if_neg (by decide +kernel), if_neg (by decide +kernel), if_neg (by decide +kernel), if_neg (by decide +kernel), if_pos rfl]
theorem phi_fewest_wedged : PHI "fewest_wedged" = fs_fewest := by unfold PHI; rw [if_neg (by decide +kernel), if_neg (by decide +kernel), if_neg (by decide +kernel), if_neg (by decide +kernel), if_neg (by decide +kernel), if_neg (by decide +kernel), if_neg (by decide +kernel), if_neg (by decide +kernel), if_neg (by decide +kernel), if_neg (by decide +kernel), if_neg (by decide +kernel), if_neg (by decide +kernel), if_neg (by decide +kernel), if_neg (by decide +kernel), if_neg (by decide +kernel), if_neg (by decide +kernel), if_neg (by decide +kernel), if_neg (by decide +kernel), if_neg (by decide +kernel), if_neg (by decide +kernel), if_neg (by decide +kernel), if_neg (by decide +kernel), if_neg (by decide +kernel), if_neg (by decide +kernel), if_neg (by decide +kernel), if_neg (by decide +kernel), if_neg (by decide +kernel), if_neg (by decide +kernel), if_neg (by decide +kernel), if_pos rfl]
theorem phi__law_well : PHI "_law_well" = fs_well := by unfold PHI; rw [if_neg (by decide +kernel), if_neg (by decide +kernel), if_neg (by decide +kernel), if_neg (by decide +kernel), if_neg (by decide +kernel), if_neg (by decide +kernel), if_neg (by decide +kernel), if_neg (by decide +kernel), if_neg (by decide +kernel), if_neg (by decide +kernel), if_neg (by decide +kernel), if_neg (by decide +kernel), if_neg (by decide +kernel), if_neg (by decide +kernel), if_neg (by decide +kernel), if_neg (by decide +kernel), if_neg (by decide +kernel), if_neg (by decide +kernel), if_neg (by decide +kernel), if_neg (by decide +kernel), if_neg (by decide +kernel), if_neg (by decide +kernel), if_neg (by decide +kernel), if_neg (by decide +kernel), if_neg (by decide +kernel), if_neg (by decide +kernel), if_neg (by decide +kernel), if_neg (by decide +kernel), if_neg (by decide +kernel), if_neg (by decide +kernel), if_pos rfl]
theorem phi__law_take : PHI "_law_take" = fs_take := by unfold PHI; rw [if_neg (by decide +kernel), if_neg (by decide +kernel), if_neg (by decide +kernel), if_neg (by decide +kernel), if_neg (by decide +kernel), if_neg (by decide +kernel), if_neg (by decide +kernel), if_neg (by decide +kernel), if_neg (by decide +kernel), if_neg (by decide +kernel), if_neg (by decide +kernel), if_neg (by decide +kernel), if_neg (by decide +kernel), if_neg (by decide +kernel), if_neg (by decide +kernel), if_neg (by decide +kernel), if_neg (by decide +kernel), if_neg (by decide +kernel), if_neg (by decide +kernel), if_neg (by decide +kernel), if_neg (by decide +kernel), if_neg (by decide +kernel), if_neg (by decide +kernel), if_neg (by decide +kernel), if_neg (by decide +kernel), if_neg (by decide +kernel), if_neg (by decide +kernel), if_neg (by decide +kernel), if_neg (by decide +kernel), if_neg (by decide +kernel), if_neg (by decide +kernel), if_pos rfl]
theorem phi__law_frac : PHI "_law_frac" = fs_fraction := by unfold PHI; rw [if_neg (by decide +kernel), if_neg (by decide +kernel), if_neg (by decide +kernel), if_neg (by decide +kernel), if_neg (by decide +kernel), if_neg (by decide +kernel), if_neg (by decide +kernel), if_neg (by decide +kernel), if_neg (by decide +kernel), if_neg (by decide +kernel), if_neg (by decide +kernel), if_neg (by decide +kernel), if_neg (by decide +kernel), if_neg (by decide +kernel), if_neg (by decide +kernel), if_neg (by decide +kernel), if_neg (by decide +kernel), if_neg (by decide +kernel), if_neg (by decide +kernel), if_neg (by decide +kernel), if_neg (by decide +kernel), if_neg (by decide +kernel), if_neg (by decide +kernel), if_neg (by decide +kernel), if_neg (by decide +kernel), if_neg (by decide +kernel), if_neg (by decide +kernel), if_neg (by decide +kernel), if_neg (by decide +kernel), if_neg (by decide +kernel), if_neg (by decide +kernel), if_neg (by decide +kernel), if_pos rfl]
theorem phi__law_plus : PHI "_law_plus" = fs_arith (· + ·) := by unfold PHI; rw [if_neg (by decide +kernel), if_neg (by decide +kernel), if_neg (by decide +kernel), if_neg (by decide +kernel), if_neg (by decide +kernel), if_neg (by decide +kernel), if_neg (by decide +kernel), if_neg (by decide +kernel), if_neg (by decide +kernel), if_neg (by decide +kernel), if_neg (by decide +kernel), if_neg (by decide +kernel), if_neg (by decide +kernel), if_neg (by decide +kernel), if_neg (by decide +kernel), if_neg (by decide +kernel), if_neg (by decide +kernel), if_neg (by decide +kernel), if_neg (by decide +kernel), if_neg (by decide +kernel), if_neg (by decide +kernel), if_neg (by decide +kernel), if_neg (by decide +kernel), if_neg (by decide +kernel), if_neg (by decide +kernel), if_neg (by decide +kernel), if_neg (by decide +kernel), if_neg (by decide +kernel), if_neg (by decide +kernel), if_neg (by decide +kernel), if_neg (by decide +kernel), if_neg (by decide +kernel), if_neg (by decide +kernel), if_pos rfl]
theorem phi__law_less : PHI "_law_less" = fs_less := by unfold PHI; rw [if_neg (by decide +kernel), if_neg (by decide +kernel), if_neg (by decide +kernel), if_neg (by decide +kernel), if_neg (by decide +kernel), if_neg (by decide +kernel), if_neg (by decide +kernel), if_neg (by decide +kernel), if_neg (by decide +kernel), if_neg (by decide +kernel), if_neg (by decide +kernel), if_neg (by decide +kernel), if_neg (by decide +kernel), if_neg (by decide +kernel), if_neg (by decide +kernel), if_neg (by decide +kernel), if_neg (by decide +kernel), if_neg (by decide +kernel), if_neg (by decide +kernel), if_neg (by decide +kernel), if_neg (by decide +kernel), if_neg (by decide +kernel), if_neg (by decide +kernel), if_neg (by decide +kernel), if_neg (by decide +kernel), if_neg (by decide +kernel), if_neg (by decide +kernel), if_neg (by decide +kernel), if_neg (by decide +kernel), if_neg (by decide +kernel), if_neg (by decide +kernel), if_neg (by decide +kernel), if_neg (by decide +kernel), if_neg (by decide +kernel), if_pos rfl]
theorem phi__law_works : PHI "_law_works" = fs_lworks := by unfold PHI; rw [if_neg (by decide +kernel), if_neg (by decide +kernel), if_neg (by decide +kernel), if_neg (by decide +kernel), if_neg (by decide +kernel), if_neg (by decide +kernel), if_neg (by decide +kernel), if_neg (by decide +kernel), if_neg (by decide +kernel), if_neg (by decide +kernel), if_neg (by decide +kernel), if_neg (by decide +kernel), if_neg (by decide +kernel), if_neg (by decide +kernel), if_neg (by decide +kernel), if_neg (by decide +kernel), if_neg (by decide +kernel), if_neg (by decide +kernel), if_neg (by decide +kernel), if_neg (by decide +kernel), if_neg (by decide +kernel), if_neg (by decide +kernel), if_neg (by decide +kernel), if_neg (by decide +kernel), if_neg (by decide +kernel), if_neg (by decide +kernel), if_neg (by decide +kernel), if_neg (by decide +kernel), if_neg (by decide +kernel), if_neg (by decide +kernel), if_neg (by decide +kernel), if_neg (by decide +kernel), if_neg (by decide +kernel), if_neg (by decide +kernel), if_neg (by decide +kernel), if_pos rfl]
theorem phi__law_pipe : PHI "_law_pipe" = fs_lpipe := by unfold PHI; rw [if_neg (by decide +kernel), if_neg (by decide +kernel), if_neg (by decide +kernel), if_neg (by decide +kernel), if_neg (by decide +kernel), if_neg (by decide +kernel), if_neg (by decide +kernel), if_neg (by decide +kernel), if_neg (by decide +kernel), if_neg (by decide +kernel), if_neg (by decide +kernel), if_neg (by decide +kernel), if_neg (by decide +kernel), if_neg (by decide +kernel), if_neg (by decide +kernel), if_neg (by decide +kernel), if_neg (by decide +kernel), if_neg (by decide +kernel), if_neg (by decide +kernel), if_neg (by decide +kernel), if_neg (by decide +kernel), if_neg (by decide +kernel), if_neg (by decide +kernel), if_neg (by decide +kernel), if_neg (by decide +kernel), if_neg (by decide +kernel), if_neg (by decide +kernel), if_neg (by decide +kernel), if_neg (by decide +kernel), if_neg (by decide +kernel), if_neg (by decide +kernel), if_neg (by decide +kernel), if_neg (by decide +kernel), if_neg (by decide +kernel), if_neg (by decide +kernel), if_neg (by decide +kernel), if_pos rfl]
theorem phi__law_lots : PHI "_law_lots" = fs_llots := by unfold PHI; rw [if_neg (by decide +kernel), if_neg (by decide +kernel), if_neg (by decide +kernel), if_neg (by decide +kernel), if_neg (by decide +kernel), if_neg (by decide +kernel), if_neg (by decide +kernel), if_neg (by decide +kernel), if_neg (by decide +kernel), if_neg (by decide +kernel), if_neg (by decide +kernel), if_neg (by decide +kernel), if_neg (by decide +kernel), if_neg (by decide +kernel), if_neg (by decide +kernel), if_neg (by decide +kernel), if_neg (by decide +kernel), if_neg (by decide +kernel), if_neg (by decide +kernel), if_neg (by decide +kernel), if_neg (by decide +kernel), if_neg (by decide +kernel), if_neg (by decide +kernel), if_neg (by decide +kernel), if_neg (by decide +kernel), if_neg (by decide +kernel), if_neg (by decide +kernel), if_neg (by decide +kernel), if_neg (by decide +kernel), if_neg (by decide +kernel), if_neg (by decide +kernel), if_neg (by decide +kernel), if_neg (by decide +kernel), if_neg (by decide +kernel), if_neg (by decide +kernel), if_neg (by decide +kernel), if_neg (by decide +kernel), if_pos rfl]
theorem phi__law_wedged : PHI "_law_wedged" = (fun ds μ Q E => (∃ lot, ds[1]? = some (lotT lot)) ∧ fs_wedgedp ds μ Q E) := by unfold PHI; rw [if_neg (by decide +kernel), if_neg (by decide +kernel), if_neg (by decide +kernel), if_neg (by decide +kernel), if_neg (by decide +kernel), if_neg (by decide +kernel), if_neg (by decide +kernel), if_neg (by decide +kernel), if_neg (by decide +kernel), if_neg (by decide +kernel), if_neg (by decide +kernel), if_neg (by decide +kernel), if_neg (by decide +kernel), if_neg (by decide +kernel), if_neg (by decide +kernel), if_neg (by decide +kernel), if_neg (by decide +kernel), if_neg (by decide +kernel), if_neg (by decide +kernel), if_neg (by decide +kernel), if_neg (by decide +kernel), if_neg (by decide +kernel), if_neg (by decide +kernel), if_neg (by decide +kernel), if_neg (by decide +kernel), if_neg (by decide +kernel), if_neg (by decide +kernel), if_neg (by decide +kernel), if_neg (by decide +kernel), if_neg (by decide +kernel), if_neg (by decide +kernel), if_neg (by decide +kernel), if_neg (by decide +kernel), if_neg (by decide +kernel), if_neg (by decide +kernel), if_neg (by decide +kernel), if_neg (by decide +kernel), if_neg (by decide +kernel), if_pos rfl]
theorem phi_law : PHI "law" = fs_law := by unfold PHI; rw [if_neg (by decide +kernel), if_neg (by decide +kernel), if_neg (by decide +kernel), if_neg (by decide +kernel), if_neg (by decide +kernel), if_neg (by decide +kernel), if_neg (by decide +kernel), if_neg (by decide +kernel), if_neg (by decide +kernel), if_neg (by decide +kernel), if_neg (by decide +kernel), if_neg (by decide +kernel), if_neg (by decide +kernel), if_neg (by decide +kernel), if_neg (by decide +kernel), if_neg (by decide +kernel), if_neg (by decide +kernel), if_neg (by decide +kernel), if_neg (by decide +kernel), if_neg (by decide +kernel), if_neg (by decide +kernel), if_neg (by decide +kernel), if_neg (by decide +kernel), if_neg (by decide +kernel), if_neg (by decide +kernel), if_neg (by decide +kernel), if_neg (by decide +kernel), if_neg (by decide +kernel), if_neg (by decide +kernel), if_neg (by decide +kernel), if_neg (by decide +kernel), if_neg (by decide +kernel), if_neg (by decide +kernel), if_neg (by decide +kernel), if_neg (by decide +kernel), if_neg (by decide +kernel), if_neg (by decide +kernel), if_neg (by decide +kernel), if_neg (by decide +kernel), if_pos rfl]
/-- a def keeps its promise -/
def OKF (P : Program) (w : World) (K : PySem.W.Frag) (mg : Str → Option Value) (base : Heap) (x : Str) (n lv : Nat) (fs : FS) : Prop :=
  ∃ (k : Nat) (fa : Addr) (fd : FuncData) (ps : List Str), FnOk P w K mg base (L2.CX P w) k fa fd ps (SpD K mg n fs) ∧ k ≤ lv ∧ mg x = some (.ref fa) ∧ PySem.W.keepIn K (.ref fa) = true ∧ Binds K fd ps []
theorem OKF.up {P : Program} {w : World} {K : PySem.W.Frag} {mg : Str → Option Value} {base : Heap} {x : Str} {n lv lv' : Nat} {fs : FS} (h : OKF P w K mg base x n lv fs) (hl : lv ≤ lv') : OKF P w K mg base x n lv' fs := by
  obtain ⟨k, fa, fd, ps, h1, h2, h3⟩ := h
  exact ⟨k, fa, fd, ps, h1, Nat.le_trans h2 hl, h3⟩
theorem OKF.to {P : Program} {w : World} {K : PySem.W.Frag} {mg : Str → Option Value} {base : Heap} {x : Str} {n lv : Nat} {fs fs' : FS} (h : OKF P w K mg base x n lv fs) (e : fs' = fs) : OKF P w K mg base x n lv fs' := by rw [e]; exact h
/-- where a def stands -/
def DefF (K : PySem.W.Frag) (mg : Str → Option Value) (x : Str) (st : Stmt) : Prop := ∃ (f : Addr) (fd : FuncData), FunD K x x (defArgs st) (defBody st) (defScope st) [] [] f fd ∧ mg x = some (.ref f)
def GlF (K : PySem.W.Frag) (mg : Str → Option Value) (x : Str) (d : D) : Prop := ∃ v u, mg x = some u ∧ RelV v u ∧ ∀ g H, Rep K g H d v
structure Facts (K : PySem.W.Frag) (mg : Str → Option Value) : Prop where
  d_divisor : DefF K mg "divisor" (top 2)
  d_fraction : DefF K mg "fraction" (top 3)
  d_plus : DefF K mg "plus" (top 4)
  d_minus : DefF K mg "minus" (top 5)
  d_times : DefF K mg "times" (top 6)
  d_shared : DefF K mg "shared" (top 7)
  d_is_less : DefF K mg "is_less" (top 8)
  d_is_whole : DefF K mg "is_whole" (top 9)
  d_is_fraction : DefF K mg "is_fraction" (top 10)
  d_solved : DefF K mg "solved" (top 12)
  d_goes : DefF K mg "goes" (top 13)
  d_levels_with : DefF K mg "levels_with" (top 14)
  d_lift : DefF K mg "lift" (top 15)
  d_choices : DefF K mg "choices" (top 16)
  d_flaps_of : DefF K mg "flaps_of" (top 17)
  d_is_name : DefF K mg "is_name" (top 31)
  d_are_rising : DefF K mg "are_rising" (top 32)
  d_are_places : DefF K mg "are_places" (top 33)
  d_is_pipe : DefF K mg "is_pipe" (top 34)
  d_names_of : DefF K mg "names_of" (top 35)
  d_hangs_on : DefF K mg "hangs_on" (top 36)
  d_is_works : DefF K mg "is_works" (top 37)
  d_need_works : DefF K mg "need_works" (top 38)
  d_need_junction : DefF K mg "need_junction" (top 39)
  d_need_level : DefF K mg "need_level" (top 40)
  d_all_levels : DefF K mg "all_levels" (top 42)
  d_levels : DefF K mg "levels" (top 43)
  d_lots : DefF K mg "lots" (top 45)
  d_wedged : DefF K mg "wedged" (top 46)
  d_fewest_wedged : DefF K mg "fewest_wedged" (top 47)
  d__law_well : DefF K mg "_law_well" (top 49)
  d__law_take : DefF K mg "_law_take" (top 50)
  d__law_frac : DefF K mg "_law_frac" (top 51)
  d__law_plus : DefF K mg "_law_plus" (top 52)
  d__law_less : DefF K mg "_law_less" (top 53)
  d__law_works : DefF K mg "_law_works" (top 54)
  d__law_pipe : DefF K mg "_law_pipe" (top 55)
  d__law_lots : DefF K mg "_law_lots" (top 56)
  d__law_wedged : DefF K mg "_law_wedged" (top 57)
  d_law : DefF K mg "law" (top 58)
  f_abs : mg "abs" = none
  f_all : mg "all" = none
  f_bool : mg "bool" = none
  f_dict : mg "dict" = none
  f_enumerate : mg "enumerate" = none
  f_int : mg "int" = none
  f_isinstance : mg "isinstance" = none
  f_len : mg "len" = none
  f_list : mg "list" = none
  f_max : mg "max" = none
  f_min : mg "min" = none
  f_range : mg "range" = none
  f_set : mg "set" = none
  f_sorted : mg "sorted" = none
  f_str : mg "str" = none
  f_tuple : mg "tuple" = none
  f_zip : mg "zip" = none
  g_NOUGHT : GlF K mg "NOUGHT" (.tup [.int 0, .int 1])
  g_LETTERS : GlF K mg "LETTERS" (.str "abcdefghijklmnopqrstuvwxyz")
  g_MOST_LEVEL : GlF K mg "MOST_LEVEL" (.int 1000)
  g_MOST_WIDTH : GlF K mg "MOST_WIDTH" (.int 100)
  g_MOST_TANKS : GlF K mg "MOST_TANKS" (.int 4)
  g_MOST_JUNCTIONS : GlF K mg "MOST_JUNCTIONS" (.int 5)
  g_MOST_PIPES : GlF K mg "MOST_PIPES" (.int 9)
  g_MOST_FLAPS : GlF K mg "MOST_FLAPS" (.int 5)
section
variable {P : Program} {w : World} {K : PySem.W.Frag} {mg : Str → Option Value} {base : Heap} (F : Facts K mg)
include F
theorem ok_divisor : OKF P w K mg base "divisor" 2 1 (fs_divisor) := by
  obtain ⟨f, fd, FD, hm⟩ := F.d_divisor
  have b : Binds K fd ["one", "other"] [] := FD.bindsN fun _ _ _ _ _ _ us hl => match us, hl with | [_, _], _ => rfl
  exact ⟨1, f, fd, _, fn_data (t := ct_divisor) (k := 0) (Φ := PHI) FD sc_divisor rfl rfl rfl (by decide) ⟨fun f hf => by
      exact absurd hf List.not_mem_nil, fun b hb => by
      exact absurd hb List.not_mem_nil, fun p hp => by
      exact absurd hp List.not_mem_nil⟩ chk_divisor (p_divisor PHI), Nat.le_refl _, hm, FD.kp, b⟩
theorem ok_fraction : OKF P w K mg base "fraction" 2 2 (fs_fraction) := by
  obtain ⟨f, fd, FD, hm⟩ := F.d_fraction
  have b : Binds K fd ["top", "bottom"] [] := FD.bindsN fun _ _ _ _ _ _ us hl => match us, hl with | [_, _], _ => rfl
  exact ⟨2, f, fd, _, fn_data (t := ct_fraction) (k := 1) (Φ := PHI) FD sc_fraction rfl rfl rfl (by decide) ⟨fun f hf => by
      rcases List.mem_cons.mp hf with rfl | hf
      · exact ((ok_divisor (P := P) (w := w) (base := base) F).up (Nat.le_of_ble_eq_true rfl)).to phi_divisor
      exact absurd hf List.not_mem_nil, fun b hb => by
      rcases List.mem_cons.mp hb with rfl | hb
      · exact F.f_abs
      exact absurd hb List.not_mem_nil, fun p hp => by
      exact absurd hp List.not_mem_nil⟩ chk_fraction (p_fraction PHI phi_divisor), Nat.le_refl _, hm, FD.kp, b⟩
theorem ok_plus : OKF P w K mg base "plus" 2 3 (fs_arith (· + ·)) := by
  obtain ⟨f, fd, FD, hm⟩ := F.d_plus
  have b : Binds K fd ["one", "other"] [] := FD.bindsN fun _ _ _ _ _ _ us hl => match us, hl with | [_, _], _ => rfl
  exact ⟨3, f, fd, _, fn_data (t := ct_plus) (k := 2) (Φ := PHI) FD sc_plus rfl rfl rfl (by decide) ⟨fun f hf => by
      rcases List.mem_cons.mp hf with rfl | hf
      · exact ((ok_fraction (P := P) (w := w) (base := base) F).up (Nat.le_of_ble_eq_true rfl)).to phi_fraction
      exact absurd hf List.not_mem_nil, fun b hb => by
      exact absurd hb List.not_mem_nil, fun p hp => by
      exact absurd hp List.not_mem_nil⟩ chk_plus (p_plus PHI phi_fraction), Nat.le_refl _, hm, FD.kp, b⟩
theorem ok_minus : OKF P w K mg base "minus" 2 3 (fs_arith (· - ·)) := by
  obtain ⟨f, fd, FD, hm⟩ := F.d_minus
  have b : Binds K fd ["one", "other"] [] := FD.bindsN fun _ _ _ _ _ _ us hl => match us, hl with | [_, _], _ => rfl
  exact ⟨3, f, fd, _, fn_data (t := ct_minus) (k := 2) (Φ := PHI) FD sc_minus rfl rfl rfl (by decide) ⟨fun f hf => by
      rcases List.mem_cons.mp hf with rfl | hf
      · exact ((ok_fraction (P := P) (w := w) (base := base) F).up (Nat.le_of_ble_eq_true rfl)).to phi_fraction
      exact absurd hf List.not_mem_nil, fun b hb => by
      exact absurd hb List.not_mem_nil, fun p hp => by
      exact absurd hp List.not_mem_nil⟩ chk_minus (p_minus PHI phi_fraction), Nat.le_refl _, hm, FD.kp, b⟩
theorem ok_times : OKF P w K mg base "times" 2 3 (fs_arith (· * ·)) := by
  obtain ⟨f, fd, FD, hm⟩ := F.d_times
  have b : Binds K fd ["one", "other"] [] := FD.bindsN fun _ _ _ _ _ _ us hl => match us, hl with | [_, _], _ => rfl
  exact ⟨3, f, fd, _, fn_data (t := ct_times) (k := 2) (Φ := PHI) FD sc_times rfl rfl rfl (by decide) ⟨fun f hf => by
      rcases List.mem_cons.mp hf with rfl | hf
      · exact ((ok_fraction (P := P) (w := w) (base := base) F).up (Nat.le_of_ble_eq_true rfl)).to phi_fraction
      exact absurd hf List.not_mem_nil, fun b hb => by
      exact absurd hb List.not_mem_nil, fun p hp => by
      exact absurd hp List.not_mem_nil⟩ chk_times (p_times PHI phi_fraction), Nat.le_refl _, hm, FD.kp, b⟩
theorem ok_shared : OKF P w K mg base "shared" 2 3 (fs_shared) := by
  obtain ⟨f, fd, FD, hm⟩ := F.d_shared
  have b : Binds K fd ["one", "other"] [] := FD.bindsN fun _ _ _ _ _ _ us hl => match us, hl with | [_, _], _ => rfl
  exact ⟨3, f, fd, _, fn_data (t := ct_shared) (k := 2) (Φ := PHI) FD sc_shared rfl rfl rfl (by decide) ⟨fun f hf => by
      rcases List.mem_cons.mp hf with rfl | hf
      · exact ((ok_fraction (P := P) (w := w) (base := base) F).up (Nat.le_of_ble_eq_true rfl)).to phi_fraction
      exact absurd hf List.not_mem_nil, fun b hb => by
      exact absurd hb List.not_mem_nil, fun p hp => by
      exact absurd hp List.not_mem_nil⟩ chk_shared (p_shared PHI phi_fraction), Nat.le_refl _, hm, FD.kp, b⟩
theorem ok_is_less : OKF P w K mg base "is_less" 2 1 (fs_less) := by
  obtain ⟨f, fd, FD, hm⟩ := F.d_is_less
  have b : Binds K fd ["one", "other"] [] := FD.bindsN fun _ _ _ _ _ _ us hl => match us, hl with | [_, _], _ => rfl
  exact ⟨1, f, fd, _, fn_data (t := ct_is_less) (k := 0) (Φ := PHI) FD sc_is_less rfl rfl rfl (by decide) ⟨fun f hf => by
      exact absurd hf List.not_mem_nil, fun b hb => by
      exact absurd hb List.not_mem_nil, fun p hp => by
      exact absurd hp List.not_mem_nil⟩ chk_is_less (p_is_less PHI), Nat.le_refl _, hm, FD.kp, b⟩
theorem ok_is_whole : OKF P w K mg base "is_whole" 3 1 (fs_is_whole) := by
  obtain ⟨f, fd, FD, hm⟩ := F.d_is_whole
  have b : Binds K fd ["thing", "low", "high"] [] := FD.bindsN fun _ _ _ _ _ _ us hl => match us, hl with | [_, _, _], _ => rfl
  exact ⟨1, f, fd, _, fn_data (t := ct_is_whole) (k := 0) (Φ := PHI) FD sc_is_whole rfl rfl rfl (by decide) ⟨fun f hf => by
      exact absurd hf List.not_mem_nil, fun b hb => by
      rcases List.mem_cons.mp hb with rfl | hb
      · exact F.f_isinstance
      rcases List.mem_cons.mp hb with rfl | hb
      · exact F.f_int
      rcases List.mem_cons.mp hb with rfl | hb
      · exact F.f_bool
      exact absurd hb List.not_mem_nil, fun p hp => by
      exact absurd hp List.not_mem_nil⟩ chk_is_whole (p_is_whole PHI), Nat.le_refl _, hm, FD.kp, b⟩
theorem ok_is_fraction : OKF P w K mg base "is_fraction" 1 2 (fs_is_fraction) := by
  obtain ⟨f, fd, FD, hm⟩ := F.d_is_fraction
  have b : Binds K fd ["thing"] [] := FD.bindsN fun _ _ _ _ _ _ us hl => match us, hl with | [_], _ => rfl
  exact ⟨2, f, fd, _, fn_data (t := ct_is_fraction) (k := 1) (Φ := PHI) FD sc_is_fraction rfl rfl rfl (by decide) ⟨fun f hf => by
      rcases List.mem_cons.mp hf with rfl | hf
      · exact ((ok_divisor (P := P) (w := w) (base := base) F).up (Nat.le_of_ble_eq_true rfl)).to phi_divisor
      exact absurd hf List.not_mem_nil, fun b hb => by
      rcases List.mem_cons.mp hb with rfl | hb
      · exact F.f_isinstance
      rcases List.mem_cons.mp hb with rfl | hb
      · exact F.f_tuple
      rcases List.mem_cons.mp hb with rfl | hb
      · exact F.f_len
      rcases List.mem_cons.mp hb with rfl | hb
      · exact F.f_all
      rcases List.mem_cons.mp hb with rfl | hb
      · exact F.f_int
      rcases List.mem_cons.mp hb with rfl | hb
      · exact F.f_bool
      rcases List.mem_cons.mp hb with rfl | hb
      · exact F.f_abs
      exact absurd hb List.not_mem_nil, fun p hp => by
      exact absurd hp List.not_mem_nil⟩ chk_is_fraction (p_is_fraction PHI phi_divisor), Nat.le_refl _, hm, FD.kp, b⟩
theorem ok_solved : OKF P w K mg base "solved" 1 4 (fs_solved) := by
  obtain ⟨f, fd, FD, hm⟩ := F.d_solved
  have b : Binds K fd ["rows"] [] := FD.bindsN fun _ _ _ _ _ _ us hl => match us, hl with | [_], _ => rfl
  exact ⟨4, f, fd, _, fn_data (t := ct_solved) (k := 3) (Φ := PHI) FD sc_solved rfl rfl rfl (by decide) ⟨fun f hf => by
      rcases List.mem_cons.mp hf with rfl | hf
      · exact ((ok_shared (P := P) (w := w) (base := base) F).up (Nat.le_of_ble_eq_true rfl)).to phi_shared
      rcases List.mem_cons.mp hf with rfl | hf
      · exact ((ok_minus (P := P) (w := w) (base := base) F).up (Nat.le_of_ble_eq_true rfl)).to phi_minus
      rcases List.mem_cons.mp hf with rfl | hf
      · exact ((ok_times (P := P) (w := w) (base := base) F).up (Nat.le_of_ble_eq_true rfl)).to phi_times
      exact absurd hf List.not_mem_nil, fun b hb => by
      rcases List.mem_cons.mp hb with rfl | hb
      · exact F.f_list
      rcases List.mem_cons.mp hb with rfl | hb
      · exact F.f_len
      rcases List.mem_cons.mp hb with rfl | hb
      · exact F.f_range
      rcases List.mem_cons.mp hb with rfl | hb
      · exact F.f_zip
      exact absurd hb List.not_mem_nil, fun p hp => by
      rcases List.mem_cons.mp hp with rfl | hp
      · exact F.g_NOUGHT
      exact absurd hp List.not_mem_nil⟩ chk_solved (p_solved PHI phi_minus phi_times phi_shared), Nat.le_refl _, hm, FD.kp, b⟩
theorem ok_goes : OKF P w K mg base "goes" 2 1 (fs_goes) := by
  obtain ⟨f, fd, FD, hm⟩ := F.d_goes
  have b : Binds K fd ["pipe", "is_open"] [] := FD.bindsN fun _ _ _ _ _ _ us hl => match us, hl with | [_, _], _ => rfl
  exact ⟨1, f, fd, _, fn_data (t := ct_goes) (k := 0) (Φ := PHI) FD sc_goes rfl rfl rfl (by decide) ⟨fun f hf => by
      exact absurd hf List.not_mem_nil, fun b hb => by
      exact absurd hb List.not_mem_nil, fun p hp => by
      exact absurd hp List.not_mem_nil⟩ chk_goes (p_goes PHI), Nat.le_refl _, hm, FD.kp, b⟩
theorem ok_levels_with : OKF P w K mg base "levels_with" 4 5 (fs_levels_with) := by
  obtain ⟨f, fd, FD, hm⟩ := F.d_levels_with
  have b : Binds K fd ["works", "tanks", "taps", "is_open"] [] := FD.bindsN fun _ _ _ _ _ _ us hl => match us, hl with | [_, _, _, _], _ => rfl
  exact ⟨5, f, fd, _, fn_data (t := ct_levels_with) (k := 4) (Φ := PHI) FD sc_levels_with rfl rfl rfl (by decide) ⟨fun f hf => by
      rcases List.mem_cons.mp hf with rfl | hf
      · exact ((ok_minus (P := P) (w := w) (base := base) F).up (Nat.le_of_ble_eq_true rfl)).to phi_minus
      rcases List.mem_cons.mp hf with rfl | hf
      · exact ((ok_goes (P := P) (w := w) (base := base) F).up (Nat.le_of_ble_eq_true rfl)).to phi_goes
      rcases List.mem_cons.mp hf with rfl | hf
      · exact ((ok_plus (P := P) (w := w) (base := base) F).up (Nat.le_of_ble_eq_true rfl)).to phi_plus
      rcases List.mem_cons.mp hf with rfl | hf
      · exact ((ok_times (P := P) (w := w) (base := base) F).up (Nat.le_of_ble_eq_true rfl)).to phi_times
      rcases List.mem_cons.mp hf with rfl | hf
      · exact ((ok_solved (P := P) (w := w) (base := base) F).up (Nat.le_of_ble_eq_true rfl)).to phi_solved
      exact absurd hf List.not_mem_nil, fun b hb => by
      rcases List.mem_cons.mp hb with rfl | hb
      · exact F.f_len
      rcases List.mem_cons.mp hb with rfl | hb
      · exact F.f_dict
      rcases List.mem_cons.mp hb with rfl | hb
      · exact F.f_zip
      exact absurd hb List.not_mem_nil, fun p hp => by
      rcases List.mem_cons.mp hp with rfl | hp
      · exact F.g_NOUGHT
      exact absurd hp List.not_mem_nil⟩ chk_levels_with (p_levels_with PHI phi_minus phi_times phi_plus phi_goes phi_solved), Nat.le_refl _, hm, FD.kp, b⟩
theorem ok_lift : OKF P w K mg base "lift" 2 4 (fs_lift) := by
  obtain ⟨f, fd, FD, hm⟩ := F.d_lift
  have b : Binds K fd ["pipe", "levels"] [] := FD.bindsN fun _ _ _ _ _ _ us hl => match us, hl with | [_, _], _ => rfl
  exact ⟨4, f, fd, _, fn_data (t := ct_lift) (k := 3) (Φ := PHI) FD sc_lift rfl rfl rfl (by decide) ⟨fun f hf => by
      rcases List.mem_cons.mp hf with rfl | hf
      · exact ((ok_minus (P := P) (w := w) (base := base) F).up (Nat.le_of_ble_eq_true rfl)).to phi_minus
      exact absurd hf List.not_mem_nil, fun b hb => by
      exact absurd hb List.not_mem_nil, fun p hp => by
      exact absurd hp List.not_mem_nil⟩ chk_lift (p_lift PHI phi_minus), Nat.le_refl _, hm, FD.kp, b⟩
theorem ok_choices : OKF P w K mg base "choices" 1 1 (fs_choices) := by
  obtain ⟨f, fd, FD, hm⟩ := F.d_choices
  have b : Binds K fd ["some"] [] := FD.bindsN fun _ _ _ _ _ _ us hl => match us, hl with | [_], _ => rfl
  exact ⟨1, f, fd, _, fn_data (t := ct_choices) (k := 0) (Φ := PHI) FD sc_choices rfl rfl rfl (by decide) ⟨fun f hf => by
      exact absurd hf List.not_mem_nil, fun b hb => by
      exact absurd hb List.not_mem_nil, fun p hp => by
      exact absurd hp List.not_mem_nil⟩ chk_choices (p_choices PHI), Nat.le_refl _, hm, FD.kp, b⟩
theorem ok_flaps_of : OKF P w K mg base "flaps_of" 1 1 (fs_flaps_of) := by
  obtain ⟨f, fd, FD, hm⟩ := F.d_flaps_of
  have b : Binds K fd ["works"] [] := FD.bindsN fun _ _ _ _ _ _ us hl => match us, hl with | [_], _ => rfl
  exact ⟨1, f, fd, _, fn_data (t := ct_flaps_of) (k := 0) (Φ := PHI) FD sc_flaps_of rfl rfl rfl (by decide) ⟨fun f hf => by
      exact absurd hf List.not_mem_nil, fun b hb => by
      exact absurd hb List.not_mem_nil, fun p hp => by
      exact absurd hp List.not_mem_nil⟩ chk_flaps_of (p_flaps_of PHI), Nat.le_refl _, hm, FD.kp, b⟩
theorem ok_is_name : OKF P w K mg base "is_name" 1 1 (fs_is_name) := by
  obtain ⟨f, fd, FD, hm⟩ := F.d_is_name
  have b : Binds K fd ["thing"] [] := FD.bindsN fun _ _ _ _ _ _ us hl => match us, hl with | [_], _ => rfl
  exact ⟨1, f, fd, _, fn_data (t := ct_is_name) (k := 0) (Φ := PHI) FD sc_is_name rfl rfl rfl (by decide) ⟨fun f hf => by
      exact absurd hf List.not_mem_nil, fun b hb => by
      rcases List.mem_cons.mp hb with rfl | hb
      · exact F.f_isinstance
      rcases List.mem_cons.mp hb with rfl | hb
      · exact F.f_str
      rcases List.mem_cons.mp hb with rfl | hb
      · exact F.f_len
      rcases List.mem_cons.mp hb with rfl | hb
      · exact F.f_all
      exact absurd hb List.not_mem_nil, fun p hp => by
      rcases List.mem_cons.mp hp with rfl | hp
      · exact F.g_LETTERS
      exact absurd hp List.not_mem_nil⟩ chk_is_name (p_is_name PHI), Nat.le_refl _, hm, FD.kp, b⟩
theorem ok_are_rising : OKF P w K mg base "are_rising" 1 1 (fs_are_rising) := by
  obtain ⟨f, fd, FD, hm⟩ := F.d_are_rising
  have b : Binds K fd ["some"] [] := FD.bindsN fun _ _ _ _ _ _ us hl => match us, hl with | [_], _ => rfl
  exact ⟨1, f, fd, _, fn_data (t := ct_are_rising) (k := 0) (Φ := PHI) FD sc_are_rising rfl rfl rfl (by decide) ⟨fun f hf => by
      exact absurd hf List.not_mem_nil, fun b hb => by
      rcases List.mem_cons.mp hb with rfl | hb
      · exact F.f_all
      rcases List.mem_cons.mp hb with rfl | hb
      · exact F.f_range
      rcases List.mem_cons.mp hb with rfl | hb
      · exact F.f_len
      exact absurd hb List.not_mem_nil, fun p hp => by
      exact absurd hp List.not_mem_nil⟩ chk_are_rising (p_are_rising PHI), Nat.le_refl _, hm, FD.kp, b⟩
theorem ok_are_places : OKF P w K mg base "are_places" 3 2 (fs_are_places) := by
  obtain ⟨f, fd, FD, hm⟩ := F.d_are_places
  have b : Binds K fd ["thing", "most", "low"] [] := FD.bindsN fun _ _ _ _ _ _ us hl => match us, hl with | [_, _, _], _ => rfl
  exact ⟨2, f, fd, _, fn_data (t := ct_are_places) (k := 1) (Φ := PHI) FD sc_are_places rfl rfl rfl (by decide) ⟨fun f hf => by
      rcases List.mem_cons.mp hf with rfl | hf
      · exact ((ok_is_name (P := P) (w := w) (base := base) F).up (Nat.le_of_ble_eq_true rfl)).to phi_is_name
      rcases List.mem_cons.mp hf with rfl | hf
      · exact ((ok_is_whole (P := P) (w := w) (base := base) F).up (Nat.le_of_ble_eq_true rfl)).to phi_is_whole
      rcases List.mem_cons.mp hf with rfl | hf
      · exact ((ok_are_rising (P := P) (w := w) (base := base) F).up (Nat.le_of_ble_eq_true rfl)).to phi_are_rising
      exact absurd hf List.not_mem_nil, fun b hb => by
      rcases List.mem_cons.mp hb with rfl | hb
      · exact F.f_isinstance
      rcases List.mem_cons.mp hb with rfl | hb
      · exact F.f_tuple
      rcases List.mem_cons.mp hb with rfl | hb
      · exact F.f_len
      rcases List.mem_cons.mp hb with rfl | hb
      · exact F.f_all
      exact absurd hb List.not_mem_nil, fun p hp => by
      rcases List.mem_cons.mp hp with rfl | hp
      · exact F.g_MOST_LEVEL
      exact absurd hp List.not_mem_nil⟩ chk_are_places (p_are_places PHI phi_is_name phi_is_whole phi_are_rising), Nat.le_refl _, hm, FD.kp, b⟩
theorem ok_is_pipe : OKF P w K mg base "is_pipe" 2 2 (fs_is_pipe) := by
  obtain ⟨f, fd, FD, hm⟩ := F.d_is_pipe
  have b : Binds K fd ["names", "thing"] [] := FD.bindsN fun _ _ _ _ _ _ us hl => match us, hl with | [_, _], _ => rfl
  exact ⟨2, f, fd, _, fn_data (t := ct_is_pipe) (k := 1) (Φ := PHI) FD sc_is_pipe rfl rfl rfl (by decide) ⟨fun f hf => by
      rcases List.mem_cons.mp hf with rfl | hf
      · exact ((ok_is_whole (P := P) (w := w) (base := base) F).up (Nat.le_of_ble_eq_true rfl)).to phi_is_whole
      exact absurd hf List.not_mem_nil, fun b hb => by
      rcases List.mem_cons.mp hb with rfl | hb
      · exact F.f_isinstance
      rcases List.mem_cons.mp hb with rfl | hb
      · exact F.f_tuple
      rcases List.mem_cons.mp hb with rfl | hb
      · exact F.f_len
      rcases List.mem_cons.mp hb with rfl | hb
      · exact F.f_all
      rcases List.mem_cons.mp hb with rfl | hb
      · exact F.f_str
      exact absurd hb List.not_mem_nil, fun p hp => by
      rcases List.mem_cons.mp hp with rfl | hp
      · exact F.g_MOST_WIDTH
      exact absurd hp List.not_mem_nil⟩ chk_is_pipe (p_is_pipe PHI phi_is_whole), Nat.le_refl _, hm, FD.kp, b⟩
theorem ok_names_of : OKF P w K mg base "names_of" 1 1 (fs_names_of) := by
  obtain ⟨f, fd, FD, hm⟩ := F.d_names_of
  have b : Binds K fd ["works"] [] := FD.bindsN fun _ _ _ _ _ _ us hl => match us, hl with | [_], _ => rfl
  exact ⟨1, f, fd, _, fn_data (t := ct_names_of) (k := 0) (Φ := PHI) FD sc_names_of rfl rfl rfl (by decide) ⟨fun f hf => by
      exact absurd hf List.not_mem_nil, fun b hb => by
      exact absurd hb List.not_mem_nil, fun p hp => by
      exact absurd hp List.not_mem_nil⟩ chk_names_of (p_names_of PHI), Nat.le_refl _, hm, FD.kp, b⟩
theorem ok_hangs_on : OKF P w K mg base "hangs_on" 1 1 (fs_hangs_on) := by
  obtain ⟨f, fd, FD, hm⟩ := F.d_hangs_on
  have b : Binds K fd ["works"] [] := FD.bindsN fun _ _ _ _ _ _ us hl => match us, hl with | [_], _ => rfl
  exact ⟨1, f, fd, _, fn_data (t := ct_hangs_on) (k := 0) (Φ := PHI) FD sc_hangs_on rfl rfl rfl (by decide) ⟨fun f hf => by
      exact absurd hf List.not_mem_nil, fun b hb => by
      rcases List.mem_cons.mp hb with rfl | hb
      · exact F.f_all
      exact absurd hb List.not_mem_nil, fun p hp => by
      exact absurd hp List.not_mem_nil⟩ chk_hangs_on (p_hangs_on PHI), Nat.le_refl _, hm, FD.kp, b⟩
theorem ok_is_works : OKF P w K mg base "is_works" 1 3 (fs_is_works) := by
  obtain ⟨f, fd, FD, hm⟩ := F.d_is_works
  have b : Binds K fd ["thing"] [] := FD.bindsN fun _ _ _ _ _ _ us hl => match us, hl with | [_], _ => rfl
  exact ⟨3, f, fd, _, fn_data (t := ct_is_works) (k := 2) (Φ := PHI) FD sc_is_works rfl rfl rfl (by decide) ⟨fun f hf => by
      rcases List.mem_cons.mp hf with rfl | hf
      · exact ((ok_are_places (P := P) (w := w) (base := base) F).up (Nat.le_of_ble_eq_true rfl)).to phi_are_places
      rcases List.mem_cons.mp hf with rfl | hf
      · exact ((ok_names_of (P := P) (w := w) (base := base) F).up (Nat.le_of_ble_eq_true rfl)).to phi_names_of
      rcases List.mem_cons.mp hf with rfl | hf
      · exact ((ok_is_pipe (P := P) (w := w) (base := base) F).up (Nat.le_of_ble_eq_true rfl)).to phi_is_pipe
      rcases List.mem_cons.mp hf with rfl | hf
      · exact ((ok_are_rising (P := P) (w := w) (base := base) F).up (Nat.le_of_ble_eq_true rfl)).to phi_are_rising
      rcases List.mem_cons.mp hf with rfl | hf
      · exact ((ok_hangs_on (P := P) (w := w) (base := base) F).up (Nat.le_of_ble_eq_true rfl)).to phi_hangs_on
      exact absurd hf List.not_mem_nil, fun b hb => by
      rcases List.mem_cons.mp hb with rfl | hb
      · exact F.f_isinstance
      rcases List.mem_cons.mp hb with rfl | hb
      · exact F.f_tuple
      rcases List.mem_cons.mp hb with rfl | hb
      · exact F.f_len
      rcases List.mem_cons.mp hb with rfl | hb
      · exact F.f_set
      rcases List.mem_cons.mp hb with rfl | hb
      · exact F.f_all
      exact absurd hb List.not_mem_nil, fun p hp => by
      rcases List.mem_cons.mp hp with rfl | hp
      · exact F.g_MOST_TANKS
      rcases List.mem_cons.mp hp with rfl | hp
      · exact F.g_MOST_LEVEL
      rcases List.mem_cons.mp hp with rfl | hp
      · exact F.g_MOST_JUNCTIONS
      rcases List.mem_cons.mp hp with rfl | hp
      · exact F.g_MOST_PIPES
      rcases List.mem_cons.mp hp with rfl | hp
      · exact F.g_MOST_FLAPS
      exact absurd hp List.not_mem_nil⟩ chk_is_works (p_is_works PHI phi_are_places phi_names_of phi_is_pipe phi_are_rising phi_hangs_on), Nat.le_refl _, hm, FD.kp, b⟩
theorem ok_need_works : OKF P w K mg base "need_works" 1 4 (fs_need_works) := by
  obtain ⟨f, fd, FD, hm⟩ := F.d_need_works
  have b : Binds K fd ["works"] [] := FD.bindsN fun _ _ _ _ _ _ us hl => match us, hl with | [_], _ => rfl
  exact ⟨4, f, fd, _, fn_data (t := ct_need_works) (k := 3) (Φ := PHI) FD sc_need_works rfl rfl rfl (by decide) ⟨fun f hf => by
      rcases List.mem_cons.mp hf with rfl | hf
      · exact ((ok_is_works (P := P) (w := w) (base := base) F).up (Nat.le_of_ble_eq_true rfl)).to phi_is_works
      exact absurd hf List.not_mem_nil, fun b hb => by
      exact absurd hb List.not_mem_nil, fun p hp => by
      exact absurd hp List.not_mem_nil⟩ chk_need_works (p_need_works PHI phi_is_works), Nat.le_refl _, hm, FD.kp, b⟩
theorem ok_need_junction : OKF P w K mg base "need_junction" 2 1 (fs_need_junction) := by
  obtain ⟨f, fd, FD, hm⟩ := F.d_need_junction
  have b : Binds K fd ["works", "junction"] [] := FD.bindsN fun _ _ _ _ _ _ us hl => match us, hl with | [_, _], _ => rfl
  exact ⟨1, f, fd, _, fn_data (t := ct_need_junction) (k := 0) (Φ := PHI) FD sc_need_junction rfl rfl rfl (by decide) ⟨fun f hf => by
      exact absurd hf List.not_mem_nil, fun b hb => by
      rcases List.mem_cons.mp hb with rfl | hb
      · exact F.f_isinstance
      rcases List.mem_cons.mp hb with rfl | hb
      · exact F.f_str
      exact absurd hb List.not_mem_nil, fun p hp => by
      exact absurd hp List.not_mem_nil⟩ chk_need_junction (p_need_junction PHI), Nat.le_refl _, hm, FD.kp, b⟩
theorem ok_need_level : OKF P w K mg base "need_level" 1 3 (fs_need_level) := by
  obtain ⟨f, fd, FD, hm⟩ := F.d_need_level
  have b : Binds K fd ["level"] [] := FD.bindsN fun _ _ _ _ _ _ us hl => match us, hl with | [_], _ => rfl
  exact ⟨3, f, fd, _, fn_data (t := ct_need_level) (k := 2) (Φ := PHI) FD sc_need_level rfl rfl rfl (by decide) ⟨fun f hf => by
      rcases List.mem_cons.mp hf with rfl | hf
      · exact ((ok_is_fraction (P := P) (w := w) (base := base) F).up (Nat.le_of_ble_eq_true rfl)).to phi_is_fraction
      exact absurd hf List.not_mem_nil, fun b hb => by
      exact absurd hb List.not_mem_nil, fun p hp => by
      exact absurd hp List.not_mem_nil⟩ chk_need_level (p_need_level PHI phi_is_fraction), Nat.le_refl _, hm, FD.kp, b⟩
theorem ok_all_levels : OKF P w K mg base "all_levels" 1 6 (fs_all_levels) := by
  obtain ⟨f, fd, FD, hm⟩ := F.d_all_levels
  have b : Binds K fd ["works"] [] := FD.bindsN fun _ _ _ _ _ _ us hl => match us, hl with | [_], _ => rfl
  exact ⟨6, f, fd, _, fn_data (t := ct_all_levels) (k := 5) (Φ := PHI) FD sc_all_levels rfl rfl rfl (by decide) ⟨fun f hf => by
      rcases List.mem_cons.mp hf with rfl | hf
      · exact ((ok_choices (P := P) (w := w) (base := base) F).up (Nat.le_of_ble_eq_true rfl)).to phi_choices
      rcases List.mem_cons.mp hf with rfl | hf
      · exact ((ok_flaps_of (P := P) (w := w) (base := base) F).up (Nat.le_of_ble_eq_true rfl)).to phi_flaps_of
      rcases List.mem_cons.mp hf with rfl | hf
      · exact ((ok_levels_with (P := P) (w := w) (base := base) F).up (Nat.le_of_ble_eq_true rfl)).to phi_levels_with
      rcases List.mem_cons.mp hf with rfl | hf
      · exact ((ok_lift (P := P) (w := w) (base := base) F).up (Nat.le_of_ble_eq_true rfl)).to phi_lift
      rcases List.mem_cons.mp hf with rfl | hf
      · exact ((ok_is_less (P := P) (w := w) (base := base) F).up (Nat.le_of_ble_eq_true rfl)).to phi_is_less
      exact absurd hf List.not_mem_nil, fun b hb => by
      rcases List.mem_cons.mp hb with rfl | hb
      · exact F.f_dict
      rcases List.mem_cons.mp hb with rfl | hb
      · exact F.f_all
      exact absurd hb List.not_mem_nil, fun p hp => by
      rcases List.mem_cons.mp hp with rfl | hp
      · exact F.g_NOUGHT
      exact absurd hp List.not_mem_nil⟩ chk_all_levels (p_all_levels PHI phi_levels_with phi_lift phi_flaps_of phi_is_less phi_choices), Nat.le_refl _, hm, FD.kp, b⟩
theorem ok_levels : OKF P w K mg base "levels" 1 7 (fs_levels) := by
  obtain ⟨f, fd, FD, hm⟩ := F.d_levels
  have b : Binds K fd ["works"] [] := FD.bindsN fun _ _ _ _ _ _ us hl => match us, hl with | [_], _ => rfl
  exact ⟨7, f, fd, _, fn_data (t := ct_levels) (k := 6) (Φ := PHI) FD sc_levels rfl rfl rfl (by decide) ⟨fun f hf => by
      rcases List.mem_cons.mp hf with rfl | hf
      · exact ((ok_need_works (P := P) (w := w) (base := base) F).up (Nat.le_of_ble_eq_true rfl)).to phi_need_works
      rcases List.mem_cons.mp hf with rfl | hf
      · exact ((ok_all_levels (P := P) (w := w) (base := base) F).up (Nat.le_of_ble_eq_true rfl)).to phi_all_levels
      exact absurd hf List.not_mem_nil, fun b hb => by
      exact absurd hb List.not_mem_nil, fun p hp => by
      exact absurd hp List.not_mem_nil⟩ chk_levels (p_levels PHI phi_need_works phi_all_levels), Nat.le_refl _, hm, FD.kp, b⟩
theorem no_lots : OKF P w K mg base "lots" 2 1 (fun _ _ _ _ => False) := by
  obtain ⟨f, fd, FD, hm⟩ := F.d_lots
  have b : Binds K fd ["some", "many"] [] := FD.bindsN fun _ _ _ _ _ _ us hl => match us, hl with | [_, _], _ => rfl
  exact ⟨1, f, fd, _, ⟨fun _ _ _ _ h => (by obtain ⟨_, _, _, _, _, _, _, h, _⟩ := h; exact h.elim), fun _ _ _ _ _ _ _ _ _ _ _ _ _ h => (by obtain ⟨_, _, _, _, _, _, _, h, _⟩ := h; exact h.elim)⟩, Nat.le_refl _, hm, FD.kp, b⟩
theorem st_lots {fs fs' : FS} (lv : Nat) (h : OKF P w K mg base "lots" 2 lv fs) (hs : ∀ Φ : Str → FS, Φ "lots" = fs → ∀ ds μ Qd Ed, ds.length = 2 → fs' ds μ Qd Ed → wSs Φ ir_lots (start0 N_lots.length ds) μ (endD μ Qd Ed)) : OKF P w K mg base "lots" 2 (lv + 1) fs' := by
  obtain ⟨f, fd, FD, hm⟩ := F.d_lots
  have b : Binds K fd ["some", "many"] [] := FD.bindsN fun _ _ _ _ _ _ us hl => match us, hl with | [_, _], _ => rfl
  exact ⟨lv + 1, f, fd, _, fn_data (t := ct_lots) (k := lv) (Φ := fun _ => fs) FD sc_lots rfl rfl rfl (by decide) ⟨fun f hf => by
      rcases List.mem_cons.mp hf with rfl | hf
      · exact h
      exact absurd hf List.not_mem_nil, fun b hb => by
      rcases List.mem_cons.mp hb with rfl | hb
      · exact F.f_enumerate
      exact absurd hb List.not_mem_nil, fun p hp => by
      exact absurd hp List.not_mem_nil⟩ chk_lots (hs _ rfl), Nat.le_refl _, hm, FD.kp, b⟩
theorem ok_lots : OKF P w K mg base "lots" 2 8 (fs_lots 5) := by
  have h0 := st_lots (P := P) (w := w) (base := base) F 1 (fs' := fs_lots 0) (no_lots F) fun Φ _ => p_lots0 Φ
  have h1 := st_lots (P := P) (w := w) (base := base) F 2 h0 fun Φ e => p_lots Φ 0 e
  have h2 := st_lots (P := P) (w := w) (base := base) F 3 h1 fun Φ e => p_lots Φ 1 e
  have h3 := st_lots (P := P) (w := w) (base := base) F 4 h2 fun Φ e => p_lots Φ 2 e
  have h4 := st_lots (P := P) (w := w) (base := base) F 5 h3 fun Φ e => p_lots Φ 3 e
  exact (st_lots (P := P) (w := w) (base := base) F 6 h4 fun Φ e => p_lots Φ 4 e).up (by decide)
theorem ok_wedged : OKF P w K mg base "wedged" 2 1 (fs_wedgedp) := by
  obtain ⟨f, fd, FD, hm⟩ := F.d_wedged
  have b : Binds K fd ["works", "some"] [] := FD.bindsN fun _ _ _ _ _ _ us hl => match us, hl with | [_, _], _ => rfl
  exact ⟨1, f, fd, _, fn_data (t := ct_wedged) (k := 0) (Φ := PHI) FD sc_wedged rfl rfl rfl (by decide) ⟨fun f hf => by
      exact absurd hf List.not_mem_nil, fun b hb => by
      rcases List.mem_cons.mp hb with rfl | hb
      · exact F.f_tuple
      exact absurd hb List.not_mem_nil, fun p hp => by
      exact absurd hp List.not_mem_nil⟩ chk_wedged (p_wedgedp PHI), Nat.le_refl _, hm, FD.kp, b⟩
theorem ok_fewest_wedged : OKF P w K mg base "fewest_wedged" 3 9 (fs_fewest) := by
  obtain ⟨f, fd, FD, hm⟩ := F.d_fewest_wedged
  have b : Binds K fd ["works", "junction", "level"] [] := FD.bindsN fun _ _ _ _ _ _ us hl => match us, hl with | [_, _, _], _ => rfl
  exact ⟨9, f, fd, _, fn_data (t := ct_fewest_wedged) (k := 8) (Φ := PHI) FD sc_fewest_wedged rfl rfl rfl (by decide) ⟨fun f hf => by
      rcases List.mem_cons.mp hf with rfl | hf
      · exact ((ok_need_works (P := P) (w := w) (base := base) F).up (Nat.le_of_ble_eq_true rfl)).to phi_need_works
      rcases List.mem_cons.mp hf with rfl | hf
      · exact ((ok_need_junction (P := P) (w := w) (base := base) F).up (Nat.le_of_ble_eq_true rfl)).to phi_need_junction
      rcases List.mem_cons.mp hf with rfl | hf
      · exact ((ok_need_level (P := P) (w := w) (base := base) F).up (Nat.le_of_ble_eq_true rfl)).to phi_need_level
      rcases List.mem_cons.mp hf with rfl | hf
      · exact ((ok_flaps_of (P := P) (w := w) (base := base) F).up (Nat.le_of_ble_eq_true rfl)).to phi_flaps_of
      rcases List.mem_cons.mp hf with rfl | hf
      · exact ((ok_lots (P := P) (w := w) (base := base) F).up (Nat.le_of_ble_eq_true rfl)).to phi_lots
      rcases List.mem_cons.mp hf with rfl | hf
      · exact ((ok_is_less (P := P) (w := w) (base := base) F).up (Nat.le_of_ble_eq_true rfl)).to phi_is_less
      rcases List.mem_cons.mp hf with rfl | hf
      · exact ((ok_all_levels (P := P) (w := w) (base := base) F).up (Nat.le_of_ble_eq_true rfl)).to phi_all_levels
      rcases List.mem_cons.mp hf with rfl | hf
      · exact ((ok_wedged (P := P) (w := w) (base := base) F).up (Nat.le_of_ble_eq_true rfl)).to phi_wedged
      exact absurd hf List.not_mem_nil, fun b hb => by
      rcases List.mem_cons.mp hb with rfl | hb
      · exact F.f_range
      rcases List.mem_cons.mp hb with rfl | hb
      · exact F.f_len
      exact absurd hb List.not_mem_nil, fun p hp => by
      exact absurd hp List.not_mem_nil⟩ chk_fewest_wedged (p_fewest PHI phi_is_less phi_all_levels phi_wedged 5 (by decide) phi_lots phi_need_works phi_need_junction phi_need_level phi_flaps_of), Nat.le_refl _, hm, FD.kp, b⟩
theorem ok__law_well : OKF P w K mg base "_law_well" 2 1 (fs_well) := by
  obtain ⟨f, fd, FD, hm⟩ := F.d__law_well
  have b : Binds K fd ["script", "k"] [] := FD.bindsN fun _ _ _ _ _ _ us hl => match us, hl with | [_, _], _ => rfl
  exact ⟨1, f, fd, _, fn_data (t := ct__law_well) (k := 0) (Φ := PHI) FD sc__law_well rfl rfl rfl (by decide) ⟨fun f hf => by
      exact absurd hf List.not_mem_nil, fun b hb => by
      rcases List.mem_cons.mp hb with rfl | hb
      · exact F.f_len
      exact absurd hb List.not_mem_nil, fun p hp => by
      exact absurd hp List.not_mem_nil⟩ chk__law_well (p_well PHI), Nat.le_refl _, hm, FD.kp, b⟩
theorem ok__law_take : OKF P w K mg base "_law_take" 2 1 (fs_take) := by
  obtain ⟨f, fd, FD, hm⟩ := F.d__law_take
  have b : Binds K fd ["well", "many"] [] := FD.bindsN fun _ _ _ _ _ _ us hl => match us, hl with | [_, _], _ => rfl
  exact ⟨1, f, fd, _, fn_data (t := ct__law_take) (k := 0) (Φ := PHI) FD sc__law_take rfl rfl rfl (by decide) ⟨fun f hf => by
      exact absurd hf List.not_mem_nil, fun b hb => by
      exact absurd hb List.not_mem_nil, fun p hp => by
      exact absurd hp List.not_mem_nil⟩ chk__law_take (p_take PHI), Nat.le_refl _, hm, FD.kp, b⟩
theorem ok__law_frac : OKF P w K mg base "_law_frac" 2 1 (fs_fraction) := by
  obtain ⟨f, fd, FD, hm⟩ := F.d__law_frac
  have b : Binds K fd ["top", "bottom"] [] := FD.bindsN fun _ _ _ _ _ _ us hl => match us, hl with | [_, _], _ => rfl
  exact ⟨1, f, fd, _, fn_data (t := ct__law_frac) (k := 0) (Φ := PHI) FD sc__law_frac rfl rfl rfl (by decide) ⟨fun f hf => by
      exact absurd hf List.not_mem_nil, fun b hb => by
      rcases List.mem_cons.mp hb with rfl | hb
      · exact F.f_abs
      exact absurd hb List.not_mem_nil, fun p hp => by
      exact absurd hp List.not_mem_nil⟩ chk__law_frac (p_lfrac PHI), Nat.le_refl _, hm, FD.kp, b⟩
theorem ok__law_plus : OKF P w K mg base "_law_plus" 2 2 (fs_arith (· + ·)) := by
  obtain ⟨f, fd, FD, hm⟩ := F.d__law_plus
  have b : Binds K fd ["one", "other"] [] := FD.bindsN fun _ _ _ _ _ _ us hl => match us, hl with | [_, _], _ => rfl
  exact ⟨2, f, fd, _, fn_data (t := ct__law_plus) (k := 1) (Φ := PHI) FD sc__law_plus rfl rfl rfl (by decide) ⟨fun f hf => by
      rcases List.mem_cons.mp hf with rfl | hf
      · exact ((ok__law_frac (P := P) (w := w) (base := base) F).up (Nat.le_of_ble_eq_true rfl)).to phi__law_frac
      exact absurd hf List.not_mem_nil, fun b hb => by
      exact absurd hb List.not_mem_nil, fun p hp => by
      exact absurd hp List.not_mem_nil⟩ chk__law_plus (p_lplus PHI phi__law_frac), Nat.le_refl _, hm, FD.kp, b⟩
theorem ok__law_less : OKF P w K mg base "_law_less" 2 1 (fs_less) := by
  obtain ⟨f, fd, FD, hm⟩ := F.d__law_less
  have b : Binds K fd ["one", "other"] [] := FD.bindsN fun _ _ _ _ _ _ us hl => match us, hl with | [_, _], _ => rfl
  exact ⟨1, f, fd, _, fn_data (t := ct__law_less) (k := 0) (Φ := PHI) FD sc__law_less rfl rfl rfl (by decide) ⟨fun f hf => by
      exact absurd hf List.not_mem_nil, fun b hb => by
      exact absurd hb List.not_mem_nil, fun p hp => by
      exact absurd hp List.not_mem_nil⟩ chk__law_less (p_lless PHI), Nat.le_refl _, hm, FD.kp, b⟩
theorem ok__law_pipe : OKF P w K mg base "_law_pipe" 5 2 (fs_lpipe) := by
  obtain ⟨f, fd, FD, hm⟩ := F.d__law_pipe
  have b : Binds K fd ["well", "pipes", "one", "other", "flap"] [] := FD.bindsN fun _ _ _ _ _ _ us hl => match us, hl with | [_, _, _, _, _], _ => rfl
  exact ⟨2, f, fd, _, fn_data (t := ct__law_pipe) (k := 1) (Φ := PHI) FD sc__law_pipe rfl rfl rfl (by decide) ⟨fun f hf => by
      rcases List.mem_cons.mp hf with rfl | hf
      · exact ((ok__law_take (P := P) (w := w) (base := base) F).up (Nat.le_of_ble_eq_true rfl)).to phi__law_take
      exact absurd hf List.not_mem_nil, fun b hb => by
      rcases List.mem_cons.mp hb with rfl | hb
      · exact F.f_min
      rcases List.mem_cons.mp hb with rfl | hb
      · exact F.f_max
      exact absurd hb List.not_mem_nil, fun p hp => by
      exact absurd hp List.not_mem_nil⟩ chk__law_pipe (p_lpipe PHI phi__law_take), Nat.le_refl _, hm, FD.kp, b⟩
theorem ok__law_works : OKF P w K mg base "_law_works" 4 3 (fs_lworks) := by
  obtain ⟨f, fd, FD, hm⟩ := F.d__law_works
  have b : Binds K fd ["well", "tanks_so", "junctions_so", "dry"] [] := FD.bindsN fun _ _ _ _ _ _ us hl => match us, hl with | [_, _, _, _], _ => rfl
  exact ⟨3, f, fd, _, fn_data (t := ct__law_works) (k := 2) (Φ := PHI) FD sc__law_works rfl rfl rfl (by decide) ⟨fun f hf => by
      rcases List.mem_cons.mp hf with rfl | hf
      · exact ((ok__law_take (P := P) (w := w) (base := base) F).up (Nat.le_of_ble_eq_true rfl)).to phi__law_take
      rcases List.mem_cons.mp hf with rfl | hf
      · exact ((ok__law_pipe (P := P) (w := w) (base := base) F).up (Nat.le_of_ble_eq_true rfl)).to phi__law_pipe
      exact absurd hf List.not_mem_nil, fun b hb => by
      rcases List.mem_cons.mp hb with rfl | hb
      · exact F.f_len
      rcases List.mem_cons.mp hb with rfl | hb
      · exact F.f_tuple
      rcases List.mem_cons.mp hb with rfl | hb
      · exact F.f_sorted
      rcases List.mem_cons.mp hb with rfl | hb
      · exact F.f_list
      rcases List.mem_cons.mp hb with rfl | hb
      · exact F.f_range
      rcases List.mem_cons.mp hb with rfl | hb
      · exact F.f_min
      rcases List.mem_cons.mp hb with rfl | hb
      · exact F.f_max
      rcases List.mem_cons.mp hb with rfl | hb
      · exact F.f_int
      rcases List.mem_cons.mp hb with rfl | hb
      · exact F.f_zip
      exact absurd hb List.not_mem_nil, fun p hp => by
      exact absurd hp List.not_mem_nil⟩ chk__law_works (p_lworks PHI phi__law_take phi__law_pipe), Nat.le_refl _, hm, FD.kp, b⟩
theorem ok__law_lots : OKF P w K mg base "_law_lots" 1 1 (fs_llots) := by
  obtain ⟨f, fd, FD, hm⟩ := F.d__law_lots
  have b : Binds K fd ["flaps"] [] := FD.bindsN fun _ _ _ _ _ _ us hl => match us, hl with | [_], _ => rfl
  exact ⟨1, f, fd, _, fn_data (t := ct__law_lots) (k := 0) (Φ := PHI) FD sc__law_lots rfl rfl rfl (by decide) ⟨fun f hf => by
      exact absurd hf List.not_mem_nil, fun b hb => by
      rcases List.mem_cons.mp hb with rfl | hb
      · exact F.f_sorted
      rcases List.mem_cons.mp hb with rfl | hb
      · exact F.f_len
      exact absurd hb List.not_mem_nil, fun p hp => by
      exact absurd hp List.not_mem_nil⟩ chk__law_lots (p_llots PHI), Nat.le_refl _, hm, FD.kp, b⟩
theorem ok__law_wedged : OKF P w K mg base "_law_wedged" 2 1 ((fun ds μ Q E => (∃ lot, ds[1]? = some (lotT lot)) ∧ fs_wedgedp ds μ Q E)) := by
  obtain ⟨f, fd, FD, hm⟩ := F.d__law_wedged
  have b : Binds K fd ["works", "lot"] [] := FD.bindsN fun _ _ _ _ _ _ us hl => match us, hl with | [_, _], _ => rfl
  exact ⟨1, f, fd, _, fn_data (t := ct__law_wedged) (k := 0) (Φ := PHI) FD sc__law_wedged rfl rfl rfl (by decide) ⟨fun f hf => by
      exact absurd hf List.not_mem_nil, fun b hb => by
      rcases List.mem_cons.mp hb with rfl | hb
      · exact F.f_tuple
      exact absurd hb List.not_mem_nil, fun p hp => by
      exact absurd hp List.not_mem_nil⟩ chk__law_wedged (p_lwedged PHI), Nat.le_refl _, hm, FD.kp, b⟩
theorem ok_law {f : Addr} {fd : FuncData} (FD : FunD K "law" "law" (defArgs (top 58)) (defBody (top 58)) (defScope (top 58)) [] [] f fd) : FnOk P w K mg base (L2.CX P w) 10 f fd ["script"] (SpD K mg 1 fs_law) :=
  fn_data (t := ct_law) (k := 9) (Φ := PHI) FD sc_law rfl rfl rfl (by decide) ⟨fun f hf => by
      rcases List.mem_cons.mp hf with rfl | hf
      · exact ((ok__law_well (P := P) (w := w) (base := base) F).up (Nat.le_of_ble_eq_true rfl)).to phi__law_well
      rcases List.mem_cons.mp hf with rfl | hf
      · exact ((ok__law_works (P := P) (w := w) (base := base) F).up (Nat.le_of_ble_eq_true rfl)).to phi__law_works
      rcases List.mem_cons.mp hf with rfl | hf
      · exact ((ok__law_take (P := P) (w := w) (base := base) F).up (Nat.le_of_ble_eq_true rfl)).to phi__law_take
      rcases List.mem_cons.mp hf with rfl | hf
      · exact ((ok__law_lots (P := P) (w := w) (base := base) F).up (Nat.le_of_ble_eq_true rfl)).to phi__law_lots
      rcases List.mem_cons.mp hf with rfl | hf
      · exact ((ok_levels (P := P) (w := w) (base := base) F).up (Nat.le_of_ble_eq_true rfl)).to phi_levels
      rcases List.mem_cons.mp hf with rfl | hf
      · exact ((ok__law_wedged (P := P) (w := w) (base := base) F).up (Nat.le_of_ble_eq_true rfl)).to phi__law_wedged
      rcases List.mem_cons.mp hf with rfl | hf
      · exact ((ok__law_plus (P := P) (w := w) (base := base) F).up (Nat.le_of_ble_eq_true rfl)).to phi__law_plus
      rcases List.mem_cons.mp hf with rfl | hf
      · exact ((ok__law_less (P := P) (w := w) (base := base) F).up (Nat.le_of_ble_eq_true rfl)).to phi__law_less
      rcases List.mem_cons.mp hf with rfl | hf
      · exact ((ok_fewest_wedged (P := P) (w := w) (base := base) F).up (Nat.le_of_ble_eq_true rfl)).to phi_fewest_wedged
      exact absurd hf List.not_mem_nil, fun b hb => by
      rcases List.mem_cons.mp hb with rfl | hb
      · exact F.f_range
      rcases List.mem_cons.mp hb with rfl | hb
      · exact F.f_max
      rcases List.mem_cons.mp hb with rfl | hb
      · exact F.f_min
      rcases List.mem_cons.mp hb with rfl | hb
      · exact F.f_len
      rcases List.mem_cons.mp hb with rfl | hb
      · exact F.f_dict
      exact absurd hb List.not_mem_nil, fun p hp => by
      exact absurd hp List.not_mem_nil⟩ chk_law (p_law31 PHI phi__law_take phi__law_well phi__law_works phi__law_lots phi_levels phi__law_wedged phi__law_less phi_fewest_wedged phi__law_plus)
end
def dd_divisor : He.DefD := ⟨("divisor", none), "divisor", "divisor", defArgs (top 2), defBody (top 2), defScope (top 2), [], []⟩
def dd_fraction : He.DefD := ⟨("fraction", none), "fraction", "fraction", defArgs (top 3), defBody (top 3), defScope (top 3), [], []⟩
def dd_plus : He.DefD := ⟨("plus", none), "plus", "plus", defArgs (top 4), defBody (top 4), defScope (top 4), [], []⟩
def dd_minus : He.DefD := ⟨("minus", none), "minus", "minus", defArgs (top 5), defBody (top 5), defScope (top 5), [], []⟩
def dd_times : He.DefD := ⟨("times", none), "times", "times", defArgs (top 6), defBody (top 6), defScope (top 6), [], []⟩
def dd_shared : He.DefD := ⟨("shared", none), "shared", "shared", defArgs (top 7), defBody (top 7), defScope (top 7), [], []⟩
def dd_is_less : He.DefD := ⟨("is_less", none), "is_less", "is_less", defArgs (top 8), defBody (top 8), defScope (top 8), [], []⟩
def dd_is_whole : He.DefD := ⟨("is_whole", none), "is_whole", "is_whole", defArgs (top 9), defBody (top 9), defScope (top 9), [], []⟩
def dd_is_fraction : He.DefD := ⟨("is_fraction", none), "is_fraction", "is_fraction", defArgs (top 10), defBody (top 10), defScope (top 10), [], []⟩
def dd_solved : He.DefD := ⟨("solved", none), "solved", "solved", defArgs (top 12), defBody (top 12), defScope (top 12), [], []⟩
def dd_goes : He.DefD := ⟨("goes", none), "goes", "goes", defArgs (top 13), defBody (top 13), defScope (top 13), [], []⟩
def dd_levels_with : He.DefD := ⟨("levels_with", none), "levels_with", "levels_with", defArgs (top 14), defBody (top 14), defScope (top 14), [], []⟩
def dd_lift : He.DefD := ⟨("lift", none), "lift", "lift", defArgs (top 15), defBody (top 15), defScope (top 15), [], []⟩
def dd_choices : He.DefD := ⟨("choices", none), "choices", "choices", defArgs (top 16), defBody (top 16), defScope (top 16), [], []⟩
def dd_flaps_of : He.DefD := ⟨("flaps_of", none), "flaps_of", "flaps_of", defArgs (top 17), defBody (top 17), defScope (top 17), [], []⟩
def dd_is_name : He.DefD := ⟨("is_name", none), "is_name", "is_name", defArgs (top 31), defBody (top 31), defScope (top 31), [], []⟩
def dd_are_rising : He.DefD := ⟨("are_rising", none), "are_rising", "are_rising", defArgs (top 32), defBody (top 32), defScope (top 32), [], []⟩
def dd_are_places : He.DefD := ⟨("are_places", none), "are_places", "are_places", defArgs (top 33), defBody (top 33), defScope (top 33), [], []⟩
def dd_is_pipe : He.DefD := ⟨("is_pipe", none), "is_pipe", "is_pipe", defArgs (top 34), defBody (top 34), defScope (top 34), [], []⟩
def dd_names_of : He.DefD := ⟨("names_of", none), "names_of", "names_of", defArgs (top 35), defBody (top 35), defScope (top 35), [], []⟩
def dd_hangs_on : He.DefD := ⟨("hangs_on", none), "hangs_on", "hangs_on", defArgs (top 36), defBody (top 36), defScope (top 36), [], []⟩
def dd_is_works : He.DefD := ⟨("is_works", none), "is_works", "is_works", defArgs (top 37), defBody (top 37), defScope (top 37), [], []⟩
def dd_need_works : He.DefD := ⟨("need_works", none), "need_works", "need_works", defArgs (top 38), defBody (top 38), defScope (top 38), [], []⟩
def dd_need_junction : He.DefD := ⟨("need_junction", none), "need_junction", "need_junction", defArgs (top 39), defBody (top 39), defScope (top 39), [], []⟩
def dd_need_level : He.DefD := ⟨("need_level", none), "need_level", "need_level", defArgs (top 40), defBody (top 40), defScope (top 40), [], []⟩
def dd_all_levels : He.DefD := ⟨("all_levels", none), "all_levels", "all_levels", defArgs (top 42), defBody (top 42), defScope (top 42), [], []⟩
def dd_levels : He.DefD := ⟨("levels", none), "levels", "levels", defArgs (top 43), defBody (top 43), defScope (top 43), [], []⟩
def dd_lots : He.DefD := ⟨("lots", none), "lots", "lots", defArgs (top 45), defBody (top 45), defScope (top 45), [], []⟩
def dd_wedged : He.DefD := ⟨("wedged", none), "wedged", "wedged", defArgs (top 46), defBody (top 46), defScope (top 46), [], []⟩
def dd_fewest_wedged : He.DefD := ⟨("fewest_wedged", none), "fewest_wedged", "fewest_wedged", defArgs (top 47), defBody (top 47), defScope (top 47), [], []⟩
def dd__law_well : He.DefD := ⟨("_law_well", none), "_law_well", "_law_well", defArgs (top 49), defBody (top 49), defScope (top 49), [], []⟩
def dd__law_take : He.DefD := ⟨("_law_take", none), "_law_take", "_law_take", defArgs (top 50), defBody (top 50), defScope (top 50), [], []⟩
def dd__law_frac : He.DefD := ⟨("_law_frac", none), "_law_frac", "_law_frac", defArgs (top 51), defBody (top 51), defScope (top 51), [], []⟩
def dd__law_plus : He.DefD := ⟨("_law_plus", none), "_law_plus", "_law_plus", defArgs (top 52), defBody (top 52), defScope (top 52), [], []⟩
def dd__law_less : He.DefD := ⟨("_law_less", none), "_law_less", "_law_less", defArgs (top 53), defBody (top 53), defScope (top 53), [], []⟩
def dd__law_works : He.DefD := ⟨("_law_works", none), "_law_works", "_law_works", defArgs (top 54), defBody (top 54), defScope (top 54), [], []⟩
def dd__law_pipe : He.DefD := ⟨("_law_pipe", none), "_law_pipe", "_law_pipe", defArgs (top 55), defBody (top 55), defScope (top 55), [], []⟩
def dd__law_lots : He.DefD := ⟨("_law_lots", none), "_law_lots", "_law_lots", defArgs (top 56), defBody (top 56), defScope (top 56), [], []⟩
def dd__law_wedged : He.DefD := ⟨("_law_wedged", none), "_law_wedged", "_law_wedged", defArgs (top 57), defBody (top 57), defScope (top 57), [], []⟩
def dd_law : He.DefD := ⟨("law", none), "law", "law", defArgs (top 58), defBody (top 58), defScope (top 58), [], []⟩
def fnL : List He.DefD := [dd_divisor, dd_fraction, dd_plus, dd_minus, dd_times, dd_shared, dd_is_less, dd_is_whole, dd_is_fraction, dd_solved, dd_goes, dd_levels_with, dd_lift, dd_choices, dd_flaps_of, dd_is_name, dd_are_rising, dd_are_places, dd_is_pipe, dd_names_of, dd_hangs_on, dd_is_works, dd_need_works, dd_need_junction, dd_need_level, dd_all_levels, dd_levels, dd_lots, dd_wedged, dd_fewest_wedged, dd__law_well, dd__law_take, dd__law_frac, dd__law_plus, dd__law_less, dd__law_works, dd__law_pipe, dd__law_lots, dd__law_wedged, dd_law]
def faL : List He.Fa := [.glo "divisor", .glo "fraction", .glo "plus", .glo "minus", .glo "times", .glo "shared", .glo "is_less", .glo "is_whole", .glo "is_fraction", .glo "solved", .glo "goes", .glo "levels_with", .glo "lift", .glo "choices", .glo "flaps_of", .glo "is_name", .glo "are_rising", .glo "are_places", .glo "is_pipe", .glo "names_of", .glo "hangs_on", .glo "is_works", .glo "need_works", .glo "need_junction", .glo "need_level", .glo "all_levels", .glo "levels", .glo "lots", .glo "wedged", .glo "fewest_wedged", .glo "_law_well", .glo "_law_take", .glo "_law_frac", .glo "_law_plus", .glo "_law_less", .glo "_law_works", .glo "_law_pipe", .glo "_law_lots", .glo "_law_wedged", .glo "law", .free "abs", .free "all", .free "bool", .free "dict", .free "enumerate", .free "int", .free "isinstance", .free "len", .free "list", .free "max", .free "min", .free "range", .free "set", .free "sorted", .free "str", .free "tuple", .free "zip", .glo "NOUGHT", .str "LETTERS" "abcdefghijklmnopqrstuvwxyz", .int "MOST_LEVEL" 1000, .int "MOST_WIDTH" 100, .int "MOST_TANKS" 4, .int "MOST_JUNCTIONS" 5, .int "MOST_PIPES" 9, .int "MOST_FLAPS" 5]
def tsL : List (Str × List He.Dv) := [("NOUGHT", [.int 0, .int 1])]
def looseL : List Str := (["__name__", "NOUGHT", "divisor", "fraction", "plus", "minus", "times", "shared", "is_less", "is_whole", "is_fraction", "solved", "goes", "levels_with", "lift", "choices", "flaps_of", "WorksError", "NoWorks", "NoJunction", "NoLevel", "LETTERS", "MOST_LEVEL", "MOST_WIDTH", "MOST_TANKS", "MOST_JUNCTIONS", "MOST_PIPES", "MOST_FLAPS", "is_name", "are_rising"] : List Str) ++ (["are_places", "is_pipe", "names_of", "hangs_on", "is_works", "need_works", "need_junction", "need_level", "all_levels", "levels", "lots", "wedged", "fewest_wedged", "_law_well", "_law_take", "_law_frac", "_law_plus", "_law_less", "_law_works", "_law_pipe", "_law_lots", "_law_wedged"] : List Str)
abbrev RL : PySem.W.OpenRow := PySem.W.OpenLaw.row PySem.Challenge.rw_flapworks_k31_whole_fewest_wedges
def obsT (g : Addr → Option Obj) : He.AlD × Bool := (He.obsD faL fnL (He.frG g (He.asD g 4)), tsL.all fun t => He.tupB (He.frG g (He.asD g 4)) t.1 t.2)
def hkT : PySem.W.Hook where
  α := He.AlD × Bool
  obs := fun s => obsT s.heap.get?
  val := fun _ => (He.valD fnL, true)
  says := fun _ h => ∃ K : PySem.W.Frag, K.In h ∧ He.SaysD faL fnL K ∧ (tsL.all fun t => He.tupB K t.1 t.2) = true
  of := fun _ _ e => ⟨_, He.frG_in, congrArg Prod.fst e, congrArg Prod.snd e⟩
  keeps := fun _ _ _ ⟨K, hK, c⟩ k => ⟨K, PySem.W.Frag.In.keeps hK k, c⟩
def obL (s : PySem.W.SharedT) : He.AlD × Bool := obsT (HandSHeadRun.getT s)
theorem obL_eq (s : PySem.W.SharedT) : obL s = hkT.obs s.abs := by
  have e : HandSHeadRun.getT s = s.abs.heap.get? := funext (HandSHeadRun.getT_eq s)
  show obsT (HandSHeadRun.getT s) = obsT s.abs.heap.get?
  rw [e]
theorem runL (w : World) : HandSHeadRun.RunEq RL (PySem.W.view RL.prog [58]) hkT obL 4000 looseL w := by
  intro os
  kernel_rfl
theorem gl_int {K : PySem.W.Frag} {h : Heap} {mg : Str → Option Value} (X : K.In h) (G : h.Ns mainGlobals mg) {x : Str} {i : Int} (c : (He.Fa.int x i).ok K = true) : GlF K mg x (.int i) := by
  obtain ⟨t, e⟩ := He.int_ok X G c
  exact ⟨.int i, _, e, ⟨t, rfl⟩, fun _ _ => rfl⟩
theorem gl_str {K : PySem.W.Frag} {h : Heap} {mg : Str → Option Value} (X : K.In h) (G : h.Ns mainGlobals mg) {x z : Str} (c : (He.Fa.str x z).ok K = true) : GlF K mg x (.str z) := by
  obtain ⟨t, e⟩ := He.str_ok X G c
  exact ⟨.str z, _, e, ⟨t, rfl⟩, fun _ _ => rfl⟩
theorem gl_tup {K : PySem.W.Frag} {h : Heap} {mg : Str → Option Value} (X : K.In h) (G : h.Ns mainGlobals mg) {x : Str} {a b : Int} (c : (He.Fa.glo x).ok K = true) (t : He.tupB K x [.int a, .int b] = true) : GlF K mg x (.tup [.int a, .int b]) := by
  refine ⟨.ref (He.ga K x), _, He.glo_ok X G c, by constructor, fun g H => ⟨_, _, rfl, .inr ⟨?_, ?_⟩, ⟨_, _, rfl, rfl, _, _, rfl, rfl, rfl⟩⟩⟩
  · rcases He.tupB_ok t (fun _ => none) with h | h
    · rcases h with h | ⟨_, h⟩ <;> cases h
    · exact h
  · rfl
theorem factsL {K : PySem.W.Frag} {h : Heap} {mg : Str → Option Value} (X : K.In h) (G : h.Ns mainGlobals mg) (c : He.SaysD faL fnL K) (t : (tsL.all fun t => He.tupB K t.1 t.2) = true) : Facts K mg where
  d_divisor := by
    obtain ⟨fd, FD⟩ := c.def_ 0 (d := dd_divisor) rfl
    exact ⟨_, fd, FD, He.glo_ok X G (c.fact 0 (f := .glo "divisor") rfl)⟩
  d_fraction := by
    obtain ⟨fd, FD⟩ := c.def_ 1 (d := dd_fraction) rfl
    exact ⟨_, fd, FD, He.glo_ok X G (c.fact 1 (f := .glo "fraction") rfl)⟩
  d_plus := by
    obtain ⟨fd, FD⟩ := c.def_ 2 (d := dd_plus) rfl
    exact ⟨_, fd, FD, He.glo_ok X G (c.fact 2 (f := .glo "plus") rfl)⟩
  d_minus := by
    obtain ⟨fd, FD⟩ := c.def_ 3 (d := dd_minus) rfl
    exact ⟨_, fd, FD, He.glo_ok X G (c.fact 3 (f := .glo "minus") rfl)⟩
  d_times := by
    obtain ⟨fd, FD⟩ := c.def_ 4 (d := dd_times) rfl
    exact ⟨_, fd, FD, He.glo_ok X G (c.fact 4 (f := .glo "times") rfl)⟩
  d_shared := by
    obtain ⟨fd, FD⟩ := c.def_ 5 (d := dd_shared) rfl
    exact ⟨_, fd, FD, He.glo_ok X G (c.fact 5 (f := .glo "shared") rfl)⟩
  d_is_less := by
    obtain ⟨fd, FD⟩ := c.def_ 6 (d := dd_is_less) rfl
    exact ⟨_, fd, FD, He.glo_ok X G (c.fact 6 (f := .glo "is_less") rfl)⟩
  d_is_whole := by
    obtain ⟨fd, FD⟩ := c.def_ 7 (d := dd_is_whole) rfl
    exact ⟨_, fd, FD, He.glo_ok X G (c.fact 7 (f := .glo "is_whole") rfl)⟩
  d_is_fraction := by
    obtain ⟨fd, FD⟩ := c.def_ 8 (d := dd_is_fraction) rfl
    exact ⟨_, fd, FD, He.glo_ok X G (c.fact 8 (f := .glo "is_fraction") rfl)⟩
  d_solved := by
    obtain ⟨fd, FD⟩ := c.def_ 9 (d := dd_solved) rfl
    exact ⟨_, fd, FD, He.glo_ok X G (c.fact 9 (f := .glo "solved") rfl)⟩
  d_goes := by
    obtain ⟨fd, FD⟩ := c.def_ 10 (d := dd_goes) rfl
    exact ⟨_, fd, FD, He.glo_ok X G (c.fact 10 (f := .glo "goes") rfl)⟩
  d_levels_with := by
    obtain ⟨fd, FD⟩ := c.def_ 11 (d := dd_levels_with) rfl
    exact ⟨_, fd, FD, He.glo_ok X G (c.fact 11 (f := .glo "levels_with") rfl)⟩
  d_lift := by
    obtain ⟨fd, FD⟩ := c.def_ 12 (d := dd_lift) rfl
    exact ⟨_, fd, FD, He.glo_ok X G (c.fact 12 (f := .glo "lift") rfl)⟩
  d_choices := by
    obtain ⟨fd, FD⟩ := c.def_ 13 (d := dd_choices) rfl
    exact ⟨_, fd, FD, He.glo_ok X G (c.fact 13 (f := .glo "choices") rfl)⟩
  d_flaps_of := by
    obtain ⟨fd, FD⟩ := c.def_ 14 (d := dd_flaps_of) rfl
    exact ⟨_, fd, FD, He.glo_ok X G (c.fact 14 (f := .glo "flaps_of") rfl)⟩
  d_is_name := by
    obtain ⟨fd, FD⟩ := c.def_ 15 (d := dd_is_name) rfl
    exact ⟨_, fd, FD, He.glo_ok X G (c.fact 15 (f := .glo "is_name") rfl)⟩
  d_are_rising := by
    obtain ⟨fd, FD⟩ := c.def_ 16 (d := dd_are_rising) rfl
    exact ⟨_, fd, FD, He.glo_ok X G (c.fact 16 (f := .glo "are_rising") rfl)⟩
  d_are_places := by
    obtain ⟨fd, FD⟩ := c.def_ 17 (d := dd_are_places) rfl
    exact ⟨_, fd, FD, He.glo_ok X G (c.fact 17 (f := .glo "are_places") rfl)⟩
  d_is_pipe := by
    obtain ⟨fd, FD⟩ := c.def_ 18 (d := dd_is_pipe) rfl
    exact ⟨_, fd, FD, He.glo_ok X G (c.fact 18 (f := .glo "is_pipe") rfl)⟩
  d_names_of := by
    obtain ⟨fd, FD⟩ := c.def_ 19 (d := dd_names_of) rfl
    exact ⟨_, fd, FD, He.glo_ok X G (c.fact 19 (f := .glo "names_of") rfl)⟩
  d_hangs_on := by
    obtain ⟨fd, FD⟩ := c.def_ 20 (d := dd_hangs_on) rfl
    exact ⟨_, fd, FD, He.glo_ok X G (c.fact 20 (f := .glo "hangs_on") rfl)⟩
  d_is_works := by
    obtain ⟨fd, FD⟩ := c.def_ 21 (d := dd_is_works) rfl
    exact ⟨_, fd, FD, He.glo_ok X G (c.fact 21 (f := .glo "is_works") rfl)⟩
  d_need_works := by
    obtain ⟨fd, FD⟩ := c.def_ 22 (d := dd_need_works) rfl
    exact ⟨_, fd, FD, He.glo_ok X G (c.fact 22 (f := .glo "need_works") rfl)⟩
  d_need_junction := by
    obtain ⟨fd, FD⟩ := c.def_ 23 (d := dd_need_junction) rfl
    exact ⟨_, fd, FD, He.glo_ok X G (c.fact 23 (f := .glo "need_junction") rfl)⟩
  d_need_level := by
    obtain ⟨fd, FD⟩ := c.def_ 24 (d := dd_need_level) rfl
    exact ⟨_, fd, FD, He.glo_ok X G (c.fact 24 (f := .glo "need_level") rfl)⟩
  d_all_levels := by
    obtain ⟨fd, FD⟩ := c.def_ 25 (d := dd_all_levels) rfl
    exact ⟨_, fd, FD, He.glo_ok X G (c.fact 25 (f := .glo "all_levels") rfl)⟩
  d_levels := by
    obtain ⟨fd, FD⟩ := c.def_ 26 (d := dd_levels) rfl
    exact ⟨_, fd, FD, He.glo_ok X G (c.fact 26 (f := .glo "levels") rfl)⟩
  d_lots := by
    obtain ⟨fd, FD⟩ := c.def_ 27 (d := dd_lots) rfl
    exact ⟨_, fd, FD, He.glo_ok X G (c.fact 27 (f := .glo "lots") rfl)⟩
  d_wedged := by
    obtain ⟨fd, FD⟩ := c.def_ 28 (d := dd_wedged) rfl
    exact ⟨_, fd, FD, He.glo_ok X G (c.fact 28 (f := .glo "wedged") rfl)⟩
  d_fewest_wedged := by
    obtain ⟨fd, FD⟩ := c.def_ 29 (d := dd_fewest_wedged) rfl
    exact ⟨_, fd, FD, He.glo_ok X G (c.fact 29 (f := .glo "fewest_wedged") rfl)⟩
  d__law_well := by
    obtain ⟨fd, FD⟩ := c.def_ 30 (d := dd__law_well) rfl
    exact ⟨_, fd, FD, He.glo_ok X G (c.fact 30 (f := .glo "_law_well") rfl)⟩
  d__law_take := by
    obtain ⟨fd, FD⟩ := c.def_ 31 (d := dd__law_take) rfl
    exact ⟨_, fd, FD, He.glo_ok X G (c.fact 31 (f := .glo "_law_take") rfl)⟩
  d__law_frac := by
    obtain ⟨fd, FD⟩ := c.def_ 32 (d := dd__law_frac) rfl
    exact ⟨_, fd, FD, He.glo_ok X G (c.fact 32 (f := .glo "_law_frac") rfl)⟩
  d__law_plus := by
    obtain ⟨fd, FD⟩ := c.def_ 33 (d := dd__law_plus) rfl
    exact ⟨_, fd, FD, He.glo_ok X G (c.fact 33 (f := .glo "_law_plus") rfl)⟩
  d__law_less := by
    obtain ⟨fd, FD⟩ := c.def_ 34 (d := dd__law_less) rfl
    exact ⟨_, fd, FD, He.glo_ok X G (c.fact 34 (f := .glo "_law_less") rfl)⟩
  d__law_works := by
    obtain ⟨fd, FD⟩ := c.def_ 35 (d := dd__law_works) rfl
    exact ⟨_, fd, FD, He.glo_ok X G (c.fact 35 (f := .glo "_law_works") rfl)⟩
  d__law_pipe := by
    obtain ⟨fd, FD⟩ := c.def_ 36 (d := dd__law_pipe) rfl
    exact ⟨_, fd, FD, He.glo_ok X G (c.fact 36 (f := .glo "_law_pipe") rfl)⟩
  d__law_lots := by
    obtain ⟨fd, FD⟩ := c.def_ 37 (d := dd__law_lots) rfl
    exact ⟨_, fd, FD, He.glo_ok X G (c.fact 37 (f := .glo "_law_lots") rfl)⟩
  d__law_wedged := by
    obtain ⟨fd, FD⟩ := c.def_ 38 (d := dd__law_wedged) rfl
    exact ⟨_, fd, FD, He.glo_ok X G (c.fact 38 (f := .glo "_law_wedged") rfl)⟩
  d_law := by
    obtain ⟨fd, FD⟩ := c.def_ 39 (d := dd_law) rfl
    exact ⟨_, fd, FD, He.glo_ok X G (c.fact 39 (f := .glo "law") rfl)⟩
  f_abs := He.free_ok X G (c.fact 40 (f := .free "abs") rfl)
  f_all := He.free_ok X G (c.fact 41 (f := .free "all") rfl)
  f_bool := He.free_ok X G (c.fact 42 (f := .free "bool") rfl)
  f_dict := He.free_ok X G (c.fact 43 (f := .free "dict") rfl)
  f_enumerate := He.free_ok X G (c.fact 44 (f := .free "enumerate") rfl)
  f_int := He.free_ok X G (c.fact 45 (f := .free "int") rfl)
  f_isinstance := He.free_ok X G (c.fact 46 (f := .free "isinstance") rfl)
  f_len := He.free_ok X G (c.fact 47 (f := .free "len") rfl)
  f_list := He.free_ok X G (c.fact 48 (f := .free "list") rfl)
  f_max := He.free_ok X G (c.fact 49 (f := .free "max") rfl)
  f_min := He.free_ok X G (c.fact 50 (f := .free "min") rfl)
  f_range := He.free_ok X G (c.fact 51 (f := .free "range") rfl)
  f_set := He.free_ok X G (c.fact 52 (f := .free "set") rfl)
  f_sorted := He.free_ok X G (c.fact 53 (f := .free "sorted") rfl)
  f_str := He.free_ok X G (c.fact 54 (f := .free "str") rfl)
  f_tuple := He.free_ok X G (c.fact 55 (f := .free "tuple") rfl)
  f_zip := He.free_ok X G (c.fact 56 (f := .free "zip") rfl)
  g_NOUGHT := gl_tup X G (c.fact 57 (f := .glo "NOUGHT") rfl) (List.all_eq_true.mp t ("NOUGHT", [.int 0, .int 1]) (by simp [tsL]))
  g_LETTERS := gl_str X G (c.fact 58 (f := .str "LETTERS" "abcdefghijklmnopqrstuvwxyz") rfl)
  g_MOST_LEVEL := gl_int X G (c.fact 59 (f := .int "MOST_LEVEL" 1000) rfl)
  g_MOST_WIDTH := gl_int X G (c.fact 60 (f := .int "MOST_WIDTH" 100) rfl)
  g_MOST_TANKS := gl_int X G (c.fact 61 (f := .int "MOST_TANKS" 4) rfl)
  g_MOST_JUNCTIONS := gl_int X G (c.fact 62 (f := .int "MOST_JUNCTIONS" 5) rfl)
  g_MOST_PIPES := gl_int X G (c.fact 63 (f := .int "MOST_PIPES" 9) rfl)
  g_MOST_FLAPS := gl_int X G (c.fact 64 (f := .int "MOST_FLAPS" 5) rfl)
theorem law_start {K : PySem.W.Frag} {mg : Str → Option Value} (H : Hp) (a : Addr) (ns : List Int) (hl : ns.length ≤ 63) (hS : SqL K H a (ns.map V.int)) : SpD K mg 1 fs_law [.ref a] H (fun v _ => v = .bl true) fun _ _ _ => False := by
  refine ⟨⟨fun _ => a, [], fun _ => False⟩, [.rol (ns.map .int)], fun d _ => d = .bl true, fun _ _ => False, rfl, ⟨fun k o h => by simp at h, fun j k o u h => by simp at h, fun _ h => h.elim⟩, ?_, ⟨ns, rfl, rfl, hl, rfl⟩, fun d v g' H' _ _ r e => ?_, fun _ _ _ _ _ _ h => h.elim⟩
  · refine ⟨_, _, rfl, ⟨a, ns.map V.int, rfl, ?_, ?_⟩, rfl⟩
    · rcases hS with h | h
      · exact .inl ⟨h, fun l => by
          rcases l with ⟨k, o, h1, _⟩ | l
          · simp at h1
          · exact l⟩
      · exact .inr h
    · clear hS hl
      induction ns with
      | nil => rfl
      | cons n r ih => exact ⟨_, _, rfl, rfl, ih⟩
  · rw [e] at r; exact r
theorem cx_no {P : Program} {w : World} (H : Hp) (s : Shared) (e : Value) (s' : Shared) (h : L2.CX P w [] H s (fun _ _ _ => False) e s') : False := by
  obtain ⟨_, _, _, _, _, _, _, _, _, _, _, _, h⟩ := h
  exact h
/-- the end, where what may be let out hangs on the world -/
theorem walkW {l : PySem.W.OpenLaw} {k : Nat} {q : Program} {ls : List Str} {XQ : (Str → Option Value) → Heap → Prop} {YQ : World → Heap → Prop} {d : DefRec}
    (hm : l.most = some 63) (h0 : d.params.defaults = []) (hr : Room k callerA)
    (F : ∀ (w : World) (mg : Str → Option Value) (f : Addr) (h : Heap), YQ w h → h.Ns mainGlobals mg → mg d.name = some (.ref f) →
      ∃ (K : PySem.W.Frag) (fd : FuncData), K.In h ∧ (∀ (s : Shared) (u : Value), BindsTo s fd ⟨[u], []⟩ [(("script" : Str), u)]) ∧
        ∀ B : Heap, K.In B → B.Ns mainGlobals mg → FnOk l.prog w K mg B (L2.CX l.prog w) k f fd ["script"] (SpD K mg 1 fs_law)) :
    PySem.W.WalkO q ls XQ YQ l.row.toRowW d [] (fun f vs => PySem.call f vs) := by
  refine Att.attach_call hm h0 ?_
  intro w s0 s1 mg mb f o pm cd doc a vs ns G Y ho hd hcd hf hobj hints hlen hg
  obtain ⟨K, fd, hK, hb, hF⟩ := F w mg f _ Y G.T.g hf
  have z := law_call hK G.T.g G.T.b G.T.builtins G.T.nolimit hg hobj hints (Nat.le_trans hlen (by decide)) hr hF hb
  exact z (fun H _ hS => law_start H a ns hlen hS) (fun H e s' => cx_no H s1 e s')
end FW
open PySem PySem.W PySem.Calls PyProof.Rows
set_option maxRecDepth 100000 in
set_option maxHeartbeats 0 in
theorem PySem.Challenge.cw_flapworks_k31_whole_fewest_wedges_holds : PySem.Challenge.rw_flapworks_k31_whole_fewest_wedges.Holds := by
  w_on; o_law
  refine HandSHeadRun.head_any (r := OpenLaw.row PySem.Challenge.rw_flapworks_k31_whole_fewest_wedges) (q := view (OpenLaw.row PySem.Challenge.rw_flapworks_k31_whole_fewest_wedges).prog [58]) (H := FW.hkT) (ob := FW.obL) (M := 4000) (loose := FW.looseL) (d := HandSHeadRun.topDef (OpenLaw.row PySem.Challenge.rw_flapworks_k31_whole_fewest_wedges).prog 58) (kwd := []) FW.obL_eq
    (by kernel_rfl) (fun s => by kernel_rfl) FW.runL (by kernel_rfl) (by kernel_rfl) (by kernel_rfl) (by rfl) (by first | assumption | decide +kernel) (by decide +kernel) ⟨rfl, rfl, rfl, rfl, rfl, by decide +kernel⟩ ?hw ?hc
  case hw => w_witness2
  case hc =>
    refine FW.walkW (l := PySem.Challenge.rw_flapworks_k31_whole_fewest_wedges) (k := 10) rfl (by kernel_rfl) ⟨rfl, by decide, by decide⟩ ?F
    intro w mg fa h Y G hmg0
    obtain ⟨K, KX, c, t⟩ := Y
    have F := FW.factsL KX G c t
    obtain ⟨f, fd, FD, hm⟩ := F.d_law
    have hmg : mg ("law" : PySem.Str) = some (.ref fa) := by
      have e : (HandSHeadRun.topDef (OpenLaw.row PySem.Challenge.rw_flapworks_k31_whole_fewest_wedges).prog 58).name = ("law" : PySem.Str) := by kernel_rfl
      exact e ▸ hmg0
    have ef : f = fa := by
      have := hm.symm.trans hmg
      cases this; rfl
    subst ef
    have b := L2.FunD.bindsA (ps := ["script"]) FD fun _ _ _ _ _ _ us hl => match us, hl with | [_], _ => rfl
    exact ⟨K, fd, KX, fun s v => b s [v] rfl, fun base _ _ => FW.ok_law F FD⟩

