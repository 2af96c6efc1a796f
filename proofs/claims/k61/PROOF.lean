import PyProof.Rows.All
import Wide.All
import OpenK.AllK
import Wide.FinOn
import KE.KStateDown
import HandS.Base
import HandS.Call
import HandS.List
import HandS.Comp
import HandS.Ends
import HandS.Dict
import HandS.Iter
import HandS.Text
import HandS.Words
import HandS.WordsList
import HandS.WordsDict
import HandS.Defaults
import HandS.Deep
import HandS.TupAny
import HandS.HeadHook1
import HandS.DictComp
import HandS.IsInst
import HandS.More
import HandS.RevRange
import KE.SortData
import HandS.Conv
import HandS.Codes
import HandS.HeadHook2
import HandS.WordsExc
import HandS.Head0
import HandS.Head1
import HandS.Head2
import HandS.HeadEnd
import PySem.Challenge.RW_sworncode_k61_lives_and_foes
set_option Elab.async false
set_option linter.all false
set_option autoImplicit false
set_option maxRecDepth 100000
set_option maxHeartbeats 2000000
namespace Vc
open PySem PySem.Spec PyProof.Rows L2
/- rol: a list that nobody writes any more; kol: one that is handed in; ktp: a tuple of the written part; rdc, rdt: such dicts; obj: such an instance -/
inductive D where
  | non | bl (b : Bool) | int (i : Int) | str (s : List Nat) | tup (ds : List D) | ref (a : Addr)
  | rol (ds : List D) | kol (ds : List D) | ktp (ds : List D) | rdc (kvs : List (Sum Int (List Nat) × D)) | rdt (kvs : List (List (Sum Int (List Nat)) × D)) | obj (C : List Nat) (fs : List (List Nat × D))
abbrev DK := Sum Int (List Nat)
def ofK : DK → Key
  | .inl i => .inl i
  | .inr s => .inr ⟨s.toArray⟩
theorem ofK_inj {a b : DK} (h : ofK a = ofK b) : a = b := by
  cases a <;> cases b <;> simp_all [ofK]
def kD : DK → D
  | .inl i => .int i
  | .inr s => .str s
inductive GO where
  | lst (xs : List D)
  | dct (kvs : List (DK × D))
  | dtt (kvs : List (List DK × D))
  | ins (C : List Nat) (fs : List (List Nat × D))
abbrev Hg := Addr → Option GO
def updG (G : Hg) (a : Addr) (o : GO) : Hg := fun b => if b = a then some o else G b
theorem updG_same {G : Hg} {a : Addr} {o : GO} : updG G a o a = some o := by unfold updG; rw [if_pos rfl]
theorem updG_ne {G : Hg} {a b : Addr} {o : GO} (h : b ≠ a) : updG G a o b = G b := by unfold updG; rw [if_neg h]
def cAt (K : PySem.W.Frag) (C : List Nat) : Addr := He.ga K ⟨C.toArray⟩
def SqF (K : PySem.W.Frag) (H : Hp) (a : Addr) (xs : List V) : Prop :=
  (∃ o, H a = some (.frz o (.lst xs))) ∨
    ∃ (o : Obj) (its : Array Value) (n : Nat), K.lookup a = some o ∧ o.cls = .type "list" ∧ o.dict = none ∧ o.data = .seq its n ∧ its.size ≤ sizeLine ∧ Vals xs its.toList
theorem SqF.sql {K : PySem.W.Frag} {H : Hp} {a : Addr} {xs : List V} (h : SqF K H a xs) : SqL K H a xs := by
  rcases h with ⟨o, h⟩ | h
  · exact .inl (.inr ⟨o, h⟩)
  · exact .inr h
mutual
inductive Rp (K : PySem.W.Frag) (H : Hp) : D → V → Prop
  | non : Rp K H .non .non
  | bl (b : Bool) : Rp K H (.bl b) (.bl b)
  | int (i : Int) : Rp K H (.int i) (.int i)
  | str (s : List Nat) : Rp K H (.str s) (.str ⟨s.toArray⟩)
  | tup {a : Addr} {vs : List V} {ds : List D} : H a = some (.tup vs) → RpA K H ds vs → Rp K H (.tup ds) (.ref a)
  | ktp {a : Addr} {vs : List V} {ds : List D} : SqT K H a vs → RpA K H ds vs → Rp K H (.ktp ds) (.ref a)
  | ref (a : Addr) : Rp K H (.ref a) (.ref a)
  | rol {a : Addr} {o : Obj} {vs : List V} {ds : List D} : H a = some (.frz o (.lst vs)) → RpA K H ds vs → Rp K H (.rol ds) (.ref a)
  | kol {a : Addr} {vs : List V} {ds : List D} : SqF K H a vs → RpA K H ds vs → Rp K H (.kol ds) (.ref a)
  | rdc {a : Addr} {o : Obj} {kvs : List (DK × D)} {vs : List (Key × V)} : H a = some (.frz o (.dK vs)) → RpK K H kvs vs → Rp K H (.rdc kvs) (.ref a)
  | rdt {a : Addr} {o : Obj} {kvs : List (List DK × D)} {vs : List (List Key × V)} : H a = some (.frz o (.dT vs)) → RpT K H kvs vs → Rp K H (.rdt kvs) (.ref a)
  | obj {a dx : Addr} {C : List Nat} {o : Obj} {fs : List (List Nat × D)} {vs : List (Str × V)} : H a = some (.frz o (.ins (cAt K C) dx vs)) → RpF K H fs vs → Rp K H (.obj C fs) (.ref a)
inductive RpA (K : PySem.W.Frag) (H : Hp) : List D → List V → Prop
  | nil : RpA K H [] []
  | cons {d : D} {v : V} {ds : List D} {vs : List V} : Rp K H d v → RpA K H ds vs → RpA K H (d :: ds) (v :: vs)
inductive RpK (K : PySem.W.Frag) (H : Hp) : List (DK × D) → List (Key × V) → Prop
  | nil : RpK K H [] []
  | cons {k : DK} {d : D} {v : V} {ds : List (DK × D)} {vs : List (Key × V)} : Rp K H d v → RpK K H ds vs → RpK K H ((k, d) :: ds) ((ofK k, v) :: vs)
inductive RpT (K : PySem.W.Frag) (H : Hp) : List (List DK × D) → List (List Key × V) → Prop
  | nil : RpT K H [] []
  | cons {k : List DK} {d : D} {v : V} {ds : List (List DK × D)} {vs : List (List Key × V)} : Rp K H d v → RpT K H ds vs → RpT K H ((k, d) :: ds) ((k.map ofK, v) :: vs)
inductive RpF (K : PySem.W.Frag) (H : Hp) : List (List Nat × D) → List (Str × V) → Prop
  | nil : RpF K H [] []
  | cons {k : List Nat} {d : D} {v : V} {ds : List (List Nat × D)} {vs : List (Str × V)} : Rp K H d v → RpF K H ds vs → RpF K H ((k, d) :: ds) ((⟨k.toArray⟩, v) :: vs)
end
structure ExtT (H H' : Hp) : Prop where
  tup : ∀ b xs, H b = some (.tup xs) → H' b = some (.tup xs)
  frz : ∀ b o u, H b = some (.frz o u) → H' b = some (.frz o u)
theorem ExtT.refl {H : Hp} : ExtT H H := ⟨fun _ _ h => h, fun _ _ _ h => h⟩
theorem ExtT.trans {H H1 H2 : Hp} (a : ExtT H H1) (b : ExtT H1 H2) : ExtT H H2 := ⟨fun c xs h => b.tup c xs (a.tup c xs h), fun c o u h => b.frz c o u (a.frz c o u h)⟩
theorem ExtT.new {H : Hp} {p : Addr} {o : HO} (h : H p = none) : ExtT H (upd H p o) :=
  ⟨fun b xs e => by rw [upd_ne (ne_of_none e h)]; exact e, fun b ob u e => by rw [upd_ne (ne_of_none e h)]; exact e⟩
theorem ExtT.write {H : Hp} {p : Addr} {o u : HO} (h : H p = some u) (m : Mut (some u)) : ExtT H (upd H p o) := by
  refine ⟨fun b xs e => ?_, fun b ob w e => ?_⟩
  · have n : b ≠ p := by intro z; subst z; rw [h] at e; cases e; exact m
    rw [upd_ne n]; exact e
  · have n : b ≠ p := by intro z; subst z; rw [h] at e; cases e; exact m
    rw [upd_ne n]; exact e
theorem Rd.ext {H H' : Hp} {a : Addr} {xs : List V} (e : ExtT H H') (h : Rd H a (.tup xs)) : Rd H' a (.tup xs) := by
  rcases h with h | ⟨o, h⟩
  · exact .inl (e.tup _ _ h)
  · exact .inr ⟨o, e.frz _ _ _ h⟩
theorem SqT.ext {K : PySem.W.Frag} {H H' : Hp} {a : Addr} {xs : List V} (e : ExtT H H') (h : SqT K H a xs) : SqT K H' a xs := by
  rcases h with h | h
  · exact .inl (Rd.ext e h)
  · exact .inr h
section
variable {K : PySem.W.Frag} {H H' : Hp}
theorem SqF.ext {K : PySem.W.Frag} {H H' : Hp} {a : Addr} {xs : List V} (e : ExtT H H') (h : SqF K H a xs) : SqF K H' a xs := by
  rcases h with ⟨o, h⟩ | h
  · exact .inl ⟨o, e.frz _ _ _ h⟩
  · exact .inr h
mutual
theorem Rp.ext (e : ExtT H H') : ∀ {d : D} {v : V}, Rp K H d v → Rp K H' d v
  | _, _, .non => .non
  | _, _, .bl b => .bl b
  | _, _, .int i => .int i
  | _, _, .str s => .str s
  | _, _, .tup h r => .tup (e.tup _ _ h) (RpA.ext e r)
  | _, _, .ktp h r => .ktp (SqT.ext e h) (RpA.ext e r)
  | _, _, .ref a => .ref a
  | _, _, .rol h r => .rol (e.frz _ _ _ h) (RpA.ext e r)
  | _, _, .kol h r => .kol (SqF.ext e h) (RpA.ext e r)
  | _, _, .rdc h r => .rdc (e.frz _ _ _ h) (RpK.ext e r)
  | _, _, .rdt h r => .rdt (e.frz _ _ _ h) (RpT.ext e r)
  | _, _, .obj h r => .obj (e.frz _ _ _ h) (RpF.ext e r)
theorem RpA.ext (e : ExtT H H') : ∀ {ds : List D} {vs : List V}, RpA K H ds vs → RpA K H' ds vs
  | _, _, .nil => .nil
  | _, _, .cons r t => .cons (Rp.ext e r) (RpA.ext e t)
theorem RpK.ext (e : ExtT H H') : ∀ {ds : List (DK × D)} {vs : List (Key × V)}, RpK K H ds vs → RpK K H' ds vs
  | _, _, .nil => .nil
  | _, _, .cons r t => .cons (Rp.ext e r) (RpK.ext e t)
theorem RpT.ext (e : ExtT H H') : ∀ {ds : List (List DK × D)} {vs : List (List Key × V)}, RpT K H ds vs → RpT K H' ds vs
  | _, _, .nil => .nil
  | _, _, .cons r t => .cons (Rp.ext e r) (RpT.ext e t)
theorem RpF.ext (e : ExtT H H') : ∀ {ds : List (List Nat × D)} {vs : List (Str × V)}, RpF K H ds vs → RpF K H' ds vs
  | _, _, .nil => .nil
  | _, _, .cons r t => .cons (Rp.ext e r) (RpF.ext e t)
end
theorem RpA.length : ∀ {ds : List D} {vs : List V}, RpA K H ds vs → ds.length = vs.length
  | _, _, .nil => rfl
  | _, _, .cons _ t => congrArg (· + 1) (RpA.length t)
theorem RpA.get : ∀ {ds : List D} {vs : List V} {i : Nat} {d : D}, RpA K H ds vs → ds[i]? = some d → ∃ v, vs[i]? = some v ∧ Rp K H d v
  | _, _, _, _, .nil, e => by simp at e
  | _, _, 0, _, .cons r _, e => by simp at e; subst e; exact ⟨_, rfl, r⟩
  | _, _, i + 1, d, .cons _ t, e => by
    obtain ⟨v, h1, h2⟩ := RpA.get (i := i) (d := d) t (by simpa using e)
    exact ⟨v, by simpa using h1, h2⟩
theorem RpA.getV : ∀ {ds : List D} {vs : List V} {i : Nat} {v : V}, RpA K H ds vs → vs[i]? = some v → ∃ d, ds[i]? = some d ∧ Rp K H d v
  | _, _, _, _, .nil, e => by simp at e
  | _, _, 0, _, .cons r _, e => by simp at e; subst e; exact ⟨_, rfl, r⟩
  | _, _, i + 1, d, .cons _ t, e => by
    obtain ⟨v, h1, h2⟩ := RpA.getV (i := i) (v := d) t (by simpa using e)
    exact ⟨v, by simpa using h1, h2⟩
theorem RpA.app : ∀ {ds es : List D} {vs ws : List V}, RpA K H ds vs → RpA K H es ws → RpA K H (ds ++ es) (vs ++ ws)
  | _, _, _, _, .nil, s => s
  | _, _, _, _, .cons r t, s => .cons r (RpA.app t s)
theorem RpA.take : ∀ {ds : List D} {vs : List V} (n : Nat), RpA K H ds vs → RpA K H (ds.take n) (vs.take n)
  | _, _, 0, _ => .nil
  | _, _, _ + 1, .nil => .nil
  | _, _, n + 1, .cons r t => .cons r (RpA.take n t)
theorem RpA.drop : ∀ {ds : List D} {vs : List V} (n : Nat), RpA K H ds vs → RpA K H (ds.drop n) (vs.drop n)
  | _, _, 0, r => r
  | _, _, _ + 1, .nil => .nil
  | _, _, n + 1, .cons _ t => RpA.drop n t
theorem RpA.set {d : D} {v : V} (r : Rp K H d v) : ∀ {ds : List D} {vs : List V} (i : Nat), RpA K H ds vs → RpA K H (ds.set i d) (vs.set i v)
  | _, _, _, .nil => .nil
  | _, _, 0, .cons _ t => .cons r t
  | _, _, i + 1, .cons q t => .cons q (RpA.set r i t)
theorem RpA.erase : ∀ {ds : List D} {vs : List V} (i : Nat), RpA K H ds vs → RpA K H (ds.eraseIdx i) (vs.eraseIdx i)
  | _, _, _, .nil => .nil
  | _, _, 0, .cons _ t => t
  | _, _, i + 1, .cons q t => .cons q (RpA.erase i t)
theorem RpA.dropLast {ds : List D} {vs : List V} (h : RpA K H ds vs) : RpA K H ds.dropLast vs.dropLast := by
  have e := h.length
  rw [List.dropLast_eq_take, List.dropLast_eq_take, e]
  exact RpA.take _ h
theorem RpA.rev {ds : List D} {vs : List V} (h : RpA K H ds vs) : RpA K H ds.reverse vs.reverse := by
  have go : ∀ {ds : List D} {vs : List V}, RpA K H ds vs → RpA K H ds.reverse vs.reverse := by
    intro ds
    induction ds with
    | nil => intro vs h; cases h; exact .nil
    | cons d ds ih =>
      intro vs h
      cases h with
      | cons r t => rw [List.reverse_cons, List.reverse_cons]; exact (ih t).app (.cons r .nil)
  exact go h
end
def HrO (K : PySem.W.Frag) (H : Hp) (a : Addr) : GO → Prop
  | .lst xs => ∃ vs, H a = some (.lst vs) ∧ RpA K H xs vs
  | .dct kvs => ∃ vs, H a = some (.dK vs) ∧ RpK K H kvs vs
  | .dtt kvs => ∃ vs, H a = some (.dT vs) ∧ RpT K H kvs vs
  | .ins C fs => ∃ dx vs, H a = some (.ins (cAt K C) dx vs) ∧ RpF K H fs vs
def Hr (K : PySem.W.Frag) (H : Hp) (G : Hg) : Prop := ∀ a o, G a = some o → HrO K H a o
abbrev Ev := List (Option D)
structure Er (K : PySem.W.Frag) (H : Hp) (e : Ev) (σ : L2.St) : Prop where
  len : e.length = σ.length
  at_ : ∀ (i : Nat) d, e[i]? = some (some d) → ∃ v, σ[i]? = some (some v) ∧ Rp K H d v
section
variable {K : PySem.W.Frag} {H H' : Hp} {G : Hg}
theorem Er.ext {e : Ev} {σ : L2.St} (x : ExtT H H') (h : Er K H e σ) : Er K H' e σ := ⟨h.len, fun i d z => let ⟨v, a, b⟩ := h.at_ i d z; ⟨v, a, Rp.ext x b⟩⟩
theorem Er.set {e : Ev} {σ : L2.St} {d : D} {v : V} (h : Er K H e σ) (r : Rp K H d v) (i : Nat) : Er K H (e.set i (some d)) (σ.set i (some v)) := by
  refine ⟨by rw [List.length_set, List.length_set]; exact h.len, fun j d' z => ?_⟩
  by_cases hj : i = j
  · subst hj
    by_cases hi : i < e.length
    · rw [List.getElem?_set_self hi] at z
      cases z
      exact ⟨v, by rw [List.getElem?_set_self (by rw [← h.len]; exact hi)], r⟩
    · rw [List.getElem?_eq_none (by rw [List.length_set]; omega)] at z
      cases z
  · rw [List.getElem?_set_ne hj] at z
    obtain ⟨w, a, b⟩ := h.at_ j d' z
    exact ⟨w, by rw [List.getElem?_set_ne hj]; exact a, b⟩
theorem HrO.stay {a : Addr} {o : GO} (x : ExtT H H') (e : H' a = H a) (h : HrO K H a o) : HrO K H' a o := by
  cases o with
  | lst xs => obtain ⟨vs, p, r⟩ := h; exact ⟨vs, by rw [e]; exact p, RpA.ext x r⟩
  | dct kvs => obtain ⟨vs, p, r⟩ := h; exact ⟨vs, by rw [e]; exact p, RpK.ext x r⟩
  | dtt kvs => obtain ⟨vs, p, r⟩ := h; exact ⟨vs, by rw [e]; exact p, RpT.ext x r⟩
  | ins C fs => obtain ⟨dx, vs, p, r⟩ := h; exact ⟨dx, vs, by rw [e]; exact p, RpF.ext x r⟩
theorem Hr.new {p : Addr} {o : HO} {g : GO} (h : Hr K H G) (hp : H p = none) (hg : G p = none) (r : HrO K (upd H p o) p g) : Hr K (upd H p o) (updG G p g) := by
  intro a ob e
  by_cases ha : a = p
  · subst ha; rw [updG_same] at e; cases e; exact r
  · rw [updG_ne ha] at e
    exact (h a ob e).stay (.new hp) (upd_ne ha)
theorem Hr.newT {p : Addr} {o : HO} (h : Hr K H G) (hp : H p = none) (hg : G p = none) : Hr K (upd H p o) G := by
  intro a ob e
  have ha : a ≠ p := by intro z; subst z; rw [hg] at e; cases e
  exact (h a ob e).stay (.new hp) (upd_ne ha)
theorem Hr.write {p : Addr} {o u : HO} {g : GO} (h : Hr K H G) (hp : H p = some u) (m : Mut (some u)) (r : HrO K (upd H p o) p g) : Hr K (upd H p o) (updG G p g) := by
  intro a ob e
  by_cases ha : a = p
  · subst ha; rw [updG_same] at e; cases e; exact r
  · rw [updG_ne ha] at e
    exact (h a ob e).stay (.write hp m) (upd_ne ha)
end
theorem HrO.mut {K : PySem.W.Frag} {H : Hp} {a : Addr} {o : GO} (h : HrO K H a o) : ∃ u, H a = some u ∧ Mut (some u) := by
  cases o with
  | lst xs => obtain ⟨vs, p, _⟩ := h; exact ⟨_, p, trivial⟩
  | dct kvs => obtain ⟨vs, p, _⟩ := h; exact ⟨_, p, trivial⟩
  | dtt kvs => obtain ⟨vs, p, _⟩ := h; exact ⟨_, p, trivial⟩
  | ins C fs => obtain ⟨dx, vs, p, _⟩ := h; exact ⟨_, p, trivial⟩
theorem Hr.none {K : PySem.W.Frag} {H : Hp} {G : Hg} (h : Hr K H G) {p : Addr} (hp : H p = none) : G p = none := by
  cases e : G p with
  | none => rfl
  | some o =>
    obtain ⟨u, q, _⟩ := (h p o e).mut
    rw [hp] at q; cases q
def delG (G : Hg) (a : Addr) : Hg := fun b => if b = a then none else G b
theorem Hr.lock {K : PySem.W.Frag} {H : Hp} {G : Hg} {a : Addr} {u : HO} {od : Obj} (h : Hr K H G) (hu : H a = some u) (m : Mut (some u)) : Hr K (upd H a (.frz od u)) (delG G a) := by
  intro b o e
  unfold delG at e
  by_cases hb : b = a
  · rw [if_pos hb] at e; cases e
  · rw [if_neg hb] at e
    exact (h b o e).stay (.write hu m) (upd_ne hb)
end Vc

set_option Elab.async false
set_option linter.all false
set_option autoImplicit false
set_option maxRecDepth 100000
set_option maxHeartbeats 2000000
namespace Vc
open PySem PySem.Spec PyProof.Rows L2
abbrev KD := D → Hg → Prop
abbrev TEg := Ev → Hg → KD → Prop
abbrev TTg := Ev → Hg → (Bool → Hg → Prop) → Prop
abbrev TAg := Ev → Hg → (List D → Hg → Prop) → Prop
def LD (K : PySem.W.Frag) (H : Hp) (P : KD) (Q : VK) : Prop := ∀ d G' v H', P d G' → ExtT H H' → Rp K H' d v → Hr K H' G' → Q v H'
def LB (K : PySem.W.Frag) (H : Hp) (P : Bool → Hg → Prop) (Q : Bool → Hp → Prop) : Prop := ∀ b G' H', P b G' → ExtT H H' → Hr K H' G' → Q b H'
def LA (K : PySem.W.Frag) (H : Hp) (P : List D → Hg → Prop) (Q : List V → Hp → Prop) : Prop := ∀ ds G' vs H', P ds G' → ExtT H H' → RpA K H' ds vs → Hr K H' G' → Q vs H'
def lE (K : PySem.W.Frag) (t : TEg) : TE := fun σ H Q => ∃ env G P, Er K H env σ ∧ Hr K H G ∧ t env G P ∧ LD K H P Q
def lT (K : PySem.W.Frag) (t : TTg) : TT := fun σ H Q => ∃ env G P, Er K H env σ ∧ Hr K H G ∧ t env G P ∧ LB K H P Q
def lA (K : PySem.W.Frag) (t : TAg) : TA := fun σ H Q => ∃ env G P, Er K H env σ ∧ Hr K H G ∧ t env G P ∧ LA K H P Q
theorem LD.mono {K : PySem.W.Frag} {H H1 : Hp} {P : KD} {Q : VK} (h : LD K H P Q) (e : ExtT H H1) : LD K H1 P Q := fun d G' v H' p x r g => h d G' v H' p (e.trans x) r g
theorem LB.mono {K : PySem.W.Frag} {H H1 : Hp} {P : Bool → Hg → Prop} {Q : Bool → Hp → Prop} (h : LB K H P Q) (e : ExtT H H1) : LB K H1 P Q := fun b G' H' p x g => h b G' H' p (e.trans x) g
theorem LA.mono {K : PySem.W.Frag} {H H1 : Hp} {P : List D → Hg → Prop} {Q : List V → Hp → Prop} (h : LA K H P Q) (e : ExtT H H1) : LA K H1 P Q := fun d G' v H' p x r g => h d G' v H' p (e.trans x) r g
theorem PE.imp {X : Cx} {e : Expr} {t t' : TE} (h : PE X e t) (i : ∀ σ H Q, t' σ H Q → t σ H Q) : PE X e t' := ⟨fun pins s σ H Q I q => h.run pins s σ H Q I (i σ H Q q)⟩
theorem PT.imp {X : Cx} {e : Expr} {t t' : TT} (h : PT X e t) (i : ∀ σ H Q, t' σ H Q → t σ H Q) : PT X e t' := ⟨fun pins s σ H Q I q => h.run pins s σ H Q I (i σ H Q q)⟩
theorem PA.imp {X : Cx} {e : List Expr} {t t' : TA} (h : PA X e t) (i : ∀ σ H Q, t' σ H Q → t σ H Q) : PA X e t' := ⟨fun pos pins s σ H Q I q => h.run pos pins s σ H Q I (i σ H Q q)⟩
def tFz (t : TE) : TE := fun σ H Q => t σ H fun v H1 => Q v H1 ∨ ∃ a u, v = .ref a ∧ H1 a = some u ∧ Mut (some u) ∧ ∀ od, Q v (upd H1 a (.frz od u))
theorem pe_fz {X : Cx} {e : Expr} {t : TE} (h : PE X e t) : PE X e (tFz t) := by
  refine ⟨fun pins s σ H Q I q => ?_⟩
  refine thn (h.run pins s σ H _ I q) fun u s1 ⟨v, H1, I1, r1, q1⟩ => ?_
  rcases q1 with q1 | ⟨a, o, rfl, ha, m, q1⟩
  · exact ⟨v, H1, I1, r1, q1⟩
  · obtain ⟨od, I2⟩ := I1.lock ha m
    exact ⟨.ref a, _, I2, r1, q1 od⟩
def gVar (i : Nat) : TEg := fun env G P => match env[i]? with
  | some (some d) => P d G
  | _ => False
def gC (d : D) : TEg := fun _ G P => P d G
section
variable {X : Cx} {a b e : Expr} {pos : Pos} {ta tb : TEg}
theorem ge_var {i : Nat} {x : Str} (hN : X.N[i]? = some x) (hv : Vis X.env.scope x) (hd : (x == ("__debug__" : Str)) = false) (hcd : (x == ("__classdict__" : Str)) = false) : PE X (.Name x pos) (lE X.K (gVar i)) := by
  refine PE.imp (pe_var hN hv hd hcd) fun σ H Q ⟨env, G, P, er, hr, t, k⟩ => ?_
  unfold gVar at t
  split at t
  · rename_i d e1
    obtain ⟨v, e2, r⟩ := er.at_ i d e1
    exact ⟨v, e2, k d G v H t .refl r hr⟩
  · exact t.elim
theorem ge_c {d : D} {v : V} (h : PE X e (tC v)) (r : ∀ H, Rp X.K H d v) : PE X e (lE X.K (gC d)) :=
  PE.imp h fun σ H Q ⟨env, G, P, er, hr, t, k⟩ => k d G v H t .refl (r H) hr
abbrev R2g := D → D → Hg → KD → Prop
def lR (K : PySem.W.Frag) (r : R2g) : R2 := fun x y H Q => ∃ dx dy G P, Rp K H dx x ∧ Rp K H dy y ∧ Hr K H G ∧ r dx dy G P ∧ LD K H P Q
def gOp (r : R2g) (ta tb : TEg) : TEg := fun env G P => ta env G fun x G1 => tb env G1 fun y G2 => r x y G2 P
theorem lE2 {K : PySem.W.Frag} {r : R2g} {σ : L2.St} {H : Hp} {Q : VK} (h : lE K (gOp r ta tb) σ H Q) : tOp (lR K r) (lE K ta) (lE K tb) σ H Q := by
  obtain ⟨env, G, P, er, hr, t, k⟩ := h
  refine ⟨env, G, _, er, hr, t, fun x G1 v H1 t1 x1 r1 g1 => ?_⟩
  refine ⟨env, G1, _, er.ext x1, g1, t1, fun y G2 w H2 t2 x2 r2 g2 => ?_⟩
  exact ⟨x, y, G2, P, r1.ext x2, r2, g2, t2, k.mono (x1.trans x2)⟩
theorem ge_op {op : Operator} {r : R2g} (ho : OpR X (binaryOp op) (lR X.K r)) (ha : PE X a (lE X.K ta)) (hb : PE X b (lE X.K tb)) : PE X (.BinOp a op b pos) (lE X.K (gOp r ta tb)) :=
  PE.imp (pe_op ho ha hb) fun σ H Q h => lE2 h
theorem ge_cmp {op : CmpOp} {r : R2g} (ho : OpR X (compareOp op) (lR X.K r)) (ha : PE X a (lE X.K ta)) (hb : PE X b (lE X.K tb)) (hm : behindInMarks op b = false) : PE X (.Compare a [op] [b] pos) (lE X.K (gOp r ta tb)) :=
  PE.imp (pe_cmpR ho ha hb hm) fun σ H Q h => lE2 h
def gB (t : TEg) : TTg := fun env G P => t env G fun d G1 => match d with
  | .bl b => P b G1
  | _ => False
theorem gt_cmp {op : CmpOp} {r : R2g} (ho : OpR X (compareOp op) (lR X.K r)) (ha : PE X a (lE X.K ta)) (hb : PE X b (lE X.K tb)) (hm : behindInMarks op b = false) : PT X (.Compare a [op] [b] pos) (lT X.K (gB (gOp r ta tb))) :=
  PT.imp (pt_cmpR ho ha hb hm) fun σ H Q ⟨env, G, P, er, hr, t, k⟩ => by
    refine lE2 ⟨env, G, _, er, hr, t, fun d G1 v H1 t1 x1 r1 g1 => ?_⟩
    split at t1
    · cases r1
      exact ⟨_, rfl, k _ G1 H1 t1 x1 g1⟩
    · exact t1.elim
def gCh (r r' : R2g) (ta tb tc : TEg) : TEg := fun env G P => ta env G fun x G1 => tb env G1 fun y G2 => r x y G2 fun z G3 => match z with
  | .bl true => tc env G3 fun w G4 => r' y w G4 P
  | .bl false => P (.bl false) G3
  | _ => False
theorem lCh {K : PySem.W.Frag} {r r' : R2g} {tc : TEg} {σ : L2.St} {H : Hp} {Q : VK} (h : lE K (gCh r r' ta tb tc) σ H Q) : tChain (lR K r) (lR K r') (lE K ta) (lE K tb) (lE K tc) σ H Q := by
  obtain ⟨env, G, P, er, hr, t, k⟩ := h
  refine ⟨env, G, _, er, hr, t, fun x G1 v H1 t1 x1 r1 g1 => ?_⟩
  refine ⟨env, G1, _, er.ext x1, g1, t1, fun y G2 w H2 t2 x2 r2 g2 => ?_⟩
  refine ⟨x, y, G2, _, r1.ext x2, r2, g2, t2, fun z G3 u H3 t3 x3 r3 g3 => ?_⟩
  split at t3
  · cases r3
    refine ⟨true, rfl, ?_⟩
    rw [if_pos rfl]
    refine ⟨env, G3, _, ((er.ext x1).ext x2).ext x3, g3, t3, fun z' G4 u' H4 t4 x4 r4 g4 => ?_⟩
    exact ⟨y, z', G4, P, (r2.ext x3).ext x4, r4, g4, t4, k.mono (((x1.trans x2).trans x3).trans x4)⟩
  · cases r3
    refine ⟨false, rfl, ?_⟩
    rw [if_neg Bool.false_ne_true]
    exact k _ G3 _ H3 t3 ((x1.trans x2).trans x3) (.bl false) g3
  · exact t3.elim
theorem noLast {op op' : CmpOp} {c : Expr} (h2 : behindInMarks op' c = false) : lastMarks [op, op'] [b, c] = false := h2
theorem ge_chain {op op' : CmpOp} {r r' : R2g} {c : Expr} {tc : TEg} (ho : OpR X (compareOp op) (lR X.K r)) (ho' : OpR X (compareOp op') (lR X.K r')) (ha : PE X a (lE X.K ta)) (hb : PE X b (lE X.K tb)) (hc : PE X c (lE X.K tc))
    (h2 : behindInMarks op' c = false) : PE X (.Compare a [op, op'] [b, c] pos) (lE X.K (gCh r r' ta tb tc)) :=
  PE.imp (pe_chain ho ho' ha hb hc (noLast h2)) fun σ H Q h => lCh h
theorem gt_chain {op op' : CmpOp} {r r' : R2g} {c : Expr} {tc : TEg} (ho : OpR X (compareOp op) (lR X.K r)) (ho' : OpR X (compareOp op') (lR X.K r')) (ha : PE X a (lE X.K ta)) (hb : PE X b (lE X.K tb)) (hc : PE X c (lE X.K tc))
    (h2 : behindInMarks op' c = false) : PT X (.Compare a [op, op'] [b, c] pos) (lT X.K (gB (gCh r r' ta tb tc))) :=
  PT.imp (pt_chain ho ho' ha hb hc (noLast h2)) fun σ H Q ⟨env, G, P, er, hr, t, k⟩ => by
    refine lCh ⟨env, G, _, er, hr, t, fun d G1 v H1 t1 x1 r1 g1 => ?_⟩
    split at t1
    · cases r1
      exact ⟨_, rfl, k _ G1 H1 t1 x1 g1⟩
    · exact t1.elim
def gAnd (t u : TTg) : TTg := fun env G P => t env G fun c G1 => match c with
  | true => u env G1 P
  | false => P false G1
def gOr (t u : TTg) : TTg := fun env G P => t env G fun c G1 => match c with
  | true => P true G1
  | false => u env G1 P
def gNot (t : TTg) : TTg := fun env G P => t env G fun c G1 => P (!c) G1
variable {tA tB : TTg} {rest : List Expr}
theorem PW.imp {e : Expr} {t t' : TT} (h : PW X e t) (i : ∀ σ H Q, t' σ H Q → t σ H Q) : PW X e t' := ⟨fun wh pins s σ H Q I q => h.run wh pins s σ H Q I (i σ H Q q)⟩
theorem gw_and (ha : PT X a (lT X.K tA)) (hb : PW X (.BoolOp .And (b :: rest) pos) (lT X.K tB)) : PW X (.BoolOp .And (a :: b :: rest) pos) (lT X.K (gAnd tA tB)) :=
  PW.imp (pw_and ha hb) fun σ H Q ⟨env, G, P, er, hr, t, k⟩ => by
    refine ⟨env, G, _, er, hr, t, fun c G1 H1 t1 x1 g1 => ?_⟩
    cases c with
    | true => rw [if_pos rfl]; exact ⟨env, G1, P, er.ext x1, g1, t1, k.mono x1⟩
    | false => rw [if_neg Bool.false_ne_true]; exact k false G1 H1 t1 x1 g1
theorem gw_or (ha : PT X a (lT X.K tA)) (hb : PW X (.BoolOp .Or (b :: rest) pos) (lT X.K tB)) : PW X (.BoolOp .Or (a :: b :: rest) pos) (lT X.K (gOr tA tB)) :=
  PW.imp (pw_or ha hb) fun σ H Q ⟨env, G, P, er, hr, t, k⟩ => by
    refine ⟨env, G, _, er, hr, t, fun c G1 H1 t1 x1 g1 => ?_⟩
    cases c with
    | true => rw [if_pos rfl]; exact k true G1 H1 t1 x1 g1
    | false => rw [if_neg Bool.false_ne_true]; exact ⟨env, G1, P, er.ext x1, g1, t1, k.mono x1⟩
theorem gt_not (ha : PT X a (lT X.K tA)) : PT X (.UnaryOp .Not a pos) (lT X.K (gNot tA)) :=
  PT.imp (pt_not ha) fun σ H Q ⟨env, G, P, er, hr, t, k⟩ => ⟨env, G, _, er, hr, t, fun c G1 H1 t1 x1 g1 => k _ G1 H1 t1 x1 g1⟩
def gAndV (ta tb : TEg) : TEg := fun env G P => ta env G fun x G1 => match x with
  | .bl true => tb env G1 P
  | .bl false => P (.bl false) G1
  | _ => False
def gOrV (ta tb : TEg) : TEg := fun env G P => ta env G fun x G1 => match x with
  | .bl true => P (.bl true) G1
  | .bl false => tb env G1 P
  | _ => False
def gNotV (ta : TEg) : TEg := fun env G P => ta env G fun x G1 => match x with
  | .bl b => P (.bl (!b)) G1
  | _ => False
theorem ge_and (ha : PE X a (lE X.K ta)) (hb : PE X (.BoolOp .And (b :: rest) pos) (lE X.K tb)) : PE X (.BoolOp .And (a :: b :: rest) pos) (lE X.K (gAndV ta tb)) :=
  PE.imp (pe_and ha hb) fun σ H Q ⟨env, G, P, er, hr, t, k⟩ => by
    refine ⟨env, G, _, er, hr, t, fun c G1 v H1 t1 x1 r1 g1 => ?_⟩
    split at t1
    · cases r1
      exact ⟨true, rfl, by rw [if_pos rfl]; exact ⟨env, G1, P, er.ext x1, g1, t1, k.mono x1⟩⟩
    · cases r1
      exact ⟨false, rfl, by rw [if_neg Bool.false_ne_true]; exact k _ G1 _ H1 t1 x1 (.bl false) g1⟩
    · exact t1.elim
theorem ge_or (ha : PE X a (lE X.K ta)) (hb : PE X (.BoolOp .Or (b :: rest) pos) (lE X.K tb)) : PE X (.BoolOp .Or (a :: b :: rest) pos) (lE X.K (gOrV ta tb)) :=
  PE.imp (pe_or ha hb) fun σ H Q ⟨env, G, P, er, hr, t, k⟩ => by
    refine ⟨env, G, _, er, hr, t, fun c G1 v H1 t1 x1 r1 g1 => ?_⟩
    split at t1
    · cases r1
      exact ⟨true, rfl, by rw [if_pos rfl]; exact k _ G1 _ H1 t1 x1 (.bl true) g1⟩
    · cases r1
      exact ⟨false, rfl, by rw [if_neg Bool.false_ne_true]; exact ⟨env, G1, P, er.ext x1, g1, t1, k.mono x1⟩⟩
    · exact t1.elim
theorem ge_not (ha : PE X a (lE X.K ta)) : PE X (.UnaryOp .Not a pos) (lE X.K (gNotV ta)) :=
  PE.imp (pe_not ha) fun σ H Q ⟨env, G, P, er, hr, t, k⟩ => by
    refine ⟨env, G, _, er, hr, t, fun c G1 v H1 t1 x1 r1 g1 => ?_⟩
    split at t1
    · cases r1
      exact ⟨_, rfl, k _ G1 _ H1 t1 x1 (.bl _) g1⟩
    · exact t1.elim
def gIf (t : TTg) (ta tb : TEg) : TEg := fun env G P => t env G fun c G1 => match c with
  | true => ta env G1 P
  | false => tb env G1 P
theorem ge_if {c : Expr} (hc : PT X c (lT X.K tA)) (ha : PE X a (lE X.K ta)) (hb : PE X b (lE X.K tb)) : PE X (.IfExp c a b pos) (lE X.K (gIf tA ta tb)) :=
  PE.imp (pe_ifExp hc ha hb) fun σ H Q ⟨env, G, P, er, hr, t, k⟩ => by
    refine ⟨env, G, _, er, hr, t, fun c G1 H1 t1 x1 g1 => ?_⟩
    cases c with
    | true => rw [if_pos rfl]; exact ⟨env, G1, P, er.ext x1, g1, t1, k.mono x1⟩
    | false => rw [if_neg Bool.false_ne_true]; exact ⟨env, G1, P, er.ext x1, g1, t1, k.mono x1⟩
def rTru (d : D) (G : Hg) (P : Bool → Hg → Prop) : Prop := match d with
  | .non => P false G
  | .bl b => P b G
  | .int i => P (i != 0) G
  | .str s => s.length ≤ sizeLine ∧ P (!s.isEmpty) G
  | .tup ds => P (!ds.isEmpty) G
  | .ktp ds => P (!ds.isEmpty) G
  | .rol ds => P (!ds.isEmpty) G
  | .kol ds => P (!ds.isEmpty) G
  | .ref a => ∃ o, G a = some o ∧ match o with
    | .lst xs => P (!xs.isEmpty) G
    | .dct kvs => P (!kvs.isEmpty) G
    | _ => False
  | _ => False
def gTru (t : TEg) : TTg := fun env G P => t env G fun d G1 => rTru d G1 P
theorem RpA.emp {K : PySem.W.Frag} {H : Hp} {ds : List D} {vs : List V} (r : RpA K H ds vs) : vs.isEmpty = ds.isEmpty := by
  cases r <;> rfl
theorem RpK.emp {K : PySem.W.Frag} {H : Hp} {ds : List (DK × D)} {vs : List (Key × V)} (r : RpK K H ds vs) : vs.isEmpty = ds.isEmpty := by
  cases r <;> rfl
theorem gt_tru (ha : PE X a (lE X.K ta)) (he : ∀ whole, isTrue a X.env whole = (do let v ← whole; standAt a.pos; holding [v] (truthy v))) : PT X a (lT X.K (gTru ta)) :=
  PT.imp (pt_truth ha he) fun σ H Q ⟨env, G, P, er, hr, t, k⟩ => by
    refine ⟨env, G, _, er, hr, t, fun d G1 v H1 t1 x1 r1 g1 => ?_⟩
    cases r1 with
    | non => exact ⟨false, rfl, k _ G1 H1 t1 x1 g1⟩
    | bl b => exact ⟨b, rfl, k _ G1 H1 t1 x1 g1⟩
    | int i => exact ⟨i != 0, rfl, k _ G1 H1 t1 x1 g1⟩
    | str s =>
      obtain ⟨hl, t1⟩ := t1
      refine ⟨!s.isEmpty, ⟨by simpa [Str.length] using hl, ?_⟩, k _ G1 H1 t1 x1 g1⟩
      cases s <;> simp [Str.length] <;> omega
    | ktp h r => exact ⟨_, .inr (.inl ⟨_, h, rfl⟩), by rw [r.emp]; exact k _ G1 H1 t1 x1 g1⟩
    | tup h r => exact ⟨_, .inr (.inl ⟨_, SqT.of h, rfl⟩), by rw [r.emp]; exact k _ G1 H1 t1 x1 g1⟩
    | rol h r => exact ⟨_, .inl ⟨_, .inl (.inr ⟨_, h⟩), rfl⟩, by rw [r.emp]; exact k _ G1 H1 t1 x1 g1⟩
    | kol h r => exact ⟨_, .inl ⟨_, h.sql, rfl⟩, by rw [r.emp]; exact k _ G1 H1 t1 x1 g1⟩
    | ref p =>
      obtain ⟨o, ho, t1⟩ := t1
      have q := g1 p o ho
      cases o with
      | lst xs =>
        obtain ⟨vs, e, r⟩ := q
        exact ⟨_, .inl ⟨_, .of e, rfl⟩, by rw [r.emp]; exact k _ G1 H1 t1 x1 g1⟩
      | dct kvs =>
        obtain ⟨vs, e, r⟩ := q
        exact ⟨_, .inr (.inr ⟨_, e, rfl⟩), by rw [r.emp]; exact k _ G1 H1 t1 x1 g1⟩
      | _ => exact t1.elim
    | _ => exact t1.elim
def gNil : TAg := fun _ G P => P [] G
def gCons (t : TEg) (u : TAg) : TAg := fun env G P => t env G fun d G1 => u env G1 fun ds G2 => P (d :: ds) G2
theorem ga_nil : PA X [] (lA X.K gNil) := PA.imp pa_nil fun σ H Q ⟨env, G, P, er, hr, t, k⟩ => k [] G [] H t .refl .nil hr
theorem ga_cons {es : List Expr} {u : TAg} (ha : PE X a (lE X.K ta)) (hr : PA X es (lA X.K u)) (hs : starEach (a :: es) X.env = (false, eval a X.env) :: starEach es X.env) : PA X (a :: es) (lA X.K (gCons ta u)) :=
  PA.imp (pa_cons ha hr hs) fun σ H Q ⟨env, G, P, er, hr, t, k⟩ => by
    refine ⟨env, G, _, er, hr, t, fun d G1 v H1 t1 x1 r1 g1 => ?_⟩
    refine ⟨env, G1, _, er.ext x1, g1, t1, fun ds G2 vs H2 t2 x2 r2 g2 => ?_⟩
    exact k (d :: ds) G2 (v :: vs) H2 t2 (x1.trans x2) (.cons (r1.ext x2) r2) g2
structure New (G : Hg) (p : Addr) (o : GO) (G' : Hg) : Prop where
  fr : G p = none
  eq : G' = updG G p o
def rL (ds : List D) (G : Hg) (P : KD) : Prop := P (.rol ds) G ∨ ∀ p G', New G p (.lst ds) G' → P (.ref p) G'
theorem rL_ok {K : PySem.W.Frag} {H : Hp} {ds : List D} {vs : List V} {G : Hg} {P : KD} {Q : VK} (t : rL ds G P) (k : LD K H P Q) (r : RpA K H ds vs) (g : Hr K H G) :
    ∀ p, H p = none → (Q (.ref p) (upd H p (.lst vs)) ∨ ∃ a u, V.ref p = .ref a ∧ upd H p (.lst vs) a = some u ∧ Mut (some u) ∧ ∀ od, Q (.ref p) (upd (upd H p (.lst vs)) a (.frz od u))) := fun p hp => by
  rcases t with t | t
  · refine .inr ⟨p, _, rfl, upd_same, trivial, fun od => ?_⟩
    rw [upd_upd]
    exact k _ G _ _ t (.new hp) (.rol upd_same (r.ext (.new hp))) (g.newT hp (g.none hp))
  · refine .inl (k _ _ _ _ (t p _ ⟨g.none hp, rfl⟩) (.new hp) (.ref p) (g.new hp (g.none hp) ⟨vs, upd_same, r.ext (.new hp)⟩))
def gTup (u : TAg) : TEg := fun env G P => u env G fun ds G1 => ds.length ≤ sizeLine ∧ P (.tup ds) G1
def gLst (u : TAg) : TEg := fun env G P => u env G fun ds G1 => ds.length ≤ sizeLine ∧ rL ds G1 P
theorem ge_tup {es : List Expr} {u : TAg} {x1} (h : PA X es (lA X.K u)) : PE X (.Tuple es x1 pos) (lE X.K (gTup u)) :=
  PE.imp (pe_tup h) fun σ H Q ⟨env, G, P, er, hr, t, k⟩ => by
    refine ⟨env, G, _, er, hr, t, fun ds G1 vs H1 t1 x1 r1 g1 => ⟨by rw [← r1.length]; exact t1.1, fun p hp => ?_⟩⟩
    exact k _ G1 _ _ t1.2 (x1.trans (.new hp)) (.tup upd_same (r1.ext (.new hp))) (g1.newT hp (g1.none hp))
theorem ge_lst {es : List Expr} {u : TAg} (h : PA X es (lA X.K u)) : PE X (.List es pos) (lE X.K (gLst u)) :=
  PE.imp (pe_fz (pe_lst h)) fun σ H Q ⟨env, G, P, er, hr, t, k⟩ => by
    refine ⟨env, G, _, er, hr, t, fun ds G1 vs H1 t1 x1 r1 g1 => ⟨by rw [← r1.length]; exact t1.1, fun p hp => ?_⟩⟩
    exact rL_ok t1.2 (k.mono x1) r1 g1 p hp
end
end Vc

set_option Elab.async false
set_option linter.all false
set_option autoImplicit false
set_option maxRecDepth 100000
set_option maxHeartbeats 2000000
namespace Vc
open PySem PySem.Spec PyProof.Rows L2
inductive IsLi (G : Hg) : D → List D → Prop
  | rol (ds : List D) : IsLi G (.rol ds) ds
  | ref {a : Addr} {ds : List D} : G a = some (.lst ds) → IsLi G (.ref a) ds
theorem IsLi.rd {K : PySem.W.Frag} {H : Hp} {G : Hg} {x : D} {ds : List D} {v : V} (h : IsLi G x ds) (r : Rp K H x v) (g : Hr K H G) : ∃ a vs, v = .ref a ∧ Rd H a (.lst vs) ∧ RpA K H ds vs := by
  cases h with
  | rol => cases r with | rol e q => exact ⟨_, _, rfl, .inr ⟨_, e⟩, q⟩
  | ref e =>
    cases r
    obtain ⟨vs, p, q⟩ := g _ _ e
    exact ⟨_, _, rfl, .inl p, q⟩
inductive IsLk (G : Hg) : D → List D → Prop
  | li {x : D} {ds : List D} : IsLi G x ds → IsLk G x ds
  | kol (ds : List D) : IsLk G (.kol ds) ds
theorem IsLk.sq {K : PySem.W.Frag} {H : Hp} {G : Hg} {x : D} {ds : List D} {v : V} (h : IsLk G x ds) (r : Rp K H x v) (g : Hr K H G) : ∃ a vs, v = .ref a ∧ SqL K H a vs ∧ RpA K H ds vs := by
  cases h with
  | li h =>
    obtain ⟨a, vs, e, p, q⟩ := h.rd r g
    exact ⟨a, vs, e, .inl p, q⟩
  | kol => cases r with | kol e q => exact ⟨_, _, rfl, e.sql, q⟩
section
variable {X : Cx}
def rCatF : R2 := fun x y H Q => ∃ l b xs zs, x = .ref l ∧ y = .ref b ∧ Rd H l (.lst xs) ∧ Rd H b (.lst zs) ∧ xs.length + zs.length ≤ sizeLine ∧ ∀ p, H p = none → (Q (.ref p) (upd H p (.lst (xs ++ zs))) ∨ ∀ od, Q (.ref p) (upd (upd H p (.lst (xs ++ zs))) p (.frz od (.lst (xs ++ zs)))))
theorem op_catF : OpR X (binaryOp .Add) rCatF := by
  intro pins s σ H x y v u Q I rx ry h
  obtain ⟨l, b, xs, zs, rfl, rfl, hH, hB, hz, q⟩ := h
  cases rx
  cases ry
  obtain ⟨z, its, n, r, e⟩ := hH.ok I.hok
  obtain ⟨z2, its2, n2, r2, e2⟩ := hB.ok I.hok
  have hl := r.length
  have hl2 := r2.length
  refine PySem.P.add_list e e2 ?_ (by rw [List.size_toArray, List.size_toArray]; omega)
  have ea : its.toArray ++ its2.toArray = (its ++ its2).toArray := by simp
  rw [ea]
  have I2 := I.lnew (t' := s.toks) (r.append r2) (by rw [List.length_append]; omega)
  rcases q _ I.fresh with q | q
  · exact ⟨.ref _, _, I2, rfl, q⟩
  · obtain ⟨od, I3⟩ := I2.lock upd_same trivial
    exact ⟨.ref _, _, I3, rfl, q od⟩
def rAdd : R2g := fun x y G P => match x, y with
  | .int i, .int j => P (.int (i + j)) G
  | .str s, .str t => s.length + t.length ≤ sizeLine ∧ P (.str (s ++ t)) G
  | .tup xs, .tup ys => xs.length + ys.length ≤ sizeLine ∧ P (.tup (xs ++ ys)) G
  | x, y => ∃ xs ys, IsLi G x xs ∧ IsLi G y ys ∧ xs.length + ys.length ≤ sizeLine ∧ rL (xs ++ ys) G P
theorem rL_ok' {K : PySem.W.Frag} {H : Hp} {ds : List D} {vs : List V} {G : Hg} {P : KD} {Q : VK} (t : rL ds G P) (k : LD K H P Q) (r : RpA K H ds vs) (g : Hr K H G) :
    ∀ p, H p = none → (Q (.ref p) (upd H p (.lst vs)) ∨ ∀ od, Q (.ref p) (upd (upd H p (.lst vs)) p (.frz od (.lst vs)))) := fun p hp => by
  rcases rL_ok t k r g p hp with q | ⟨a, u, e, e2, m, q⟩
  · exact .inl q
  · injection e with e
    subst e
    rw [upd_same] at e2
    injection e2 with e2
    subst e2
    exact .inr q
theorem or_list {K : PySem.W.Frag} {H : Hp} {x y : V} {dx dy : D} {G : Hg} {P : KD} {Q : VK} (rx : Rp K H dx x) (ry : Rp K H dy y) (g : Hr K H G) (k : LD K H P Q)
    (t : ∃ xs ys, IsLi G dx xs ∧ IsLi G dy ys ∧ xs.length + ys.length ≤ sizeLine ∧ rL (xs ++ ys) G P) : rCatF x y H Q := by
  obtain ⟨xs, ys, h1, h2, hl, t⟩ := t
  obtain ⟨a, vs, rfl, p1, q1⟩ := h1.rd rx g
  obtain ⟨b, ws, rfl, p2, q2⟩ := h2.rd ry g
  exact ⟨a, b, vs, ws, rfl, rfl, p1, p2, by rw [← q1.length, ← q2.length]; exact hl, fun p hp => rL_ok' t k (q1.app q2) g p hp⟩
theorem og_add : OpR X (binaryOp .Add) (lR X.K rAdd) := by
  intro pins s σ H x y v u Q I rx ry h
  obtain ⟨dx, dy, G, P, hx, hy, g, t, k⟩ := h
  unfold rAdd at t
  split at t
  · cases hx; cases hy
    exact op_add pins s σ H _ _ v u Q I rx ry ⟨_, _, rfl, rfl, k _ G _ H t .refl (.int _) g⟩
  · cases hx; cases hy
    refine op_add_str pins s σ H _ _ v u Q I rx ry ⟨_, _, rfl, rfl, by simpa [Str.length] using t.1, ?_⟩
    rename_i s1 s2
    have e : (⟨s1.toArray⟩ : Str) ++ ⟨s2.toArray⟩ = ⟨(s1 ++ s2).toArray⟩ := by
      show Str.append _ _ = _
      simp [Str.append]
    rw [e]
    exact k _ G _ H t.2 .refl (.str _) g
  · rename_i xs ys
    cases hx with
    | tup e1 q1 =>
      cases hy with
      | tup e2 q2 =>
        refine op_catA pins s σ H _ _ v u Q I rx ry ⟨_, _, _, _, rfl, rfl, .of e1, .of e2, by rw [← q1.length, ← q2.length]; exact t.1, fun z => ?_, fun _ z => ?_, fun _ _ p hp => ?_⟩
        · subst z; cases q1
          exact k _ G _ H t.2 .refl (.tup e2 q2) g
        · subst z; cases q2
          refine k _ G _ H t.2 .refl (.tup e1 ?_) g
          rw [List.append_nil]; exact q1
        · exact k _ G _ _ t.2 (.new hp) (.tup upd_same ((q1.app q2).ext (.new hp))) (g.newT hp (g.none hp))
  · exact op_catF pins s σ H _ _ v u Q I rx ry (or_list hx hy g k t)
theorem og_int {f : Value → Value → Sem Value} {C : Int → Int → Prop} {c : Int → Int → V} {d : Int → Int → D} (o : OpR X f (rI C c)) (e : ∀ i j K H, Rp K H (d i j) (c i j)) :
    OpR X f (lR X.K fun x y G P => match x, y with
      | .int i, .int j => C i j ∧ P (d i j) G
      | _, _ => False) := by
  intro pins s σ H x y v u Q I rx ry h
  obtain ⟨dx, dy, G, P, hx, hy, g, t, k⟩ := h
  split at t
  · cases hx; cases hy
    exact o pins s σ H _ _ v u Q I rx ry ⟨_, _, rfl, rfl, t.1, k _ G _ H t.2 .refl (e _ _ _ _) g⟩
  · exact t.elim
def rInt (C : Int → Int → Prop) (d : Int → Int → D) : R2g := fun x y G P => match x, y with
  | .int i, .int j => C i j ∧ P (d i j) G
  | _, _ => False
def rSub : R2g := fun x y G P => match x, y with
  | .int i, .int j => P (.int (i - j)) G
  | _, _ => False
theorem og_sub : OpR X (binaryOp .Sub) (lR X.K rSub) := by
  intro pins s σ H x y v u Q I rx ry h
  obtain ⟨dx, dy, G, P, hx, hy, g, t, k⟩ := h
  unfold rSub at t
  split at t
  · cases hx; cases hy
    exact op_sub pins s σ H _ _ v u Q I rx ry ⟨_, _, rfl, rfl, k _ G _ H t .refl (.int _) g⟩
  · exact t.elim
abbrev rMul : R2g := rInt CMul fun i j => .int (i * j)
abbrev rFdiv : R2g := rInt CDiv fun i j => .int (i / j)
abbrev rMod : R2g := rInt (fun _ j => 0 < j) fun i j => .int (i % j)
abbrev rPow : R2g := rInt CPow fun i j => .int (i ^ j.toNat)
theorem og_mul : OpR X (binaryOp .Mult) (lR X.K rMul) := og_int op_mul fun _ _ _ _ => .int _
theorem og_fdiv : OpR X (binaryOp .FloorDiv) (lR X.K rFdiv) := og_int op_fdiv fun _ _ _ _ => .int _
theorem og_mod : OpR X (binaryOp .Mod) (lR X.K rMod) := og_int op_mod fun _ _ _ _ => .int _
theorem og_pow : OpR X (binaryOp .Pow) (lR X.K rPow) := og_int op_pow fun _ _ _ _ => .int _
def rOrd (p : Int → Int → Bool) (q : List Nat → List Nat → Bool) : R2g := fun x y G P => match x, y with
  | .int i, .int j => P (.bl (p i j)) G
  | .str s, .str t => P (.bl (q s t)) G
  | _, _ => False
abbrev rLt : R2g := rOrd (fun i j => decide (i < j)) fun s t => decide (s < t)
abbrev rLe : R2g := rOrd (fun i j => decide (i ≤ j)) fun s t => !decide (t < s)
abbrev rGt : R2g := rOrd (fun i j => decide (j < i)) fun s t => decide (t < s)
theorem og_ord {op : CmpOp} {p : Int → Int → Bool} {q : List Nat → List Nat → Bool} (o : OpR X (compareOp op) (rI0 fun i j => .bl (p i j)))
    (o' : OpR X (compareOp op) (fun x y H Q => ∃ i j, x = .str i ∧ y = .str j ∧ Q (.bl (q i.cps.toList j.cps.toList)) H)) : OpR X (compareOp op) (lR X.K (rOrd p q)) := by
  intro pins s σ H x y v u Q I rx ry h
  obtain ⟨dx, dy, G, P, hx, hy, g, t, k⟩ := h
  unfold rOrd at t
  split at t
  · cases hx; cases hy
    exact o pins s σ H _ _ v u Q I rx ry ⟨_, _, rfl, rfl, k _ G _ H t .refl (.bl _) g⟩
  · cases hx; cases hy
    exact o' pins s σ H _ _ v u Q I rx ry ⟨_, _, rfl, rfl, by simpa using k _ G _ H t .refl (.bl _) g⟩
  · exact t.elim
theorem og_lt : OpR X (compareOp .Lt) (lR X.K rLt) := og_ord op_lt op_lt_str
theorem og_le : OpR X (compareOp .LtE) (lR X.K rLe) := og_ord op_le op_le_str
theorem og_gt : OpR X (compareOp .Gt) (lR X.K rGt) := og_ord op_gt op_gt_str
def rGe : R2g := fun x y G P => match x, y with
  | .int i, .int j => P (.bl (decide (j ≤ i))) G
  | _, _ => False
theorem og_ge : OpR X (compareOp .GtE) (lR X.K rGe) := by
  intro pins s σ H x y v u Q I rx ry h
  obtain ⟨dx, dy, G, P, hx, hy, g, t, k⟩ := h
  unfold rGe at t
  split at t
  · cases hx; cases hy
    exact op_ge pins s σ H _ _ v u Q I rx ry ⟨_, _, rfl, rfl, k _ G _ H t .refl (.bl _) g⟩
  · exact t.elim
def isN : D → Bool
  | .non => true
  | _ => false
theorem Rp.isN {K : PySem.W.Frag} {H : Hp} {d : D} {v : V} (r : Rp K H d v) : decide (v = .non) = isN d := by
  cases r <;> simp [Vc.isN]
def rIs : R2g := fun x y G P => match y with
  | .non => P (.bl (isN x)) G
  | _ => False
def rIsnt : R2g := fun x y G P => match y with
  | .non => P (.bl (!isN x)) G
  | _ => False
theorem og_is : OpR X (compareOp .Is) (lR X.K rIs) := by
  intro pins s σ H x y v u Q I rx ry h
  obtain ⟨dx, dy, G, P, hx, hy, g, t, k⟩ := h
  unfold rIs at t
  split at t
  · cases hy
    exact op_isN pins s σ H _ _ v u Q I rx ry ⟨rfl, by rw [hx.isN]; exact k _ G _ H t .refl (.bl _) g⟩
  · exact t.elim
theorem og_isnt : OpR X (compareOp .IsNot) (lR X.K rIsnt) := by
  intro pins s σ H x y v u Q I rx ry h
  obtain ⟨dx, dy, G, P, hx, hy, g, t, k⟩ := h
  unfold rIsnt at t
  split at t
  · cases hy
    exact op_notN pins s σ H _ _ v u Q I rx ry ⟨rfl, by rw [hx.isN]; exact k _ G _ H t .refl (.bl _) g⟩
  · exact t.elim
end
end Vc

set_option Elab.async false
set_option linter.all false
set_option autoImplicit false
set_option maxRecDepth 100000
set_option maxHeartbeats 2000000
namespace Vc
open PySem PySem.Spec PyProof.Rows L2
mutual
def D.py : D → PyData
  | .non => .none
  | .bl b => .bool b
  | .int i => .int i
  | .str s => .str ⟨s.toArray⟩
  | .tup ds => .tuple (D.pys ds)
  | .rol ds => .list (D.pys ds)
  | .kol ds => .list (D.pys ds)
  | .ktp ds => .tuple (D.pys ds)
  | _ => .dict []
def D.pys : List D → List PyData
  | [] => []
  | d :: ds => d.py :: D.pys ds
end
mutual
def D.pr : Nat → D → Bool
  | _, .non => true
  | _, .bl _ => true
  | _, .int _ => true
  | _, .str s => s.all (· < 0x110000)
  | 0, _ => false
  | n + 1, .tup ds => D.prs n ds
  | n + 1, .rol ds => D.prs n ds
  | n + 1, .kol ds => D.prs n ds
  | n + 1, .ktp ds => D.prs n ds
  | _, _ => false
def D.prs : Nat → List D → Bool
  | _, [] => true
  | n, d :: ds => D.pr n d && D.prs n ds
end
section
variable {K : PySem.W.Frag} {H : Hp}
mutual
theorem D.dp : ∀ {n : Nat} {d : D} {v : V}, D.pr n d = true → Rp K H d v → Dp K H v d.py
  | _, _, _, _, .non => .non
  | _, _, _, _, .bl b => .bl b
  | _, _, _, _, .int i => .int i
  | _, _, _, _, .str s => .str _
  | 0, _, _, h, .tup _ _ => by simp [D.pr] at h
  | 0, _, _, h, .rol _ _ => by simp [D.pr] at h
  | 0, _, _, h, .kol _ _ => by simp [D.pr] at h
  | 0, _, _, h, .ktp _ _ => by simp [D.pr] at h
  | n + 1, _, _, h, .tup e r => .tup (.of e) (D.dps (n := n) (by simpa [D.pr] using h) r)
  | n + 1, _, _, h, .ktp e r => .tup e (D.dps (n := n) (by simpa [D.pr] using h) r)
  | n + 1, _, _, h, .rol e r => .lst (.inl (.inr ⟨_, e⟩)) (D.dps (n := n) (by simpa [D.pr] using h) r)
  | n + 1, _, _, h, .kol e r => .lst e.sql (D.dps (n := n) (by simpa [D.pr] using h) r)
  | n, _, _, h, .ref _ => by cases n <;> simp [D.pr] at h
  | n, _, _, h, .rdc _ _ => by cases n <;> simp [D.pr] at h
  | n, _, _, h, .rdt _ _ => by cases n <;> simp [D.pr] at h
  | n, _, _, h, .obj _ _ => by cases n <;> simp [D.pr] at h
theorem D.dps : ∀ {n : Nat} {ds : List D} {vs : List V}, D.prs n ds = true → RpA K H ds vs → DpAll K H vs (D.pys ds)
  | _, _, _, _, .nil => .nil
  | n, _, _, h, .cons r t => by
    simp only [D.prs, Bool.and_eq_true] at h
    exact .cons (D.dp h.1 r) (D.dps h.2 t)
end
mutual
theorem D.lay : ∀ {n : Nat} {d : D}, D.pr n d = true → d.py.canLay0 = true ∧ d.py.depth ≤ n
  | n, .non, _ => by cases n <;> simp [D.py, PyData.canLay0, PyData.depth]
  | n, .bl _, _ => by cases n <;> simp [D.py, PyData.canLay0, PyData.depth]
  | n, .int _, _ => by cases n <;> simp [D.py, PyData.canLay0, PyData.depth]
  | n, .str s, h => by
    have h' : s.all (· < 0x110000) = true := by cases n <;> simpa [D.pr] using h
    refine ⟨?_, by simp [D.py, PyData.depth]⟩
    simp only [D.py, PyData.canLay0, PyData.strOk]
    simpa using h'
  | 0, .tup _, h => by simp [D.pr] at h
  | 0, .rol _, h => by simp [D.pr] at h
  | 0, .kol _, h => by simp [D.pr] at h
  | 0, .ktp _, h => by simp [D.pr] at h
  | n + 1, .tup ds, h => by
    obtain ⟨a, b⟩ := D.lays (n := n) (ds := ds) (by simpa [D.pr] using h)
    exact ⟨by simpa [D.py, PyData.canLay0] using a, by simp only [D.py, PyData.depth]; omega⟩
  | n + 1, .ktp ds, h => by
    obtain ⟨a, b⟩ := D.lays (n := n) (ds := ds) (by simpa [D.pr] using h)
    exact ⟨by simpa [D.py, PyData.canLay0] using a, by simp only [D.py, PyData.depth]; omega⟩
  | n + 1, .rol ds, h => by
    obtain ⟨a, b⟩ := D.lays (n := n) (ds := ds) (by simpa [D.pr] using h)
    exact ⟨by simpa [D.py, PyData.canLay0] using a, by simp only [D.py, PyData.depth]; omega⟩
  | n + 1, .kol ds, h => by
    obtain ⟨a, b⟩ := D.lays (n := n) (ds := ds) (by simpa [D.pr] using h)
    exact ⟨by simpa [D.py, PyData.canLay0] using a, by simp only [D.py, PyData.depth]; omega⟩
  | n, .ref _, h => by cases n <;> simp [D.pr] at h
  | n, .rdc _, h => by cases n <;> simp [D.pr] at h
  | n, .rdt _, h => by cases n <;> simp [D.pr] at h
  | n, .obj _ _, h => by cases n <;> simp [D.pr] at h
theorem D.lays : ∀ {n : Nat} {ds : List D}, D.prs n ds = true → PyData.canLayAll0 (D.pys ds) = true ∧ PyData.depthAll (D.pys ds) ≤ n
  | n, [], _ => by simp [D.pys, PyData.canLayAll0, PyData.depthAll]
  | n, d :: ds, h => by
    simp only [D.prs, Bool.and_eq_true] at h
    obtain ⟨a, b⟩ := D.lay h.1
    obtain ⟨a', b'⟩ := D.lays h.2
    exact ⟨by simp [D.pys, PyData.canLayAll0, a, a'], by simp only [D.pys, PyData.depthAll]; omega⟩
end
end
inductive Rs (G : Hg) : D → D → Prop
  | self (d : D) : Rs G d d
  | lst {a : Addr} {xs : List D} : G a = some (.lst xs) → Rs G (.ref a) (.rol xs)
theorem Rs.dp {K : PySem.W.Frag} {H : Hp} {G : Hg} {x x' : D} {v : V} {n : Nat} (h : Rs G x x') (r : Rp K H x v) (g : Hr K H G) (p : D.pr n x' = true) : Dp K H v x'.py := by
  cases h with
  | self => exact D.dp p r
  | lst e =>
    cases r
    obtain ⟨vs, q, r2⟩ := g _ _ e
    cases n with
    | zero => simp [D.pr] at p
    | succ n => exact .lst (.of q) (D.dps (n := n) (by simpa [D.pr] using p) r2)
def deqv (x y : D) : Bool := PyData.eqv x.py y.py
def rEqB (f : Bool → Bool) : R2g := fun x y G P => match x, y with
  | .int i, .int j => P (.bl (f (decide (i = j)))) G
  | .str s, .str t => P (.bl (f (decide (s = t)))) G
  | .bl a, .bl b => P (.bl (f (decide (a = b)))) G
  | .non, .non => P (.bl (f true)) G
  | x, y => (∃ x' y', Rs G x x' ∧ Rs G y y' ∧ D.pr 60 x' = true ∧ D.pr 60 y' = true ∧ P (.bl (f (deqv x' y'))) G) ∨ ∃ xs ys, IsLk G x xs ∧ IsLk G y ys ∧ xs.length ≠ ys.length ∧ P (.bl (f false)) G
abbrev rEq : R2g := rEqB id
abbrev rNe : R2g := rEqB (!·)
theorem shaped_of {d : D} (h : D.pr 60 d = true) : SeqAt.shaped d.py = true := by
  obtain ⟨a, b⟩ := D.lay h
  unfold SeqAt.shaped
  rw [a]
  simp only [Bool.true_and, decide_eq_true_eq]
  omega
section
variable {X : Cx}
theorem og_eq (hu : X.A.units + 64 < cLine) : OpR X (compareOp .Eq) (lR X.K rEq) := by
  intro pins s σ H x y v u Q I rx ry h
  obtain ⟨dx, dy, G, P, hx, hy, g, t, k⟩ := h
  unfold rEq rEqB at t
  split at t
  · cases hx; cases hy
    exact L2.op_eq pins s σ H _ _ v u Q I rx ry ⟨rfl, by simpa using k _ G _ H t .refl (.bl _) g⟩
  · cases hx; cases hy
    refine L2.op_eq pins s σ H _ _ v u Q I rx ry ⟨rfl, ?_⟩
    have := k _ G _ H t .refl (.bl _) g
    simpa using this
  · cases hx; cases hy
    exact L2.op_eq pins s σ H _ _ v u Q I rx ry ⟨rfl, by simpa using k _ G _ H t .refl (.bl _) g⟩
  · cases hx; cases hy
    exact L2.op_eq pins s σ H _ _ v u Q I rx ry ⟨rfl, by simpa using k _ G _ H t .refl (.bl _) g⟩
  · rcases t with ⟨x', y', h1, h2, p1, p2, t⟩ | ⟨xs, ys, h1, h2, hl, t⟩
    rotate_left
    · obtain ⟨a, vs, rfl, q1, r1⟩ := h1.sq hx g
      obtain ⟨b, ws, rfl, q2, r2⟩ := h2.sq hy g
      cases rx; cases ry
      obtain ⟨its, rv, pl, hz⟩ := I.list q1
      obtain ⟨its2, rv2, pl2, hz2⟩ := I.list q2
      refine PySem.SeqAt.eq_list_lengthsAt pl.isList pl2.isList ?_ (by omega) ⟨.bl false, H, I, rfl, k _ G _ H t .refl (.bl _) g⟩
      have e1 := r1.length; have e2 := r2.length; have e3 := rv.length; have e4 := rv2.length
      simp only [List.size_toArray, bne_iff_ne, ne_eq]
      omega
    exact op_eqD hu pins s σ H _ _ v u Q I rx ry ⟨_, _, h1.dp hx g p1, h2.dp hy g p2, shaped_of p1, shaped_of p2, k _ G _ H t .refl (.bl _) g⟩
theorem og_ne (hu : X.A.units + 64 < cLine) : OpR X (compareOp .NotEq) (lR X.K rNe) := by
  intro pins s σ H x y v u Q I rx ry h
  obtain ⟨dx, dy, G, P, hx, hy, g, t, k⟩ := h
  unfold rNe rEqB at t
  split at t
  · cases hx; cases hy
    exact L2.op_ne pins s σ H _ _ v u Q I rx ry ⟨rfl, by simpa using k _ G _ H t .refl (.bl _) g⟩
  · cases hx; cases hy
    refine L2.op_ne pins s σ H _ _ v u Q I rx ry ⟨rfl, ?_⟩
    have := k _ G _ H t .refl (.bl _) g
    simpa using this
  · cases hx; cases hy
    exact L2.op_ne pins s σ H _ _ v u Q I rx ry ⟨rfl, by simpa using k _ G _ H t .refl (.bl _) g⟩
  · cases hx; cases hy
    exact L2.op_ne pins s σ H _ _ v u Q I rx ry ⟨rfl, by simpa using k _ G _ H t .refl (.bl _) g⟩
  · rcases t with ⟨x', y', h1, h2, p1, p2, t⟩ | ⟨xs, ys, h1, h2, hl, t⟩
    rotate_left
    · obtain ⟨a, vs, rfl, q1, r1⟩ := h1.sq hx g
      obtain ⟨b, ws, rfl, q2, r2⟩ := h2.sq hy g
      cases rx; cases ry
      obtain ⟨its, rv, pl, hz⟩ := I.list q1
      obtain ⟨its2, rv2, pl2, hz2⟩ := I.list q2
      refine PySem.SeqAt.RcNeAt.lists_lengths pl.isList pl2.isList ?_ (by omega) _ _ _ _ ⟨.bl true, H, I, rfl, k _ G _ H t .refl (.bl _) g⟩
      have e1 := r1.length; have e2 := r2.length; have e3 := rv.length; have e4 := rv2.length
      simp only [List.size_toArray, bne_iff_ne, ne_eq]
      omega
    exact op_neD hu pins s σ H _ _ v u Q I rx ry ⟨_, _, h1.dp hx g p1, h2.dp hy g p2, shaped_of p1, shaped_of p2, k _ G _ H t .refl (.bl _) g⟩
section
variable {κ α : Type} [DecidableEq κ]
def dget (kvs : List (κ × α)) (k : κ) : Option α := match kvs with
  | [] => none
  | (j, a) :: r => if j = k then some a else dget r k
def dput (kvs : List (κ × α)) (k : κ) (a : α) : List (κ × α) :=
  if (kvs.any fun kv => decide (kv.1 = k)) = true then kvs.map (fun kv => if kv.1 = k then (kv.1, a) else kv) else kvs ++ [(k, a)]
end
theorem RpK.get {K : PySem.W.Frag} {H : Hp} {k : DK} : ∀ {ds : List (DK × D)} {vs : List (Key × V)}, RpK K H ds vs → (∀ d, dget ds k = some d → ∃ v, valV vs (ofK k) = some v ∧ Rp K H d v) ∧ (dget ds k = none → valV vs (ofK k) = none)
  | _, _, .nil => ⟨fun d e => by simp [dget] at e, fun _ => rfl⟩
  | _, _, .cons (k := j) r t => by
    obtain ⟨h1, h2⟩ := RpK.get (k := k) t
    by_cases hj : j = k
    · subst hj
      refine ⟨fun d e => ?_, fun e => ?_⟩
      · simp only [dget, if_pos] at e
        cases e
        exact ⟨_, valV_pos rfl, r⟩
      · simp [dget] at e
    · have hn : ¬ ofK j = ofK k := fun e => hj (ofK_inj e)
      simp only [dget, if_neg hj]
      rw [valV_neg hn]
      exact ⟨h1, h2⟩
theorem RpK.len {K : PySem.W.Frag} {H : Hp} : ∀ {ds : List (DK × D)} {vs : List (Key × V)}, RpK K H ds vs → ds.length = vs.length
  | _, _, .nil => rfl
  | _, _, .cons _ t => congrArg (· + 1) (RpK.len t)
theorem kD_rp {K : PySem.W.Frag} {H : Hp} {k : DK} {v : V} (r : Rp K H (kD k) v) : v = kV (ofK k) := by
  cases k <;> (cases r; rfl)
theorem kDs_rp {K : PySem.W.Frag} {H : Hp} : ∀ {ks : List DK} {vs : List V}, RpA K H (ks.map kD) vs → vs = (ks.map ofK).map kV
  | [], _, r => by cases r; rfl
  | k :: ks, _, r => by
    cases r with
    | cons a b => rw [kD_rp a, kDs_rp b]; rfl
inductive IsDi (G : Hg) : D → List (DK × D) → Prop
  | rdc (kvs : List (DK × D)) : IsDi G (.rdc kvs) kvs
  | ref {a : Addr} {kvs : List (DK × D)} : G a = some (.dct kvs) → IsDi G (.ref a) kvs
theorem IsDi.rd {K : PySem.W.Frag} {H : Hp} {G : Hg} {x : D} {ds : List (DK × D)} {v : V} (h : IsDi G x ds) (r : Rp K H x v) (g : Hr K H G) : ∃ a vs, v = .ref a ∧ Rd H a (.dK vs) ∧ RpK K H ds vs := by
  cases h with
  | rdc => cases r with | rdc e q => exact ⟨_, _, rfl, .inr ⟨_, e⟩, q⟩
  | ref e =>
    cases r
    obtain ⟨vs, p, q⟩ := g _ _ e
    exact ⟨_, _, rfl, .inl p, q⟩
def rAt (ds : List D) (y : D) (G : Hg) (P : KD) : Prop := match y with
  | .int i => ∃ d, atI ds i = some d ∧ P d G
  | _ => False
def rAtS (s : List Nat) (y : D) (G : Hg) (P : KD) : Prop := match y with
  | .int i => ∃ c, atI s i = some c ∧ s.length ≤ sizeLine ∧ P (.str [c]) G
  | _ => False
def rAtD (kvs : List (DK × D)) (y : D) (G : Hg) (P : KD) : Prop := ∃ k d, kD k = y ∧ dget kvs k = some d ∧ P d G
def rIxO (a : Addr) (o : GO) (y : D) (G : Hg) (P : KD) : Prop := match o with
  | .lst ds => rAt ds y G P
  | .dct kvs => rAtD kvs y G P
  | _ => False
def rItem : R2g := fun x y G P => match x with
  | .tup ds => rAt ds y G P
  | .rol ds => rAt ds y G P
  | .kol ds => rAt ds y G P
  | .ktp ds => rAt ds y G P
  | .str s => rAtS s y G P
  | .rdc kvs => rAtD kvs y G P
  | .ref a => ∃ o, G a = some o ∧ rIxO a o y G P
  | _ => False
theorem RpA.atI {K : PySem.W.Frag} {H : Hp} {ds : List D} {vs : List V} {i : Int} {d : D} (r : RpA K H ds vs) (h : L2.atI ds i = some d) : ∃ v, L2.atI vs i = some v ∧ Rp K H d v := by
  unfold L2.atI at h ⊢
  rw [← r.length]
  cases e : ixN ds.length i with
  | none => rw [e] at h; cases h
  | some j =>
    rw [e] at h
    exact RpA.get r h
theorem ix_dict (hu : X.A.units + 1 < cLine) : IxR X (fun x y H Q => ∃ a v, x = .ref a ∧ DGet H a y (some v) ∧ Q v H) := by
  intro value slice pins s σ H x y v u Q I rx ry h hs
  obtain ⟨a, w, rfl, gd, q⟩ := h
  cases rx
  exact tail_any (dict_typeIs I gd) PySem.F.slot_dict_getitem.lookup (d_getItem hu I gd ry fun w' s' I' r' => ⟨w, H, I', r', q⟩) hs
theorem ix_any (hu : X.A.units + 1 < cLine) : IxR X (lR X.K rItem) := by
  intro value slice pins s σ H x y v u Q I rx ry h hs
  obtain ⟨dx, dy, G, P, hx, hy, g, t, k⟩ := h
  have seq : ∀ {ds : List D} {a : Addr} {vs : List V}, (SqL X.K H a vs ∨ SqT X.K H a vs) → RpA X.K H ds vs → x = .ref a → rAt ds dy G P → wpAny (model X.prog X.w) X.A (subscriptTail value slice v u) (EP X pins σ Q) X.xe s := by
    intro ds a vs hq r e t2
    clear t
    unfold rAt at t2
    split at t2
    · obtain ⟨d, hd, t⟩ := t2
      cases hy
      obtain ⟨w, hw, rw'⟩ := RpA.atI r hd
      rcases hq with hq | hq
      · exact ix_list value slice pins s σ H x _ v u Q I rx ry ⟨a, vs, _, w, e, rfl, hq, hw, k _ G _ H t .refl rw' g⟩ hs
      · exact ix_tup value slice pins s σ H x _ v u Q I rx ry ⟨a, vs, _, w, e, rfl, hq, hw, k _ G _ H t .refl rw' g⟩ hs
    · exact t2.elim
  have dic : ∀ {kvs : List (DK × D)} {a : Addr} {vs : List (Key × V)}, Rd H a (.dK vs) → RpK X.K H kvs vs → x = .ref a → rAtD kvs dy G P → wpAny (model X.prog X.w) X.A (subscriptTail value slice v u) (EP X pins σ Q) X.xe s := by
    intro kvs a vs hq r e ⟨j, d, ej, hd, t2⟩
    clear t seq
    subst ej
    obtain ⟨w, hw, rw'⟩ := (RpK.get r).1 d hd
    have ey := kD_rp hy
    exact ix_dict hu value slice pins s σ H x _ v u Q I rx ry ⟨a, w, e, .inl ⟨vs, _, hq, ey, hw.symm⟩, k _ G _ H t2 .refl rw' g⟩ hs
  cases hx with
  | tup e r => exact seq (.inr (.of e)) r rfl t
  | ktp e r => exact seq (.inr e) r rfl t
  | rol e r => exact seq (.inl (.inl (.inr ⟨_, e⟩))) r rfl t
  | kol e r => exact seq (.inl e.sql) r rfl t
  | str z =>
    have t' : rAtS z dy G P := t
    unfold rAtS at t'
    clear t seq dic
    split at t'
    · obtain ⟨c, hc, hl, t'⟩ := t'
      cases hy
      exact ix_str value slice pins s σ H _ _ v u Q I rx ry ⟨_, _, c, rfl, rfl, by simpa [Str.length] using hl, by simpa using hc, k _ G _ H t' .refl (.str [c]) g⟩ hs
    · exact t'.elim
  | rdc e r => exact dic (.inr ⟨_, e⟩) r rfl t
  | ref a =>
    obtain ⟨o, ho, t⟩ := t
    have q := g a o ho
    cases o with
    | lst ds =>
      obtain ⟨vs, e, r⟩ := q
      exact seq (.inl (.of e)) r rfl t
    | dct kvs =>
      obtain ⟨vs, e, r⟩ := q
      exact dic (.inl e) r rfl t
    | _ => exact t.elim
  | _ => exact t.elim
variable {a b : Expr} {ta tb : TEg} {pos : Pos}
theorem ge_ix (hu : X.A.units + 1 < cLine) (ha : PE X a (lE X.K ta)) (hb : PE X b (lE X.K tb)) (hs : PlainIx b) : PE X (.Subscript a b pos) (lE X.K (gOp rItem ta tb)) :=
  PE.imp (pe_ix (ix_any hu) ha hb hs) fun σ H Q h => lE2 h
end
end Vc

set_option Elab.async false
set_option linter.all false
set_option autoImplicit false
set_option maxRecDepth 100000
set_option maxHeartbeats 2000000
namespace Vc
open PySem PySem.Spec PyProof.Rows L2
def D.fl : D → Bool
  | .non => true
  | .bl _ => true
  | .int _ => true
  | .str _ => true
  | _ => false
def feq : D → D → Bool
  | .non, .non => true
  | .bl a, .bl b => a == b
  | .bl a, .int b => (if a then 1 else 0) == b
  | .int a, .bl b => a == (if b then 1 else 0)
  | .int a, .int b => a == b
  | .str a, .str b => a == b
  | _, _ => false
def inD (x : D) (ds : List D) : Bool := ds.any fun d => feq d x
section
variable {K : PySem.W.Frag} {H : Hp}
theorem Rp.fl {d : D} {v : V} (r : Rp K H d v) (h : D.fl d = true) : flatV v = true := by
  cases r <;> simp_all [D.fl, flatV]
theorem beq_str (a b : List Nat) : (({ cps := a.toArray } : Str) == { cps := b.toArray }) = (a == b) := by
  by_cases e : a = b
  · subst e; simp
  · have n : ¬ ({ cps := a.toArray } : Str) = { cps := b.toArray } := by
      intro z; injection z with z; exact e (by simpa using z)
    rw [beq_eq_false_iff_ne.mpr n, beq_eq_false_iff_ne.mpr e]
theorem Rp.feq {d e : D} {v w : V} (r : Rp K H d v) (q : Rp K H e w) (h : D.fl d = true) (h' : D.fl e = true) : eqV v w = Vc.feq d e := by
  cases r <;> cases q <;> simp_all [D.fl, Vc.feq, eqV, beq_str]
theorem RpA.fl : ∀ {ds : List D} {vs : List V}, RpA K H ds vs → ds.all D.fl = true → vs.all flatV = true
  | _, _, .nil, _ => rfl
  | _, _, .cons r t, h => by
    simp only [List.all_cons, Bool.and_eq_true] at h ⊢
    exact ⟨r.fl h.1, RpA.fl t h.2⟩
theorem RpA.inD {x : D} {v : V} (r : Rp K H x v) (hx : D.fl x = true) : ∀ {ds : List D} {vs : List V}, RpA K H ds vs → ds.all D.fl = true → inV v vs = Vc.inD x ds
  | _, _, .nil, _ => rfl
  | _, _, .cons q t, h => by
    simp only [List.all_cons, Bool.and_eq_true] at h
    have e := RpA.inD r hx t h.2
    unfold inV Vc.inD at e ⊢
    rw [List.any_cons, List.any_cons, e, q.feq r h.1 hx]
end
def rInL (f : Bool → Bool) (x : D) (ds : List D) (G : Hg) (P : KD) : Prop := D.fl x = true ∧ ds.all D.fl = true ∧ P (.bl (f (inD x ds))) G
def rInK (f : Bool → Bool) (x : D) (kvs : List (DK × D)) (G : Hg) (P : KD) : Prop := ∃ k, kD k = x ∧ P (.bl (f (dget kvs k).isSome)) G
def rInB (f : Bool → Bool) : R2g := fun x y G P => match y with
  | .tup ds => rInL f x ds G P
  | .rol ds => rInL f x ds G P
  | .kol ds => rInL f x ds G P
  | .ktp ds => rInL f x ds G P
  | .rdc kvs => rInK f x kvs G P
  | .ref a => ∃ o, G a = some o ∧ match o with
    | .lst ds => rInL f x ds G P
    | .dct kvs => rInK f x kvs G P
    | _ => False
  | _ => False
abbrev rIn : R2g := rInB id
abbrev rNin : R2g := rInB (!·)
section
variable {X : Cx}
theorem op_in_dict (hu : X.A.units + 1 < cLine) : OpR X (compareOp .In) (fun y x H Q => ∃ a o, x = .ref a ∧ DGet H a y o ∧ Q (.bl o.isSome) H) := by
  intro pins s σ H y x v u Q I ry rx h
  obtain ⟨a, o, rfl, gd, q⟩ := h
  cases rx
  exact d_in hu I gd ry fun s' I' => ⟨.bl _, H, I', rfl, q⟩
theorem op_nin_dict (hu : X.A.units + 1 < cLine) : OpR X (compareOp .NotIn) (fun y x H Q => ∃ a o, x = .ref a ∧ DGet H a y o ∧ Q (.bl (!o.isSome)) H) := by
  intro pins s σ H y x v u Q I ry rx h
  obtain ⟨a, o, rfl, gd, q⟩ := h
  cases rx
  exact d_notIn hu I gd ry fun s' I' => ⟨.bl _, H, I', rfl, q⟩
theorem og_inB {op : CmpOp} {f : Bool → Bool} {n : Bool} (hn : ∀ b, (if n then !b else b) = f b) (hs : OpR X (compareOp op) (fun x y H Q => ∃ p xs, y = .ref p ∧ (SqL X.K H p xs ∨ SqT X.K H p xs) ∧ flatV x = true ∧ xs.all flatV = true ∧ Q (.bl (if n then !inV x xs else inV x xs)) H))
    (hd : OpR X (compareOp op) (fun y x H Q => ∃ a o, x = .ref a ∧ DGet H a y o ∧ Q (.bl (f o.isSome)) H)) : OpR X (compareOp op) (lR X.K (rInB f)) := by
  intro pins s σ H x y v u Q I rx ry h
  obtain ⟨dx, dy, G, P, hx, hy, g, t, k⟩ := h
  have seq : ∀ {ds : List D} {a : Addr} {vs : List V}, (SqL X.K H a vs ∨ SqT X.K H a vs) → RpA X.K H ds vs → y = .ref a → rInL f dx ds G P → wpAny (model X.prog X.w) X.A (compareOp op v u) (EP X pins σ Q) X.xe s := by
    intro ds a vs hq r e t
    obtain ⟨fx, fd, t⟩ := t
    refine hs pins s σ H x y v u Q I rx ry ⟨a, vs, e, hq, hx.fl fx, r.fl fd, ?_⟩
    rw [hn, RpA.inD hx fx r fd]
    exact k _ G _ H t .refl (.bl _) g
  have dic : ∀ {kvs : List (DK × D)} {a : Addr} {vs : List (Key × V)}, Rd H a (.dK vs) → RpK X.K H kvs vs → y = .ref a → rInK f dx kvs G P → wpAny (model X.prog X.w) X.A (compareOp op v u) (EP X pins σ Q) X.xe s := by
    intro kvs a vs hq r e ⟨j, ej, t2⟩
    subst ej
    refine hd pins s σ H x y v u Q I rx ry ⟨a, valV vs (ofK j), e, .inl ⟨vs, _, hq, kD_rp hx, rfl⟩, ?_⟩
    have e2 : (valV vs (ofK j)).isSome = (dget kvs j).isSome := by
      obtain ⟨h1, h2⟩ := RpK.get (k := j) r
      cases e3 : dget kvs j with
      | none => rw [h2 e3]; rfl
      | some d => obtain ⟨w, h4, _⟩ := h1 d e3; rw [h4]; rfl
    rw [e2]
    exact k _ G _ H t2 .refl (.bl _) g
  cases hy with
  | tup e r => exact seq (.inr (.of e)) r rfl t
  | ktp e r => exact seq (.inr e) r rfl t
  | rol e r => exact seq (.inl (.inl (.inr ⟨_, e⟩))) r rfl t
  | kol e r => exact seq (.inl e.sql) r rfl t
  | rdc e r => exact dic (.inr ⟨_, e⟩) r rfl t
  | ref a =>
    obtain ⟨o, ho, t⟩ := t
    have q := g a o ho
    cases o with
    | lst ds =>
      obtain ⟨vs, e, r⟩ := q
      exact seq (.inl (.of e)) r rfl t
    | dct kvs =>
      obtain ⟨vs, e, r⟩ := q
      exact dic (.inl e) r rfl t
    | _ => exact t.elim
  | _ => exact t.elim
theorem og_in (hu : X.A.units + 64 < cLine) : OpR X (compareOp .In) (lR X.K rIn) := og_inB (n := false) (fun b => rfl) op_in_seq (op_in_dict (by omega))
theorem og_nin (hu : X.A.units + 64 < cLine) : OpR X (compareOp .NotIn) (lR X.K rNin) := og_inB (n := true) (fun b => rfl) op_notIn_seq (op_nin_dict (by omega))
abbrev TOg := Ev → Hg → (Option Int → Hg → Prop) → Prop
def lO (K : PySem.W.Frag) (t : TOg) : TO := fun σ H Q => ∃ env G P, Er K H env σ ∧ Hr K H G ∧ t env G P ∧ ∀ o G' H', P o G' → ExtT H H' → Hr K H' G' → Q o H'
def gNoPart : TOg := fun _ G P => P none G
def gPart (t : TEg) : TOg := fun env G P => t env G fun d G1 => match d with
  | .int i => P (some i) G1
  | _ => False
theorem PO.imp {e : Option Expr} {t t' : TO} (h : PO X e t) (i : ∀ σ H Q, t' σ H Q → t σ H Q) : PO X e t' := ⟨fun pins s σ H Q I q => h.run pins s σ H Q I (i σ H Q q)⟩
theorem go_none : PO X none (lO X.K gNoPart) := PO.imp po_none fun σ H Q ⟨env, G, P, er, hr, t, k⟩ => k none G H t .refl hr
theorem go_some {e : Expr} {t : TEg} (h : PE X e (lE X.K t)) : PO X (some e) (lO X.K (gPart t)) := PO.imp (po_some h) fun σ H Q ⟨env, G, P, er, hr, t, k⟩ => by
  refine ⟨env, G, _, er, hr, t, fun d G1 v H1 t1 x1 r1 g1 => ?_⟩
  split at t1
  · cases r1; exact ⟨_, rfl, k _ G1 H1 t1 x1 g1⟩
  · exact t1.elim
def cutD (xs : List D) (lo hi : Option Int) : List D := (xs.drop (HT.sIx xs.length 0 lo)).take (HT.sIx xs.length xs.length hi - HT.sIx xs.length 0 lo)
theorem RpA.cut {K : PySem.W.Frag} {H : Hp} {ds : List D} {vs : List V} (r : RpA K H ds vs) (lo hi : Option Int) : RpA K H (cutD ds lo hi) (cutV vs lo hi) := by
  unfold cutD cutV
  rw [← r.length]
  exact RpA.take _ (RpA.drop _ r)
def rCut (x : D) (lo hi : Option Int) (G : Hg) (P : KD) : Prop := match x with
  | .tup ds => P (.tup (cutD ds lo hi)) G
  | .rol ds => rL (cutD ds lo hi) G P
  | .kol ds => rL (cutD ds lo hi) G P
  | .ref a => ∃ ds, G a = some (.lst ds) ∧ rL (cutD ds lo hi) G P
  | _ => False
def gCut (t : TEg) (tl th : TOg) : TEg := fun env G P => t env G fun x G1 => tl env G1 fun lo G2 => th env G2 fun hi G3 => rCut x lo hi G3 P
def rSlF (K : PySem.W.Frag) : V → Option Int → Option Int → Hp → VK → Prop := fun x lo hi H Q => (∃ a xs, x = .ref a ∧ SqT K H a xs ∧ (HT.sIx xs.length 0 lo = 0 ∧ HT.sIx xs.length xs.length hi = xs.length → Q (.ref a) H) ∧
    (¬ (HT.sIx xs.length 0 lo = 0 ∧ HT.sIx xs.length xs.length hi = xs.length) → ∀ p, H p = none → Q (.ref p) (upd H p (.tup (cutV xs lo hi))))) ∨
  ∃ a xs, x = .ref a ∧ SqL K H a xs ∧ ∀ p, H p = none → Q (.ref p) (upd H p (.lst (cutV xs lo hi)))
theorem sl_F : SlR X (rSlF X.K) := sl_tupA.or sl_list
theorem cutV_whole {xs : List V} {lo hi : Option Int} (h : HT.sIx xs.length 0 lo = 0 ∧ HT.sIx xs.length xs.length hi = xs.length) : cutV xs lo hi = xs := by
  unfold cutV
  rw [h.1, h.2]
  simp
theorem ge_slice {e : Expr} {t : TEg} {lo hi : Option Expr} {tl th : TOg} {pos p2 : Pos} (he : PE X e (lE X.K t)) (hl : PO X lo (lO X.K tl)) (hh : PO X hi (lO X.K th)) : PE X (.Subscript e (.Slice lo hi none p2) pos) (lE X.K (gCut t tl th)) :=
  PE.imp (pe_fz (pe_slice sl_F he hl hh)) fun σ H Q ⟨env, G, P, er, hr, t, k⟩ => by
    refine ⟨env, G, _, er, hr, t, fun x G1 v H1 t1 x1 r1 g1 => ?_⟩
    refine ⟨env, G1, _, er.ext x1, g1, t1, fun lo G2 H2 t2 x2 g2 => ?_⟩
    refine ⟨env, G2, _, (er.ext x1).ext x2, g2, t2, fun hi G3 H3 t3 x3 g3 => ?_⟩
    have r3 := (r1.ext x2).ext x3
    have x13 := (x1.trans x2).trans x3
    have li : ∀ {ds : List D} {a : Addr} {vs : List V}, v = .ref a → SqL X.K H3 a vs → RpA X.K H3 ds vs → rL (cutD ds lo hi) G3 P → rSlF X.K v lo hi H3 fun v H1 => Q v H1 ∨ ∃ a u, v = .ref a ∧ H1 a = some u ∧ Mut (some u) ∧ ∀ od, Q v (upd H1 a (.frz od u)) := by
      intro ds a vs e hq r t
      exact .inr ⟨a, vs, e, hq, fun p hp => rL_ok t (k.mono x13) (r.cut lo hi) g3 p hp⟩
    cases r3 with
    | tup e r =>
      have rc := r.cut lo hi
      refine .inl ⟨_, _, rfl, .of e, fun hw => .inl ?_, fun _ p hp => .inl ?_⟩
      · rw [cutV_whole hw] at rc
        exact k _ G3 _ H3 t3 x13 (.tup e rc) g3
      · exact k _ G3 _ _ t3 (x13.trans (.new hp)) (.tup upd_same (rc.ext (.new hp))) (g3.newT hp (g3.none hp))
    | rol e r => exact li rfl (.inl (.inr ⟨_, e⟩)) r t3
    | kol e r => exact li rfl e.sql r t3
    | ref a =>
      obtain ⟨ds, ho, t3⟩ := t3
      obtain ⟨vs, e, r⟩ := g3 a _ ho
      exact li rfl (.of e) r t3
    | _ => exact t3.elim
def fget (fs : List (List Nat × D)) (f : List Nat) : Option D := dget fs f
structure Fld (K : PySem.W.Frag) (C f : List Nat) : Prop where
  cl : Cls K (cAt K C)
  no : NoAttr K (cAt K C) ⟨f.toArray⟩
theorem RpF.get {K : PySem.W.Frag} {H : Hp} {f : List Nat} {d : D} : ∀ {ds : List (List Nat × D)} {vs : List (Str × V)}, RpF K H ds vs → fget ds f = some d → ∃ v, vs.lookup ⟨f.toArray⟩ = some v ∧ Rp K H d v
  | _, _, .nil, e => by simp [fget, dget] at e
  | _, _, .cons (k := j) (vs := ws) (v := w) r t, e => by
    unfold fget at e
    by_cases hj : j = f
    · subst hj
      simp only [dget, if_pos] at e
      cases e
      exact ⟨_, by simp [List.lookup], r⟩
    · simp only [dget, if_neg hj] at e
      obtain ⟨v, h1, h2⟩ := RpF.get t e
      refine ⟨v, ?_, h2⟩
      have : (({ cps := f.toArray } : Str) == { cps := j.toArray }) = false := by
        apply beq_eq_false_iff_ne.mpr
        intro z
        injection z with z
        exact hj (by simpa using z.symm)
      simp only [List.lookup, this]
      exact h1
theorem getattr_rd {pins : List (Addr × Obj)} {σ : L2.St} {H : Hp} {s : Shared} {a C dx : Addr} {fs : List (Str × V)} {f : Str} {v : V} {A : Around} {E : Value → Shared → Prop} {b : Bool} {Q : Value → Shared → Prop} (I : Inv X pins σ H s) (e : Rd H a (.ins C dx fs)) (c : Cls X.K C) (n : NoAttr X.K C f) (l : fs.lookup f = some v)
    (h : ∀ u s', Inv X pins σ H s' → RelV v u → Q u s') : wpAny (model X.prog X.w) A (getAttr (.ref a) f b) Q E s := by
  obtain ⟨d, z, ne, ob, mA, n', r, q⟩ := (show ObjOk X.prog X.w H s.heap a (.ins C dx fs) from e.ok I.hok)
  obtain ⟨u, hu, ru⟩ := RelO.some_of (v := v) (o := mA f) (by rw [← l]; exact r f)
  exact get_map I.kIn ⟨ob, n', ne⟩ (c.get f) c.hd n hu (handed_of ru) (h u _ (I.tok _) ru)
def tFldR (K : PySem.W.Frag) (ta : TE) (f : Str) : TE := fun σ H Q => ta σ H fun x H1 => ∃ a C dx fs v, x = .ref a ∧ Rd H1 a (.ins C dx fs) ∧ Cls K C ∧ NoAttr K C f ∧ fs.lookup f = some v ∧ Q v H1
theorem pe_fldR {e : Expr} {f : Str} {pos : Pos} {ta : TE} (he : PE X e ta) (hb : attributeBase e f X.env (eval e X.env) = eval e X.env) : PE X (.Attribute e f pos) (tFldR X.K ta f) := by
  refine ⟨fun pins s σ H Q I h => ?_⟩
  refine attr_of hb (thn (he.run pins s σ H _ I h) fun u s1 ⟨x, H1, I1, rx, a, C, dx, fs, v, ex, ea, c, n, l, q⟩ => ?_)
  subst ex
  obtain rfl : u = Value.ref a := rx
  exact getattr_rd I1 ea c n l fun u' s2 I2 ru => ⟨v, H1, I2, ru, q⟩
def rFld (K : PySem.W.Frag) (f : List Nat) (x : D) (G : Hg) (P : KD) : Prop := match x with
  | .obj C fs => Fld K C f ∧ ∃ d, fget fs f = some d ∧ P d G
  | .ref a => ∃ C fs, G a = some (.ins C fs) ∧ Fld K C f ∧ ∃ d, fget fs f = some d ∧ P d G
  | _ => False
def gFld (K : PySem.W.Frag) (f : List Nat) (t : TEg) : TEg := fun env G P => t env G fun x G1 => rFld K f x G1 P
theorem ge_fld {e : Expr} {f : Str} {pos : Pos} {t : TEg} (he : PE X e (lE X.K t)) (hb : attributeBase e f X.env (eval e X.env) = eval e X.env) : PE X (.Attribute e f pos) (lE X.K (gFld X.K f.cps.toList t)) :=
  PE.imp (pe_fldR he hb) fun σ H Q ⟨env, G, P, er, hr, t, k⟩ => by
    refine ⟨env, G, _, er, hr, t, fun x G1 v H1 t1 x1 r1 g1 => ?_⟩
    have ef : (⟨f.cps.toList.toArray⟩ : Str) = f := by simp
    cases r1 with
    | obj e r =>
      obtain ⟨⟨cl, no⟩, d, hd, t1⟩ := t1
      obtain ⟨w, hw, rw'⟩ := RpF.get r hd
      rw [ef] at no hw
      exact ⟨_, _, _, _, w, rfl, .inr ⟨_, e⟩, cl, no, hw, k _ G1 _ H1 t1 x1 rw' g1⟩
    | ref a =>
      obtain ⟨C, fs, ho, ⟨cl, no⟩, d, hd, t1⟩ := t1
      obtain ⟨dx, vs, e, r⟩ := g1 a _ ho
      obtain ⟨w, hw, rw'⟩ := RpF.get r hd
      rw [ef] at no hw
      exact ⟨_, _, _, _, w, rfl, .inl e, cl, no, hw, k _ G1 _ H1 t1 x1 rw' g1⟩
    | _ => exact t1.elim
abbrev Spg := List D → Hg → KD → Prop
def lSp (K : PySem.W.Frag) (sp : Spg) : Sp := fun vs H Q _ => ∃ ds G P, RpA K H ds vs ∧ Hr K H G ∧ sp ds G P ∧ LD K H P Q
def gCall (sp : Spg) (t : TAg) : TEg := fun env G P => t env G fun ds G1 => sp ds G1 P
theorem lCall {K : PySem.W.Frag} {sp : Spg} {t : TAg} {E : XK} {σ : L2.St} {H : Hp} {Q : VK} (h : lE K (gCall sp t) σ H Q) : tCall (lSp K sp) [] E (lA K t) σ H Q := by
  obtain ⟨env, G, P, er, hr, t, k⟩ := h
  refine ⟨env, G, _, er, hr, t, fun ds G1 vs H1 t1 x1 r1 g1 => ?_⟩
  show lSp K sp (vs ++ []) H1 Q E
  rw [List.append_nil]
  exact ⟨ds, G1, P, r1, g1, t1, k.mono x1⟩
theorem ge_call {CX : CXT} {n : Nat} {f : Addr} {fd : FuncData} {ps : List Str} {sp : Spg} {x : Str} {p pos : Pos} {e : Expr} {es : List Expr} {t : TAg} {E : XK} (F : FnOk X.prog X.w X.K X.mg X.base CX n f fd ps (lSp X.K sp)) (hr : Room n X.A) (hg : Gl X x) (hm : X.mg x = some (.ref f)) (hk : PySem.W.keepIn X.K (.ref f) = true)
    (hb : Binds X.K fd ps []) (hx : Passes CX X E) (ha : PA X (e :: es) (lA X.K t)) (hdb : (x == ("__debug__" : Str)) = false) (he : starEach (e :: es) X.env = (false, eval e X.env) :: starEach es X.env) (hpl : (backTo pos (starEach es X.env)).any (·.1) = false) :
    PE X (.Call (.Name x p) (e :: es) [] pos) (lE X.K (gCall sp t)) :=
  PE.imp (pe_call (E := E) F hr hg hm hk hb .nil hx ha hdb he hpl) fun σ H Q h => lCall h
theorem ge_call0 {CX : CXT} {n : Nat} {f : Addr} {fd : FuncData} {ps : List Str} {sp : Spg} {x : Str} {p pos : Pos} {E : XK} (F : FnOk X.prog X.w X.K X.mg X.base CX n f fd ps (lSp X.K sp)) (hr : Room n X.A) (hg : Gl X x) (hm : X.mg x = some (.ref f)) (hk : PySem.W.keepIn X.K (.ref f) = true)
    (hb : Binds X.K fd ps []) (hx : Passes CX X E) (hdb : (x == ("__debug__" : Str)) = false) :
    PE X (.Call (.Name x p) [] [] pos) (lE X.K (gCall sp gNil)) :=
  PE.imp (pe_call0 (E := E) F hr hg hm hk hb .nil hx hdb) fun σ H Q ⟨env, G, P, er, hr, t, k⟩ => by
    refine ⟨[], G, P, .nil, hr, t, k⟩
def gMeth (C m : List Nat) (sp : Spg) (to : TEg) (t : TAg) : TEg := fun env G P => to env G fun x G1 => match x with
  | .ref a => ∃ fs, G1 a = some (.ins C fs) ∧ fget fs m = none ∧ t env G1 fun ds G2 => sp (x :: ds) G2 P
  | _ => False
theorem RpF.getN {K : PySem.W.Frag} {H : Hp} {f : List Nat} : ∀ {ds : List (List Nat × D)} {vs : List (Str × V)}, RpF K H ds vs → fget ds f = none → vs.lookup ⟨f.toArray⟩ = none
  | _, _, .nil, e => rfl
  | _, _, .cons (k := j) r t, e => by
    unfold fget at e
    by_cases hj : j = f
    · subst hj
      simp [dget] at e
    · simp only [dget, if_neg hj] at e
      have h1 := RpF.getN t e
      have : (({ cps := f.toArray } : Str) == { cps := j.toArray }) = false := by
        apply beq_eq_false_iff_ne.mpr
        intro z
        injection z with z
        exact hj (by simpa using z.symm)
      simp only [List.lookup, this]
      exact h1
theorem lMeth {K : PySem.W.Frag} {C : List Nat} {m : Str} {sp : Spg} {to : TEg} {t : TAg} {E : XK} {σ : L2.St} {H : Hp} {Q : VK} (h : lE K (gMeth C m.cps.toList sp to t) σ H Q) : tMeth (cAt K C) m (lSp K sp) [] E (lE K to) (lA K t) σ H Q := by
  obtain ⟨env, G, P, er, hr, t, k⟩ := h
  refine ⟨env, G, _, er, hr, t, fun x G1 v H1 t1 x1 r1 g1 => ?_⟩
  split at t1
  · cases r1
    obtain ⟨fs, ho, hn, t1⟩ := t1
    obtain ⟨dx, vs, e, r⟩ := g1 _ _ ho
    have hl := RpF.getN r hn
    rw [show (⟨m.cps.toList.toArray⟩ : Str) = m by simp] at hl
    refine ⟨_, dx, vs, rfl, e, hl, env, G1, _, er.ext x1, g1, t1, fun ds G2 ws H2 t2 x2 r2 g2 => ?_⟩
    show lSp K sp (.ref _ :: (ws ++ [])) H2 Q E
    rw [List.append_nil]
    exact ⟨_ :: ds, G2, P, .cons (.ref _) r2, g2, t2, k.mono (x1.trans x2)⟩
  · exact t1.elim
def gMake (C : List Nat) (sp : Spg) (t : TAg) : TEg := fun env G P => t env G fun ds G1 => ∀ p G2, New G1 p (.ins C []) G2 → sp (.ref p :: ds) G2 fun d G3 => match d with
  | .non => P (.ref p) G3 ∨ ∃ fs, G3 p = some (.ins C fs) ∧ P (.obj C fs) (delG G3 p)
  | _ => False
theorem lMake {K : PySem.W.Frag} {C : List Nat} {sp : Spg} {t : TAg} {E : XK} {σ : L2.St} {H : Hp} {Q : VK} (h : lE K (gMake C sp t) σ H Q) : tMake (cAt K C) (lSp K sp) [] E (lA K t) σ H (fun v H1 => Q v H1 ∨ ∃ a u, v = .ref a ∧ H1 a = some u ∧ Mut (some u) ∧ ∀ od, Q v (upd H1 a (.frz od u))) := by
  obtain ⟨env, G, P, er, hr, t, k⟩ := h
  refine ⟨env, G, _, er, hr, t, fun ds G1 vs H1 t1 x1 r1 g1 p dx hp hdx hne => ?_⟩
  have e1 : ExtT H1 (upd H1 dx (.own p)) := .new hdx
  have hp2 : (upd H1 dx (.own p)) p = none := by rw [upd_ne (Ne.symm hne)]; exact hp
  have e2 : ExtT (upd H1 dx (.own p)) (upd (upd H1 dx (.own p)) p (.ins (cAt K C) dx [])) := .new hp2
  have g2 : Hr K (upd H1 dx (.own p)) G1 := g1.newT hdx (g1.none hdx)
  have g3 : Hr K (upd (upd H1 dx (.own p)) p (.ins (cAt K C) dx [])) (updG G1 p (.ins C [])) := g2.new hp2 (g1.none hp) ⟨dx, [], upd_same, .nil⟩
  rw [List.append_nil]
  refine ⟨_ :: ds, _, _, .cons (.ref p) ((r1.ext e1).ext e2), g3, t1 p _ ⟨g1.none hp, rfl⟩, fun d G4 v H4 t4 x4 r4 g4 => ?_⟩
  split at t4
  · cases r4
    refine ⟨rfl, ?_⟩
    have x14 := (x1.trans (e1.trans e2)).trans x4
    rcases t4 with t4 | ⟨fs, ho, t4⟩
    · exact .inl (k _ _ _ _ t4 x14 (.ref p) g4)
    · obtain ⟨dx', vs', e, r⟩ := g4 p _ ho
      refine .inr ⟨p, _, rfl, e, trivial, fun od => ?_⟩
      exact k _ _ _ _ t4 (x14.trans (.write e trivial)) (.obj upd_same (r.ext (.write e trivial))) (g4.lock e trivial)
  · exact t4.elim
abbrev Bg := List D → Hg → KD → Prop
def lC (K : PySem.W.Frag) (r : Bg) : List V → Hp → VK → Prop := fun vs H Q => ∃ ds G P, RpA K H ds vs ∧ Hr K H G ∧ r ds G P ∧ LD K H P Q
theorem lCB {K : PySem.W.Frag} {r : Bg} {t : TAg} {σ : L2.St} {H : Hp} {Q : VK} (h : lE K (gCall r t) σ H Q) : tCB (lC K r) (lA K t) σ H Q := by
  obtain ⟨env, G, P, er, hr, t, k⟩ := h
  exact ⟨env, G, _, er, hr, t, fun ds G1 vs H1 t1 x1 r1 g1 => ⟨ds, G1, P, r1, g1, t1, k.mono x1⟩⟩
theorem callR_fz {f : Value} {r : List V → Hp → VK → Prop} (h : CallR X f r) : CallR X f fun vs H Q => r vs H fun v H1 => Q v H1 ∨ ∃ a u, v = .ref a ∧ H1 a = some u ∧ Mut (some u) ∧ ∀ od, Q v (upd H1 a (.frz od u)) := by
  intro pins s σ H xs us Q I rx q
  refine thn (h pins s σ H xs us _ I rx q) fun u s1 ⟨v, H1, I1, r1, q1⟩ => ?_
  rcases q1 with q1 | ⟨a, o, rfl, ha, m, q1⟩
  · exact ⟨v, H1, I1, r1, q1⟩
  · obtain ⟨od, I2⟩ := I1.lock ha m
    exact ⟨.ref a, _, I2, r1, q1 od⟩
theorem ge_callB {x : Str} {p pos : Pos} {e : Expr} {es : List Expr} {t : TAg} {id : String} {r : Bg} (hc : CallR X (.builtin id) (lC X.K r)) (hg : Gl X x) (hm : X.mg x = none) (hv : bootBuiltins x = some (.builtin id)) (ha : PA X (e :: es) (lA X.K t)) (hn : x ≠ "__name__") (hdb : (x == ("__debug__" : Str)) = false)
    (he : starEach (e :: es) X.env = (false, eval e X.env) :: starEach es X.env) (hpl : (backTo pos (starEach es X.env)).any (·.1) = false) : PE X (.Call (.Name x p) (e :: es) [] pos) (lE X.K (gCall r t)) :=
  PE.imp (pe_callB hc hg hm hv ha hn hdb he hpl) fun σ H Q h => lCB h
theorem ge_callT {x : Str} {p pos : Pos} {e : Expr} {es : List Expr} {t : TAg} {T : String} {r : Bg} (hc : CallR X (.type T) (lC X.K r)) (hg : Gl X x) (hm : X.mg x = none) (hv : bootBuiltins x = some (.type T)) (ha : PA X (e :: es) (lA X.K t)) (hn : x ≠ "__name__") (hdb : (x == ("__debug__" : Str)) = false)
    (he : starEach (e :: es) X.env = (false, eval e X.env) :: starEach es X.env) (hpl : (backTo pos (starEach es X.env)).any (·.1) = false) : PE X (.Call (.Name x p) (e :: es) [] pos) (lE X.K (gCall r t)) :=
  PE.imp (pe_callTy hc hg hm hv ha hn hdb he hpl) fun σ H Q h => lCB h
end
end Vc

set_option Elab.async false
set_option linter.all false
set_option autoImplicit false
set_option maxRecDepth 100000
set_option maxHeartbeats 2000000
namespace Vc
open PySem PySem.Spec PyProof.Rows L2
structure Eg where
  nx : Ev → Hg → Prop
  rt : KD
  bk : Ev → Hg → Prop := fun _ _ => False
  ct : Ev → Hg → Prop := fun _ _ => False
abbrev TSg := Eg → Ev → Hg → Prop
structure LN (K : PySem.W.Frag) (H : Hp) (E : Eg) (D : Ends) : Prop where
  nx : ∀ env G σ H', E.nx env G → ExtT H H' → Er K H' env σ → Hr K H' G → D.nx σ H'
  rt : LD K H E.rt D.rt
  bk : ∀ env G σ H', E.bk env G → ExtT H H' → Er K H' env σ → Hr K H' G → D.bk σ H'
  ct : ∀ env G σ H', E.ct env G → ExtT H H' → Er K H' env σ → Hr K H' G → D.ct σ H'
theorem LN.mono {K : PySem.W.Frag} {H H1 : Hp} {E : Eg} {D : Ends} (h : LN K H E D) (e : ExtT H H1) : LN K H1 E D :=
  ⟨fun env G σ H' p x => h.nx env G σ H' p (e.trans x), h.rt.mono e, fun env G σ H' p x => h.bk env G σ H' p (e.trans x), fun env G σ H' p x => h.ct env G σ H' p (e.trans x)⟩
def lS (K : PySem.W.Frag) (t : TSg) : TS := fun D σ H => ∃ env G E, Er K H env σ ∧ Hr K H G ∧ t E env G ∧ LN K H E D
theorem PS.imp {X : Cx} {e : Stmt} {t t' : TS} (h : PS X e t) (i : ∀ D σ H, t' D σ H → t D σ H) : PS X e t' := ⟨fun pins s σ H D I q => h.run pins s σ H D I (i D σ H q)⟩
theorem PSs.imp {X : Cx} {e : List Stmt} {t t' : TS} (h : PSs X e t) (i : ∀ D σ H, t' D σ H → t D σ H) : PSs X e t' := ⟨fun pins s σ H D I q => h.run pins s σ H D I (i D σ H q)⟩
inductive Lk (G : Hg) (a : Addr) : D → Prop
  | lst {xs : List D} : G a = some (.lst xs) → Lk G a (.rol xs)
  | dct {kvs : List (DK × D)} : G a = some (.dct kvs) → Lk G a (.rdc kvs)
  | dtt {kvs : List (List DK × D)} : G a = some (.dtt kvs) → Lk G a (.rdt kvs)
  | ins {C : List Nat} {fs : List (List Nat × D)} : G a = some (.ins C fs) → Lk G a (.obj C fs)
theorem Lk.ok {K : PySem.W.Frag} {H : Hp} {G : Hg} {a : Addr} {d : D} (h : Lk G a d) (g : Hr K H G) : ∃ u, H a = some u ∧ Mut (some u) ∧ ∀ od, Rp K (upd H a (.frz od u)) d (.ref a) ∧ Hr K (upd H a (.frz od u)) (delG G a) ∧ ExtT H (upd H a (.frz od u)) := by
  cases h with
  | lst e => obtain ⟨vs, p, r⟩ := g a _ e; exact ⟨_, p, trivial, fun od => ⟨.rol upd_same (r.ext (.write p trivial)), g.lock p trivial, .write p trivial⟩⟩
  | dct e => obtain ⟨vs, p, r⟩ := g a _ e; exact ⟨_, p, trivial, fun od => ⟨.rdc upd_same (r.ext (.write p trivial)), g.lock p trivial, .write p trivial⟩⟩
  | dtt e => obtain ⟨vs, p, r⟩ := g a _ e; exact ⟨_, p, trivial, fun od => ⟨.rdt upd_same (r.ext (.write p trivial)), g.lock p trivial, .write p trivial⟩⟩
  | ins e => obtain ⟨dx, vs, p, r⟩ := g a _ e; exact ⟨_, p, trivial, fun od => ⟨.obj upd_same (r.ext (.write p trivial)), g.lock p trivial, .write p trivial⟩⟩
inductive Gh : Ev → Hg → Ev → Hg → Prop
  | refl {env : Ev} {G : Hg} : Gh env G env G
  | lk {env env2 : Ev} {G G2 : Hg} {a : Addr} {d : D} (i : Nat) : env[i]? = some (some (.ref a)) → Lk G a d → Gh (env.set i (some d)) (delG G a) env2 G2 → Gh env G env2 G2
  | weak {env env1 env2 : Ev} {G G1 G2 : Hg} : env1.length = env.length → (∀ (i : Nat) (d : D), env1[i]? = some (some d) → env[i]? = some (some d)) → (∀ a o, G1 a = some o → G a = some o) → Gh env1 G1 env2 G2 → Gh env G env2 G2
def gGh (t : TSg) : TSg := fun E env G => ∃ env2 G2, Gh env G env2 G2 ∧ t E env2 G2
theorem Er.set1 {K : PySem.W.Frag} {H : Hp} {e : Ev} {σ : L2.St} {d : D} {v : V} {i : Nat} (h : Er K H e σ) (hv : σ[i]? = some (some v)) (r : Rp K H d v) : Er K H (e.set i (some d)) σ := by
  have q := h.set r i
  have : σ.set i (some v) = σ := by
    obtain ⟨h1, h2⟩ := List.getElem?_eq_some_iff.mp hv
    rw [← h2]; exact List.set_getElem_self h1
  rw [this] at q
  exact q
section
variable {X : Cx}
theorem pss_gh {st : List Stmt} {t : TSg} (h : PSs X st (lS X.K t)) : PSs X st (lS X.K (gGh t)) := by
  refine ⟨fun pins s σ H D I q => ?_⟩
  obtain ⟨env, G, E, er, hr, ⟨env2, G2, gh, t1⟩, k⟩ := q
  induction gh generalizing H with
  | refl => exact h.run pins s σ H D I ⟨_, _, E, er, hr, t1, k⟩
  | lk i hi hl _ ih =>
    obtain ⟨u, hu, m, z⟩ := hl.ok hr
    obtain ⟨od, I2⟩ := I.lock hu m
    obtain ⟨r2, g2, x2⟩ := z od
    obtain ⟨v, hv, r⟩ := er.at_ i _ hi
    cases r
    exact ih _ I2 ((er.ext x2).set1 hv r2) g2 (k.mono x2) t1
  | weak hl he hg _ ih =>
    exact ih _ I ⟨hl.trans er.len, fun i d e => er.at_ i d (he i d e)⟩ (fun a o e => hr a o (hg a o e)) k t1
def gNext : TSg := fun E env G => E.nx env G
def gSeq (t u : TSg) : TSg := fun E env G => t { E with nx := fun env1 G1 => ∃ env2 G2, Gh env1 G1 env2 G2 ∧ u E env2 G2 } env G
theorem gss_nil : PSs X [] (lS X.K gNext) := PSs.imp pss_nil fun D σ H ⟨env, G, E, er, hr, t, k⟩ => k.nx env G σ H t .refl er hr
theorem gss_cons {st : Stmt} {rest : List Stmt} {t u : TSg} (h1 : PS X st (lS X.K t)) (h2 : PSs X rest (lS X.K u)) : PSs X (st :: rest) (lS X.K (gSeq t u)) :=
  PSs.imp (pss_cons h1 (pss_gh h2)) fun D σ H ⟨env, G, E, er, hr, t, k⟩ => by
    refine ⟨env, G, _, er, hr, t, fun env1 G1 σ1 H1 t1 x1 er1 g1 => ?_, k.rt, k.bk, k.ct⟩
    exact ⟨env1, G1, E, er1, g1, t1, k.mono x1⟩
theorem gss_one {st : Stmt} {t : TSg} (h1 : PS X st (lS X.K t)) : PSs X [st] (lS X.K t) := PSs.imp (pss_one h1) fun _ _ _ h => h
def gBreak : TSg := fun E env G => E.bk env G
def gCont : TSg := fun E env G => E.ct env G
theorem gs_pass {pos : Pos} : PS X (.Pass pos) (lS X.K gNext) := PS.imp ps_pass fun D σ H ⟨env, G, E, er, hr, t, k⟩ => k.nx env G σ H t .refl er hr
theorem gs_break {pos : Pos} : PS X (.Break pos) (lS X.K gBreak) := PS.imp ps_break fun D σ H ⟨env, G, E, er, hr, t, k⟩ => k.bk env G σ H t .refl er hr
theorem gs_cont {pos : Pos} : PS X (.Continue pos) (lS X.K gCont) := PS.imp ps_continue fun D σ H ⟨env, G, E, er, hr, t, k⟩ => k.ct env G σ H t .refl er hr
def gDrop (t : TEg) : TSg := fun E env G => t env G fun _ G1 => E.nx env G1
theorem gs_expr {e : Expr} {pos : Pos} {t : TEg} (he : PE X e (lE X.K t)) (hs : swapsWith e none pos.line X.env = pure false) : PS X (.Expr e pos) (lS X.K (gDrop t)) :=
  PS.imp (ps_expr he hs) fun D σ H ⟨env, G, E, er, hr, t, k⟩ => ⟨env, G, _, er, hr, t, fun d G1 v H1 t1 x1 r1 g1 => k.nx env G1 σ H1 t1 x1 (er.ext x1) g1⟩
def rRet (P : KD) (d : D) (G : Hg) : Prop := P d G ∨ ∃ a d', d = .ref a ∧ Lk G a d' ∧ P d' (delG G a)
def gRet (t : TEg) : TSg := fun E env G => t env G fun d G1 => rRet E.rt d G1
theorem rRet.ok {K : PySem.W.Frag} {H H1 : Hp} {P : KD} {Q : VK} {d : D} {v : V} {G : Hg} (t : rRet P d G) (k : LD K H P Q) (x : ExtT H H1) (r : Rp K H1 d v) (g : Hr K H1 G) :
    Q v H1 ∨ ∃ a u, v = .ref a ∧ H1 a = some u ∧ Mut (some u) ∧ ∀ od, Q v (upd H1 a (.frz od u)) := by
  rcases t with t | ⟨a, d', rfl, lk, t⟩
  · exact .inl (k _ _ _ _ t x r g)
  · cases r
    obtain ⟨u, hu, m, z⟩ := lk.ok g
    refine .inr ⟨a, u, rfl, hu, m, fun od => ?_⟩
    obtain ⟨r2, g2, x2⟩ := z od
    exact k _ _ _ _ t (x.trans x2) r2 g2
theorem gs_ret {e : Expr} {pos : Pos} {t : TEg} (he : PE X e (lE X.K t)) : PS X (.Return (some e) pos) (lS X.K (gRet t)) :=
  PS.imp (ps_ret (pe_fz he)) fun D σ H ⟨env, G, E, er, hr, t, k⟩ => ⟨env, G, _, er, hr, t, fun d G1 v H1 t1 x1 r1 g1 => t1.ok k.rt x1 r1 g1⟩
def gRetN : TSg := fun E _ G => E.rt .non G
theorem gs_retN {pos : Pos} : PS X (.Return none pos) (lS X.K gRetN) := PS.imp ps_retN fun D σ H ⟨env, G, E, er, hr, t, k⟩ => k.rt _ _ _ _ t .refl .non hr
def gIfS (c : TTg) (t u : TSg) : TSg := fun E env G => c env G fun b G1 => match b with
  | true => t E env G1
  | false => u E env G1
theorem gs_if {c : Expr} {a b : List Stmt} {pos : Pos} {tc : TTg} {t u : TSg} (hc : PT X c (lT X.K tc)) (ha : PSs X a (lS X.K t)) (hb : PSs X b (lS X.K u)) : PS X (.If c a b pos) (lS X.K (gIfS tc t u)) :=
  PS.imp (ps_if hc ha hb) fun D σ H ⟨env, G, E, er, hr, t, k⟩ => by
    refine ⟨env, G, _, er, hr, t, fun b G1 H1 t1 x1 g1 => ?_⟩
    cases b with
    | true => rw [if_pos rfl]; exact ⟨env, G1, E, er.ext x1, g1, t1, k.mono x1⟩
    | false => rw [if_neg Bool.false_ne_true]; exact ⟨env, G1, E, er.ext x1, g1, t1, k.mono x1⟩
abbrev TGg := D → Ev → Hg → (Ev → Hg → Prop) → Prop
abbrev TGsg := List D → Ev → Hg → (Ev → Hg → Prop) → Prop
def LG (K : PySem.W.Frag) (H : Hp) (P : Ev → Hg → Prop) (Q : L2.St → Hp → Prop) : Prop := ∀ env G σ H', P env G → ExtT H H' → Er K H' env σ → Hr K H' G → Q σ H'
def lG (K : PySem.W.Frag) (t : TGg) : TG := fun v σ H Q => ∃ d env G P, Rp K H d v ∧ Er K H env σ ∧ Hr K H G ∧ t d env G P ∧ LG K H P Q
def lGs (K : PySem.W.Frag) (t : TGsg) : TGs := fun v σ H Q => ∃ d env G P, RpA K H d v ∧ Er K H env σ ∧ Hr K H G ∧ t d env G P ∧ LG K H P Q
theorem PG.imp {e : Expr} {t t' : TG} (h : PG X e t) (i : ∀ v σ H Q, t' v σ H Q → t v σ H Q) : PG X e t' := ⟨fun pins s σ H v u Q I r q => h.run pins s σ H v u Q I r (i v σ H Q q)⟩
theorem PGs.imp {e : List Expr} {t t' : TGs} (h : PGs X e t) (i : ∀ v σ H Q, t' v σ H Q → t v σ H Q) : PGs X e t' := ⟨fun pins s σ H v u Q I r q => h.run pins s σ H v u Q I r (i v σ H Q q)⟩
def gName (i : Nat) : TGg := fun d env G P => P (env.set i (some d)) G
theorem gg_name {i : Nat} {x : Str} {pos : Pos} (hN : X.N.Nodup) (hi : X.N[i]? = some x) (hx : Loc X.env.scope x) (hf : X.fn x = true ∨ X.env.scope.names.lookup x = some .local) : PG X (.Name x pos) (lG X.K (gName i)) :=
  PG.imp (pg_name hN hi hx hf) fun v σ H Q ⟨d, env, G, P, r, er, hr, t, k⟩ => k _ _ _ _ t .refl (er.set r i) hr
def gGNil : TGsg := fun ds env G P => match ds with
  | [] => P env G
  | _ => False
def gGCons (t : TGg) (u : TGsg) : TGsg := fun ds env G P => match ds with
  | d :: r => t d env G fun env1 G1 => u r env1 G1 P
  | _ => False
theorem ggs_nil : PGs X [] (lGs X.K gGNil) := PGs.imp pgs_nil fun v σ H Q ⟨d, env, G, P, r, er, hr, t, k⟩ => by
  cases r with
  | nil => exact ⟨rfl, k _ _ _ _ t .refl er hr⟩
  | cons _ _ => exact t.elim
theorem ggs_cons {e : Expr} {es : List Expr} {t : TGg} {u : TGsg} (h1 : PG X e (lG X.K t)) (h2 : PGs X es (lGs X.K u)) (hs : (assignEach (e :: es) X.env).map (·.2) = assign e X.env :: (assignEach es X.env).map (·.2)) : PGs X (e :: es) (lGs X.K (gGCons t u)) :=
  PGs.imp (pgs_cons h1 h2 hs) fun v σ H Q ⟨d, env, G, P, r, er, hr, t, k⟩ => by
    cases r with
    | nil => exact t.elim
    | cons r rr => exact ⟨_, _, rfl, _, env, G, _, r, er, hr, t, fun env1 G1 σ1 H1 t1 x1 er1 g1 => ⟨_, env1, G1, P, rr.ext x1, er1, g1, t1, fun env2 G2 σ2 H2 p x => k _ _ _ _ p (x1.trans x)⟩⟩
def gGTup (n : Nat) (u : TGsg) : TGg := fun d env G P => match d with
  | .tup ds => ds.length = n ∧ u ds env G P
  | _ => False
theorem gg_tup {es : List Expr} {x1 : Nat} {pos : Pos} {u : TGsg} {n : Nat} (hc : X.calm = true) (h : PGs X es (lGs X.K u)) (hn : (assignEach es X.env).length = n) (hst : (assignEach es X.env).findIdx? (·.1) = none) : PG X (.Tuple es x1 pos) (lG X.K (gGTup n u)) :=
  PG.imp (pg_tup hc h hn hst) fun v σ H Q ⟨d, env, G, P, r, er, hr, t, k⟩ => by
    cases r with
    | tup e r => exact ⟨_, _, rfl, .of e, by rw [← r.length]; exact t.1, _, env, G, P, r, er, hr, t.2, k⟩
    | _ => exact t.elim
def rSetL (a : Addr) (xs : List D) (i v : D) (G : Hg) (P : Hg → Prop) : Prop := match i with
  | .int k => ∃ j, ixN xs.length k = some j ∧ ∀ G', G' = updG G a (.lst (xs.set j v)) → P G'
  | _ => False
def rSet (o i v : D) (G : Hg) (P : Hg → Prop) : Prop := match o with
  | .ref a => ∃ g, G a = some g ∧ match g with
    | .lst xs => rSetL a xs i v G P
    | .dct kvs => ∃ k, kD k = i ∧ kvs.length < sizeLine ∧ ∀ G', G' = updG G a (.dct (dput kvs k v)) → P G'
    | .dtt kvs => ∃ ks : List DK, i = .tup (ks.map kD) ∧ kvs.length < sizeLine ∧ ∀ G', G' = updG G a (.dtt (dput kvs ks v)) → P G'
    | _ => False
  | _ => False
theorem RpK.any {K : PySem.W.Frag} {H : Hp} {k : DK} : ∀ {ds : List (DK × D)} {vs : List (Key × V)}, RpK K H ds vs → (vs.any fun kv => decide (kv.1 = ofK k)) = ds.any fun kv => decide (kv.1 = k)
  | _, _, .nil => rfl
  | _, _, .cons (k := j) r t => by
    rw [List.any_cons, List.any_cons, RpK.any t]
    by_cases hj : j = k
    · subst hj; simp
    · have hn : ¬ ofK j = ofK k := fun e => hj (ofK_inj e)
      simp [hj, hn]
theorem RpK.map {K : PySem.W.Frag} {H : Hp} {k : DK} {d : D} {v : V} (r : Rp K H d v) : ∀ {ds : List (DK × D)} {vs : List (Key × V)}, RpK K H ds vs → RpK K H (ds.map fun kv => if kv.1 = k then (kv.1, d) else kv) (vs.map fun kv => if kv.1 = ofK k then (kv.1, v) else kv)
  | _, _, .nil => .nil
  | _, _, .cons (k := j) q t => by
    rw [List.map_cons, List.map_cons]
    by_cases hj : j = k
    · subst hj; simp only [if_pos]; exact .cons r (RpK.map r t)
    · have hn : ¬ ofK j = ofK k := fun e => hj (ofK_inj e)
      simp only [if_neg hj, if_neg hn]; exact .cons q (RpK.map r t)
theorem RpK.app {K : PySem.W.Frag} {H : Hp} : ∀ {ds es : List (DK × D)} {vs ws : List (Key × V)}, RpK K H ds vs → RpK K H es ws → RpK K H (ds ++ es) (vs ++ ws)
  | _, _, _, _, .nil, s => s
  | _, _, _, _, .cons r t, s => .cons r (RpK.app t s)
theorem RpK.put {K : PySem.W.Frag} {H : Hp} {k : DK} {d : D} {v : V} (r : Rp K H d v) {ds : List (DK × D)} {vs : List (Key × V)} (h : RpK K H ds vs) : RpK K H (dput ds k d) (putK vs (ofK k) v) := by
  unfold dput putK
  rw [h.any]
  split
  · exact h.map r
  · exact h.app (.cons r .nil)
theorem ofKs_inj : ∀ {a b : List DK}, a.map ofK = b.map ofK → a = b
  | [], [], _ => rfl
  | [], _ :: _, h => by simp at h
  | _ :: _, [], h => by simp at h
  | x :: xs, y :: ys, h => by
    simp only [List.map_cons, List.cons.injEq] at h
    rw [ofK_inj h.1, ofKs_inj h.2]
theorem RpT.any {K : PySem.W.Frag} {H : Hp} {k : List DK} : ∀ {ds : List (List DK × D)} {vs : List (List Key × V)}, RpT K H ds vs → (vs.any fun kv => decide (kv.1 = k.map ofK)) = ds.any fun kv => decide (kv.1 = k)
  | _, _, .nil => rfl
  | _, _, .cons (k := j) r t => by
    rw [List.any_cons, List.any_cons, RpT.any t]
    by_cases hj : j = k
    · subst hj; simp
    · have hn : ¬ j.map ofK = k.map ofK := fun e => hj (ofKs_inj e)
      simp only [hj, hn]
theorem RpT.map {K : PySem.W.Frag} {H : Hp} {k : List DK} {d : D} {v : V} (r : Rp K H d v) : ∀ {ds : List (List DK × D)} {vs : List (List Key × V)}, RpT K H ds vs → RpT K H (ds.map fun kv => if kv.1 = k then (kv.1, d) else kv) (vs.map fun kv => if kv.1 = k.map ofK then (kv.1, v) else kv)
  | _, _, .nil => .nil
  | _, _, .cons (k := j) q t => by
    rw [List.map_cons, List.map_cons]
    by_cases hj : j = k
    · subst hj; simp only [if_pos]; exact .cons r (RpT.map r t)
    · have hn : ¬ j.map ofK = k.map ofK := fun e => hj (ofKs_inj e)
      simp only [if_neg hj, if_neg hn]; exact .cons q (RpT.map r t)
theorem RpT.app {K : PySem.W.Frag} {H : Hp} : ∀ {ds es : List (List DK × D)} {vs ws : List (List Key × V)}, RpT K H ds vs → RpT K H es ws → RpT K H (ds ++ es) (vs ++ ws)
  | _, _, _, _, .nil, s => s
  | _, _, _, _, .cons r t, s => .cons r (RpT.app t s)
theorem RpT.put {K : PySem.W.Frag} {H : Hp} {k : List DK} {d : D} {v : V} (r : Rp K H d v) {ds : List (List DK × D)} {vs : List (List Key × V)} (h : RpT K H ds vs) : RpT K H (dput ds k d) (putK vs (k.map ofK) v) := by
  unfold dput putK
  rw [h.any]
  split
  · exact h.map r
  · exact h.app (.cons r .nil)
theorem RpT.len {K : PySem.W.Frag} {H : Hp} : ∀ {ds : List (List DK × D)} {vs : List (List Key × V)}, RpT K H ds vs → ds.length = vs.length
  | _, _, .nil => rfl
  | _, _, .cons _ t => congrArg (· + 1) (RpT.len t)
theorem ixN_len {ds : List D} {vs : List V} {k : Int} {j : Nat} (e : ds.length = vs.length) (h : ixN ds.length k = some j) : ixN vs.length k = some j := by rw [← e]; exact h
theorem set_any (hu : X.A.units + 1 < cLine) : PSet X fun o i v H Q => ∃ d1 d2 d3 G P, Rp X.K H d1 o ∧ Rp X.K H d2 i ∧ Rp X.K H d3 v ∧ Hr X.K H G ∧ rSet d1 d2 d3 G P ∧ ∀ G' H', P G' → ExtT H H' → Hr X.K H' G' → Q H' := by
  intro pins s σ H o i v ov iv u Q I ro ri rv h
  obtain ⟨d1, d2, d3, G, P, h1, h2, h3, g, t, k⟩ := h
  unfold rSet at t
  split at t
  · cases h1
    obtain ⟨o', ho, t⟩ := t
    have q := g _ _ ho
    cases o' with
    | lst xs =>
      obtain ⟨vs, e, r⟩ := q
      have t' : rSetL _ xs d2 d3 G P := t
      clear t
      unfold rSetL at t'
      split at t'
      · cases h2
        obtain ⟨j, hj, t'⟩ := t'
        refine set_list pins s σ H _ _ _ ov iv u Q I ro ri rv ⟨_, vs, _, j, rfl, rfl, e, ixN_len r.length hj, ?_⟩
        exact k _ _ (t' _ rfl) (.write e trivial) (g.write e trivial ⟨_, upd_same, (RpA.set h3 j r).ext (.write e trivial)⟩)
      · exact t'.elim
    | dct kvs =>
      obtain ⟨vs, e, r⟩ := q
      obtain ⟨kk, ek, hl, t⟩ := t
      subst ek
      rw [kD_rp h2] at ri
      cases ro
      refine d_setItem hu I (.inl ⟨vs, _, e, rfl, by rw [← r.len]; exact hl, rfl⟩) ri rv fun s4 I4 => ⟨_, I4, ?_⟩
      exact k _ _ (t _ rfl) (.write e trivial) (g.write e trivial ⟨_, upd_same, (RpK.put h3 r).ext (.write e trivial)⟩)
    | dtt kvs =>
      obtain ⟨vs, e, r⟩ := q
      obtain ⟨kk, ek, hl, t⟩ := t
      subst ek
      cases h2 with
      | tup e2 r2 =>
        rw [kDs_rp r2] at e2
        cases ro
        refine d_setItem hu I (.inr ⟨vs, _, _, e, rfl, e2, by rw [← r.len]; exact hl, rfl⟩) ri rv fun s4 I4 => ⟨_, I4, ?_⟩
        exact k _ _ (t _ rfl) (.write e trivial) (g.write e trivial ⟨_, upd_same, (RpT.put h3 r).ext (.write e trivial)⟩)
    | ins C fs => exact t.elim
  · exact t.elim
def gGSub (to ti : TEg) : TGg := fun v env G P => to env G fun o G1 => ti env G1 fun i G2 => rSet o i v G2 fun G3 => P env G3
theorem gg_sub {o i : Expr} {pos : Pos} {to ti : TEg} (hu : X.A.units + 1 < cLine) (ho : PE X o (lE X.K to)) (hi : PE X i (lE X.K ti)) (ha : ∀ v, assign (.Subscript o i pos) X.env v = (do
      let ov ← holding [v] (eval o X.env)
      let iv ← holding [v, ov] (eval i X.env)
      standAt pos
      holding [v, ov, iv] (setItem ov iv v)
      release [v, ov, iv] [])) : PG X (.Subscript o i pos) (lG X.K (gGSub to ti)) :=
  PG.imp (pg_sub ho hi (set_any hu) ha) fun v σ H Q ⟨d, env, G, P, r, er, hr, t, k⟩ => by
    refine ⟨env, G, _, er, hr, t, fun x G1 w H1 t1 x1 r1 g1 => ?_⟩
    refine ⟨env, G1, _, er.ext x1, g1, t1, fun y G2 w2 H2 t2 x2 r2 g2 => ?_⟩
    exact ⟨x, y, d, G2, _, r1.ext x2, r2, (r.ext x1).ext x2, g2, t2, fun G3 H3 t3 x3 g3 => k env G3 σ H3 t3 ((x1.trans x2).trans x3) (((er.ext x1).ext x2).ext x3) g3⟩
def gAsg (t : TEg) (g : TGg) : TSg := fun E env G => t env G fun d G1 => g d env G1 E.nx
theorem gs_asg {tg e : Expr} {pos : Pos} {t : TEg} {g : TGg} (he : PE X e (lE X.K t)) (hg : PG X tg (lG X.K g)) (hs : swapsWithSole [tg] e pos.line X.env = pure false) (hw : swappedStores [tg] e X.env = pure none)
    (h1 : (assignEach [tg] X.env).map (·.2) = [assign tg X.env]) : PS X (.Assign [tg] e pos) (lS X.K (gAsg t g)) :=
  PS.imp (ps_asg he hg hs hw h1) fun D σ H ⟨env, G, E, er, hr, t, k⟩ => ⟨env, G, _, er, hr, t, fun d G1 v H1 t1 x1 r1 g1 => ⟨d, env, G1, _, r1, er.ext x1, g1, t1, fun env2 G2 σ2 H2 p x e2 g2 => k.nx _ _ _ _ p (x1.trans x) e2 g2⟩⟩
theorem gs_set {i : Nat} {x : Str} {e : Expr} {pos pos' : Pos} {t : TEg} (hN : X.N.Nodup) (hi : X.N[i]? = some x) (hx : Loc X.env.scope x) (he : PE X e (lE X.K t)) (hs : swapsWith e (some (.Name x pos')) pos.line X.env = pure false) (hf : X.fn x = true ∨ X.env.scope.names.lookup x = some .local) :
    PS X (.Assign [.Name x pos'] e pos) (lS X.K (gAsg t (gName i))) :=
  PS.imp (ps_set hN hi hx he hs hf) fun D σ H ⟨env, G, E, er, hr, t, k⟩ => ⟨env, G, _, er, hr, t, fun d G1 v H1 t1 x1 r1 g1 => k.nx _ _ _ _ t1 x1 ((er.ext x1).set r1 i) g1⟩
def gPar (i j : Nat) (t : TAg) : TSg := fun E env G => t env G fun ds G1 => match ds with
  | [a, b] => E.nx ((env.set i (some a)).set j (some b)) G1
  | _ => False
theorem gs_par {i j : Nat} {x y : Str} {a b : Expr} {t : TAg} {px py pt pos : Pos} {kt : Nat} {k2 : Nat} {pt2 : Pos} (hc : X.calm = true) (hN : X.N.Nodup) (hi : X.N[i]? = some x) (hj : X.N[j]? = some y) (hij : i ≠ j)
    (hx : X.env.scope.names.lookup x = some .local) (hy : X.env.scope.names.lookup y = some .local) (ha : PA X [a, b] (lA X.K t))
    (hw : swappedStores [.Tuple [.Name x px, .Name y py] kt pt] (.Tuple [a, b] k2 pt2) X.env = pure (some [x, y]))
    (hs : swapsWithSole [.Tuple [.Name x px, .Name y py] kt pt] (.Tuple [a, b] k2 pt2) pos.line X.env = pure false) :
    PS X (.Assign [.Tuple [.Name x px, .Name y py] kt pt] (.Tuple [a, b] k2 pt2) pos) (lS X.K (gPar i j t)) :=
  PS.imp (ps_par hc hN hi hj hij hx hy ha hw hs) fun D σ H ⟨env, G, E, er, hr, t, k⟩ => ⟨env, G, _, er, hr, t, fun ds G1 vs H1 t1 x1 r1 g1 => by
    split at t1
    · cases r1 with
      | cons r r' => cases r' with
        | cons r2 r3 =>
          cases r3
          exact ⟨_, _, rfl, k.nx _ _ _ _ t1 x1 (((er.ext x1).set r i).set r2 j) g1⟩
    · exact t1.elim⟩
def fput (fs : List (List Nat × D)) (f : List Nat) (v : D) : List (List Nat × D) := match fs with
  | [] => [(f, v)]
  | (g, w) :: r => if g = f then (f, v) :: r else (g, w) :: fput r f v
def gSFld (K : PySem.W.Frag) (f : List Nat) (to tv : TEg) : TSg := fun E env G => tv env G fun v G1 => to env G1 fun o G2 => match o with
  | .ref a => ∃ C fs, G2 a = some (.ins C fs) ∧ Fld K C f ∧ fs.length < 1000 ∧ ∀ G3, G3 = updG G2 a (.ins C (fput fs f v)) → E.nx env G3
  | _ => False
theorem RpF.put {K : PySem.W.Frag} {H : Hp} {f : List Nat} {d : D} {v : V} (r : Rp K H d v) : ∀ {ds : List (List Nat × D)} {vs : List (Str × V)}, RpF K H ds vs → RpF K H (fput ds f d) (putF ⟨f.toArray⟩ v vs)
  | _, _, .nil => .cons r .nil
  | _, _, .cons (k := j) (v := w) (vs := ws) q t => by
    unfold fput
    by_cases hj : j = f
    · subst hj
      rw [if_pos rfl]
      show RpF K H _ (if (_ : Str) = _ then _ else _)
      rw [if_pos rfl]
      exact .cons r t
    · rw [if_neg hj]
      show RpF K H _ (if (_ : Str) = _ then _ else _)
      rw [if_neg (by intro z; injection z with z; exact hj (by simpa using z))]
      exact .cons q (RpF.put r t)
theorem RpF.len {K : PySem.W.Frag} {H : Hp} : ∀ {ds : List (List Nat × D)} {vs : List (Str × V)}, RpF K H ds vs → ds.length = vs.length
  | _, _, .nil => rfl
  | _, _, .cons _ t => congrArg (· + 1) (RpF.len t)
theorem gs_fld {o value : Expr} {f : Str} {pos pos' : Pos} {to tv : TEg} (ho : PE X o (lE X.K to)) (hv : PE X value (lE X.K tv)) (hs : swapsWith value (some (.Attribute o f pos')) pos.line X.env = pure false) : PS X (.Assign [.Attribute o f pos'] value pos) (lS X.K (gSFld X.K f.cps.toList to tv)) :=
  PS.imp (ps_fld ho hv hs) fun D σ H ⟨env, G, E, er, hr, t, k⟩ => by
    refine ⟨env, G, _, er, hr, t, fun d G1 v H1 t1 x1 r1 g1 => ?_⟩
    refine ⟨env, G1, _, er.ext x1, g1, t1, fun o G2 w H2 t2 x2 r2 g2 => ?_⟩
    have ef : (⟨f.cps.toList.toArray⟩ : Str) = f := by simp
    split at t2
    · cases r2
      obtain ⟨C, fs, ho, ⟨cl, no⟩, hl, t2⟩ := t2
      obtain ⟨dx, vs, e, r⟩ := g2 _ _ ho
      have rp := (RpF.put (f := f.cps.toList) (r1.ext x2) r)
      rw [ef] at no rp
      refine ⟨_, _, dx, vs, rfl, e, cl, no, by rw [← r.len]; exact hl, ?_⟩
      exact k.nx _ _ _ _ (t2 _ rfl) ((x1.trans x2).trans (.write e trivial)) (((er.ext x1).ext x2).ext (.write e trivial)) (g2.write e trivial ⟨dx, _, upd_same, rp.ext (.write e trivial)⟩)
    · exact t2.elim
def gAug (i : Nat) (t : TEg) (r : R2g) : TSg := fun E env G => match env[i]? with
  | some (some x) => t env G fun y G1 => r x y G1 fun z G2 => E.nx (env.set i (some z)) G2
  | _ => False
theorem gs_aug {i : Nat} {x : Str} {e : Expr} {op : Operator} {pos pos' : Pos} {t : TEg} {r : R2g} (hN : X.N.Nodup) (hi : X.N[i]? = some x) (hx : Loc X.env.scope x) (he : PE X e (lE X.K t)) (ho : OpR X (inplaceOp op) (lR X.K r)) (hf : X.fn x = true ∨ X.env.scope.names.lookup x = some .local) :
    PS X (.AugAssign (.Name x pos') op e pos) (lS X.K (gAug i t r)) :=
  PS.imp (ps_aug hN hi hx he (ti := lR X.K r) (fun pins s σ H x y v u Q I rx ry h => ho pins s σ H x y v u Q I rx ry h) hf) fun D σ H ⟨env, G, E, er, hr, t, k⟩ => by
    unfold gAug at t
    split at t
    · rename_i d hd
      obtain ⟨v, hv, rv⟩ := er.at_ i d hd
      refine ⟨v, hv, env, G, _, er, hr, t, fun y G1 w H1 t1 x1 r1 g1 => ?_⟩
      refine ⟨d, y, G1, _, rv.ext x1, r1, g1, t1, fun z G2 w2 H2 t2 x2 r2 g2 => ?_⟩
      exact k.nx _ _ _ _ t2 (x1.trans x2) (((er.ext x1).ext x2).set r2 i) g2
    · exact t.elim
def gFAug (K : PySem.W.Frag) (f : List Nat) (to tv : TEg) (r : R2g) : TSg := fun E env G => to env G fun o G1 => match o with
  | .ref a => ∃ C fs d, G1 a = some (.ins C fs) ∧ Fld K C f ∧ fget fs f = some d ∧ tv env G1 fun y G2 => r d y G2 fun z G3 => ∃ C' fs', G3 a = some (.ins C' fs') ∧ C' = C ∧ fs'.length < 1000 ∧ ∀ G4, G4 = updG G3 a (.ins C' (fput fs' f z)) → E.nx env G4
  | _ => False
theorem gs_faug {o value : Expr} {f : Str} {op : Operator} {pos tpos : Pos} {to tv : TEg} {r : R2g} (ho : PE X o (lE X.K to)) (hv : PE X value (lE X.K tv)) (hop : OpR X (inplaceOp op) (lR X.K r)) : PS X (.AugAssign (.Attribute o f tpos) op value pos) (lS X.K (gFAug X.K f.cps.toList to tv r)) :=
  PS.imp (ps_fldaug ho hv (rd := lR X.K r) (fun pins s σ H x y u v Q I rx ry h => hop pins s σ H x y u v Q I rx ry h)) fun D σ H ⟨env, G, E, er, hr, t, k⟩ => by
    refine ⟨env, G, _, er, hr, t, fun o G1 v H1 t1 x1 r1 g1 => ?_⟩
    have ef : (⟨f.cps.toList.toArray⟩ : Str) = f := by simp
    split at t1
    · cases r1
      obtain ⟨C, fs, d, ho, ⟨cl, no⟩, hd, t1⟩ := t1
      obtain ⟨dx, vs, e, r⟩ := g1 _ _ ho
      obtain ⟨w, hw, rw'⟩ := RpF.get r hd
      rw [ef] at no hw
      refine ⟨_, _, dx, vs, w, rfl, e, cl, no, hw, env, G1, _, er.ext x1, g1, t1, fun y G2 w2 H2 t2 x2 r2 g2 => ?_⟩
      refine ⟨d, y, G2, _, rw'.ext x2, r2, g2, t2, fun z G3 w3 H3 t3 x3 r3 g3 => ?_⟩
      obtain ⟨C', fs', ho', rfl, hl, t3⟩ := t3
      obtain ⟨dx', vs', e', r'⟩ := g3 _ _ ho'
      have rp := (RpF.put (f := f.cps.toList) r3 r')
      rw [ef] at rp
      refine ⟨dx', vs', e', by rw [← r'.len]; exact hl, ?_⟩
      exact k.nx _ _ _ _ (t3 _ rfl) (((x1.trans x2).trans x3).trans (.write e' trivial)) ((((er.ext x1).ext x2).ext x3).ext (.write e' trivial)) (g3.write e' trivial ⟨dx', _, upd_same, rp.ext (.write e' trivial)⟩)
    · exact t1.elim
def gWhile (c : TTg) (tb : TSg) : TSg := fun E env G => ∃ W : Nat → Ev → Hg → Prop, (∃ m, W m env G) ∧ ∀ m env G, W m env G →
  c env G fun b G1 => match b with
    | true => tb { E with nx := fun env' G' => ∃ m', m' < m ∧ W m' env' G', ct := fun env' G' => ∃ m', m' < m ∧ W m' env' G', bk := E.nx } env G1
    | false => E.nx env G1
theorem gs_while {c : Expr} {body : List Stmt} {pos : Pos} {tc : TTg} {tb : TSg} (hp : PassesOwn (model X.prog X.w) X.A X.env X.xe) (hc : PT X c (lT X.K tc)) (hb : PSs X body (lS X.K tb)) : PS X (.While c body [] pos) (lS X.K (gWhile tc tb)) :=
  PS.imp (ps_while hp hc hb) fun D σ H ⟨env, G, E, er, hr, t, k⟩ => by
    obtain ⟨W, ⟨m0, w0⟩, turn⟩ := t
    let U : Nat → L2.St → Hp → Prop := fun m σ' H' => ∃ env' G', ExtT H H' ∧ Er X.K H' env' σ' ∧ Hr X.K H' G' ∧ W m env' G'
    refine ⟨U, ⟨m0, env, G, .refl, er, hr, w0⟩, ?_⟩
    rintro m σ1 H1 ⟨env1, G1, x1, er1, g1, w1⟩
    refine ⟨env1, G1, _, er1, g1, turn m env1 G1 w1, fun b G2 H2 t2 x2 g2 => ?_⟩
    cases b with
    | true =>
      rw [if_pos rfl]
      refine ⟨fun σ' H' => ∃ m', m' < m ∧ U m' σ' H', fun σ' H' h => h, env1, G2, _, er1.ext x2, g2, t2, ?_, k.rt.mono (x1.trans x2), ?_, ?_⟩
      · rintro env3 G3 σ3 H3 ⟨m', hm, w3⟩ x3 er3 g3
        exact ⟨m', hm, env3, G3, (x1.trans x2).trans x3, er3, g3, w3⟩
      · exact fun env3 G3 σ3 H3 p x3 => k.nx _ _ _ _ p ((x1.trans x2).trans x3)
      · rintro env3 G3 σ3 H3 ⟨m', hm, w3⟩ x3 er3 g3
        exact ⟨m', hm, env3, G3, (x1.trans x2).trans x3, er3, g3, w3⟩
    | false =>
      rw [if_neg Bool.false_ne_true]
      exact k.nx _ _ _ _ t2 (x1.trans x2) (er1.ext x2) g2
structure Jg where
  go : Nat → Hg → Prop
  yld : Nat → Hg → D → Hg → Prop
  stop : Nat → Hg → Prop
structure LJ (K : PySem.W.Frag) (H0 : Hp) (J : It) (j : Jg) : Prop where
  go : ∀ i H G, ExtT H0 H → Hr K H G → j.go i G → J.go i H
  stop : ∀ i H G, ExtT H0 H → Hr K H G → j.stop i G → J.stop i H
  yld : ∀ i H G x H', ExtT H0 H → Hr K H G → j.go i G → J.yld i H x H' → ExtT H H' ∧ ∃ d G', j.yld i G d G' ∧ Rp K H' d x ∧ Hr K H' G'
theorem LJ.mono {K : PySem.W.Frag} {H0 H1 : Hp} {J : It} {j : Jg} (h : LJ K H0 J j) (e : ExtT H0 H1) : LJ K H1 J j :=
  ⟨fun i H G x => h.go i H G (e.trans x), fun i H G x => h.stop i H G (e.trans x), fun i H G x H' z => h.yld i H G x H' (e.trans z)⟩
abbrev TIg := Ev → Hg → (Jg → Hg → Prop) → Prop
def lI (K : PySem.W.Frag) (t : TIg) : TI := fun σ H R => ∃ env G P, Er K H env σ ∧ Hr K H G ∧ t env G P ∧ ∀ j G' J H', P j G' → ExtT H H' → Hr K H' G' → LJ K H' J j → R J H'
theorem PI.imp {tg e : Expr} {t t' : TI} (h : PI X tg e t) (i : ∀ σ H R, t' σ H R → t σ H R) : PI X tg e t' := ⟨fun pins s σ H R I q => h.run pins s σ H R I (i σ H R q)⟩
def gFor (ti : TIg) (g : TGg) (tb : TSg) : TSg := fun E env G => ti env G fun j G1 => ∃ W : Nat → Nat → Ev → Hg → Prop, (∃ m, W 0 m env G1) ∧ ∀ i m env G, W i m env G →
  (j.stop i G ∧ E.nx env G) ∨ (j.go i G ∧ ∀ d G', j.yld i G d G' → g d env G' fun env2 G2 => tb { E with nx := fun env' G' => ∃ m', m' < m ∧ W (i + 1) m' env' G', ct := fun env' G' => ∃ m', m' < m ∧ W (i + 1) m' env' G', bk := E.nx } env2 G2)
theorem gs_for {tg iter : Expr} {body : List Stmt} {pos : Pos} {ti : TIg} {g : TGg} {tb : TSg} (hp : PassesOwn (model X.prog X.w) X.A X.env X.xe) (hc : X.calm = true) (hi : PI X tg iter (lI X.K ti)) (hg : PG X tg (lG X.K g)) (hb : PSs X body (lS X.K tb))
    (hs : ∀ x, foldedSetIterable iter X.env x = pure x) : PS X (.For tg iter body [] pos) (lS X.K (gFor ti g tb)) :=
  PS.imp (ps_for hp hc hi hg hb hs) fun D σ H ⟨env, G, E, er, hr, t, k⟩ => by
    refine ⟨env, G, _, er, hr, t, fun j G1 J H1 t1 x1 g1 lj => ?_⟩
    obtain ⟨W, ⟨m0, w0⟩, turn⟩ := t1
    let U : Nat → Nat → L2.St → Hp → Prop := fun i m σ' H' => ∃ env' G', ExtT H1 H' ∧ Er X.K H' env' σ' ∧ Hr X.K H' G' ∧ W i m env' G'
    refine ⟨U, ⟨m0, env, G1, .refl, er.ext x1, g1, w0⟩, ?_⟩
    rintro i m σ2 H2 ⟨env2, G2, x2, er2, g2, w2⟩
    rcases turn i m env2 G2 w2 with ⟨st, q⟩ | ⟨go, step⟩
    · exact .inl ⟨lj.stop i H2 G2 x2 g2 st, k.nx _ _ _ _ q (x1.trans x2) er2 g2⟩
    · refine .inr ⟨lj.go i H2 G2 x2 g2 go, fun σ' H' => ∃ m', m' < m ∧ U (i + 1) m' σ' H', fun σ' H' h => h, fun x H3 y => ?_⟩
      obtain ⟨x3, d, G3, yd, rd, g3⟩ := lj.yld i H2 G2 x H3 x2 g2 go y
      refine ⟨d, env2, G3, _, rd, er2.ext x3, g3, step d G3 yd, fun env4 G4 σ4 H4 t4 x4 er4 g4 => ?_⟩
      have x14 := (x2.trans x3).trans x4
      refine ⟨env4, G4, _, er4, g4, t4, ?_, k.rt.mono (x1.trans x14), ?_, ?_⟩
      · rintro env5 G5 σ5 H5 ⟨m', hm, w5⟩ x5 er5 g5
        exact ⟨m', hm, env5, G5, x14.trans x5, er5, g5, w5⟩
      · exact fun env5 G5 σ5 H5 p x5 => k.nx _ _ _ _ p ((x1.trans x14).trans x5)
      · rintro env5 G5 σ5 H5 ⟨m', hm, w5⟩ x5 er5 g5
        exact ⟨m', hm, env5, G5, x14.trans x5, er5, g5, w5⟩
def jP (ds : List D) : Jg := ⟨fun i _ => i < ds.length, fun i G d G' => G' = G ∧ ds[i]? = some d, fun i _ => ds.length ≤ i⟩
def jL (a : Addr) : Jg := ⟨fun i G => ∃ xs x, G a = some (.lst xs) ∧ xs[i]? = some x, fun i G d G' => G' = G ∧ ∀ xs, G a = some (.lst xs) → xs[i]? = some d, fun i G => ∃ xs, G a = some (.lst xs) ∧ xs.length ≤ i⟩
def jR (lo : Int) (n : Nat) : Jg := ⟨fun i _ => i < n, fun i G d G' => G' = G ∧ d = .int (lo + i), fun i _ => n ≤ i⟩
theorem lj_rol {K : PySem.W.Frag} {H : Hp} {a : Addr} {ds : List D} {vs : List V} (e : SqF K H a vs) (r : RpA K H ds vs) : LJ K H (Itl K a) (jP ds) where
  go := fun i H' G x g h => by
    obtain ⟨v, hv, _⟩ := r.get (List.getElem?_eq_getElem h)
    exact ⟨vs, v, (SqF.ext x e).sql, hv⟩
  stop := fun i H' G x g h => ⟨vs, (SqF.ext x e).sql, by rw [← r.length]; exact h⟩
  yld := fun i H' G x H2 z g h y => by
    obtain ⟨e2, y⟩ := y
    subst e2
    obtain ⟨d, hd, rd⟩ := r.getV (y vs (SqF.ext z e).sql)
    exact ⟨.refl, d, G, ⟨rfl, hd⟩, rd.ext z, g⟩
theorem lj_ref {K : PySem.W.Frag} {H : Hp} {a : Addr} : LJ K H (Itl K a) (jL a) where
  go := fun i H' G x g h => by
    obtain ⟨xs, d, e, hd⟩ := h
    obtain ⟨vs, p, r⟩ := g a _ e
    obtain ⟨v, hv, _⟩ := r.get hd
    exact ⟨vs, v, .of p, hv⟩
  stop := fun i H' G x g h => by
    obtain ⟨xs, e, hl⟩ := h
    obtain ⟨vs, p, r⟩ := g a _ e
    exact ⟨vs, .of p, by rw [← r.length]; exact hl⟩
  yld := fun i H' G x H2 z g h y => by
    obtain ⟨e2, y⟩ := y
    subst e2
    obtain ⟨xs, d, e, hd⟩ := h
    obtain ⟨vs, p, r⟩ := g a _ e
    obtain ⟨d', hd', rd⟩ := r.getV (y vs (.of p))
    refine ⟨.refl, d', G, ⟨rfl, fun ys hy => ?_⟩, rd, g⟩
    rw [e] at hy; cases hy; exact hd'
theorem lj_rng {K : PySem.W.Frag} {H : Hp} {lo : Int} {n : Nat} : LJ K H (Itr lo n) (jR lo n) where
  go := fun i H' G x g h => h
  stop := fun i H' G x g h => h
  yld := fun i H' G x H2 z g h y => by
    obtain ⟨e2, y⟩ := y
    subst e2 y
    exact ⟨.refl, _, G, ⟨rfl, rfl⟩, .int _, g⟩
def rWalk (x : D) (G : Hg) (R : Jg → Hg → Prop) : Prop := match x with
  | .rol ds => R (jP ds) G
  | .kol ds => R (jP ds) G
  | .ref a => (∃ xs, G a = some (.lst xs)) ∧ R (jL a) G
  | _ => False
def gIter (t : TEg) : TIg := fun env G R => t env G fun x G1 => rWalk x G1 R
theorem gi_list {tg e : Expr} {t : TEg} (he : PE X e (lE X.K t)) : PI X tg e (lI X.K (gIter t)) :=
  PI.imp (pi_list he) fun σ H R ⟨env, G, P, er, hr, t, k⟩ => by
    refine ⟨env, G, _, er, hr, t, fun x G1 v H1 t1 x1 r1 g1 => ?_⟩
    cases r1 with
    | rol e r => exact ⟨_, rfl, ⟨_, .inl (.inr ⟨_, e⟩)⟩, k _ _ _ _ t1 x1 g1 (lj_rol (.inl ⟨_, e⟩) r)⟩
    | kol e r => exact ⟨_, rfl, ⟨_, e.sql⟩, k _ _ _ _ t1 x1 g1 (lj_rol e r)⟩
    | ref a =>
      obtain ⟨⟨xs, e⟩, t1⟩ := t1
      obtain ⟨vs, p, r⟩ := g1 a _ e
      exact ⟨_, rfl, ⟨_, .of p⟩, k _ _ _ _ t1 x1 g1 lj_ref⟩
    | _ => exact t1.elim
def rWalkT (x : D) (G : Hg) (R : Jg → Hg → Prop) : Prop := match x with
  | .tup ds => R (jP ds) G
  | .ktp ds => R (jP ds) G
  | _ => False
def gIterT (t : TEg) : TIg := fun env G R => t env G fun x G1 => rWalkT x G1 R
theorem lj_tup' {K : PySem.W.Frag} {H : Hp} {a : Addr} {ds : List D} {vs : List V} (e : SqT K H a vs) (r : RpA K H ds vs) : LJ K H (Itt K a) (jP ds) where
  go := fun i H' G x g h => by
    obtain ⟨v, hv, _⟩ := r.get (List.getElem?_eq_getElem h)
    exact ⟨vs, v, SqT.ext x e, hv⟩
  stop := fun i H' G x g h => ⟨vs, SqT.ext x e, by rw [← r.length]; exact h⟩
  yld := fun i H' G x H2 z g h y => by
    obtain ⟨e2, y⟩ := y
    subst e2
    obtain ⟨d, hd, rd⟩ := r.getV (y vs (SqT.ext z e))
    exact ⟨.refl, d, G, ⟨rfl, hd⟩, rd.ext z, g⟩
theorem gi_tup {tg e : Expr} {t : TEg} (he : PE X e (lE X.K t)) : PI X tg e (lI X.K (gIterT t)) :=
  PI.imp (pi_tup he) fun σ H R ⟨env, G, P, er, hr, t, k⟩ => by
    refine ⟨env, G, _, er, hr, t, fun x G1 v H1 t1 x1 r1 g1 => ?_⟩
    cases r1 with
    | tup e r => exact ⟨_, rfl, ⟨_, .of e⟩, k _ _ _ _ t1 x1 g1 (lj_tup' (.of e) r)⟩
    | ktp e r => exact ⟨_, rfl, ⟨_, e⟩, k _ _ _ _ t1 x1 g1 (lj_tup' e r)⟩
    | _ => exact t1.elim
def gRng1 (t : TAg) : TIg := fun env G R => t env G fun ds G1 => match ds with
  | [.int j] => -(2 ^ 62) ≤ j ∧ j < 2 ^ 62 ∧ R (jR 0 j.toNat) G1
  | _ => False
def gRng2 (t : TAg) : TIg := fun env G R => t env G fun ds G1 => match ds with
  | [.int i, .int j] => (-(2 ^ 62) ≤ i ∧ i < 2 ^ 62 ∧ -(2 ^ 62) ≤ j ∧ j < 2 ^ 62) ∧ R (jR i (j - i).toNat) G1
  | _ => False
theorem gi_rng1 {tg a : Expr} {p pos : Pos} {t : TAg} (hg : Gl X "range") (hm : X.mg "range" = none) (ha : PA X [a] (lA X.K t)) (hs : starEach [a] X.env = [(false, eval a X.env)]) : PI X tg (.Call (.Name "range" p) [a] [] pos) (lI X.K (gRng1 t)) :=
  PI.imp (pi_range1 hg hm ha hs) fun σ H R ⟨env, G, P, er, hr, t, k⟩ => by
    refine ⟨env, G, _, er, hr, t, fun ds G1 vs H1 t1 x1 r1 g1 => ?_⟩
    split at t1
    · cases r1 with
      | cons r rr =>
        cases rr; cases r
        exact ⟨_, rfl, t1.1, t1.2.1, k _ _ _ _ t1.2.2 x1 g1 lj_rng⟩
    · exact t1.elim
theorem gi_rng2 {tg a b : Expr} {p pos : Pos} {t : TAg} (hg : Gl X "range") (hm : X.mg "range" = none) (ha : PA X [a, b] (lA X.K t)) (hs : starEach [a, b] X.env = [(false, eval a X.env), (false, eval b X.env)]) (hs2 : starEach [b] X.env = [(false, eval b X.env)]) : PI X tg (.Call (.Name "range" p) [a, b] [] pos) (lI X.K (gRng2 t)) :=
  PI.imp (pi_range2 hg hm ha hs hs2) fun σ H R ⟨env, G, P, er, hr, t, k⟩ => by
    refine ⟨env, G, _, er, hr, t, fun ds G1 vs H1 t1 x1 r1 g1 => ?_⟩
    split at t1
    · cases r1 with
      | cons r rr =>
        cases rr with
        | cons r' rr =>
          cases rr; cases r; cases r'
          exact ⟨_, _, rfl, t1.1, k _ _ _ _ t1.2 x1 g1 lj_rng⟩
    · exact t1.elim
end
end Vc

set_option Elab.async false
set_option linter.all false
set_option autoImplicit false
set_option maxRecDepth 100000
set_option maxHeartbeats 2000000
namespace Vc
open PySem PySem.Spec PyProof.Rows L2
def wipeE (e : Ev) : List Nat → Ev
  | [] => e
  | v :: vs => (wipeE e vs).set v none
theorem wipeE_len (e : Ev) : ∀ vs : List Nat, (wipeE e vs).length = e.length
  | [] => rfl
  | v :: vs => by unfold wipeE; rw [List.length_set, wipeE_len e vs]
theorem wipeE_some {e : Ev} {i : Nat} {x : D} : ∀ {vs : List Nat}, (wipeE e vs)[i]? = some (some x) → e[i]? = some (some x) ∧ i ∉ vs
  | [], h => ⟨h, by simp⟩
  | v :: vs, h => by
    unfold wipeE at h
    by_cases hi : v = i
    · subst hi
      by_cases hv : v < (wipeE e vs).length
      · rw [List.getElem?_set_self hv] at h; cases h
      · rw [List.getElem?_eq_none (by simpa using hv)] at h; cases h
    · rw [List.getElem?_set_ne hi] at h
      obtain ⟨h1, h2⟩ := wipeE_some h
      exact ⟨h1, by simp only [List.mem_cons, not_or]; exact ⟨fun e => hi e.symm, h2⟩⟩
theorem Er.wipe {K : PySem.W.Frag} {H : Hp} {e : Ev} {σ : L2.St} (h : Er K H e σ) (vs : List Nat) : Er K H (wipeE e vs) (L2.wipe σ vs) := by
  refine ⟨by rw [wipeE_len, L2.wipe_length]; exact h.len, fun i d q => ?_⟩
  obtain ⟨h1, h2⟩ := wipeE_some q
  obtain ⟨v, h3, r⟩ := h.at_ i d h1
  exact ⟨v, by rw [L2.wipe_out h2]; exact h3, r⟩
theorem wipe_ext : ∀ {vs : List Nat} {σ τ : L2.St}, σ.length = τ.length → (∀ j, j ∉ vs → σ[j]? = τ[j]?) → L2.wipe σ vs = L2.wipe τ vs
  | [], σ, τ, hl, h => List.ext_getElem? fun j => h j (by simp)
  | v :: vs, σ, τ, hl, h => by
    refine List.ext_getElem? fun j => ?_
    by_cases hj : j ∈ v :: vs
    · unfold L2.wipe
      by_cases hv : v = j
      · subst hv
        by_cases hb : v < σ.length
        · rw [List.getElem?_set_self (by rw [L2.wipe_length]; exact hb), List.getElem?_set_self (by rw [L2.wipe_length, ← hl]; exact hb)]
        · rw [List.getElem?_eq_none (by rw [List.length_set, L2.wipe_length]; omega), List.getElem?_eq_none (by rw [List.length_set, L2.wipe_length, ← hl]; omega)]
      · rw [List.getElem?_set_ne hv, List.getElem?_set_ne hv]
        have hm : j ∈ vs := by
          rcases List.mem_cons.mp hj with e | e
          · exact absurd e.symm hv
          · exact e
        -- both are none or out of range
        have key : ∀ (ρ : L2.St), (L2.wipe ρ vs)[j]? = if j < ρ.length then some none else none := by
          intro ρ
          have go : ∀ {ws : List Nat}, j ∈ ws → (L2.wipe ρ ws)[j]? = if j < ρ.length then some none else none := by
            intro ws
            induction ws with
            | nil => intro z; simp at z
            | cons w ws ih =>
              intro z
              unfold L2.wipe
              by_cases hw : w = j
              · subst hw
                split
                · rename_i hb
                  rw [List.getElem?_set_self (by rw [L2.wipe_length]; exact hb)]
                · rename_i hb
                  rw [List.getElem?_eq_none (by rw [List.length_set, L2.wipe_length]; omega)]
              · rw [List.getElem?_set_ne hw]
                rcases List.mem_cons.mp z with e | e
                · exact absurd e.symm hw
                · exact ih e
          exact go hm
        rw [key, key, hl]
    · rw [L2.wipe_out hj, L2.wipe_out hj]
      exact h j hj
theorem wipe_set {σ : L2.St} {vs : List Nat} {i : Nat} {x : Option V} (h : i ∈ vs) : L2.wipe ((L2.wipe σ vs).set i x) vs = L2.wipe σ vs := by
  refine wipe_ext (by rw [List.length_set, L2.wipe_length]) fun j hj => ?_
  have : i ≠ j := fun e => hj (e ▸ h)
  rw [List.getElem?_set_ne this, L2.wipe_out hj]
theorem wipe_set2 {σ τ : L2.St} {vs : List Nat} {i : Nat} {x : Option V} (h : i ∈ vs) (e : L2.wipe τ vs = L2.wipe σ vs) : L2.wipe (τ.set i x) vs = L2.wipe σ vs := by
  rw [← e]
  refine wipe_ext (by rw [List.length_set]) fun j hj => ?_
  have : i ≠ j := fun e => hj (e ▸ h)
  rw [List.getElem?_set_ne this]
theorem wipe_wipe {σ : L2.St} {vs : List Nat} : L2.wipe (L2.wipe σ vs) vs = L2.wipe σ vs :=
  wipe_ext (by rw [L2.wipe_length]) fun j hj => by rw [L2.wipe_out hj]
inductive Tg where
  | one (i : Nat)
  | tup (is : List Nat)
def setAll : Ev → List Nat → List D → Option Ev
  | e, [], [] => some e
  | e, i :: is, d :: ds => setAll (e.set i (some d)) is ds
  | _, _, _ => none
def Tg.put (t : Tg) (e : Ev) (d : D) (P : Ev → Prop) : Prop := match t with
  | .one i => P (e.set i (some d))
  | .tup is => (match d with
    | .tup ds => (match setAll e is ds with
      | some e2 => P e2
      | none => False)
    | _ => False)
def Tg.ix : Tg → List Nat
  | .one i => [i]
  | .tup is => is
def gsN : List Nat → TGs
  | [] => L2.gNil
  | i :: is => L2.gCons (L2.gName i) (gsN is)
def Tg.g (K : PySem.W.Frag) : Tg → TG
  | .one i => L2.gName i
  | .tup is => L2.gTup K is.length (gsN is)
theorem gsN_ok {K : PySem.W.Frag} {H : Hp} {Q : L2.St → Hp → Prop} {vs : List Nat} {σ0 : L2.St} : ∀ {is : List Nat} {e e2 : Ev} {σ : L2.St} {ds : List D} {ws : List V}, (∀ i ∈ is, i ∈ vs) → Er K H e σ → RpA K H ds ws → setAll e is ds = some e2 → L2.wipe σ vs = L2.wipe σ0 vs →
    (∀ σ2, Er K H e2 σ2 → L2.wipe σ2 vs = L2.wipe σ0 vs → Q σ2 H) → gsN is ws σ H Q
  | [], e, e2, σ, ds, ws, hi, er, r, h, hw, q => by
    cases r with
    | nil =>
      simp only [setAll] at h
      cases h
      exact ⟨rfl, q σ er hw⟩
    | cons _ _ => simp [setAll] at h
  | i :: is, e, e2, σ, ds, ws, hi, er, r, h, hw, q => by
    cases r with
    | nil => simp [setAll] at h
    | cons r rr =>
      simp only [setAll] at h
      exact ⟨_, _, rfl, gsN_ok (fun j hj => hi j (List.mem_cons_of_mem _ hj)) (er.set r i) rr h (wipe_set2 (hi i List.mem_cons_self) hw) q⟩
theorem Tg.ok {K : PySem.W.Frag} {t : Tg} {H : Hp} {e : Ev} {σ : L2.St} {d : D} {v : V} {P : Ev → Prop} {Q : L2.St → Hp → Prop} {vs : List Nat} (hi : ∀ i ∈ t.ix, i ∈ vs) (er : Er K H (wipeE e vs) (L2.wipe σ vs)) (r : Rp K H d v) (h : t.put (wipeE e vs) d P)
    (q : ∀ e2 σ2, P e2 → Er K H e2 σ2 → L2.wipe σ2 vs = L2.wipe σ vs → Q σ2 H) : t.g K v (L2.wipe σ vs) H Q := by
  cases t with
  | one i => exact q _ _ h (er.set r i) (wipe_set (hi i List.mem_cons_self))
  | tup is =>
    cases r with
    | tup e1 r =>
      rename_i ds
      unfold Tg.put at h
      simp only at h
      cases hs : setAll (wipeE e vs) is ds with
      | none => rw [hs] at h; exact h.elim
      | some e2 =>
        rw [hs] at h
        have len : ∀ {is : List Nat} {ds : List D} {e e2 : Ev}, setAll e is ds = some e2 → ds.length = is.length := by
          intro is
          induction is with
          | nil => intro ds e e2 z; cases ds with
            | nil => rfl
            | cons _ _ => simp [setAll] at z
          | cons i is ih => intro ds e e2 z; cases ds with
            | nil => simp [setAll] at z
            | cons d ds => simp only [setAll] at z; simp [ih z]
        exact ⟨_, _, rfl, .of e1, by rw [← r.length]; exact len hs, gsN_ok hi er r hs wipe_wipe fun σ2 er2 hw => q _ σ2 h er2 hw⟩
    | _ => exact h.elim
section
variable {X : Cx}
def lTs (K : PySem.W.Frag) (t : TTg) : TT := lT K t
def gYes : TTg := fun _ G P => P true G
theorem PTs.imp {e : List Expr} {t t' : TT} (h : PTs X e t) (i : ∀ σ H Q, t' σ H Q → t σ H Q) : PTs X e t' := ⟨fun pins s σ H Q I q => h.run pins s σ H Q I (i σ H Q q)⟩
theorem gts_nil : PTs X [] (lT X.K gYes) := PTs.imp pts_nil fun σ H Q ⟨env, G, P, er, hr, t, k⟩ => k true G H t .refl hr
theorem gts_one {c : Expr} {t : TTg} (h : PT X c (lT X.K t)) : PTs X [c] (lT X.K t) := pts_one h
def gLc (ti : TIg) (g : Tg) (tt : TTg) (te : TEg) (vs : List Nat) : TEg := fun env G P => ti env G fun j G1 => ∀ D G2, New G1 D (.lst []) G2 → ∃ W : Nat → Nat → Hg → Prop, (∃ m, W 0 m G2) ∧ ∀ i m G, W i m G →
  (j.stop i G ∧ ∃ acc, G D = some (.lst acc) ∧ (P (.rol acc) (delG G D) ∨ P (.ref D) G)) ∨ (j.go i G ∧ ∀ d G', j.yld i G d G' → g.put (wipeE env vs) d fun env2 => tt env2 G' fun b G4 => match b with
    | true => te env2 G4 fun y G5 => ∃ acc, G5 D = some (.lst acc) ∧ acc.length < sizeLine ∧ ∀ G6, G6 = updG G5 D (.lst (acc ++ [y])) → ∃ m', m' < m ∧ W (i + 1) m' G6
    | false => ∃ m', m' < m ∧ W (i + 1) m' G4)
theorem lLc {K : PySem.W.Frag} {ti : TIg} {g : Tg} {tt : TTg} {te : TEg} {vs : List Nat} {σ : L2.St} {H : Hp} {Q Q2 : VK} (hi : ∀ i ∈ g.ix, i ∈ vs) (h : lE K (gLc ti g tt te vs) σ H Q) (hQ : ∀ v H1, (Q v H1 ∨ ∃ a u, v = .ref a ∧ H1 a = some u ∧ Mut (some u) ∧ ∀ od, Q v (upd H1 a (.frz od u))) → Q2 v H1) :
    tLc (lI K ti) (g.g K) (lT K tt) (lE K te) vs σ H Q2 := by
  obtain ⟨env, G, P, er, hr, t, k⟩ := h
  refine ⟨env, G, _, er, hr, t, fun j G1 J H1 t1 x1 g1 lj D hD => ?_⟩
  have gD := g1.none hD
  have g2 : Hr K (upd H1 D (.lst [])) (updG G1 D (.lst [])) := g1.new hD gD ⟨_, upd_same, .nil⟩
  obtain ⟨W, ⟨m0, w0⟩, turn⟩ := t1 D _ ⟨gD, rfl⟩
  have x2 : ExtT H1 (upd H1 D (.lst [])) := .new hD
  let U : Nat → Nat → Hp → Prop := fun i m H' => ∃ G', ExtT H1 H' ∧ Hr K H' G' ∧ W i m G'
  refine ⟨U, ⟨m0, _, x2, g2, w0⟩, ?_⟩
  rintro i m H3 ⟨G3, x3, g3, w3⟩
  rcases turn i m G3 w3 with ⟨st, acc, hacc, q⟩ | ⟨go, step⟩
  · refine .inl ⟨lj.stop i H3 G3 x3 g3 st, ?_⟩
    obtain ⟨vs', p, r⟩ := g3 D _ hacc
    rcases q with q | q
    · exact hQ _ _ <| .inr ⟨D, _, rfl, p, trivial, fun od => k _ _ _ _ q ((x1.trans x3).trans (.write p trivial)) (.rol upd_same (r.ext (.write p trivial))) (g3.lock p trivial)⟩
    · exact hQ _ _ <| .inl (k _ _ _ _ q (x1.trans x3) (.ref D) g3)
  · refine .inr ⟨lj.go i H3 G3 x3 g3 go, fun H' => ∃ m', m' < m ∧ U (i + 1) m' H', fun H' h => h, fun x H4 y => ?_⟩
    obtain ⟨x4, d, G4, yd, rd, g4⟩ := lj.yld i H3 G3 x H4 x3 g3 go y
    have er4 : Er K H4 (wipeE env vs) (L2.wipe σ vs) := (((er.ext x1).ext x3).ext x4).wipe vs
    refine Tg.ok hi er4 rd (step d G4 yd) fun env2 σ2 t2 er5 hw => ⟨hw, env2, G4, _, er5, g4, t2, fun b G5 H5 t5 x5 g5 => ?_⟩
    cases b with
    | true =>
      rw [if_pos rfl]
      refine ⟨env2, G5, _, er5.ext x5, g5, t5, fun y G6 v H6 t6 x6 r6 g6 => ?_⟩
      obtain ⟨acc, hacc, hl, t6⟩ := t6
      obtain ⟨vs', p, r⟩ := g6 D _ hacc
      refine ⟨vs', p, by rw [← r.length]; exact hl, ?_⟩
      obtain ⟨m', hm, w⟩ := t6 _ rfl
      have xw : ExtT H6 (upd H6 D (.lst (vs' ++ [v]))) := .write p trivial
      exact ⟨m', hm, _, (((x3.trans x4).trans x5).trans x6).trans xw, g6.write (g := .lst (acc ++ [y])) p trivial ⟨_, upd_same, (r.app (.cons r6 .nil)).ext xw⟩, w⟩
    | false =>
      rw [if_neg Bool.false_ne_true]
      obtain ⟨m', hm, w⟩ := t5
      exact ⟨m', hm, _, (x3.trans x4).trans x5, g5, w⟩
theorem ge_lc {elt tg iter : Expr} {ifs : List Expr} {scope : Scope} {own : List (Str × Nat)} {pos : Pos} {ti : TIg} {g : Tg} {tt : TTg} {te : TEg} (hc : X.calm = true) (hN : X.N.Nodup) (hi : PI X tg iter (lI X.K ti)) (ok : BlkOk X.N X.env.scope scope own) (hx : ∀ i ∈ g.ix, i ∈ own.map (·.2))
    (hg : ∀ (s : Shared) (H : Hp) (C : Addr) (cl : List (Str × Addr)) (fp : List Addr), PG (X.blk s H scope (compEnvC scope cl C X.env) fp) tg (g.g X.K)) (ht : ∀ (s : Shared) (H : Hp) (C : Addr) (cl : List (Str × Addr)) (fp : List Addr), PTs (X.blk s H scope (compEnvC scope cl C X.env) fp) ifs (lT X.K tt))
    (he : ∀ (s : Shared) (H : Hp) (C : Addr) (cl : List (Str × Addr)) (fp : List Addr), PE (X.blk s H scope (compEnvC scope cl C X.env) fp) elt (lE X.K te)) (hs : ∀ x, foldedSetIterable iter X.env x = pure x) :
    PE X (.ListComp elt [⟨tg, iter, ifs, 0⟩] scope pos) (lE X.K (gLc ti g tt te (own.map (·.2)))) :=
  PE.imp (pe_fz (pe_lc hc hN hi ok hg ht he hs)) fun σ H Q h => lLc hx h fun _ _ z => z
theorem gs_setLc {i : Nat} {y : Str} {py : Pos} {elt tg iter : Expr} {ifs : List Expr} {scope : Scope} {own : List (Str × Nat)} {pos spos : Pos} {ti : TIg} {g : Tg} {tt : TTg} {te : TEg} (hc : X.calm = true) (hN : X.N.Nodup) (hy : X.N[i]? = some y) (hyl : X.env.scope.names.lookup y = some .local)
    (hsw : swapsWith (.ListComp elt [⟨tg, iter, ifs, 0⟩] scope pos) (some (.Name y py)) spos.line X.env = pure true) (hi : PI X tg iter (lI X.K ti)) (ok : BlkOk X.N X.env.scope scope own) (hx : ∀ i ∈ g.ix, i ∈ own.map (·.2))
    (hg : ∀ (s : Shared) (H : Hp) (C : Addr) (cl : List (Str × Addr)) (fp : List Addr), PG (X.blk s H scope (compEnvC scope cl C X.env) fp) tg (g.g X.K)) (ht : ∀ (s : Shared) (H : Hp) (C : Addr) (cl : List (Str × Addr)) (fp : List Addr), PTs (X.blk s H scope (compEnvC scope cl C X.env) fp) ifs (lT X.K tt))
    (he : ∀ (s : Shared) (H : Hp) (C : Addr) (cl : List (Str × Addr)) (fp : List Addr), PE (X.blk s H scope (compEnvC scope cl C X.env) fp) elt (lE X.K te)) (hs : ∀ x, foldedSetIterable iter X.env x = pure x) :
    PS X (.Assign [.Name y py] (.ListComp elt [⟨tg, iter, ifs, 0⟩] scope pos) spos) (lS X.K (gAsg (gLc ti g tt te (own.map (·.2))) (gName i))) := by
  have base := ps_setLc hc hN hy hyl hsw hi ok hg ht he hs
  refine ⟨fun pins s σ H D I h => ?_⟩
  obtain ⟨env, G, E, er, hr, t, k⟩ := h
  -- the walk to the store, the list told; then locked if it is wanted so
  have q : lE X.K (gLc ti g tt te (own.map (·.2))) σ H (fun v H1 => D.nx (σ.set i (some v)) H1) :=
    ⟨env, G, _, er, hr, t, fun d G1 v H1 t1 x1 r1 g1 => k.nx _ _ _ _ t1 x1 ((er.ext x1).set r1 i) g1⟩
  let D2 : Ends := { D with nx := fun σ' H' => D.nx σ' H' ∨ ∃ a u, H' a = some u ∧ Mut (some u) ∧ ∀ od, D.nx σ' (upd H' a (.frz od u)) }
  have q3 : tAsg (tLc (lI X.K ti) (g.g X.K) (lT X.K tt) (lE X.K te) (own.map (·.2))) (L2.gName i) D2 σ H := by
    show tLc _ _ _ _ _ σ H fun x H1 => D2.nx (σ.set i (some x)) H1
    refine lLc hx q fun v H1 z => ?_
    rcases z with z | ⟨a, u, e, ha, m, z⟩
    · exact .inl z
    · exact .inr ⟨a, u, ha, m, z⟩
  refine thn (base.run pins s σ H D2 I q3) fun f s' z => ?_
  cases f with
  | next =>
    obtain ⟨σ', H', I', z⟩ := z
    rcases z with z | ⟨a, u, ha, m, z⟩
    · exact ⟨σ', H', I', z⟩
    · obtain ⟨od, I2⟩ := I'.lock ha m
      exact ⟨σ', _, I2, z od⟩
  | brk => exact z
  | cont => exact z
  | ret u => exact z
def gDc (ti : TIg) (g : Tg) (tt : TTg) (tk tv : TEg) (vs : List Nat) : TEg := fun env G P => ti env G fun j G1 => ∀ D G2, New G1 D (.dct []) G2 → ∃ W : Nat → Nat → Hg → Prop, (∃ m, W 0 m G2) ∧ ∀ i m G, W i m G →
  (j.stop i G ∧ ∃ acc, G D = some (.dct acc) ∧ (P (.rdc acc) (delG G D) ∨ P (.ref D) G)) ∨ (j.go i G ∧ ∀ d G', j.yld i G d G' → g.put (wipeE env vs) d fun env2 => tt env2 G' fun b G4 => match b with
    | true => tk env2 G4 fun x G5 => tv env2 G5 fun y G6 => ∃ acc k, x = kD k ∧ G6 D = some (.dct acc) ∧ acc.length < sizeLine ∧ ∀ G7, G7 = updG G6 D (.dct (dput acc k y)) → ∃ m', m' < m ∧ W (i + 1) m' G7
    | false => ∃ m', m' < m ∧ W (i + 1) m' G4)
theorem lDc {K : PySem.W.Frag} {ti : TIg} {g : Tg} {tt : TTg} {tk tv : TEg} {vs : List Nat} {σ : L2.St} {H : Hp} {Q Q2 : VK} (hi : ∀ i ∈ g.ix, i ∈ vs) (h : lE K (gDc ti g tt tk tv vs) σ H Q) (hQ : ∀ v H1, (Q v H1 ∨ ∃ a u, v = .ref a ∧ H1 a = some u ∧ Mut (some u) ∧ ∀ od, Q v (upd H1 a (.frz od u))) → Q2 v H1) :
    tDc (lI K ti) (g.g K) (lT K tt) (lE K tk) (lE K tv) vs σ H Q2 := by
  obtain ⟨env, G, P, er, hr, t, k⟩ := h
  refine ⟨env, G, _, er, hr, t, fun j G1 J H1 t1 x1 g1 lj D hD => ?_⟩
  have gD := g1.none hD
  have g2 : Hr K (upd H1 D (.dK [])) (updG G1 D (.dct [])) := g1.new hD gD ⟨_, upd_same, .nil⟩
  obtain ⟨W, ⟨m0, w0⟩, turn⟩ := t1 D _ ⟨gD, rfl⟩
  have x2 : ExtT H1 (upd H1 D (.dK [])) := .new hD
  let U : Nat → Nat → Hp → Prop := fun i m H' => ∃ G', ExtT H1 H' ∧ Hr K H' G' ∧ W i m G'
  refine ⟨U, ⟨m0, _, x2, g2, w0⟩, ?_⟩
  rintro i m H3 ⟨G3, x3, g3, w3⟩
  rcases turn i m G3 w3 with ⟨st, acc, hacc, q⟩ | ⟨go, step⟩
  · refine .inl ⟨lj.stop i H3 G3 x3 g3 st, ?_⟩
    obtain ⟨vs', p, r⟩ := g3 D _ hacc
    rcases q with q | q
    · exact hQ _ _ <| .inr ⟨D, _, rfl, p, trivial, fun od => k _ _ _ _ q ((x1.trans x3).trans (.write p trivial)) (.rdc upd_same (r.ext (.write p trivial))) (g3.lock p trivial)⟩
    · exact hQ _ _ <| .inl (k _ _ _ _ q (x1.trans x3) (.ref D) g3)
  · refine .inr ⟨lj.go i H3 G3 x3 g3 go, fun H' => ∃ m', m' < m ∧ U (i + 1) m' H', fun H' h => h, fun x H4 y => ?_⟩
    obtain ⟨x4, d, G4, yd, rd, g4⟩ := lj.yld i H3 G3 x H4 x3 g3 go y
    have er4 : Er K H4 (wipeE env vs) (L2.wipe σ vs) := (((er.ext x1).ext x3).ext x4).wipe vs
    refine Tg.ok hi er4 rd (step d G4 yd) fun env2 σ2 t2 er5 hw => ⟨hw, env2, G4, _, er5, g4, t2, fun b G5 H5 t5 x5 g5 => ?_⟩
    cases b with
    | true =>
      rw [if_pos rfl]
      refine ⟨env2, G5, _, er5.ext x5, g5, t5, fun x G6 v H6 t6 x6 r6 g6 => ?_⟩
      refine ⟨env2, G6, _, (er5.ext x5).ext x6, g6, t6, fun y G7 w H7 t7 x7 r7 g7 => ?_⟩
      obtain ⟨acc, kk, ek, hacc, hl, t7⟩ := t7
      subst ek
      obtain ⟨vs', p, r⟩ := g7 D _ hacc
      refine ⟨vs', _, kD_rp r6, p, by rw [← r.len]; exact hl, ?_⟩
      obtain ⟨m', hm, w7⟩ := t7 _ rfl
      have xw : ExtT H7 (upd H7 D (.dK (putK vs' (ofK kk) w))) := .write p trivial
      exact ⟨m', hm, _, ((((x3.trans x4).trans x5).trans x6).trans x7).trans xw, g7.write (g := .dct (dput acc kk y)) p trivial ⟨_, upd_same, (RpK.put r7 r).ext xw⟩, w7⟩
    | false =>
      rw [if_neg Bool.false_ne_true]
      obtain ⟨m', hm, w⟩ := t5
      exact ⟨m', hm, _, (x3.trans x4).trans x5, g5, w⟩
theorem ge_dc {kx vx tg iter : Expr} {ifs : List Expr} {scope : Scope} {own : List (Str × Nat)} {pos : Pos} {ti : TIg} {g : Tg} {tt : TTg} {tk tv : TEg} (hc : X.calm = true) (hN : X.N.Nodup) (hi : PI X tg iter (lI X.K ti)) (ok : BlkOk X.N X.env.scope scope own) (hx : ∀ i ∈ g.ix, i ∈ own.map (·.2))
    (hg : ∀ (s : Shared) (H : Hp) (C : Addr) (cl : List (Str × Addr)) (fp : List Addr), PG (X.blk s H scope (compEnvC scope cl C X.env) fp) tg (g.g X.K)) (ht : ∀ (s : Shared) (H : Hp) (C : Addr) (cl : List (Str × Addr)) (fp : List Addr), PTs (X.blk s H scope (compEnvC scope cl C X.env) fp) ifs (lT X.K tt))
    (hk : ∀ (s : Shared) (H : Hp) (C : Addr) (cl : List (Str × Addr)) (fp : List Addr), PE (X.blk s H scope (compEnvC scope cl C X.env) fp) kx (lE X.K tk))
    (he : ∀ (s : Shared) (H : Hp) (C : Addr) (cl : List (Str × Addr)) (fp : List Addr), PE (X.blk s H scope (compEnvC scope cl C X.env) fp) vx (lE X.K tv)) (hs : ∀ x, foldedSetIterable iter X.env x = pure x) :
    PE X (.DictComp kx vx [⟨tg, iter, ifs, 0⟩] scope pos) (lE X.K (gDc ti g tt tk tv (own.map (·.2)))) :=
  PE.imp (pe_fz (pe_dc hc hN hi ok hg ht hk he hs)) fun σ H Q h => lDc hx h fun _ _ z => z
def gD0 : TEg := fun _ G P => (∀ p G', New G p (.dct []) G' → P (.ref p) G') ∨ ∀ p G', New G p (.dtt []) G' → P (.ref p) G'
theorem ge_d0 {pos : Pos} : PE X (.Dict [] [] pos) (lE X.K gD0) := by
  refine ⟨fun pins s σ H Q I ⟨env, G, P, er, hr, t, k⟩ => ?_⟩
  rcases t with t | t
  · exact pe_dnewK.run pins s σ H Q I fun p hp => k _ _ _ _ (t p _ ⟨hr.none hp, rfl⟩) (.new hp) (.ref p) (hr.new hp (hr.none hp) ⟨_, upd_same, .nil⟩)
  · exact pe_dnewT.run pins s σ H Q I fun p hp => k _ _ _ _ (t p _ ⟨hr.none hp, rfl⟩) (.new hp) (.ref p) (hr.new hp (hr.none hp) ⟨_, upd_same, .nil⟩)
def gPairs : List (TEg × TEg) → Ev → Hg → (List (D × D) → Hg → Prop) → Prop
  | [], _, G, P => P [] G
  | (tk, tv) :: r, env, G, P => tk env G fun x G1 => tv env G1 fun y G2 => gPairs r env G2 fun ps G3 => P ((x, y) :: ps) G3
inductive RpP (K : PySem.W.Frag) (H : Hp) : List (D × D) → List (V × V) → Prop
  | nil : RpP K H [] []
  | cons {a b : D} {x y : V} {ps : List (D × D)} {qs : List (V × V)} : Rp K H a x → Rp K H b y → RpP K H ps qs → RpP K H ((a, b) :: ps) ((x, y) :: qs)
theorem RpP.ext {K : PySem.W.Frag} {H H' : Hp} (e : ExtT H H') : ∀ {ps : List (D × D)} {qs : List (V × V)}, RpP K H ps qs → RpP K H' ps qs
  | _, _, .nil => .nil
  | _, _, .cons a b t => .cons (a.ext e) (b.ext e) (RpP.ext e t)
theorem lPairs {K : PySem.W.Frag} : ∀ {trs : List (TEg × TEg)} {env : Ev} {σ : L2.St} {H : Hp} {G : Hg} {P : List (D × D) → Hg → Prop} {Q : List (V × V) → Hp → Prop}, Er K H env σ → Hr K H G → gPairs trs env G P → (∀ ps G' qs H', P ps G' → ExtT H H' → RpP K H' ps qs → Hr K H' G' → Q qs H') →
    tPairs (trs.map fun p => (lE K p.1, lE K p.2)) σ H Q
  | [], env, σ, H, G, P, Q, er, g, t, k => k [] G [] H t .refl .nil g
  | (tk, tv) :: r, env, σ, H, G, P, Q, er, g, t, k => by
    refine ⟨env, G, _, er, g, t, fun x G1 v H1 t1 x1 r1 g1 => ?_⟩
    refine ⟨env, G1, _, er.ext x1, g1, t1, fun y G2 w H2 t2 x2 r2 g2 => ?_⟩
    exact lPairs ((er.ext x1).ext x2) g2 t2 fun ps G3 qs H3 t3 x3 r3 g3 => k _ _ _ _ t3 ((x1.trans x2).trans x3) (.cons ((r1.ext x2).ext x3) (r2.ext x3) r3) g3
def mergeD (kvs more : List (DK × D)) : List (DK × D) := more.foldl (fun acc kv => dput acc kv.1 kv.2) kvs
theorem RpK.merge {K : PySem.W.Frag} {H : Hp} : ∀ {more : List (DK × D)} {rs : List (Key × V)} {kvs : List (DK × D)} {vs : List (Key × V)}, RpK K H more rs → RpK K H kvs vs → RpK K H (mergeD kvs more) (mergeK vs rs)
  | [], _, _, _, .nil, q => q
  | _ :: more, _, kvs, vs, .cons (k := j) (d := d) (v := v) (vs := ws) r t, q => by
    have z := RpK.merge (more := more) (rs := ws) t (RpK.put (k := j) r q)
    exact z
def asK : D → Option DK
  | .int i => some (.inl i)
  | .str s => some (.inr s)
  | _ => none
theorem asK_eq {d : D} {k : DK} (h : asK d = some k) : kD k = d := by
  cases d <;> simp [asK] at h <;> (subst h; rfl)
def asKs : List (D × D) → Option (List (DK × D))
  | [] => some []
  | (x, y) :: r => match asK x, asKs r with
    | some k, some ks => some ((k, y) :: ks)
    | _, _ => none
theorem asKs_rp {K : PySem.W.Frag} {H : Hp} : ∀ {ps : List (D × D)} {qs : List (V × V)} {kvs : List (DK × D)}, RpP K H ps qs → asKs ps = some kvs → ∃ vs, RpK K H kvs vs ∧ qs = vs.map fun kv => (kV kv.1, kv.2)
  | _, _, _, .nil, h => by simp [asKs] at h; subst h; exact ⟨[], .nil, rfl⟩
  | _, _, kvs, .cons (a := a) (ps := ps) ra rb t, h => by
    unfold asKs at h
    cases e1 : asK a with
    | none => rw [e1] at h; simp at h
    | some k =>
      cases e2 : asKs ps with
      | none => rw [e1, e2] at h; simp at h
      | some ks =>
        rw [e1, e2] at h
        simp at h
        subst h
        obtain ⟨vs, r, e⟩ := asKs_rp t e2
        refine ⟨_, .cons rb r, ?_⟩
        rw [← asK_eq e1] at ra
        rw [kD_rp ra, e]
        rfl
def gDisp (trs : List (TEg × TEg)) : TEg := fun env G P => ∀ p G1, New G p (.dct []) G1 → gPairs trs env G1 fun ps G2 => G2 p = some (.dct []) ∧ match asKs ps with
  | some kvs => kvs.length ≤ 15 ∧ ∀ G3, G3 = updG G2 p (.dct (mergeD [] kvs)) → P (.ref p) G3
  | none => False
inductive GPs (X : Cx) (pos : Pos) : List (Option Expr) → List Expr → List (TEg × TEg) → Prop
  | nil : GPs X pos [] [] []
  | cons {k v : Expr} {ks : List (Option Expr)} {vs : List Expr} {tk tv : TEg} {trs : List (TEg × TEg)} : PE X k (lE X.K tk) → PE X v (lE X.K tv) → GPs X pos ks vs trs → GPs X pos (some k :: ks) (v :: vs) ((tk, tv) :: trs)
theorem GPs.pps {pos : Pos} : ∀ {ks : List (Option Expr)} {vs : List Expr} {trs : List (TEg × TEg)}, GPs X pos ks vs trs → PPs X pos ks vs (trs.map fun p => (lE X.K p.1, lE X.K p.2)) ∧ ks.all (·.isSome) = true ∧ ks.length = vs.length
  | _, _, _, .nil => ⟨pps_nil, rfl, rfl⟩
  | _, _, _, .cons a b t => by
    obtain ⟨h1, h2, h3⟩ := GPs.pps t
    exact ⟨pps_cons a b h1, by simpa using h2, by simp [h3]⟩
theorem ge_disp {pos : Pos} {keys : List (Option Expr)} {values : List Expr} {trs : List (TEg × TEg)} (h : GPs X pos keys values trs) (h0 : keys ≠ []) (h15 : keys.length ≤ 15) : PE X (.Dict keys values pos) (lE X.K (gDisp trs)) := by
  obtain ⟨h1, h2, h3⟩ := h.pps
  refine PE.imp (pe_disp h1 h2 h3 h0 h15) fun σ H Q ⟨env, G, P, er, hr, t, k⟩ p hp => ?_
  have gp := hr.none hp
  have xp : ExtT H (upd H p (.dK [])) := .new hp
  have g1 : Hr X.K (upd H p (.dK [])) (updG G p (.dct [])) := hr.new hp gp ⟨_, upd_same, .nil⟩
  refine lPairs (er.ext xp) g1 (t p _ ⟨gp, rfl⟩) fun ps G2 qs H2 t2 x2 r2 g2 => ?_
  obtain ⟨e2, t2⟩ := t2
  obtain ⟨vs0, p2, r0⟩ := g2 p _ e2
  cases r0
  cases ek : asKs ps with
  | none => rw [ek] at t2; exact t2.elim
  | some kvs =>
    rw [ek] at t2
    obtain ⟨ws, rw', eq⟩ := asKs_rp r2 ek
    have lw := rw'.len
    have xw : ExtT H2 (upd H2 p (.dK (mergeK [] ws))) := .write p2 trivial
    exact ⟨p2, ws, eq, by omega, k _ _ _ _ (t2.2 _ rfl) ((xp.trans x2).trans xw) (.ref p) (g2.write (g := .dct (mergeD [] kvs)) p2 trivial ⟨_, upd_same, (RpK.merge rw' .nil).ext xw⟩)⟩
end
end Vc

set_option Elab.async false
set_option linter.all false
set_option autoImplicit false
set_option maxRecDepth 100000
set_option maxHeartbeats 2000000
namespace Vc
open PySem PySem.Spec PyProof.Rows L2
section
variable {X : Cx} {tg : Expr}
def rWalkA (x : D) (G : Hg) (R : Jg → Hg → Prop) : Prop := match x with
  | .rol ds => R (jP ds) G
  | .kol ds => R (jP ds) G
  | .tup ds => R (jP ds) G
  | .ktp ds => R (jP ds) G
  | .rdc kvs => R (jP (kvs.map fun kv => kD kv.1)) G
  | .rdt kvs => R (jP (kvs.map fun kv => .tup (kv.1.map kD))) G
  | .str s => R (jP (s.map fun c => .str [c])) G
  | .ref a => (∃ xs, G a = some (.lst xs)) ∧ R (jL a) G
  | _ => False
def gIterA (t : TEg) : TIg := fun env G R => t env G fun x G1 => rWalkA x G1 R
theorem kD_of {K : PySem.W.Frag} {H : Hp} (k : DK) : Rp K H (kD k) (kV (ofK k)) := by
  cases k <;> constructor
theorem kDs_of {K : PySem.W.Frag} {H : Hp} : ∀ ks : List DK, RpA K H (ks.map kD) ((ks.map ofK).map kV)
  | [] => .nil
  | k :: ks => .cons (kD_of k) (kDs_of ks)
theorem RpK.at_ {K : PySem.W.Frag} {H : Hp} : ∀ {ds : List (DK × D)} {vs : List (Key × V)} {i : Nat} {k : Key} {v : V}, RpK K H ds vs → vs[i]? = some (k, v) → ∃ j d, ds[i]? = some (j, d) ∧ ofK j = k ∧ Rp K H d v
  | _, _, _, _, _, .nil, e => by simp at e
  | _, _, 0, _, _, .cons r _, e => by simp at e; obtain ⟨e1, e2⟩ := e; subst e1 e2; exact ⟨_, _, rfl, rfl, r⟩
  | _, _, i + 1, k, v, .cons _ t, e => by
    obtain ⟨j, d, h1, h2⟩ := RpK.at_ (i := i) (k := k) (v := v) t (by simpa using e)
    exact ⟨j, d, by simpa using h1, h2⟩
theorem RpT.at_ {K : PySem.W.Frag} {H : Hp} : ∀ {ds : List (List DK × D)} {vs : List (List Key × V)} {i : Nat} {k : List Key} {v : V}, RpT K H ds vs → vs[i]? = some (k, v) → ∃ j d, ds[i]? = some (j, d) ∧ j.map ofK = k ∧ Rp K H d v
  | _, _, _, _, _, .nil, e => by simp at e
  | _, _, 0, _, _, .cons r _, e => by simp at e; obtain ⟨e1, e2⟩ := e; subst e1 e2; exact ⟨_, _, rfl, rfl, r⟩
  | _, _, i + 1, k, v, .cons _ t, e => by
    obtain ⟨j, d, h1, h2⟩ := RpT.at_ (i := i) (k := k) (v := v) t (by simpa using e)
    exact ⟨j, d, by simpa using h1, h2⟩
theorem lj_keys {K : PySem.W.Frag} {H : Hp} {a : Addr} {o : Obj} {kvs : List (DK × D)} {vs : List (Key × V)} (e : H a = some (.frz o (.dK vs))) (r : RpK K H kvs vs) : LJ K H (Itk a o vs) (jP (kvs.map fun kv => kD kv.1)) where
  go := fun i H' G x g h => ⟨x.frz _ _ _ e, by have h' : i < (kvs.map fun kv => kD kv.1).length := h; rw [List.length_map, r.len] at h'; exact h'⟩
  stop := fun i H' G x g h => ⟨x.frz _ _ _ e, by have h' : (kvs.map fun kv => kD kv.1).length ≤ i := h; rw [List.length_map, r.len] at h'; exact h'⟩
  yld := fun i H' G x H2 z g h y => by
    obtain ⟨e2, k, v, hk, ex⟩ := y
    subst e2 ex
    obtain ⟨j, d, h1, h2, _⟩ := RpK.at_ r hk
    subst h2
    exact ⟨.refl, kD j, G, ⟨rfl, by rw [List.getElem?_map, h1]; rfl⟩, kD_of j, g⟩
theorem lj_keysT {K : PySem.W.Frag} {H : Hp} {a : Addr} {o : Obj} {kvs : List (List DK × D)} {vs : List (List Key × V)} (e : H a = some (.frz o (.dT vs))) (r : RpT K H kvs vs) : LJ K H (Itkt a o vs) (jP (kvs.map fun kv => .tup (kv.1.map kD))) where
  go := fun i H' G x g h => ⟨x.frz _ _ _ e, by have h' : i < (kvs.map fun kv => D.tup (kv.1.map kD)).length := h; rw [List.length_map, r.len] at h'; exact h'⟩
  stop := fun i H' G x g h => ⟨x.frz _ _ _ e, by have h' : (kvs.map fun kv => D.tup (kv.1.map kD)).length ≤ i := h; rw [List.length_map, r.len] at h'; exact h'⟩
  yld := fun i H' G x H2 z g h y => by
    obtain ⟨e2, k, v, q, hk, ex, hq⟩ := y
    subst e2 ex
    obtain ⟨j, d, h1, h2, _⟩ := RpT.at_ r hk
    subst h2
    exact ⟨.refl, .tup (j.map kD), G, ⟨rfl, by rw [List.getElem?_map, h1]; rfl⟩, .tup hq (kDs_of j), g⟩
theorem lj_str {K : PySem.W.Frag} {H : Hp} {s : List Nat} : LJ K H (Its ⟨s.toArray⟩) (jP (s.map fun c => .str [c])) where
  go := fun i H' G x g h => by
    have h' : i < (s.map fun c => D.str [c]).length := h
    rw [List.length_map] at h'
    show i < s.toArray.size
    simpa using h'
  stop := fun i H' G x g h => by
    have h' : (s.map fun c => D.str [c]).length ≤ i := h
    rw [List.length_map] at h'
    show s.toArray.size ≤ i
    simpa using h'
  yld := fun i H' G x H2 z g h y => by
    obtain ⟨e2, c, hc, ex⟩ := y
    subst e2 ex
    refine ⟨.refl, .str [c], G, ⟨rfl, ?_⟩, .str [c], g⟩
    rw [List.getElem?_map]
    have hc' : s[i]? = some c := by simpa using hc
    rw [hc']; rfl
theorem iter_str {pins : List (Addr × Obj)} {σ : L2.St} {H1 : Hp} {s1 : Shared} {x : Str} {u : Value} {R : It → Hp → Prop} (I1 : Inv X pins σ H1 s1) (ru : RelV (.str x) u) (q : R (Its x) H1) : wpAny (model X.prog X.w) X.A (pyIter u) (PIE X pins σ tg R) X.xe s1 := by
  obtain ⟨t, rfl⟩ := ru
  cases ha : x.cps.all (· < 128)
  · exact wpAny_pyIter_wide ha (pi_one (tk := s1.toks) I1 _ (turn_str _ x t "str_iterator" (.inr rfl)) ⟨_, Heap.get?_push_size _ rfl, rfl, rfl⟩ q)
  · exact wpAny_pyIter_ascii ha (pi_one (tk := s1.toks) I1 _ (turn_str _ x t "str_ascii_iterator" (.inl rfl)) ⟨_, Heap.get?_push_size _ rfl, rfl, rfl⟩ q)
theorem gi_any {e : Expr} {t : TEg} (he : PE X e (lE X.K t)) : PI X tg e (lI X.K (gIterA t)) := by
  refine ⟨fun pins s σ H R I ⟨env, G, P, er, hr, t1, k⟩ => ?_⟩
  refine thn (he.run pins s σ H (fun v H1 => ∃ x G1, rWalkA x G1 P ∧ ExtT H H1 ∧ Rp X.K H1 x v ∧ Hr X.K H1 G1) I ⟨env, G, _, er, hr, t1, fun x G1 v H1 t1 x1 r1 g1 => ⟨x, G1, t1, x1, r1, g1⟩⟩) fun u s1 ⟨v, H1, I1, ru, x, G1, t1, x1, r1, g1⟩ => ?_
  have lst : ∀ {a : Addr} {vs : List V} {j : Jg}, v = .ref a → SqL X.K H1 a vs → P j G1 → LJ X.K H1 (Itl X.K a) j → wpAny (model X.prog X.w) X.A (pyIter u) (PIE X pins σ tg R) X.xe s1 := by
    intro a vs j e hq p lj
    subst e
    obtain rfl : u = Value.ref a := ru
    obtain ⟨its, rv, pl, hz⟩ := I1.list hq
    refine wpAny_pyIter_list pl.isList ?_
    refine ⟨s1.heap.objs.size, [s1.heap.objs.size], _, _, H1, rfl, I1.kept (t' := s1.toks) fun b o e => Heap.get?_push_of_some _ e, turn_list a _, ⟨_, Heap.get?_push_size _ rfl, rfl, rfl⟩, fun b hb => ?_, k _ _ _ _ p x1 g1 lj⟩
    have e : b = s1.heap.objs.size := by simpa using hb
    subst e
    exact I1.fpOk (Nat.le_refl _) (I1.hok.fresh (Nat.le_refl _))
  have tpl : ∀ {a : Addr} {vs : List V} {j : Jg}, v = .ref a → SqT X.K H1 a vs → P j G1 → LJ X.K H1 (Itt X.K a) j → wpAny (model X.prog X.w) X.A (pyIter u) (PIE X pins σ tg R) X.xe s1 := by
    intro a vs j e hq p lj
    subst e
    obtain rfl : u = Value.ref a := ru
    obtain ⟨its, rv, pl, hz⟩ := I1.tuple hq
    refine wpAny_pyIter_tuple (show s1.heap.IsTuple a its.toArray from pl) ?_
    refine ⟨s1.heap.objs.size, [s1.heap.objs.size], _, _, H1, rfl, I1.kept (t' := s1.toks) fun b o e => Heap.get?_push_of_some _ e, turn_tuple a _, ⟨_, Heap.get?_push_size _ rfl, rfl, rfl⟩, fun b hb => ?_, k _ _ _ _ p x1 g1 lj⟩
    have e : b = s1.heap.objs.size := by simpa using hb
    subst e
    exact I1.fpOk (Nat.le_refl _) (I1.hok.fresh (Nat.le_refl _))
  cases r1 with
  | rol e r => exact lst rfl (.inl (.inr ⟨_, e⟩)) t1 (lj_rol (.inl ⟨_, e⟩) r)
  | kol e r => exact lst rfl e.sql t1 (lj_rol e r)
  | tup e r => exact tpl rfl (.of e) t1 (lj_tup' (.of e) r)
  | ktp e r => exact tpl rfl e t1 (lj_tup' e r)
  | ref a =>
    obtain ⟨⟨xs, e⟩, t1⟩ := t1
    obtain ⟨vs, p, r⟩ := g1 a _ e
    exact lst rfl (.of p) t1 lj_ref
  | rdc e r =>
    obtain rfl := (show u = Value.ref _ from ru)
    obtain ⟨hs, hgd, hx, es, ep, vs, hdt, hsz, kv, hm⟩ := I1.frzK e
    refine iter_keys hs hgd hx hdt (pi_one (tk := s1.toks) I1 _ (turn_keys _ hdt) ⟨_, Heap.get?_push_size _ rfl, rfl, ?_⟩ (k _ _ _ _ t1 x1 g1 (lj_keys e r)))
    rw [hsz] <;> rfl
  | rdt e r =>
    obtain rfl := (show u = Value.ref _ from ru)
    obtain ⟨hs, hgd, hx, es, ep, hdt, hsz, ent⟩ := I1.frzT e
    refine iter_keys hs hgd hx hdt (pi_one (tk := s1.toks) I1 _ (turn_keysT _ hdt) ⟨_, Heap.get?_push_size _ rfl, rfl, ?_⟩ (k _ _ _ _ t1 x1 g1 (lj_keysT e r)))
    rw [hsz] <;> rfl
  | str z => exact iter_str I1 ru (k _ _ _ _ t1 x1 g1 lj_str)
  | _ => exact t1.elim
def rRevI (x : D) (G : Hg) (R : Jg → Hg → Prop) : Prop := match x with
  | .rol ds => R (jP ds.reverse) G
  | _ => False
def gRev (t : TAg) : TIg := fun env G R => t env G fun ds G1 => match ds with
  | [x] => rRevI x G1 R
  | _ => False
theorem lj_rev {K : PySem.W.Frag} {H : Hp} {a : Addr} {ds : List D} {vs : List V} (e : SqF K H a vs) (r : RpA K H ds vs) : LJ K H (Itv K a vs.length) (jP ds.reverse) := by
  have rl := r.length
  have item : ∀ {i : Nat}, i < ds.length → ∃ d v, ds.reverse[i]? = some d ∧ vs[vs.length - 1 - i]? = some v ∧ Rp K H d v := by
    intro i hi
    obtain ⟨v, hv, rd⟩ := r.get (i := ds.length - 1 - i) (List.getElem?_eq_getElem (by omega))
    exact ⟨_, v, by rw [List.getElem?_reverse hi]; exact List.getElem?_eq_getElem (by omega), by rw [← rl]; exact hv, rd⟩
  refine ⟨fun i H' G x g h => ?_, fun i H' G x g h => ?_, fun i H' G x H2 z g h y => ?_⟩
  · have h' : i < ds.reverse.length := h
    rw [List.length_reverse] at h'
    obtain ⟨d, v, h1, h2, h3⟩ := item h'
    exact ⟨by omega, vs, v, (SqF.ext x e).sql, h2⟩
  · have h' : ds.reverse.length ≤ i := h
    rw [List.length_reverse] at h'
    show vs.length ≤ i
    omega
  · have h' : i < ds.reverse.length := h
    rw [List.length_reverse] at h'
    obtain ⟨e2, y⟩ := y
    subst e2
    obtain ⟨d, v, h1, h2, h3⟩ := item h'
    have h4 := y vs (SqF.ext z e).sql
    rw [h2] at h4
    cases h4
    exact ⟨.refl, d, G, ⟨rfl, h1⟩, h3.ext z, g⟩
theorem gi_rev {e : Expr} {p pos : Pos} {t : TAg} (hg : Gl X "reversed") (hm : X.mg "reversed" = none) (ha : PA X [e] (lA X.K t)) (hs : starEach [e] X.env = [(false, eval e X.env)]) : PI X tg (.Call (.Name "reversed" p) [e] [] pos) (lI X.K (gRev t)) :=
  PI.imp (pi_reversed hg hm ha hs) fun σ H R ⟨env, G, P, er, hr, t, k⟩ => by
    refine ⟨env, G, _, er, hr, t, fun ds G1 vs H1 t1 x1 r1 g1 => ?_⟩
    split at t1
    · cases r1 with
      | cons r rr =>
        cases rr
        cases r with
        | rol e r => exact ⟨_, _, rfl, .inl (.inr ⟨_, e⟩), k _ _ _ _ t1 x1 g1 (lj_rev (.inl ⟨_, e⟩) r)⟩
        | _ => exact t1.elim
    · exact t1.elim
end
section
variable {X : Cx}
def rLenO (o : GO) (G : Hg) (P : KD) : Prop := match o with
  | .lst xs => P (.int xs.length) G
  | .dct kvs => P (.int kvs.length) G
  | _ => False
def bLen : Bg := fun ds G P => match ds with
  | [.tup xs] => P (.int xs.length) G
  | [.ktp xs] => P (.int xs.length) G
  | [.rol xs] => P (.int xs.length) G
  | [.kol xs] => P (.int xs.length) G
  | [.rdc kvs] => P (.int kvs.length) G
  | [.str s] => s.length ≤ sizeLine ∧ P (.int s.length) G
  | [.ref a] => ∃ o, G a = some o ∧ rLenO o G P
  | _ => False
theorem call_lenD {kvs : List (Key × V)} {pins : List (Addr × Obj)} {s : Shared} {σ : L2.St} {H : Hp} {a : Addr} {us : List Value} {Q : VK} (I : Inv X pins σ H s) (r : Vals [.ref a] us) (e : Rd H a (.dK kvs)) (q : Q (.int kvs.length) H) : wpAny (model X.prog X.w) X.A (call (.builtin "len") us) (EP X pins σ Q) X.xe s := by
  rw [Vals.ref1 r]
  exact d_len I e fun t s' I' => ⟨.int kvs.length, H, I', ⟨_, rfl⟩, q⟩
theorem cg_len : CallR X (.builtin "len") (lC X.K bLen) := by
  intro pins s σ H xs us Q I r h
  obtain ⟨ds, G, P, rd, g, t, k⟩ := h
  unfold bLen at t
  have one : ∀ {d : D} {vs : List V}, RpA X.K H [d] vs → ∃ v, vs = [v] ∧ Rp X.K H d v := by
    intro d vs z
    cases z with
    | cons a b => cases b; exact ⟨_, rfl, a⟩
  split at t
  all_goals first | exact t.elim | (obtain ⟨v, rfl, rv⟩ := one rd)
  · cases rv with | tup e q => exact call_len_seq pins s σ H _ us Q I r ⟨_, _, rfl, .inr (.of e), by rw [← q.length]; exact k _ G _ H t .refl (.int _) g⟩
  · cases rv with | ktp e q => exact call_len_seq pins s σ H _ us Q I r ⟨_, _, rfl, .inr e, by rw [← q.length]; exact k _ G _ H t .refl (.int _) g⟩
  · cases rv with | rol e q => exact call_len_seq pins s σ H _ us Q I r ⟨_, _, rfl, .inl (.inl (.inr ⟨_, e⟩)), by rw [← q.length]; exact k _ G _ H t .refl (.int _) g⟩
  · cases rv with | kol e q => exact call_len_seq pins s σ H _ us Q I r ⟨_, _, rfl, .inl e.sql, by rw [← q.length]; exact k _ G _ H t .refl (.int _) g⟩
  · cases rv with | rdc e q => exact call_lenD I r (.inr ⟨_, e⟩) (by rw [← q.len]; exact k _ G _ H t .refl (.int _) g)
  · cases rv
    refine call_len_str pins s σ H _ us Q I r ⟨_, rfl, by simpa [Str.length] using t.1, ?_⟩
    have := k _ G _ H t.2 .refl (.int _) g
    simpa [Str.length] using this
  · cases rv
    obtain ⟨o, ho, t⟩ := t
    have q := g _ _ ho
    cases o with
    | lst xs =>
      obtain ⟨vs, e, q⟩ := q
      exact call_len_seq pins s σ H _ us Q I r ⟨_, _, rfl, .inl (.of e), by rw [← q.length]; exact k _ G _ H t .refl (.int _) g⟩
    | dct kvs =>
      obtain ⟨vs, e, q⟩ := q
      exact call_lenD I r (.inl e) (by rw [← q.len]; exact k _ G _ H t .refl (.int _) g)
    | _ => exact t.elim
theorem RpA.one {K : PySem.W.Frag} {H : Hp} {d : D} {vs : List V} (z : RpA K H [d] vs) : ∃ v, vs = [v] ∧ Rp K H d v := by
  cases z with
  | cons a b => cases b; exact ⟨_, rfl, a⟩
theorem RpA.two {K : PySem.W.Frag} {H : Hp} {d e : D} {vs : List V} (z : RpA K H [d, e] vs) : ∃ v w, vs = [v, w] ∧ Rp K H d v ∧ Rp K H e w := by
  cases z with
  | cons a b => cases b with | cons b c => cases c; exact ⟨_, _, rfl, a, b⟩
inductive IsSq (G : Hg) : D → List D → Prop
  | lk {x : D} {ds : List D} : IsLk G x ds → IsSq G x ds
  | tup (ds : List D) : IsSq G (.tup ds) ds
  | ktp (ds : List D) : IsSq G (.ktp ds) ds
theorem IsSq.sq {K : PySem.W.Frag} {H : Hp} {G : Hg} {x : D} {ds : List D} {v : V} (h : IsSq G x ds) (r : Rp K H x v) (g : Hr K H G) : ∃ a vs, v = .ref a ∧ (SqL K H a vs ∨ SqT K H a vs) ∧ RpA K H ds vs := by
  cases h with
  | lk h => obtain ⟨a, vs, e, p, q⟩ := h.sq r g; exact ⟨a, vs, e, .inl p, q⟩
  | tup => cases r with | tup e q => exact ⟨_, _, rfl, .inr (.of e), q⟩
  | ktp => cases r with | ktp e q => exact ⟨_, _, rfl, .inr e, q⟩
def bList : Bg := fun ds G P => match ds with
  | [x] => ∃ xs, IsSq G x xs ∧ rL xs G P
  | _ => False
theorem cg_list : CallR X (.type "list") (lC X.K bList) := by
  intro pins s σ H xs us Q I r h
  obtain ⟨ds, G, P, rd, g, t, k⟩ := h
  unfold bList at t
  split at t
  · obtain ⟨v, rfl, rv⟩ := RpA.one rd
    obtain ⟨ys, hs, t⟩ := t
    obtain ⟨a, vs, rfl, hq, q⟩ := hs.sq rv g
    exact callR_fz call_list_of pins s σ H _ us Q I r ⟨a, vs, rfl, hq, fun l hl => rL_ok t k q g l hl⟩
  · exact t.elim
def bTuple : Bg := fun ds G P => match ds with
  | [.ktp xs] => P (.ktp xs) G
  | [x] => ∃ xs, IsSq G x xs ∧ P (.tup xs) G
  | _ => False
theorem cg_tuple : CallR X (.type "tuple") (lC X.K bTuple) := by
  intro pins s σ H xs us Q I r h
  obtain ⟨ds, G, P, rd, g, t, k⟩ := h
  unfold bTuple at t
  split at t
  · obtain ⟨v, rfl, rv⟩ := RpA.one rd
    cases rv with
    | ktp e q => exact call_tuple_of pins s σ H _ us Q I r ⟨_, _, rfl, .inr ⟨e, k _ G _ H t .refl (.ktp e q) g⟩⟩
  · rename_i x hn
    obtain ⟨v, rfl, rv⟩ := RpA.one rd
    obtain ⟨ys, hs, t⟩ := t
    cases hs with
    | lk hl =>
      obtain ⟨a, vs, rfl, hq, q⟩ := hl.sq rv g
      exact call_tuple_of pins s σ H _ us Q I r ⟨a, vs, rfl, .inl ⟨hq, fun l hl => k _ G _ _ t (.new hl) (.tup upd_same (q.ext (.new hl))) (g.newT hl (g.none hl))⟩⟩
    | tup => cases rv with | tup e q => exact call_tuple_of pins s σ H _ us Q I r ⟨_, _, rfl, .inr ⟨.of e, k _ G _ H t .refl (.tup e q) g⟩⟩
    | ktp => exact (hn _ rfl).elim
  · exact t.elim
def bInt : Bg := fun ds G P => match ds with
  | [.int i] => P (.int i) G
  | [.bl b] => P (.int (if b then 1 else 0)) G
  | _ => False
theorem cg_int : CallR X (.type "int") (lC X.K bInt) := by
  intro pins s σ H xs us Q I r h
  obtain ⟨ds, G, P, rd, g, t, k⟩ := h
  unfold bInt at t
  split at t
  · obtain ⟨v, rfl, rv⟩ := RpA.one rd
    cases rv
    exact call_int1 pins s σ H _ us Q I r (.inl ⟨_, rfl, k _ G _ H t .refl (.int _) g⟩)
  · obtain ⟨v, rfl, rv⟩ := RpA.one rd
    cases rv
    exact call_int1 pins s σ H _ us Q I r (.inr ⟨_, rfl, k _ G _ H t .refl (.int _) g⟩)
  · exact t.elim
def bAbs : Bg := fun ds G P => match ds with
  | [.int i] => P (.int (if i < 0 then -i else i)) G
  | _ => False
theorem cg_abs : CallR X (.builtin "abs") (lC X.K bAbs) := by
  intro pins s σ H xs us Q I r h
  obtain ⟨ds, G, P, rd, g, t, k⟩ := h
  unfold bAbs at t
  split at t
  · obtain ⟨v, rfl, rv⟩ := RpA.one rd
    cases rv
    exact call_abs pins s σ H _ us Q I r ⟨_, rfl, k _ G _ H t .refl (.int _) g⟩
  · exact t.elim
def val2 (x y : Str) : Nat → List Nat := fun i => if i = 0 then x.cps.toList else y.cps.toList
theorem two_at {x y : Str} {t u : Tok} {i : Nat} {v : Value} (h : (#[Value.str x t, Value.str y u])[i]? = some v) : (i = 0 ∧ v = .str x t) ∨ (i = 1 ∧ v = .str y u) := by
  match i, h with
  | 0, h => exact .inl ⟨rfl, by simpa using h.symm⟩
  | 1, h => exact .inr ⟨rfl, by simpa using h.symm⟩
  | i + 2, h => simp at h
theorem cmp_lt2 {prog : Program} {w : World} {A : Around} {x y : Str} {t u : Tok} : CmpOf prog w A .Lt (fun i v => (#[Value.str x t, Value.str y u])[i]? = some v) (fun i j => decide (val2 x y i < val2 x y j)) := fun i j vi vj s Q E hi hj h => by
  rcases two_at hi with ⟨rfl, rfl⟩ | ⟨rfl, rfl⟩ <;> rcases two_at hj with ⟨rfl, rfl⟩ | ⟨rfl, rfl⟩ <;>
    exact PyProof.Rows.lt_str (by simpa [val2] using h)
theorem gt_str' {prog : Program} {w : World} {A : Around} {E : Value → Shared → Prop} {s : Shared} {x y : Str} {t u : Tok} {Q : Value → Shared → Prop} (h : Q (.bool (decide (y.cps.toList < x.cps.toList))) s) : wpAny (model prog w) A (richCompare .Gt (.str x t) (.str y u)) Q E s :=
  PySem.P.gt_str h
theorem cmp_gt2 {prog : Program} {w : World} {A : Around} {x y : Str} {t u : Tok} : CmpOf prog w A .Gt (fun i v => (#[Value.str x t, Value.str y u])[i]? = some v) (fun i j => decide (val2 x y j < val2 x y i)) := fun i j vi vj s Q E hi hj h => by
  rcases two_at hi with ⟨rfl, rfl⟩ | ⟨rfl, rfl⟩ <;> rcases two_at hj with ⟨rfl, rfl⟩ | ⟨rfl, rfl⟩ <;>
    exact gt_str' (by simpa [val2] using h)
theorem min_two_strs {pins : List (Addr × Obj)} {s : Shared} {σ : L2.St} {H : Hp} {Q : VK} {x y : Str} {t u : Tok} (I : Inv X pins σ H s) (hh : X.A.handled = none) (q : Q (.str (if decide (y.cps.toList < x.cps.toList) = true then y else x)) H) :
    wpAny (model X.prog X.w) X.A (call (.builtin "min") [.str x t, .str y u]) (EP X pins σ Q) X.xe s := by
  have hT : (s.heap.push { cls := .type "tuple", data := .seq #[.str x t, .str y u] }).IsTuple s.heap.objs.size #[.str x t, .str y u] := ⟨_, Heap.get?_push_size _ rfl, rfl, 0, rfl⟩
  refine call_min_two (wpAny_pyIter_tuple hT ?_)
  have hsz : (s.heap.push { cls := .type "tuple", data := .seq #[.str x t, .str y u] }).objs.size = s.heap.objs.size + 1 := Heap.size_push ..
  refine ⟨_, [_, s.heap.objs.size], [_], _, _, _, _, rfl, Walks.tuple (A := X.A.in1) hh _ s.heap.objs.size (by rw [hsz]; exact Nat.ne_of_lt (Nat.lt_succ_self _)) #[.str x t, .str y u],
    ⟨⟨_, Heap.get?_push_size _ rfl, rfl, rfl⟩, hT.push _⟩, fun c hc => ?_, by simp, cmp_lt2, fun v h' tk hP hk => ?_⟩
  · show c < ((s.heap.push _).push _).objs.size
    rw [Heap.size_push, hsz]
    rcases List.mem_cons.mp hc with rfl | hc
    · rw [hsz]; exact Nat.lt_succ_self _
    · rcases List.mem_cons.mp hc with rfl | hc
      · exact Nat.lt_succ_of_lt (Nat.lt_succ_self _)
      · cases hc
  · have hold : ∀ c o, s.heap.get? c = some o → h'.get? c = some o := fun c o e => by
      refine hk c o (fun hm => ?_) (Heap.get?_push_of_some _ (Heap.get?_push_of_some _ e))
      rcases List.mem_cons.mp hm with e1 | hm
      · have := Heap.lt_size e; rw [e1, hsz] at this; exact Nat.lt_irrefl _ (Nat.lt_of_succ_lt this)
      · cases hm
    have hP' : (#[Value.str x t, Value.str y u])[argBest (fun i j => decide (val2 x y i < val2 x y j)) 1]? = some v := hP
    refine ⟨_, H, I.kept hold, ?_, q⟩
    by_cases hba : y.cps.toList < x.cps.toList
    · have e : argBest (fun i j => decide (val2 x y i < val2 x y j)) 1 = 1 := by simp [argBest, val2, hba]
      rw [e] at hP'
      have hv : v = .str y u := by simpa using hP'.symm
      rw [hv, if_pos (decide_eq_true hba)]; exact ⟨_, rfl⟩
    · have e : argBest (fun i j => decide (val2 x y i < val2 x y j)) 1 = 0 := by simp [argBest, val2, hba]
      rw [e] at hP'
      have hv : v = .str x t := by simpa using hP'.symm
      rw [hv, if_neg (by simpa using hba)]; exact ⟨_, rfl⟩
theorem max_two_strs {pins : List (Addr × Obj)} {s : Shared} {σ : L2.St} {H : Hp} {Q : VK} {x y : Str} {t u : Tok} (I : Inv X pins σ H s) (hh : X.A.handled = none) (q : Q (.str (if decide (x.cps.toList < y.cps.toList) = true then y else x)) H) :
    wpAny (model X.prog X.w) X.A (call (.builtin "max") [.str x t, .str y u]) (EP X pins σ Q) X.xe s := by
  have hT : (s.heap.push { cls := .type "tuple", data := .seq #[.str x t, .str y u] }).IsTuple s.heap.objs.size #[.str x t, .str y u] := ⟨_, Heap.get?_push_size _ rfl, rfl, 0, rfl⟩
  refine call_max_two (wpAny_pyIter_tuple hT ?_)
  have hsz : (s.heap.push { cls := .type "tuple", data := .seq #[.str x t, .str y u] }).objs.size = s.heap.objs.size + 1 := Heap.size_push ..
  refine ⟨_, [_, s.heap.objs.size], [_], _, _, _, _, rfl, Walks.tuple (A := X.A.in1) hh _ s.heap.objs.size (by rw [hsz]; exact Nat.ne_of_lt (Nat.lt_succ_self _)) #[.str x t, .str y u],
    ⟨⟨_, Heap.get?_push_size _ rfl, rfl, rfl⟩, hT.push _⟩, fun c hc => ?_, by simp, cmp_gt2, fun v h' tk hP hk => ?_⟩
  · show c < ((s.heap.push _).push _).objs.size
    rw [Heap.size_push, hsz]
    rcases List.mem_cons.mp hc with rfl | hc
    · rw [hsz]; exact Nat.lt_succ_self _
    · rcases List.mem_cons.mp hc with rfl | hc
      · exact Nat.lt_succ_of_lt (Nat.lt_succ_self _)
      · cases hc
  · have hold : ∀ c o, s.heap.get? c = some o → h'.get? c = some o := fun c o e => by
      refine hk c o (fun hm => ?_) (Heap.get?_push_of_some _ (Heap.get?_push_of_some _ e))
      rcases List.mem_cons.mp hm with e1 | hm
      · have := Heap.lt_size e; rw [e1, hsz] at this; exact Nat.lt_irrefl _ (Nat.lt_of_succ_lt this)
      · cases hm
    have hP' : (#[Value.str x t, Value.str y u])[argBest (fun i j => decide (val2 x y j < val2 x y i)) 1]? = some v := hP
    refine ⟨_, H, I.kept hold, ?_, q⟩
    by_cases hba : x.cps.toList < y.cps.toList
    · have e : argBest (fun i j => decide (val2 x y j < val2 x y i)) 1 = 1 := by simp [argBest, val2, hba]
      rw [e] at hP'
      have hv : v = .str y u := by simpa using hP'.symm
      rw [hv, if_pos (decide_eq_true hba)]; exact ⟨_, rfl⟩
    · have e : argBest (fun i j => decide (val2 x y j < val2 x y i)) 1 = 0 := by simp [argBest, val2, hba]
      rw [e] at hP'
      have hv : v = .str x t := by simpa using hP'.symm
      rw [hv, if_neg (by simpa using hba)]; exact ⟨_, rfl⟩
def bMin : Bg := fun ds G P => match ds with
  | [.int i, .int j] => P (.int (if j < i then j else i)) G
  | [.str s, .str t] => P (.str (if t < s then t else s)) G
  | _ => False
def bMax : Bg := fun ds G P => match ds with
  | [.int i, .int j] => P (.int (if i < j then j else i)) G
  | [.str s, .str t] => P (.str (if s < t then t else s)) G
  | _ => False
theorem ite_str {c : Prop} [Decidable c] {a b : List Nat} : (if decide c = true then (⟨a.toArray⟩ : Str) else ⟨b.toArray⟩) = ⟨(if c then a else b).toArray⟩ := by
  by_cases h : c
  · rw [if_pos (decide_eq_true h), if_pos h]
  · rw [if_neg (by simpa using h), if_neg h]
theorem cg_min (hc : X.calm = true) : CallR X (.builtin "min") (lC X.K bMin) := by
  intro pins s σ H xs us Q I r h
  obtain ⟨ds, G, P, rd, g, t, k⟩ := h
  unfold bMin at t
  split at t
  · obtain ⟨v, w, rfl, rv, rw'⟩ := RpA.two rd
    cases rv; cases rw'
    exact call_min2 hc pins s σ H _ us Q I r ⟨_, _, rfl, k _ G _ H t .refl (.int _) g⟩
  · obtain ⟨v, w, rfl, rv, rw'⟩ := RpA.two rd
    cases rv; cases rw'
    obtain ⟨u1, u2, rfl, ⟨t1, rfl⟩, ⟨t2, rfl⟩⟩ := vals2 r
    refine min_two_strs I (I.ok.hd hc) ?_
    simp only [List.toList_toArray]
    rw [ite_str]
    exact k _ G _ H t .refl (.str _) g
  · exact t.elim
theorem cg_max (hc : X.calm = true) : CallR X (.builtin "max") (lC X.K bMax) := by
  intro pins s σ H xs us Q I r h
  obtain ⟨ds, G, P, rd, g, t, k⟩ := h
  unfold bMax at t
  split at t
  · obtain ⟨v, w, rfl, rv, rw'⟩ := RpA.two rd
    cases rv; cases rw'
    exact call_max2 hc pins s σ H _ us Q I r ⟨_, _, rfl, k _ G _ H t .refl (.int _) g⟩
  · obtain ⟨v, w, rfl, rv, rw'⟩ := RpA.two rd
    cases rv; cases rw'
    obtain ⟨u1, u2, rfl, ⟨t1, rfl⟩, ⟨t2, rfl⟩⟩ := vals2 r
    refine max_two_strs I (I.ok.hd hc) ?_
    simp only [List.toList_toArray]
    rw [ite_str]
    exact k _ G _ H t .refl (.str _) g
  · exact t.elim
def tyO : GO → Option String
  | .lst _ => some "list"
  | .dct _ => some "dict"
  | .dtt _ => some "dict"
  | .ins _ _ => none
def tyD : D → Option String
  | .non => some "NoneType"
  | .bl _ => some "bool"
  | .int _ => some "int"
  | .str _ => some "str"
  | .tup _ => some "tuple"
  | .ktp _ => some "tuple"
  | .rol _ => some "list"
  | .kol _ => some "list"
  | .rdc _ => some "dict"
  | _ => none
def isaB (a b : String) : Bool := a == b || (a == "bool" && b == "int")
def rIsa (T : String) (x : D) (G : Hg) (P : KD) : Prop := match x with
  | .ref a => ∃ o n, G a = some o ∧ tyO o = some n ∧ P (.bl (isaB n T)) G
  | x => match tyD x with
    | some n => P (.bl (isaB n T)) G
    | none => False
def tys : List String := ["NoneType", "bool", "int", "str", "tuple", "list", "dict"]
theorem isaB_ok : ∀ a ∈ tys, ∀ b ∈ tys, kitB a b = some (isaB a b) := by decide +kernel
theorem isi_ok {T : String} (hT : T ∈ tys) {H : Hp} {G : Hg} {x : D} {v : V} {P : KD} {Q : VK} (r : Rp X.K H x v) (g : Hr X.K H G) (t : rIsa T x G P) (k : LD X.K H P Q) : rIsi X.K [v, .ty T] H Q := by
  have fin : ∀ {n : String} {u : V}, n ∈ tys → TyX X.K H u (.type n) → P (.bl (isaB n T)) G → rIsi X.K [u, .ty T] H Q := by
    intro n u hn ty p
    exact ⟨u, .ty T, .type n, .type T, _, rfl, .ty T, ty, kit_ty (isaB_ok n hn T hT), k _ _ _ _ p .refl (.bl _) g⟩
  cases r with
  | non => exact fin (by decide) (.base .non) t
  | bl b => exact fin (by decide) (.base (.bl b)) t
  | int i => exact fin (by decide) (.base (.int i)) t
  | str z => exact fin (by decide) (.base (.str _)) t
  | tup e q => exact fin (by decide) (.base (.tup e)) t
  | ktp e q =>
    rcases e with (e | ⟨o, e⟩) | ⟨o, its, n, e, c, _⟩
    · exact fin (by decide) (.base (.tup e)) t
    · exact fin (by decide) (.fTuple e) t
    · exact fin (by decide) (.kTuple e c) t
  | rol e q => exact fin (by decide) (.base (.frz e)) t
  | kol e q =>
    rcases e with ⟨o, e⟩ | ⟨o, its, n, e, c, _⟩
    · exact fin (by decide) (.base (.frz e)) t
    · exact fin (by decide) (.kList e c) t
  | rdc e q => exact fin (by decide) (.fDict e) t
  | ref a =>
    obtain ⟨o, n, ho, hn, t⟩ := t
    have q := g a o ho
    cases o with
    | lst xs => obtain ⟨vs, e, q⟩ := q; cases hn; exact fin (by decide) (.base (.lst e)) t
    | dct kvs => obtain ⟨vs, e, q⟩ := q; cases hn; exact fin (by decide) (.base (.dK e)) t
    | dtt kvs => obtain ⟨vs, e, q⟩ := q; cases hn; exact fin (by decide) (.base (.dT e)) t
    | ins C fs => cases hn
  | rdt e q => exact t.elim
  | obj e q => exact t.elim
def gIsa (T : String) (t : TEg) : TEg := fun env G P => t env G fun x G1 => rIsa T x G1 P
theorem ge_isa {x T : Str} {Ts : String} {p p2 pos : Pos} {e : Expr} {t : TEg} (hT : Ts ∈ tys) (he : PE X e (lE X.K t)) (hg : Gl X x) (hx : x = "isinstance") (hm : X.mg x = none) (hg2 : Gl X T) (hm2 : X.mg T = none) (hb : bootBuiltins T = some (.type Ts)) (hn : T ≠ "__name__") (hd : (T == ("__debug__" : Str)) = false)
    (hs : starEach [e, .Name T p2] X.env = (false, eval e X.env) :: starEach [.Name T p2] X.env) (hpl : (backTo pos (starEach [.Name T p2] X.env)).any (·.1) = false) :
    PE X (.Call (.Name x p) [e, .Name T p2] [] pos) (lE X.K (gIsa Ts t)) := by
  subst hx
  refine PE.imp (pe_callB call_isi hg hm PyProof.Rows.boot_isinstance (pa_cons he (pa_cons (pe_bltn (v := .ty Ts) hg2 hm2 hb rfl hn hd) pa_nil rfl) hs) (by decide) (by decide) hs hpl) fun σ H Q ⟨env, G, P, er, hr, t, k⟩ => ?_
  exact ⟨env, G, _, er, hr, t, fun d G1 v H1 t1 x1 r1 g1 => isi_ok hT r1 g1 t1 (k.mono x1)⟩
end
section
variable {X : Cx}
abbrev Mg := D → List D → Hg → KD → Prop
def lM (K : PySem.W.Frag) (m : Mg) : V → List V → Hp → VK → Prop := fun x vs H Q => ∃ d ds G P, Rp K H d x ∧ RpA K H ds vs ∧ Hr K H G ∧ m d ds G P ∧ LD K H P Q
def isLst (x : D) (G : Hg) : Prop := match x with
  | .rol _ => True
  | .kol _ => True
  | .ref a => ∃ xs, G a = some (.lst xs)
  | _ => False
def isStr (x : D) (G : Hg) : Prop := match x with
  | .str _ => True
  | _ => False
def gBm (ty : D → Hg → Prop) (m : Mg) (to : TEg) (t : TAg) : TEg := fun env G P => to env G fun x G1 => ty x G1 ∧ t env G1 fun ds G2 => m x ds G2 P
theorem ty_list {H : Hp} {G : Hg} {x : D} {v : V} (r : Rp X.K H x v) (g : Hr X.K H G) (h : isLst x G) : tyV X.K "list" v H := by
  cases r with
  | rol e q => exact .inl ⟨rfl, _, .inl (.inr ⟨_, e⟩)⟩
  | kol e q => exact .inl ⟨rfl, _, e.sql⟩
  | ref a =>
    obtain ⟨xs, e⟩ := h
    obtain ⟨vs, p, q⟩ := g a _ e
    exact .inl ⟨rfl, _, .of p⟩
  | _ => exact h.elim
theorem ty_str {H : Hp} {G : Hg} {x : D} {v : V} (r : Rp X.K H x v) (g : Hr X.K H G) (h : isStr x G) : tyV X.K "str" v H := by
  cases r with
  | str z => exact rfl
  | _ => exact h.elim
theorem lBM {K : PySem.W.Frag} {T : String} {ty : D → Hg → Prop} {m : Mg} {to : TEg} {t : TAg} {σ : L2.St} {H : Hp} {Q : VK} (hty : ∀ {H : Hp} {G : Hg} {x : D} {v : V}, Rp K H x v → Hr K H G → ty x G → tyV K T v H) (h : lE K (gBm ty m to t) σ H Q) : tBM K T (lM K m) (lE K to) (lA K t) σ H Q := by
  obtain ⟨env, G, P, er, hr, t, k⟩ := h
  refine ⟨env, G, _, er, hr, t, fun x G1 v H1 t1 x1 r1 g1 => ⟨hty r1 g1 t1.1, ?_⟩⟩
  exact ⟨env, G1, _, er.ext x1, g1, t1.2, fun ds G2 vs H2 t2 x2 r2 g2 => ⟨x, ds, G2, P, r1.ext x2, r2, g2, t2, k.mono (x1.trans x2)⟩⟩
theorem lBM0 {K : PySem.W.Frag} {T : String} {ty : D → Hg → Prop} {m : Mg} {to : TEg} {σ : L2.St} {H : Hp} {Q : VK} (hty : ∀ {H : Hp} {G : Hg} {x : D} {v : V}, Rp K H x v → Hr K H G → ty x G → tyV K T v H) (h : lE K (gBm ty m to gNil) σ H Q) : tBM0 K T (lM K m) (lE K to) σ H Q := by
  obtain ⟨env, G, P, er, hr, t, k⟩ := h
  exact ⟨env, G, _, er, hr, t, fun x G1 v H1 t1 x1 r1 g1 => ⟨hty r1 g1 t1.1, x, [], G1, P, r1, .nil, g1, t1.2, k.mono x1⟩⟩
def mAppend : Mg := fun x ds G P => match x, ds with
  | .ref a, [d] => ∃ xs, G a = some (.lst xs) ∧ xs.length < sizeLine ∧ ∀ G', G' = updG G a (.lst (xs ++ [d])) → P .non G'
  | _, _ => False
def mPop : Mg := fun x ds G P => match x, ds with
  | .ref a, [] => ∃ xs d, G a = some (.lst xs) ∧ xs[xs.length - 1]? = some d ∧ ∀ G', G' = updG G a (.lst xs.dropLast) → P d G'
  | .ref a, [.int i] => ∃ xs k d, G a = some (.lst xs) ∧ (-(2 ^ 63) ≤ i ∧ i < 2 ^ 63) ∧ seqIndex? i xs.length = some k ∧ xs[k]? = some d ∧ ∀ G', G' = updG G a (.lst (xs.eraseIdx k)) → P d G'
  | _, _ => False
def mInsert : Mg := fun x ds G P => match x, ds with
  | .ref a, [.int i, d] => ∃ xs, G a = some (.lst xs) ∧ xs.length < sizeLine ∧ 0 ≤ i ∧ i < 2 ^ 63 ∧ ∀ G', G' = updG G a (.lst (xs.take i.toNat ++ [d] ++ xs.drop i.toNat)) → P .non G'
  | _, _ => False
def mRemove : Mg := fun x ds G P => match x, ds with
  | .ref a, [d] => ∃ xs j e, G a = some (.lst xs) ∧ D.fl d = true ∧ xs.all D.fl = true ∧ xs[j]? = some e ∧ feq e d = true ∧ (∀ (m : Nat) e', m < j → xs[m]? = some e' → feq e' d = false) ∧ ∀ G', G' = updG G a (.lst (xs.eraseIdx j)) → P .non G'
  | _, _ => False
def mExtend : Mg := fun x ds G P => match x, ds with
  | .ref a, [y] => ∃ xs ys, G a = some (.lst xs) ∧ IsLi G y ys ∧ xs.length + ys.length ≤ sizeLine ∧ ∀ G', G' = updG G a (.lst (xs ++ ys)) → P .non G'
  | _, _ => False
theorem mg_append : MtR X "list.append" (lM X.K mAppend) := by
  intro pins s σ H x xs v us Q I rx rs h
  obtain ⟨d, ds, G, P, hd, hds, g, t, k⟩ := h
  unfold mAppend at t
  split at t
  · cases hd
    obtain ⟨w, rfl, rw'⟩ := RpA.one hds
    obtain ⟨ys, ho, hl, t⟩ := t
    obtain ⟨vs, e, r⟩ := g _ _ ho
    exact mt_append pins s σ H _ _ v us Q I rx rs ⟨_, vs, w, rfl, rfl, e, by rw [← r.length]; exact hl, k _ _ _ _ (t _ rfl) (.write e trivial) .non (g.write (g := .lst _) e trivial ⟨_, upd_same, (r.app (.cons rw' .nil)).ext (.write e trivial)⟩)⟩
  · exact t.elim
theorem mg_pop : MtR X "list.pop" (lM X.K mPop) := by
  intro pins s σ H x xs v us Q I rx rs h
  obtain ⟨d, ds, G, P, hd, hds, g, t, k⟩ := h
  unfold mPop at t
  split at t
  · cases hd
    cases hds
    obtain ⟨ys, d, ho, hl, t⟩ := t
    obtain ⟨vs, e, r⟩ := g _ _ ho
    obtain ⟨w, hw, rw'⟩ := r.get hl
    exact mt_pop pins s σ H _ _ v us Q I rx rs ⟨_, vs, w, rfl, rfl, e, by rw [← r.length]; exact hw, k _ _ _ _ (t _ rfl) (.write e trivial) (rw'.ext (.write e trivial)) (g.write (g := .lst _) e trivial ⟨_, upd_same, r.dropLast.ext (.write e trivial)⟩)⟩
  · cases hd
    obtain ⟨w, rfl, rw1⟩ := RpA.one hds
    cases rw1
    obtain ⟨ys, kk, d, ho, hi, hk, hl, t⟩ := t
    obtain ⟨vs, e, r⟩ := g _ _ ho
    obtain ⟨w, hw, rw'⟩ := r.get hl
    exact mt_popAt pins s σ H _ _ v us Q I rx rs ⟨_, vs, _, kk, w, rfl, rfl, e, hi.1, hi.2, by rw [← r.length]; exact hk, hw, k _ _ _ _ (t _ rfl) (.write e trivial) (rw'.ext (.write e trivial)) (g.write (g := .lst _) e trivial ⟨_, upd_same, (RpA.erase kk r).ext (.write e trivial)⟩)⟩
  · exact t.elim
theorem mg_insert : MtR X "list.insert" (lM X.K mInsert) := by
  intro pins s σ H x xs v us Q I rx rs h
  obtain ⟨d, ds, G, P, hd, hds, g, t, k⟩ := h
  unfold mInsert at t
  split at t
  · cases hd
    obtain ⟨w, w2, rfl, rw1, rw2⟩ := RpA.two hds
    cases rw1
    obtain ⟨ys, ho, hl, h0, h1, t⟩ := t
    obtain ⟨vs, e, r⟩ := g _ _ ho
    exact mt_insert pins s σ H _ _ v us Q I rx rs ⟨_, vs, _, w2, rfl, rfl, e, by rw [← r.length]; exact hl, h0, h1, k _ _ _ _ (t _ rfl) (.write e trivial) .non (g.write (g := .lst _) e trivial ⟨_, upd_same, (((RpA.take _ r).app (.cons rw2 .nil)).app (RpA.drop _ r)).ext (.write e trivial)⟩)⟩
  · exact t.elim
theorem eqGives_V {y x : V} {u v : Value} (ry : RelV y u) (rx : RelV x v) (fy : flatV y = true) (fx : flatV x = true) : MeetsSeq.EqGives u v (eqV y x) := fun prog w A E s Q h => eqAt_V (A := A) (s := s) ry rx fy fx prog w E Q h
theorem mg_remove : MtR X "list.remove" (lM X.K mRemove) := by
  intro pins s σ H x xs v us Q I rx rs h
  obtain ⟨d, ds, G, P, hd, hds, g, t, k⟩ := h
  unfold mRemove at t
  split at t
  · rename_i dd
    cases hd
    obtain ⟨w, rfl, rw1⟩ := RpA.one hds
    obtain ⟨ys, j, d2, ho, fd, fys, hj, hq, hno, t⟩ := t
    obtain ⟨vs, e, r⟩ := g _ _ ho
    cases rx
    obtain ⟨u, rfl, ru⟩ := rs.one
    obtain ⟨z, its, n, rv, hl, eo⟩ := I.lstM e
    have fw := rw1.fl fd
    have fvs := r.fl fys
    obtain ⟨w2, hw2, rw2⟩ := r.get hj
    obtain ⟨u2, hu2, ru2⟩ := rv.get hw2
    have hjl : j < its.length := (List.getElem?_eq_some_iff.mp hu2).1
    have item : ∀ (m : Nat) (hm : m < its.toArray.size), ∃ dm wm, ys[m]? = some dm ∧ vs[m]? = some wm ∧ Rp X.K H dm wm ∧ RelV wm its.toArray[m] ∧ eqU w its.toArray[m] = feq dm dd := by
      intro m hm
      have hm' : m < its.length := by simpa using hm
      have hmy : m < ys.length := by rw [r.length, hl]; exact hm'
      obtain ⟨wm, h1, h2⟩ := r.get (List.getElem?_eq_getElem hmy)
      obtain ⟨um, h3, h4⟩ := rv.get h1
      have e5 : um = its.toArray[m] := by
        rw [List.getElem?_eq_getElem hm'] at h3
        simpa using (Option.some.inj h3).symm
      subst e5
      have fm : D.fl ys[m] = true := List.all_eq_true.mp fys _ (List.getElem_mem hmy)
      exact ⟨ys[m], wm, List.getElem?_eq_getElem hmy, h1, h2, h4, by rw [eqU_of h4 (h2.fl fm)]; exact h2.feq rw1 fm fd⟩
    refine call_meets PySem.F.slot_list_remove ⟨_, eo, rfl⟩ PySem.F.entry_list_remove (PySem.F.args_list_remove_2 _ _)
      (MeetsSeq.list_remove _ its.toArray n u (eqU w) (fun y hy => ?_) j (by simpa using hjl) ?_ ?_ (by rw [List.size_toArray]; omega)) ⟨eo, ?_⟩
    · have hy' : y ∈ its := by simpa using hy
      obtain ⟨m, hm, rfl⟩ := List.getElem_of_mem hy'
      have hmv : m < vs.length := by rw [hl]; exact hm
      have fm : flatV vs[m] = true := List.all_eq_true.mp fvs _ (List.getElem_mem hmv)
      obtain ⟨um, h3, h4⟩ := rv.get (List.getElem?_eq_getElem hmv)
      rw [List.getElem?_eq_getElem hm] at h3
      cases h3
      rw [eqU_of h4 fm]
      exact eqGives_V h4 ru fm fw
    · obtain ⟨dm, wm, h1, h2, h3, h4, h5⟩ := item j (by simpa using hjl)
      rw [hj] at h1; cases h1
      rw [h5]; exact hq
    · intro m hm hmj
      obtain ⟨dm, wm, h1, h2, h3, h4, h5⟩ := item m hm
      rw [h5]; exact hno m dm hmj h1
    · refine ⟨.non, _, I.lset (its' := its.eraseIdx j) e eo ?_ (rv.eraseIdx j) ?_, rfl, ?_⟩
      · show its.toArray.eraseIdxIfInBounds j = (its.eraseIdx j).toArray
        rw [List.eraseIdxIfInBounds_toArray]
      · have := len_erase vs j
        omega
      · exact k _ _ _ _ (t _ rfl) (.write e trivial) .non (g.write (g := .lst _) e trivial ⟨_, upd_same, (RpA.erase j r).ext (.write e trivial)⟩)
  · exact t.elim
def joinN (S : List Nat) : List (List Nat) → List Nat
  | [] => []
  | [p] => p
  | p :: q :: r => p ++ S ++ joinN S (q :: r)
def mJoin : Mg := fun x ds G P => match x, ds with
  | .str S, [y] => ∃ ys, IsSq G y (ys.map D.str) ∧ (ys.map (·.length)).sum + ys.length * S.length ≤ 16777216 ∧ P (.str (joinN S ys)) G
  | _, _ => False
theorem strs_rp {K : PySem.W.Frag} {H : Hp} : ∀ {ys : List (List Nat)} {vs : List V}, RpA K H (ys.map D.str) vs → vs = (ys.map fun y => (⟨y.toArray⟩ : Str)).map V.str
  | [], _, r => by cases r; rfl
  | y :: ys, _, r => by
    cases r with
    | cons a b => cases a; rw [strs_rp b]; rfl
theorem join_str (S : List Nat) : ∀ ys : List (List Nat), Txt.join ⟨S.toArray⟩ (ys.map fun y => (⟨y.toArray⟩ : Str)) = ⟨(joinN S ys).toArray⟩ := by
  intro ys
  rw [TL.join_eq]
  have go : ∀ ys : List (List Nat), Str.join ⟨S.toArray⟩ (ys.map fun y => (⟨y.toArray⟩ : Str)) = ⟨(joinN S ys).toArray⟩ := by
    intro ys
    induction ys with
    | nil => rfl
    | cons p r ih =>
      cases r with
      | nil => rfl
      | cons q r =>
        show (⟨p.toArray⟩ : Str) ++ ⟨S.toArray⟩ ++ Str.join ⟨S.toArray⟩ ((q :: r).map fun y => (⟨y.toArray⟩ : Str)) = _
        rw [ih]
        show Str.append (Str.append _ _) _ = _
        simp [Str.append, joinN]
  exact go ys
theorem mg_join : MtR X "str.join" (lM X.K mJoin) := by
  intro pins s σ H x xs v us Q I rx rs h
  obtain ⟨d, ds, G, P, hd, hds, g, t, k⟩ := h
  unfold mJoin at t
  split at t
  · cases hd
    obtain ⟨w, rfl, rw1⟩ := RpA.one hds
    obtain ⟨ys, hs, hl, t⟩ := t
    obtain ⟨a, vs, rfl, hq, q⟩ := hs.sq rw1 g
    rw [strs_rp q] at hq
    refine mt_join pins s σ H _ _ v us Q I rx rs ⟨_, a, _, rfl, rfl, hq, ?_, ?_⟩
    · simpa [List.map_map, Function.comp_def, Str.length] using hl
    · rw [join_str]; exact k _ G _ H t .refl (.str _) g
  · exact t.elim
end
end Vc

set_option Elab.async false
set_option linter.all false
set_option autoImplicit false
set_option maxRecDepth 100000
set_option maxHeartbeats 2000000
namespace Vc
open PySem PySem.Spec PyProof.Rows L2
def dle (x y : D) : Bool := PySem.W.dataLe false D.py x y
structure Srt (xs : List D) : Prop where
  al : PySem.W.AllAlike (xs.map D.py)
  so : PySem.W.Sortable (xs.map D.py)
  pr : ∀ d ∈ xs, D.pr 4 d = true
def srt (xs : List D) : List D := xs.mergeSort dle
inductive Its (G : Hg) : D → List D → Prop
  | li {x : D} {ds : List D} : IsLk G x ds → Its G x ds
  | rdc (kvs : List (DK × D)) : Its G (.rdc kvs) (kvs.map fun kv => kD kv.1)
  | dct {a : Addr} {kvs : List (DK × D)} : G a = some (.dct kvs) → Its G (.ref a) (kvs.map fun kv => kD kv.1)
  | rdt (kvs : List (List DK × D)) : Its G (.rdt kvs) (kvs.map fun kv => .tup (kv.1.map kD))
  | dtt {a : Addr} {kvs : List (List DK × D)} : G a = some (.dtt kvs) → Its G (.ref a) (kvs.map fun kv => .tup (kv.1.map kD))
def bSorted : Bg := fun ds G P => match ds with
  | [x] => ∃ xs, Its G x xs ∧ xs.length ≤ sizeLine ∧ Srt xs ∧ rL (srt xs) G P
  | _ => False
mutual
theorem reads_lt {h : Heap} : ∀ {v : Value} {d : PyData} {as : List Addr}, Reads h v d as → ∀ a ∈ as, a < h.objs.size
  | _, _, _, .none, _, ha => by simp at ha
  | _, _, _, .bool _, _, ha => by simp at ha
  | _, _, _, .int _ _, _, ha => by simp at ha
  | _, _, _, .str _ _, _, ha => by simp at ha
  | _, _, _, .list e _ _ r, a, ha => by
    rcases List.mem_cons.mp ha with e2 | ha
    · rw [e2]; exact Heap.lt_size e
    · exact reads_ltA r a ha
  | _, _, _, .tuple e _ _ r, a, ha => reads_ltA r a ha
  | _, _, _, .dict e _ _ r r2, a, ha => by
    rcases List.mem_append.mp ha with ha | ha
    · rcases List.mem_cons.mp ha with e2 | ha
      · rw [e2]; exact Heap.lt_size e
      · exact reads_ltA r a ha
    · exact reads_ltA r2 a ha
theorem reads_ltA {h : Heap} : ∀ {vs : List Value} {ds : List PyData} {as : List Addr}, ReadsAll h vs ds as → ∀ a ∈ as, a < h.objs.size
  | _, _, _, .nil, _, ha => by simp at ha
  | _, _, _, .cons r t, a, ha => by
    rcases List.mem_append.mp ha with ha | ha
    · exact reads_lt r a ha
    · exact reads_ltA t a ha
end
section
variable {X : Cx} {pins : List (Addr × Obj)} {σ : L2.St} {H : Hp} {s : Shared}
def Sd (K : PySem.W.Frag) (H : Hp) (v : Value) (d : D) : Prop := ∃ w, RelV w v ∧ Rp K H d w
theorem sd_each {K : PySem.W.Frag} {H : Hp} : ∀ {us : List Value} {vs : List V} {ds : List D}, Vals vs us → RpA K H ds vs → PySem.W.EachIs (Sd K H) us ds
  | _, _, _, .nil, .nil => .nil
  | _, _, _, .cons r t, .cons q u => .cons ⟨_, r, q⟩ (sd_each t u)
theorem sd_out {K : PySem.W.Frag} {H : Hp} : ∀ {us : List Value} {ds : List D}, PySem.W.EachIs (Sd K H) us ds → ∃ vs, Vals vs us ∧ RpA K H ds vs
  | _, _, .nil => ⟨[], .nil, .nil⟩
  | _, _, .cons ⟨w, r, q⟩ t => by
    obtain ⟨vs, h1, h2⟩ := sd_out t
    exact ⟨w :: vs, .cons r h1, .cons q h2⟩
theorem sd_reads (I : Inv X pins σ H s) : ∀ {us : List Value} {ds : List D}, PySem.W.EachIs (Sd X.K H) us ds → (∀ d ∈ ds, D.pr 4 d = true) → PySem.W.EachIs (fun v d => ∃ as, Reads s.heap v d.py as) us ds
  | _, _, .nil, _ => .nil
  | _, _, .cons ⟨w, r, q⟩ t, h => .cons (Dp.reads I _ _ _ (D.dp (h _ (by simp)) q) r) (sd_reads I t fun d hd => h d (List.mem_cons_of_mem _ hd))
theorem depth_pr {xs : List D} (h : ∀ d ∈ xs, D.pr 4 d = true) : ∀ d ∈ xs, d.py.depth ≤ 4 := fun d hd => (D.lay (h d hd)).2
theorem rL_of {K : PySem.W.Frag} {H : Hp} {ds : List D} {vs : List V} {G : Hg} {P : KD} {Q : VK} (t : rL ds G P) (k : LD K H P Q) (r : RpA K H ds vs) (g : Hr K H G) :
    ∀ p, H p = none → Q (.ref p) (upd H p (.lst vs)) ∨ ∃ a u, V.ref p = .ref a ∧ (upd H p (.lst vs)) a = some u ∧ Mut (some u) ∧ ∀ od, Q (.ref p) (upd (upd H p (.lst vs)) a (.frz od u)) := fun p hp => rL_ok t k r g p hp
theorem sort_fresh {h' : Heap} {tk : Nat} {us : List Value} {ds : List D} {Q : VK} (I : Inv X pins σ H s) (hu : X.A.units + 64 < cLine) (kp : ∀ b o, s.heap.get? b = some o → h'.get? b = some o) (e : PySem.W.EachIs (Sd X.K H) us ds) (hl : ds.length ≤ sizeLine) (hs : Srt ds)
    (q : ∀ vs, RpA X.K H (srt ds) vs → ∀ p, H p = none → Q (.ref p) (upd H p (.lst vs))) :
    wpAny (model X.prog X.w) X.A.in1 (do let l ← newList us; let _ ← holding [l] (call (.builtin "list.sort") [l]); ret l) (fun fin s' => ∃ v, fin = .done (.ret v) ∧ EP X pins σ Q v s') X.xe { s with heap := h', toks := tk } := by
  have hlu : us.length = ds.length := e.length
  have I1 : Inv X pins σ H { s with heap := h', toks := tk } := I.kept kp
  refine wpAny_bind (wpAny_newList ?_ (by rw [hlu]; exact hl))
  have hoL : (h'.push (seqObj "list" us.toArray 0)).get? h'.objs.size = some (seqObj "list" us.toArray 0) := Heap.get?_push_size _ rfl
  show wpAny _ _ _ _ _ { s with heap := h'.push (seqObj "list" us.toArray 0), toks := tk }
  have er : PySem.W.EachIs (fun v d => ∃ as, Reads (h'.push (seqObj "list" us.toArray 0)) v d.py as ∧ h'.objs.size ∉ as) us ds := (sd_reads I1 e hs.pr).mono fun v d ⟨as, r⟩ => ⟨as, PyProof.Rows.Reads.keeps (fun b o z => Heap.get?_push_of_some _ z) r, fun z => absurd (reads_lt r _ z) (Nat.lt_irrefl _)⟩
  refine wpAny_bind (wpAny_holding (PySem.W.list_sort_data (enc := D.py) (s := { s with heap := h'.push (seqObj "list" us.toArray 0), toks := tk }) hoL e er hs.al hs.so hl (fun d hd => by have := depth_pr hs.pr d hd; show X.A.units + 1 + 1 + _ < _; omega) fun out ho eo => ?_))
  obtain ⟨vs, rv, rp⟩ := sd_out eo
  obtain ⟨c, hc⟩ := PyProof.Rows.sortedHeap_at (vs := us) (out := out.toArray) hoL
  have hlv : vs.length ≤ sizeLine := by rw [rv.length, ho]; exact hl
  refine wpAny_pure ⟨_, rfl, .ref h'.objs.size, upd H h'.objs.size (.lst vs), I1.laid (t' := tk) (fun b u z => ?_) (Nat.le_refl _) (show ObjOk X.prog X.w _ _ _ (.lst vs) from ⟨hlv, out, c, rv, hc⟩), rfl, q vs rp _ (I1.hok.fresh (Nat.le_refl _))⟩
  have hb : b < h'.objs.size := Heap.lt_size z
  rw [PyProof.Rows.sortedHeap_old (Nat.ne_of_lt hb) (by rw [size_push']; exact Nat.lt_succ_of_lt hb)]
  exact Heap.get?_push_of_some _ z
theorem call_sorted_src {d : Addr} {n : Nat} {P : Nat → Value → Prop} {OK : Heap → Prop} {ds : List D} {Q : VK} (I : Inv X pins σ H s) (hc : X.calm = true) (hu : X.A.units + 64 < cLine) (S : PySem.W.KdlSrc X.prog X.w "dict" d d n P OK) (ok : OK s.heap) (hn : n = ds.length) (hl : ds.length ≤ sizeLine)
    (hp : ∀ us : List Value, us.length = n → (∀ j v, us[j]? = some v → P j v) → PySem.W.EachIs (Sd X.K H) us ds) (hs : Srt ds) (q : ∀ vs, RpA X.K H (srt ds) vs → ∀ p, H p = none → Q (.ref p) (upd H p (.lst vs))) :
    wpAny (model X.prog X.w) X.A (call (.builtin "sorted") [.ref d]) (EP X pins σ Q) X.xe s := by
  refine Calls.call_function_entry PyProof.Rows.kind_sorted PyProof.Rows.plain_sorted PyProof.Rows.entry_sorted (PyProof.Rows.args_sorted1 _) ?_
  unfold Builtin.«sorted»
  refine wpAny_bind (m := checkCount "sorted" 1 1 _) (wpAny_pure ?_)
  refine wpAny_bind (PySem.W.kdu_collect (A := X.A.in1) S (I.ok.hd hc) ok (by rw [hn]; exact hl) fun h' tk acc hk hacc => ?_)
  have e := hp acc.toList (by rw [Array.length_toList]; exact hacc.1) fun j v e => hacc.2 j v (by rw [← Array.getElem?_toList]; exact e)
  exact sort_fresh I hu hk e hl hs q
theorem each_at {K : PySem.W.Frag} {H : Hp} : ∀ {us : List Value} {ds : List D}, us.length = ds.length → (∀ (j : Nat) (v : Value) (d : D), us[j]? = some v → ds[j]? = some d → Sd K H v d) → PySem.W.EachIs (Sd K H) us ds
  | [], [], _, _ => .nil
  | u :: us, d :: ds, hl, h => .cons (h 0 u d rfl rfl) (each_at (by simpa using hl) fun j v d e1 e2 => h (j + 1) v d (by simpa using e1) (by simpa using e2))
  | [], _ :: _, hl, _ => by simp at hl
  | _ :: _, [], hl, _ => by simp at hl
theorem rpK_key {K : PySem.W.Frag} {H : Hp} : ∀ {ds : List (DK × D)} {vs : List (Key × V)} {j : Nat} {kv : DK × D}, RpK K H ds vs → ds[j]? = some kv → (vs.map (·.1))[j]? = some (ofK kv.1)
  | _, _, _, _, .nil, z => by simp at z
  | _, _, 0, _, .cons _ _, z => by simp at z; subst z; rfl
  | _, _, j + 1, _, .cons _ t, z => by
    have := rpK_key (j := j) t (by simpa using z)
    simpa using this
theorem rpT_key {K : PySem.W.Frag} {H : Hp} : ∀ {ds : List (List DK × D)} {vs : List (List Key × V)} {j : Nat} {kv : List DK × D}, RpT K H ds vs → ds[j]? = some kv → ∃ v, vs[j]? = some (kv.1.map ofK, v)
  | _, _, _, _, .nil, z => by simp at z
  | _, _, 0, _, .cons _ _, z => by simp at z; subst z; exact ⟨_, rfl⟩
  | _, _, j + 1, _, .cons _ t, z => by
    obtain ⟨v, h⟩ := rpT_key (j := j) t (by simpa using z)
    exact ⟨v, by simpa using h⟩
theorem sorted_dK {a : Addr} {kvs : List (DK × D)} {vs : List (Key × V)} {Q : VK} (I : Inv X pins σ H s) (hc : X.calm = true) (hu : X.A.units + 64 < cLine) (hd : Rd H a (.dK vs)) (r : RpK X.K H kvs vs) (hl : kvs.length ≤ sizeLine) (hs : Srt (kvs.map fun kv => kD kv.1))
    (q : ∀ vs, RpA X.K H (srt (kvs.map fun kv => kD kv.1)) vs → ∀ p, H p = none → Q (.ref p) (upd H p (.lst vs))) : wpAny (model X.prog X.w) X.A (call (.builtin "sorted") [.ref a]) (EP X pins σ Q) X.xe s := by
  obtain ⟨z, lo, ws, rel, dd⟩ := dk_rd I.hok hd
  obtain ⟨ep, hat⟩ := dd.dictAt
  have e1 : kvs.length = ws.length := by rw [r.len, rel.length]
  refine call_sorted_src (ds := kvs.map fun kv => kD kv.1) I hc hu (PySem.W.kdl_dict (knd := mixKind X.prog X.w) (kvs := ws) (ep := ep) lo) hat (by rw [List.length_map]; exact e1.symm) (by rw [List.length_map]; exact hl) (fun us hlu hp => ?_) hs q
  refine each_at (by rw [hlu, List.length_map]; exact e1.symm) fun j v d h1 h2 => ?_
  obtain ⟨k, x, e2, e3⟩ := hp j v h1
  rw [List.getElem?_map] at h2
  cases e4 : kvs[j]? with
  | none => rw [e4] at h2; cases h2
  | some kv =>
    rw [e4] at h2
    cases h2
    have e5 : (vs.map (·.1))[j]? = some k := by rw [rel.keys, List.getElem?_map, e2]; rfl
    rw [rpK_key r e4] at e5
    cases e5
    exact ⟨kV (ofK kv.1), keyIs_rel e3, kD_of kv.1⟩
theorem sorted_dT {a : Addr} {kvs : List (List DK × D)} {vs : List (List Key × V)} {Q : VK} (I : Inv X pins σ H s) (hc : X.calm = true) (hu : X.A.units + 64 < cLine) (hd : Rd H a (.dT vs)) (r : RpT X.K H kvs vs) (hl : kvs.length ≤ sizeLine) (hs : Srt (kvs.map fun kv => .tup (kv.1.map kD)))
    (q : ∀ vs, RpA X.K H (srt (kvs.map fun kv => .tup (kv.1.map kD))) vs → ∀ p, H p = none → Q (.ref p) (upd H p (.lst vs))) : wpAny (model X.prog X.w) X.A (call (.builtin "sorted") [.ref a]) (EP X pins σ Q) X.xe s := by
  obtain ⟨z, lo, ks, pr, o, es, ep, ho, hx, hdt, he, hn⟩ := (show ObjOk X.prog X.w H s.heap a (.dT vs) from hd.ok I.hok)
  have l1 : es.size = ks.length := size_of_entries he
  have l2 : vs.length = ks.length := Paired.length pr
  have l3 := r.len
  refine call_sorted_src (ds := kvs.map fun kv => .tup (kv.1.map kD)) I hc hu (kdl_raw lo hx hdt) ho (by rw [List.length_map]; omega) (by rw [List.length_map]; exact hl) (fun us hlu hp => ?_) hs q
  refine each_at (by rw [hlu, List.length_map]; omega) fun j v d h1 h2 => ?_
  obtain ⟨en, hen, hv⟩ := hp j v h1
  rw [List.getElem?_map] at h2
  cases e4 : kvs[j]? with
  | none => rw [e4] at h2; cases h2
  | some kv =>
    rw [e4] at h2
    cases h2
    have qe := entry_at he j
    rw [hen] at qe
    cases hb : ks[j]? with
    | none => rw [hb] at qe; exact nomatch (show some en = none from qe)
    | some b =>
      rw [hb] at qe
      have e2 : en = entryOfKey (tupleKind (mixKind X.prog X.w)) b := Option.some.inj qe
      have e8 : ∀ {vs : List (List Key × V)} {ks : List (List Key × Addr × Value)} {j : Nat} {p : List Key × V} {b : List Key × Addr × Value}, Paired (fun (p : List Key × V) (q : List Key × Addr × Value) => p.1 = q.1 ∧ H q.2.1 = some (.tup (p.1.map kV)) ∧ RelV p.2 q.2.2) vs ks → vs[j]? = some p → ks[j]? = some b → H b.2.1 = some (.tup (p.1.map kV)) := by
        intro vs ks j p b r
        induction r generalizing j with
        | nil => intro z; simp at z
        | cons hh _ ih => intro z1 z2; cases j with
          | zero => simp at z1 z2; subst z1 z2; exact hh.2.1
          | succ j => exact ih (j := j) (by simpa using z1) (by simpa using z2)
      obtain ⟨w, e7⟩ := rpT_key r e4
      have e9 := e8 pr e7 hb
      refine ⟨.ref b.2.1, ?_, .tup e9 (kDs_of kv.1)⟩
      rw [hv, e2]
      rfl
theorem cg_sorted (hc : X.calm = true) (hu : X.A.units + 64 < cLine) : CallR X (.builtin "sorted") (lC X.K bSorted) := by
  intro pins s σ H xs us Q I r h
  obtain ⟨ds, G, P, rd, g, t, k⟩ := h
  unfold bSorted at t
  split at t
  · obtain ⟨v, rfl, rv⟩ := RpA.one rd
    obtain ⟨ys, hi, hl, hs, t⟩ := t
    have fin : ∀ {Q : VK}, LD X.K H P Q → ∀ vs, RpA X.K H (srt ys) vs → ∀ p, H p = none → Q (.ref p) (upd H p (.lst vs)) ∨ ∃ a u, V.ref p = .ref a ∧ (upd H p (.lst vs)) a = some u ∧ Mut (some u) ∧ ∀ od, Q (.ref p) (upd (upd H p (.lst vs)) a (.frz od u)) := fun k vs rp p hp => rL_ok t k rp g p hp
    -- the new list may be locked
    refine thn (?_ : wpAny (model X.prog X.w) X.A (call (.builtin "sorted") us) (EP X pins σ fun v H1 => Q v H1 ∨ ∃ a u, v = .ref a ∧ H1 a = some u ∧ Mut (some u) ∧ ∀ od, Q v (upd H1 a (.frz od u))) X.xe s) fun u s1 ⟨v, H1, I1, r1, q1⟩ => ?_
    · cases hi with
      | li hi =>
        obtain ⟨a, vs, rfl, hq, rp⟩ := hi.sq rv g
        rw [Vals.ref1 r]
        obtain ⟨its, rv, pl, hz⟩ := I.list hq
        have e := sd_each rv rp
        refine PySem.W.sorted_data (enc := D.py) pl.isList e (sd_reads I e hs.pr) hs.al hs.so hl (fun d hd => by have := depth_pr hs.pr d hd; omega) fun out ho eo => ?_
        obtain ⟨ws, rw', rp'⟩ := sd_out eo
        obtain ⟨c, hc'⟩ := PyProof.Rows.sortedAll_at s.heap its out.toArray
        have hlv : ws.length ≤ sizeLine := by rw [rw'.length, ho]; exact hl
        exact ⟨.ref (s.heap.objs.size + 1), upd H (s.heap.objs.size + 1) (.lst ws), I.laid (t' := s.toks) (fun b u z => PyProof.Rows.sortedAll_old z) (Nat.le_succ _) (show ObjOk X.prog X.w _ _ _ (.lst ws) from ⟨hlv, out, c, rw', hc'⟩), rfl, fin k ws rp' _ (I.hok.fresh (Nat.le_succ _))⟩
      | rdc kvs =>
        cases rv with
        | rdc e q => rw [Vals.ref1 r]; exact sorted_dK I hc hu (.inr ⟨_, e⟩) q (by simpa using hl) hs (fin k)
      | dct e =>
        cases rv
        obtain ⟨vs, p, q⟩ := g _ _ e
        rw [Vals.ref1 r]; exact sorted_dK I hc hu (.inl p) q (by simpa using hl) hs (fin k)
      | rdt kvs =>
        cases rv with
        | rdt e q => rw [Vals.ref1 r]; exact sorted_dT I hc hu (.inr ⟨_, e⟩) q (by simpa using hl) hs (fin k)
      | dtt e =>
        cases rv
        obtain ⟨vs, p, q⟩ := g _ _ e
        rw [Vals.ref1 r]; exact sorted_dT I hc hu (.inl p) q (by simpa using hl) hs (fin k)
    · rcases q1 with q1 | ⟨a, o, rfl, ha, m, q1⟩
      · exact ⟨v, H1, I1, r1, q1⟩
      · obtain ⟨od, I2⟩ := I1.lock ha m
        exact ⟨.ref a, _, I2, r1, q1 od⟩
  · exact t.elim
end
theorem isi_exact {prog : Program} {w : World} {A : Around} {E : Value → Shared → Prop} {s : Shared} {Q : Value → Shared → Prop} {a C : Addr} (ho : ∃ o, s.heap.get? a = some o ∧ o.cls = .ref C) (h : ∀ tk, Q (.bool true) { s with toks := tk }) :
    wpAny (model prog w) A (call (.builtin "isinstance") [.ref a, .ref C]) Q E s :=
  PySem.call_isinstance (S := fun _ R s => (∃ o, s.heap.get? a = some o ∧ o.cls = .ref C) ∧ ∀ tk, R (.ok (.ret (.bool true))) { s with toks := tk })
    (fun prog w A R s hs => PySem.isinstance_outer (by
      obtain ⟨h0, g, d, tt, os⟩ := s
      obtain ⟨⟨o, h1, h2⟩, hq⟩ := hs
      have LT : PySem.W.Looks (model prog w) h0 (typeOf (.ref a)) (.ref C) := h2 ▸ (PySem.W.Looks.ld h1).andThen .now
      unfold Builtin.«isinstance.nested»
      refine wpAny_bind (LT.at ?_)
      rw [if_pos (by simp)]
      first
        | exact wpAny_bind (wpAny_rule (hq tt))
        | exact wpAny_bind (wpAny_rule (wpAny_pure (hq tt)))) (by intro e; cases e)) ⟨ho, h⟩
section
variable {X : Cx}
def rIsO (C : List Nat) (x : D) (G : Hg) (P : KD) : Prop := match x with
  | .obj C' _ => C' = C ∧ P (.bl true) G
  | .ref a => ∃ fs, G a = some (.ins C fs) ∧ P (.bl true) G
  | _ => False
def gIsO (C : List Nat) (t : TEg) : TEg := fun env G P => t env G fun x G1 => rIsO C x G1 P
theorem call_isO {C : Addr} : CallR X (.builtin "isinstance") (fun xs H Q => ∃ a dx fs, xs = [.ref a, .ref C] ∧ Rd H a (.ins C dx fs) ∧ Q (.bl true) H) := by
  intro pins s σ H xs us Q I r h
  obtain ⟨a, dx, fs, rfl, ha, q⟩ := h
  obtain ⟨u, w', rfl, ru, rw'⟩ := vals2 r
  cases ru
  cases rw'
  obtain ⟨_, _, _, ho, _⟩ := (show ObjOk X.prog X.w H s.heap a (.ins C dx fs) from ha.ok I.hok)
  exact isi_exact ⟨_, ho, rfl⟩ fun tk => ⟨.bl true, H, I.tok _, rfl, q⟩
theorem ge_isO {x T : Str} {C : List Nat} {p p2 pos : Pos} {e : Expr} {t : TEg} (he : PE X e (lE X.K t)) (hg : Gl X x) (hx : x = "isinstance") (hm : X.mg x = none) (hg2 : Gl X T) (hm2 : X.mg T = some (.ref (cAt X.K C))) (hd : (T == ("__debug__" : Str)) = false)
    (hs : starEach [e, .Name T p2] X.env = (false, eval e X.env) :: starEach [.Name T p2] X.env) (hpl : (backTo pos (starEach [.Name T p2] X.env)).any (·.1) = false) :
    PE X (.Call (.Name x p) [e, .Name T p2] [] pos) (lE X.K (gIsO C t)) := by
  subst hx
  refine PE.imp (pe_callB (call_isO (C := cAt X.K C)) hg hm PyProof.Rows.boot_isinstance (pa_cons he (pa_cons (pe_glob (v := .ref (cAt X.K C)) hg2 hm2 rfl hd) pa_nil rfl) hs) (by decide) (by decide) hs hpl) fun σ H Q ⟨env, G, P, er, hr, t, k⟩ => ?_
  refine ⟨env, G, _, er, hr, t, fun d G1 v H1 t1 x1 r1 g1 => ?_⟩
  unfold rIsO at t1
  split at t1
  · obtain ⟨rfl, t1⟩ := t1
    cases r1 with
    | obj e r => exact ⟨_, _, _, rfl, .inr ⟨_, e⟩, k _ G1 _ H1 t1 x1 (.bl true) g1⟩
  · cases r1
    obtain ⟨fs, ho, t1⟩ := t1
    obtain ⟨dx, vs, e, r⟩ := g1 _ _ ho
    exact ⟨_, _, _, rfl, .inl e, k _ G1 _ H1 t1 x1 (.bl true) g1⟩
  · exact t1.elim
def jRv (hi : Int) (n : Nat) : Jg := ⟨fun i _ => i < n, fun i G d G' => G' = G ∧ d = .int (hi - i), fun i _ => n ≤ i⟩
theorem lj_rv {K : PySem.W.Frag} {H : Hp} {hi : Int} {n : Nat} : LJ K H (Itc hi (-1) n) (jRv hi n) where
  go := fun i H' G x g h => h
  stop := fun i H' G x g h => h
  yld := fun i H' G x H2 z g h y => by
    obtain ⟨e2, y⟩ := y
    subst e2 y
    have e : hi + (i : Int) * (-1) = hi - i := by omega
    rw [e]
    exact ⟨.refl, _, G, ⟨rfl, rfl⟩, .int _, g⟩
def gRvR1 (t : TEg) : TIg := fun env G R => t env G fun d G1 => match d with
  | .int n => -(2 ^ 62) ≤ n ∧ n < 2 ^ 62 ∧ R (jRv ((n.toNat : Int) - 1) n.toNat) G1
  | _ => False
def gRvR2 (ta tb : TEg) : TIg := fun env G R => ta env G fun d G1 => tb env G1 fun d2 G2 => match d, d2 with
  | .int a, .int b => (-(2 ^ 62) ≤ a ∧ a < 2 ^ 62 ∧ -(2 ^ 62) ≤ b ∧ b < 2 ^ 62) ∧ R (jRv (a + ((b - a).toNat : Int) - 1) (b - a).toNat) G2
  | _, _ => False
theorem gi_rvR1 {tg a : Expr} {p p2 pos pos2 : Pos} {t : TEg} (hg : Gl X "reversed") (hm : X.mg "reversed" = none) (hg2 : Gl X "range") (hm2 : X.mg "range" = none) (ha : PE X a (lE X.K t)) (hs : starEach [a] X.env = [(false, eval a X.env)]) :
    PI X tg (.Call (.Name "reversed" p) [.Call (.Name "range" p2) [a] [] pos2] [] pos) (lI X.K (gRvR1 t)) :=
  PI.imp (pi_revR hg hm (prg_1 hg2 hm2 ha hs)) fun σ H R ⟨env, G, P, er, hr, t, k⟩ => by
    refine ⟨env, G, _, er, hr, t, fun d G1 v H1 t1 x1 r1 g1 => ?_⟩
    split at t1
    · cases r1
      rename_i n
      refine ⟨n, rfl, by decide, by decide, t1.1, t1.2.1, ?_⟩
      have e : (n - 0).toNat = n.toNat := by rw [Int.sub_zero]
      rw [e]
      have e2 : (0 : Int) + ((n.toNat : Nat) : Int) - 1 = (n.toNat : Int) - 1 := by omega
      rw [e2]
      exact k _ _ _ _ t1.2.2 x1 g1 lj_rv
    · exact t1.elim
theorem gi_rvR2 {tg a b : Expr} {p p2 pos pos2 : Pos} {ta tb : TEg} (hg : Gl X "reversed") (hm : X.mg "reversed" = none) (hg2 : Gl X "range") (hm2 : X.mg "range" = none) (ha : PE X a (lE X.K ta)) (hb : PE X b (lE X.K tb)) (hs : starEach [a, b] X.env = (false, eval a X.env) :: starEach [b] X.env) (hs2 : starEach [b] X.env = [(false, eval b X.env)])
    (hp : (backTo pos2 (starEach [b] X.env)).any (·.1) = false) : PI X tg (.Call (.Name "reversed" p) [.Call (.Name "range" p2) [a, b] [] pos2] [] pos) (lI X.K (gRvR2 ta tb)) :=
  PI.imp (pi_revR hg hm (prg_2 hg2 hm2 ha hb hs hs2 hp)) fun σ H R ⟨env, G, P, er, hr, t, k⟩ => by
    refine ⟨env, G, _, er, hr, t, fun d G1 v H1 t1 x1 r1 g1 => ?_⟩
    refine ⟨env, G1, _, er.ext x1, g1, t1, fun d2 G2 v2 H2 t2 x2 r2 g2 => ?_⟩
    split at t2
    · cases r1; cases r2
      exact ⟨_, _, rfl, rfl, t2.1.1, t2.1.2.1, t2.1.2.2.1, t2.1.2.2.2, k _ _ _ _ t2.2 (x1.trans x2) g2 lj_rv⟩
    · exact t2.elim
end
end Vc

set_option Elab.async false
set_option linter.all false
set_option autoImplicit false
set_option maxRecDepth 100000
set_option maxHeartbeats 2000000
namespace Vc
open PySem PySem.Spec PyProof.Rows L2
structure Fn where
  ps : List Str
  sp : Spg
structure Tb where
  K : PySem.W.Frag
  fn : List (Str × Fn)
  mkt : List (Str × Fn)
  mt : List (Str × Str × Fn)
  con : List (Str × D)
structure Sc where
  N : List Str
  sc : Scope
  fn : Str → Bool
def strB (x y : Str) : Bool := x.cps.toList == y.cps.toList
theorem strB_eq {x y : Str} (h : strB x y = true) : x = y := by
  obtain ⟨a⟩ := x
  obtain ⟨b⟩ := y
  have e : a.toList = b.toList := by simpa [strB] using h
  have : a = b := Array.toList_inj.mp e
  rw [this]
def look {α : Type} (x : Str) : List (Str × α) → Option α
  | [] => none
  | (y, a) :: r => if strB x y = true then some a else look x r
theorem look_mem {α : Type} {x : Str} {a : α} : ∀ {l : List (Str × α)}, look x l = some a → (x, a) ∈ l
  | [], h => by simp [look] at h
  | (y, b) :: r, h => by
    unfold look at h
    split at h
    · rename_i e
      cases h
      rw [strB_eq e]; exact List.mem_cons_self
    · exact List.mem_cons_of_mem _ (look_mem h)
def ixOf (x : Str) : List Str → Option Nat
  | [] => none
  | y :: r => if strB x y = true then some 0 else (ixOf x r).map (· + 1)
theorem ixOf_get {x : Str} : ∀ {l : List Str} {i : Nat}, ixOf x l = some i → l[i]? = some x
  | [], i, h => by simp [ixOf] at h
  | y :: r, i, h => by
    unfold ixOf at h
    split at h
    · rename_i e
      cases h
      rw [strB_eq e]; rfl
    · cases e : ixOf x r with
      | none => rw [e] at h; cases h
      | some j =>
        rw [e] at h
        cases h
        have := ixOf_get e
        simpa using this
def kindB (sc : Scope) (x : Str) : Option NameKind := look x sc.names
theorem kind_of {sc : Scope} {x : Str} : ∀ {l : List (Str × NameKind)}, look x l = l.lookup x
  | [] => rfl
  | (y, k) :: r => by
    unfold look
    rw [List.lookup]
    by_cases e : strB x y = true
    · rw [if_pos e, strB_eq e]; simp
    · rw [if_neg e]
      have n : (x == y) = false := by
        apply beq_eq_false_iff_ne.mpr
        intro z; subst z
        exact e (by simp [strB])
      rw [n]
      exact kind_of (sc := sc)
theorem kindB_eq {sc : Scope} {x : Str} : kindB sc x = sc.names.lookup x := kind_of (sc := sc)
def visB (sc : Scope) (x : Str) : Bool := match kindB sc x with
  | some .local => true
  | some .cell => true
  | some .free => true
  | _ => false
def locB (sc : Scope) (x : Str) : Bool := match kindB sc x with
  | some .local => true
  | some .cell => true
  | _ => false
def plB (sc : Scope) (x : Str) : Bool := match kindB sc x with
  | some .local => true
  | _ => false
def glB (sc : Scope) (x : Str) : Bool := match kindB sc x with
  | some .globalImplicit => true
  | _ => false
theorem visB_ok {sc : Scope} {x : Str} (h : visB sc x = true) : Vis sc x := by
  unfold visB at h
  rw [kindB_eq] at h
  unfold Vis
  split at h <;> simp_all
theorem locB_ok {sc : Scope} {x : Str} (h : locB sc x = true) : L2.Loc sc x := by
  unfold locB at h
  rw [kindB_eq] at h
  unfold L2.Loc
  split at h <;> simp_all
theorem plB_ok {sc : Scope} {x : Str} (h : plB sc x = true) : sc.names.lookup x = some .local := by
  unfold plB at h
  rw [kindB_eq] at h
  split at h <;> simp_all
theorem glB_ok {sc : Scope} {x : Str} (h : glB sc x = true) : sc.names.lookup x = some .globalImplicit := by
  unfold glB at h
  rw [kindB_eq] at h
  split at h <;> simp_all
def okN (x : Str) : Bool := !(strB x "__debug__") && !(strB x "__classdict__") && !(strB x "__name__")
theorem neq_of {x y : Str} (h : (!strB x y) = true) : x ≠ y := by
  intro e
  subst e
  simp [strB] at h
theorem okN_ok {x : Str} (h : okN x = true) : (x == ("__debug__" : Str)) = false ∧ (x == ("__classdict__" : Str)) = false ∧ x ≠ "__name__" := by
  simp only [okN, Bool.and_eq_true] at h
  exact ⟨beq_eq_false_iff_ne.mpr (neq_of h.1.1), beq_eq_false_iff_ne.mpr (neq_of h.1.2), neq_of h.2⟩
inductive Blt where
  | len | abs | min | max | list | tuple | int | sorted
def bltOf (x : Str) : Option Blt :=
  if strB x "len" = true then some .len else if strB x "abs" = true then some .abs else if strB x "min" = true then some .min else if strB x "max" = true then some .max
  else if strB x "list" = true then some .list else if strB x "tuple" = true then some .tuple else if strB x "int" = true then some .int else if strB x "sorted" = true then some .sorted else none
def Blt.r : Blt → Bg
  | .len => bLen
  | .abs => bAbs
  | .min => bMin
  | .max => bMax
  | .list => bList
  | .tuple => bTuple
  | .int => bInt
  | .sorted => bSorted
def Blt.nm : Blt → Str
  | .len => "len"
  | .abs => "abs"
  | .min => "min"
  | .max => "max"
  | .list => "list"
  | .tuple => "tuple"
  | .int => "int"
  | .sorted => "sorted"
theorem bltOf_nm {x : Str} {b : Blt} (h : bltOf x = some b) : x = b.nm := by
  unfold bltOf at h
  repeat' split at h
  all_goals first | (cases h; exact strB_eq (by assumption)) | cases h
def tyOf (x : Str) : Option String :=
  if strB x "tuple" = true then some "tuple" else if strB x "list" = true then some "list" else if strB x "bool" = true then some "bool" else if strB x "int" = true then some "int" else if strB x "str" = true then some "str" else if strB x "dict" = true then some "dict" else none
theorem tyOf_ok {x : Str} {T : String} (h : tyOf x = some T) : T ∈ tys ∧ bootBuiltins x = some (.type T) ∧ x ≠ "__name__" ∧ (x == ("__debug__" : Str)) = false := by
  unfold tyOf at h
  repeat' split at h
  all_goals first | (cases h; rename_i e; rw [strB_eq e]; exact ⟨by decide, by decide +kernel, by decide, by decide⟩) | cases h
inductive Bmt where
  | append | pop | insert | remove | join
def bmtOf (x : Str) : Option Bmt :=
  if strB x "append" = true then some .append else if strB x "pop" = true then some .pop else if strB x "insert" = true then some .insert else if strB x "remove" = true then some .remove else if strB x "join" = true then some .join else none
def Bmt.m : Bmt → Mg
  | .append => mAppend
  | .pop => mPop
  | .insert => mInsert
  | .remove => mRemove
  | .join => mJoin
def Bmt.ty : Bmt → D → Hg → Prop
  | .join => isStr
  | _ => isLst
def Bmt.nm : Bmt → Str
  | .append => "append"
  | .pop => "pop"
  | .insert => "insert"
  | .remove => "remove"
  | .join => "join"
theorem bmtOf_nm {x : Str} {b : Bmt} (h : bmtOf x = some b) : x = b.nm := by
  unfold bmtOf at h
  repeat' split at h
  all_goals first | (cases h; exact strB_eq (by assumption)) | cases h
def opR : Operator → Option R2g
  | .Add => some rAdd
  | .Sub => some rSub
  | .Mult => some rMul
  | .FloorDiv => some rFdiv
  | .Mod => some rMod
  | .Pow => some rPow
  | _ => none
def cmpR : CmpOp → Option R2g
  | .Eq => some rEq
  | .NotEq => some rNe
  | .Lt => some rLt
  | .LtE => some rLe
  | .Gt => some rGt
  | .GtE => some rGe
  | .Is => some rIs
  | .IsNot => some rIsnt
  | .In => some rIn
  | .NotIn => some rNin
structure CxOk (Γ : Tb) (k : Nat) (X : Cx) (s : Sc) : Prop where
  K : X.K = Γ.K
  N : X.N = s.N
  sc : X.env.scope = s.sc
  kind : X.env.scope.kind = .function
  fn : ∀ x, X.fn x = s.fn x
  nd : X.N.Nodup
  calm : X.calm = true
  room : Room k X.A
  xe : X.xe = fun _ _ => False
  fns : ∀ p ∈ Γ.fn, ∃ fa fd, FnOk X.prog X.w X.K X.mg X.base C8.CX0 k fa fd p.2.ps (lSp X.K p.2.sp) ∧ X.mg p.1 = some (.ref fa) ∧ PySem.W.keepIn X.K (.ref fa) = true ∧ Binds X.K fd p.2.ps []
  mks : ∀ p ∈ Γ.mkt, ∃ fa fd k', k' + 1 ≤ k ∧ FnOk X.prog X.w X.K X.mg X.base C8.CX0 k' fa fd p.2.ps (lSp X.K p.2.sp) ∧ X.mg p.1 = some (.ref (cAt X.K p.1.cps.toList)) ∧ Mk X.K (cAt X.K p.1.cps.toList) fa ∧ Binds X.K fd p.2.ps []
  mts : ∀ p ∈ Γ.mt, ∃ fa fd, FnOk X.prog X.w X.K X.mg X.base C8.CX0 k fa fd p.2.2.ps (lSp X.K p.2.2.sp) ∧ Meth X.K (cAt X.K p.2.1.cps.toList) p.1 fa ∧ Cls X.K (cAt X.K p.2.1.cps.toList) ∧ Binds X.K fd p.2.2.ps []
  cons : ∀ p ∈ Γ.con, ∃ v u, X.mg p.1 = some u ∧ RelV v u ∧ ∀ H, Rp X.K H p.2 v
  blt : ∀ b : Blt, X.mg b.nm = none
  tys : ∀ x T, tyOf x = some T → X.mg x = none
  isi : X.mg "isinstance" = none
  rng : X.mg "range" = none
  rev : X.mg "reversed" = none
def bad : TEg := fun _ _ _ => False
def badT : TTg := fun _ _ _ => False
def badS : TSg := fun _ _ _ => False
theorem ge_bad {X : Cx} {e : Expr} : PE X e (lE X.K bad) := ⟨fun _ _ _ _ _ _ ⟨_, _, _, _, _, t, _⟩ => t.elim⟩
theorem gt_bad {X : Cx} {e : Expr} : PT X e (lT X.K badT) := ⟨fun _ _ _ _ _ _ ⟨_, _, _, _, _, t, _⟩ => t.elim⟩
theorem gs_bad {X : Cx} {e : Stmt} : PS X e (lS X.K badS) := ⟨fun _ _ _ _ _ _ ⟨_, _, _, _, _, t, _⟩ => t.elim⟩
def gEor (t u : TEg) : TEg := fun env G P => t env G P ∨ u env G P
theorem ge_or2 {X : Cx} {e : Expr} {t u : TEg} (h1 : PE X e (lE X.K t)) (h2 : PE X e (lE X.K u)) : PE X e (lE X.K (gEor t u)) :=
  ⟨fun pins s σ H Q I ⟨env, G, P, er, hr, t, k⟩ => t.elim (fun t => h1.run pins s σ H Q I ⟨env, G, P, er, hr, t, k⟩) fun t => h2.run pins s σ H Q I ⟨env, G, P, er, hr, t, k⟩⟩
section
variable {Γ : Tb} {k : Nat} {X : Cx} {s : Sc}
theorem opR_ok (c : CxOk Γ k X s) {op : Operator} {r : R2g} (h : opR op = some r) : OpR X (binaryOp op) (lR X.K r) := by
  cases op <;> simp [opR] at h <;> subst h
  · exact og_add
  · exact og_sub
  · exact og_mul
  · exact og_mod
  · exact og_pow
  · exact og_fdiv
theorem cmpR_ok (c : CxOk Γ k X s) {op : CmpOp} {r : R2g} (h : cmpR op = some r) : OpR X (compareOp op) (lR X.K r) := by
  have hu := c.room.units
  cases op <;> simp [cmpR] at h <;> subst h
  · exact og_eq hu
  · exact og_ne hu
  · exact og_lt
  · exact og_le
  · exact og_gt
  · exact og_ge
  · exact og_is
  · exact og_isnt
  · exact og_in hu
  · exact og_nin hu
theorem blt_ok (c : CxOk Γ k X s) (b : Blt) {p pos : Pos} {e : Expr} {es : List Expr} {t : TAg} (hg : Gl X b.nm) (ha : PA X (e :: es) (lA X.K t)) (he : starEach (e :: es) X.env = (false, eval e X.env) :: starEach es X.env) (hpl : (backTo pos (starEach es X.env)).any (·.1) = false) :
    PE X (.Call (.Name b.nm p) (e :: es) [] pos) (lE X.K (gCall b.r t)) := by
  have hm := c.blt b
  cases b with
  | len => exact ge_callB cg_len hg hm boot_len ha (by decide) (by decide) he hpl
  | abs => exact ge_callB cg_abs hg hm PyProof.Rows.boot_abs ha (by decide) (by decide) he hpl
  | min => exact ge_callB (cg_min c.calm) hg hm PyProof.Rows.boot_min ha (by decide) (by decide) he hpl
  | max => exact ge_callB (cg_max c.calm) hg hm PyProof.Rows.boot_max ha (by decide) (by decide) he hpl
  | list => exact ge_callT cg_list hg hm PyProof.Rows.boot_list ha (by decide) (by decide) he hpl
  | tuple => exact ge_callT cg_tuple hg hm PyProof.Rows.boot_tuple ha (by decide) (by decide) he hpl
  | int => exact ge_callT cg_int hg hm PyProof.Rows.boot_int ha (by decide) (by decide) he hpl
  | sorted => exact ge_callB (cg_sorted c.calm (by have := c.room.un; omega)) hg hm PyProof.Rows.boot_sorted ha (by decide) (by decide) he hpl
def noSuper : Expr → Bool
  | .Call .. => false
  | _ => true
theorem base_of {o : Expr} {f : Str} {env : Env} {whole : Sem Value} (h : noSuper o = true) : attributeBase o f env whole = whole := by
  cases o <;> first | rfl | simp [noSuper] at h
end
def noSl : Expr → Bool
  | .Slice .. => false
  | _ => true
def noStar : Expr → Bool
  | .Starred .. => false
  | _ => true
theorem plainIx {b : Expr} (h : noSl b = true) : PlainIx b := by
  intro o i
  cases b <;> first | rfl | simp [noSl] at h
theorem star_cons {e : Expr} {es : List Expr} {env : Env} (h : noStar e = true) : starEach (e :: es) env = (false, eval e env) :: starEach es env := by
  cases e <;> first | rfl | simp [noStar] at h
theorem star_plain {pos : Pos} {env : Env} : ∀ {es : List Expr}, es.all noStar = true → (backTo pos (starEach es env)).any (·.1) = false
  | [], _ => rfl
  | e :: es, h => by
    simp only [List.all_cons, Bool.and_eq_true] at h
    rw [star_cons h.1]
    show (false || (backTo pos (starEach es env)).any (·.1)) = false
    rw [star_plain h.2]; rfl
theorem star_all {env : Env} : ∀ {es : List Expr}, es.all noStar = true → ∀ pos, (backTo pos (starEach es env)).all (fun x => !x.1) = true
  | [], _, _ => rfl
  | e :: es, h, pos => by
    simp only [List.all_cons, Bool.and_eq_true] at h
    rw [star_cons h.1]
    show (true && (backTo pos (starEach es env)).all (fun x => !x.1)) = true
    rw [star_all h.2]; rfl
def wArgs (f : Expr → TEg) : List Expr → TAg
  | [] => gNil
  | e :: es => gCons (f e) (wArgs f es)
def wPart (f : Expr → TEg) : Option Expr → TOg
  | none => gNoPart
  | some e => gPart (f e)
def wPairs (f : Expr → TEg) : List (Option Expr) → List Expr → List (TEg × TEg)
  | some k :: ks, v :: vs => (f k, f v) :: wPairs f ks vs
  | _, _ => []
def pairsOk : List (Option Expr) → List Expr → Bool
  | [], [] => true
  | some _ :: ks, _ :: vs => pairsOk ks vs
  | _, _ => false
def wName (Γ : Tb) (s : Sc) (x : Str) : TEg :=
  if okN x = true then
    if visB s.sc x = true then (match ixOf x s.N with
      | some i => gVar i
      | none => bad)
    else if glB s.sc x = true then (match look x Γ.con with
      | some d => gC d
      | none => bad)
    else bad
  else bad
def wCall (Γ : Tb) (f : Expr → TEg) (s : Sc) (x : Str) (args : List Expr) : TEg :=
  if okN x = true ∧ glB s.sc x = true ∧ args.all noStar = true then (match look x Γ.fn with
    | some F => gCall F.sp (wArgs f args)
    | none => match look x Γ.mkt with
      | some F => gMake x.cps.toList F.sp (wArgs f args)
      | none => if strB x "isinstance" = true then (match args with
          | [e, .Name T _] => (match tyOf T with
            | some Ts => if glB s.sc T = true then gIsa Ts (f e) else bad
            | none => (match look T Γ.mkt with
              | some _ => if glB s.sc T = true ∧ okN T = true then gIsO T.cps.toList (f e) else bad
              | none => bad))
          | _ => bad)
        else match args, bltOf x with
          | _ :: _, some b => gCall b.r (wArgs f args)
          | _, _ => bad)
  else bad
def orAll : List TEg → TEg
  | [] => bad
  | [t] => t
  | t :: r => gEor t (orAll r)
def wMeth (Γ : Tb) (f : Expr → TEg) (o : Expr) (m : Str) (apos cpos : Pos) (args : List Expr) : TEg :=
  if noSuper o = true ∧ args.all noStar = true ∧ args.length < 29 ∧ (apos.endLine == cpos.line) = true then
    orAll ((match bmtOf m with
      | some b => [gBm b.ty b.m (f o) (wArgs f args)]
      | none => []) ++ (Γ.mt.filter fun p => strB p.1 m).map fun p => gMeth p.2.1.cps.toList p.1.cps.toList p.2.2.sp (f o) (wArgs f args))
  else bad
def ownOf (N : List Str) (scope : Scope) : List (Str × Nat) := scope.names.filterMap fun y => match y.2 with
  | .local => (ixOf y.1 N).map fun i => (y.1, i)
  | .cell => (ixOf y.1 N).map fun i => (y.1, i)
  | _ => none
def tgNames (N : List Str) (ok : Str → Bool) : List Expr → Option (List Nat)
  | [] => some []
  | .Name x _ :: r => if ok x = true then (match ixOf x N, tgNames N ok r with
    | some i, some is => some (i :: is)
    | _, _ => none) else none
  | _ :: _ => none
def wTg (N : List Str) (ok : Str → Bool) : Expr → Option Tg
  | .Name x _ => if ok x = true then (ixOf x N).map Tg.one else none
  | .Tuple es _ _ => (tgNames N ok es).map Tg.tup
  | _ => none
def blkSc (s : Sc) (scope : Scope) : Sc := ⟨s.N, relS scope s.sc, fun x => scope.names.lookup x == some .cell⟩
def okT (s : Sc) (x : Str) : Bool := locB s.sc x && (s.fn x || plB s.sc x)
def wIfs (g : Sc → Expr → TTg) (s : Sc) : List Expr → TTg
  | [] => gYes
  | [c] => g s c
  | _ => badT
def wIter (Γ : Tb) (f : Sc → Expr → TEg) (s : Sc) : Expr → TIg
  | .Call (.Name x p) args [] pos =>
    if strB x "range" = true ∧ glB s.sc x = true ∧ args.all noStar = true then (match args with
      | [_] => gRng1 (wArgs (f s) args)
      | [_, _] => gRng2 (wArgs (f s) args)
      | _ => gIterA bad)
    else if strB x "reversed" = true ∧ glB s.sc x = true ∧ args.all noStar = true then (match args with
      | [.Call (.Name y _) [a] [] _] => if strB y "range" = true ∧ glB s.sc y = true ∧ noStar a = true then gRvR1 (f s a) else gRev (wArgs (f s) args)
      | [.Call (.Name y _) [a, b] [] _] => if strB y "range" = true ∧ glB s.sc y = true ∧ noStar a = true ∧ noStar b = true then gRvR2 (f s a) (f s b) else gRev (wArgs (f s) args)
      | [_] => gRev (wArgs (f s) args)
      | _ => gIterA bad)
    else gIterA (f s (.Call (.Name x p) args [] pos))
  | e => gIterA (f s e)
def noSet : Expr → Bool
  | .Set .. => false
  | _ => true
theorem noSet_ok {e : Expr} {env : Env} (h : noSet e = true) : ∀ x, foldedSetIterable e env x = pure x := by
  intro x
  cases e <;> first | rfl | simp [noSet] at h
def wLc (Γ : Tb) (f : Sc → Expr → TEg) (g : Sc → Expr → TTg) (s : Sc) (elt tg iter : Expr) (ifs : List Expr) (scope : Scope) : TEg :=
  let own := ownOf s.N scope
  if blkC s.N s.sc scope own = true ∧ noSet iter = true then (match wTg s.N (okT (blkSc s scope)) tg with
    | some t => if t.ix.all (fun i => (own.map (·.2)).contains i) = true then gLc (wIter Γ f s iter) t (wIfs g (blkSc s scope) ifs) (f (blkSc s scope) elt) (own.map (·.2)) else bad
    | none => bad)
  else bad
def wDc (Γ : Tb) (f : Sc → Expr → TEg) (g : Sc → Expr → TTg) (s : Sc) (key val tg iter : Expr) (ifs : List Expr) (scope : Scope) : TEg :=
  let own := ownOf s.N scope
  if blkC s.N s.sc scope own = true ∧ noSet iter = true then (match wTg s.N (okT (blkSc s scope)) tg with
    | some t => if t.ix.all (fun i => (own.map (·.2)).contains i) = true then gDc (wIter Γ f s iter) t (wIfs g (blkSc s scope) ifs) (f (blkSc s scope) key) (f (blkSc s scope) val) (own.map (·.2)) else bad
    | none => bad)
  else bad
def gNeg (t : TEg) : TEg := fun env G P => t env G fun d G1 => match d with
  | .int i => P (.int (-i)) G1
  | _ => False
def wAndE (f : Expr → TEg) : List Expr → TEg
  | [] => bad
  | [a] => f a
  | a :: b :: r => gAndV (f a) (wAndE f (b :: r))
def wOrE (f : Expr → TEg) : List Expr → TEg
  | [] => bad
  | [a] => f a
  | a :: b :: r => gOrV (f a) (wOrE f (b :: r))
def wEx (Γ : Tb) (f : Sc → Expr → TEg) (g : Sc → Expr → TTg) (s : Sc) : Expr → TEg
  | .Constant (.int i) _ _ => gC (.int i)
  | .Constant (.str x) _ _ => gC (.str x.cps.toList)
  | .Constant (.bool b) _ _ => gC (.bl b)
  | .Constant .none _ _ => gC .non
  | .Name x _ => wName Γ s x
  | .BinOp a op b _ => (match opR op with
    | some r => gOp r (f s a) (f s b)
    | none => bad)
  | .UnaryOp .Not a _ => gNotV (f s a)
  | .UnaryOp .USub a _ => gNeg (f s a)
  | .BoolOp .And es _ => wAndE (f s) es
  | .BoolOp .Or es _ => wOrE (f s) es
  | .Compare a [op] [b] _ => (match cmpR op with
    | some r => if behindInMarks op b = false then gOp r (f s a) (f s b) else bad
    | none => bad)
  | .Compare a [op, op'] [b, c] _ => (match cmpR op, cmpR op' with
    | some r, some r' => if behindInMarks op' c = false then gCh r r' (f s a) (f s b) (f s c) else bad
    | _, _ => bad)
  | .IfExp c a b _ => gIf (g s c) (f s a) (f s b)
  | .Tuple es _ _ => if es.all noStar = true then gTup (wArgs (f s) es) else bad
  | .List es _ => if es.all noStar = true then gLst (wArgs (f s) es) else bad
  | .Dict [] [] _ => gD0
  | .Dict (k :: ks) vs _ => if pairsOk (k :: ks) vs = true ∧ ks.length < 15 then gDisp (wPairs (f s) (k :: ks) vs) else bad
  | .Subscript a (.Slice lo hi none _) _ => gCut (f s a) (wPart (f s) lo) (wPart (f s) hi)
  | .Subscript a b _ => if noSl b = true then gOp rItem (f s a) (f s b) else bad
  | .Attribute o x _ => if noSuper o = true then gFld Γ.K x.cps.toList (f s o) else bad
  | .Call (.Name x _) args [] _ => wCall Γ (f s) s x args
  | .Call (.Attribute o m apos) args [] cpos => wMeth Γ (f s) o m apos cpos args
  | .ListComp elt [⟨tg, iter, ifs, 0⟩] scope _ => wLc Γ f g s elt tg iter ifs scope
  | .DictComp kx vx [⟨tg, iter, ifs, 0⟩] scope _ => wDc Γ f g s kx vx tg iter ifs scope
  | _ => bad
def wAnd (g : Expr → TTg) : List Expr → TTg
  | [] => badT
  | [a] => g a
  | a :: b :: r => gAnd (g a) (wAnd g (b :: r))
def wOr (g : Expr → TTg) : List Expr → TTg
  | [] => badT
  | [a] => g a
  | a :: b :: r => gOr (g a) (wOr g (b :: r))
def plainT : Expr → Bool
  | .UnaryOp .Not _ _ => false
  | .BoolOp .. => false
  | .IfExp .. => false
  | .Compare .. => false
  | _ => true
theorem plainT_ok {e : Expr} {env : Env} (h : plainT e = true) : ∀ whole, isTrue e env whole = (do let v ← whole; standAt e.pos; holding [v] (truthy v)) := by
  intro whole
  cases e <;> first | rfl | (rename_i op _ _; cases op <;> first | rfl | simp [plainT] at h) | simp [plainT] at h
def wTx (f : Sc → Expr → TEg) (g : Sc → Expr → TTg) (s : Sc) : Expr → TTg
  | .UnaryOp .Not a _ => gNot (g s a)
  | .BoolOp .And es _ => wAnd (g s) es
  | .BoolOp .Or es _ => wOr (g s) es
  | .Compare a [op] [b] _ => (match cmpR op with
    | some r => if behindInMarks op b = false then gB (gOp r (f s a) (f s b)) else badT
    | none => badT)
  | .Compare a [op, op'] [b, c] _ => (match cmpR op, cmpR op' with
    | some r, some r' => if behindInMarks op' c = false then gB (gCh r r' (f s a) (f s b) (f s c)) else badT
    | _, _ => badT)
  | e => if plainT e = true then gTru (f s e) else badT
def wBoth (Γ : Tb) : Nat → (Sc → Expr → TEg) × (Sc → Expr → TTg)
  | 0 => (fun _ _ => bad, fun _ _ => badT)
  | n + 1 => (wEx Γ (wBoth Γ n).1 (wBoth Γ n).2, wTx (wBoth Γ n).1 (wBoth Γ n).2)
end Vc

set_option Elab.async false
set_option linter.all false
set_option autoImplicit false
set_option maxRecDepth 100000
set_option maxHeartbeats 2000000
namespace Vc
open PySem PySem.Spec PyProof.Rows L2
section
variable {Γ : Tb} {k : Nat} {X : Cx} {s : Sc}
theorem CxOk.gl (c : CxOk Γ k X s) {x : Str} (h : glB s.sc x = true) : Gl X x := by
  have := glB_ok h
  rw [← c.sc] at this
  exact this
theorem CxOk.blk (c : CxOk Γ k X s) (sh : Shared) (H : Hp) (scope : Scope) (hk : scope.kind = .function) (cl : List (Str × Addr)) (C : Addr) (fp : List Addr) : CxOk Γ k (X.blk sh H scope (compEnvC scope cl C X.env) fp) (blkSc s scope) where
  K := c.K
  N := c.N
  sc := by
    show relabel scope X.env = relS scope s.sc
    rw [← c.sc]; rfl
  kind := hk
  fn := fun x => rfl
  nd := c.nd
  calm := c.calm
  room := c.room
  xe := rfl
  fns := c.fns
  mks := c.mks
  mts := c.mts
  cons := c.cons
  blt := c.blt
  tys := c.tys
  isi := c.isi
  rng := c.rng
  rev := c.rev
theorem wArgs_ok {f : Expr → TEg} (hf : ∀ e, PE X e (lE X.K (f e))) : ∀ {es : List Expr}, es.all noStar = true → PA X es (lA X.K (wArgs f es))
  | [], _ => ga_nil
  | e :: es, h => by
    simp only [List.all_cons, Bool.and_eq_true] at h
    exact ga_cons (hf e) (wArgs_ok hf h.2) (star_cons h.1)
theorem wPart_ok {f : Expr → TEg} (hf : ∀ e, PE X e (lE X.K (f e))) : ∀ o : Option Expr, PO X o (lO X.K (wPart f o))
  | none => go_none
  | some e => go_some (hf e)
theorem wPairs_ok {f : Expr → TEg} (hf : ∀ e, PE X e (lE X.K (f e))) {pos : Pos} : ∀ {ks : List (Option Expr)} {vs : List Expr}, pairsOk ks vs = true → GPs X pos ks vs (wPairs f ks vs)
  | [], [], _ => .nil
  | some k :: ks, v :: vs, h => .cons (hf k) (hf v) (wPairs_ok hf h)
  | none :: _, _, h => by simp [pairsOk] at h
  | some _ :: _, [], h => by simp [pairsOk] at h
  | [], _ :: _, h => by simp [pairsOk] at h
theorem wName_ok (c : CxOk Γ k X s) {x : Str} {pos : Pos} : PE X (.Name x pos) (lE X.K (wName Γ s x)) := by
  unfold wName
  split
  · rename_i h
    obtain ⟨h1, h2, h3⟩ := okN_ok h
    split
    · rename_i hv
      have hv := visB_ok hv
      rw [← c.sc] at hv
      split
      · rename_i i hi
        have hi := ixOf_get hi
        rw [← c.N] at hi
        exact ge_var hi hv h1 h2
      · exact ge_bad
    · split
      · rename_i hg
        split
        · rename_i d hd
          obtain ⟨v, u, hm, rv, rd⟩ := c.cons _ (look_mem hd)
          exact ge_c (pe_glob (c.gl hg) hm rv h1) rd
        · exact ge_bad
      · exact ge_bad
  · exact ge_bad
theorem ge_make {k' : Nat} {fa : Addr} {fd : FuncData} {ps : List Str} {sp : Spg} {x : Str} {C : List Nat} {p pos : Pos} {e : Expr} {es : List Expr} {t : TAg} (M : Mk X.K (cAt X.K C) fa) (F : FnOk X.prog X.w X.K X.mg X.base C8.CX0 k' fa fd ps (lSp X.K sp)) (hr : Room (k' + 1) X.A) (hg : Gl X x) (hm : X.mg x = some (.ref (cAt X.K C)))
    (hb : Binds X.K fd ps []) (ha : PA X (e :: es) (lA X.K t)) (hdb : (x == ("__debug__" : Str)) = false) (he : starEach (e :: es) X.env = (false, eval e X.env) :: starEach es X.env) (hpl : (backTo pos (starEach es X.env)).any (·.1) = false) :
    PE X (.Call (.Name x p) (e :: es) [] pos) (lE X.K (gMake C sp t)) :=
  PE.imp (pe_fz (pe_make (E := fun _ _ _ => True) M F hr hg hm hb .nil C8.pass0 ha hdb he hpl)) fun σ H Q h => lMake h
theorem ge_make0 {k' : Nat} {fa : Addr} {fd : FuncData} {ps : List Str} {sp : Spg} {x : Str} {C : List Nat} {p pos : Pos} (M : Mk X.K (cAt X.K C) fa) (F : FnOk X.prog X.w X.K X.mg X.base C8.CX0 k' fa fd ps (lSp X.K sp)) (hr : Room (k' + 1) X.A) (hg : Gl X x) (hm : X.mg x = some (.ref (cAt X.K C)))
    (hb : Binds X.K fd ps []) (hdb : (x == ("__debug__" : Str)) = false) : PE X (.Call (.Name x p) [] [] pos) (lE X.K (gMake C sp gNil)) :=
  PE.imp (pe_fz (pe_make0 (E := fun _ _ _ => True) M F hr hg hm hb .nil C8.pass0 hdb)) fun σ H Q h => by
    obtain ⟨env, G, P, er, hr, t, k⟩ := h
    have q := lMake (E := fun _ _ _ => True) (σ := σ) (Q := Q) (K := X.K) (C := C) (sp := sp) (t := gNil) ⟨env, G, P, er, hr, t, k⟩
    obtain ⟨env', G', P', er', hr', t', k'⟩ := q
    exact k' [] G' [] H t' .refl .nil hr'
theorem lNil {K : PySem.W.Frag} {σ : L2.St} {H : Hp} {Q : List V → Hp → Prop} (h : lA K gNil σ H Q) : tNil σ H Q := by
  obtain ⟨env, G, P, er, hr, t, k⟩ := h
  exact k [] G [] H t .refl .nil hr
theorem ge_methW {m : Str} {C : List Nat} {fa : Addr} {fd : FuncData} {ps : List Str} {sp : Spg} {o : Expr} {es : List Expr} {to : TEg} {t : TAg} {apos pos : Pos} (he : PE X o (lE X.K to)) (c : Cls X.K (cAt X.K C)) (hm : Meth X.K (cAt X.K C) m fa) (F : FnOk X.prog X.w X.K X.mg X.base C8.CX0 k fa fd ps (lSp X.K sp)) (hr : Room k X.A) (hb : Binds X.K fd ps [])
    (ha : PA X es (lA X.K t)) (hn : es = [] → t = gNil) (hs : es.all noStar = true) (hl : es.length < 29) (hbase : attributeBase o m X.env (eval o X.env) = eval o X.env) (hline : (apos.endLine == pos.line) = true) : PE X (.Call (.Attribute o m apos) es [] pos) (lE X.K (gMeth C m.cps.toList sp to t)) := by
  have hfew : methodCallForm (es.length + 0) (backTo pos (starEach es X.env)) (backToKw pos (keywordEach [] X.env)) = true := by
    unfold methodCallForm
    rw [star_all hs pos]
    simp only [Nat.add_zero, Bool.true_and, Bool.and_eq_true, decide_eq_true_eq]
    refine ⟨rfl, ?_⟩
    show es.length + 0 < 30
    omega
  have ht : eval (.Call (.Attribute o m apos) es [] pos) X.env = (do
      let ov ← eval o X.env
      standAt apos.atName
      let (f, first) ← holding [ov] (getMethod ov m (do return (← importBound o X.env).getD true))
      callWith pos f first (backTo pos (starEach es X.env)) (backToKw pos (keywordEach [] X.env))) := by
    show (do
      let ov ← attributeBase o m X.env (eval o X.env)
      standAt apos.atName
      methodCall o m apos pos X.env ov (es.length + 0) (backTo pos (starEach es X.env)) (backToKw pos (keywordEach [] X.env))) = _
    rw [hbase]
    unfold methodCall
    rw [hfew]
    unfold methodCallPos calleeOf
    simp only [hline, Bool.not_true, Bool.false_or, if_true, pure_bind]
  cases es with
  | nil =>
    rw [hn rfl]
    refine PE.imp (pe_meth0 (E := fun _ _ _ => True) he c hm F hr hb .nil C8.pass0 ht) fun σ H Q h => ?_
    obtain ⟨env, G, P, er, hr, t1, kk⟩ := lMeth (E := fun _ _ _ => True) h
    refine ⟨env, G, P, er, hr, t1, fun d G' v H' p x r g => ?_⟩
    obtain ⟨a, dx, fs, e1, e2, e3, q⟩ := kk d G' v H' p x r g
    exact ⟨a, dx, fs, e1, e2, e3, lNil q⟩
  | cons e es =>
    have h2 := hs
    simp only [List.all_cons, Bool.and_eq_true] at h2
    exact PE.imp (pe_meth (E := fun _ _ _ => True) he c hm F hr hb .nil C8.pass0 ha (star_cons h2.1) (star_plain h2.2) ht) fun σ H Q h => lMeth h
theorem ge_bmW (c : CxOk Γ k X s) (b : Bmt) {o : Expr} {es : List Expr} {to : TEg} {t : TAg} {apos pos : Pos} (he : PE X o (lE X.K to)) (ha : PA X es (lA X.K t)) (hn : es = [] → t = gNil) (hs : es.all noStar = true) (hl : es.length < 29) (hbase : attributeBase o b.nm X.env (eval o X.env) = eval o X.env) (hline : (apos.endLine == pos.line) = true) :
    PE X (.Call (.Attribute o b.nm apos) es [] pos) (lE X.K (gBm b.ty b.m to t)) := by
  have key : ∀ {T id : String} {name : Str} {ty : D → Hg → Prop} {m : Mg}, PlainAttrs T → Slot T name id → typeOf (.builtin id) = pure (.type "method_descriptor") → MtR X id (lM X.K m) → (∀ {H : Hp} {G : Hg} {x : D} {v : V}, Rp X.K H x v → Hr X.K H G → ty x G → tyV X.K T v H) →
      attributeBase o name X.env (eval o X.env) = eval o X.env → PE X (.Call (.Attribute o name apos) es [] pos) (lE X.K (gBm ty m to t)) := by
    intro T id name ty m pa sl hty hm hy hbs
    cases es with
    | nil =>
      rw [hn rfl]
      exact PE.imp (pe_bm0 pa sl hty hm he hbs hline) fun σ H Q h => lBM0 hy h
    | cons e es =>
      have h2 := hs
      simp only [List.all_cons, Bool.and_eq_true] at h2
      refine PE.imp (pe_bm pa sl hty hm he ha hbs ?_ hline (star_cons h2.1) (star_plain h2.2)) fun σ H Q h => lBM hy h
      rw [star_all hs pos]
      simp only [Bool.true_and, Bool.and_eq_true, decide_eq_true_eq]
      refine ⟨rfl, ?_⟩
      show (e :: es).length + 0 + 0 < 30
      omega
  cases b with
  | append => exact key F.plainAttrs_list F.slot_list_append F.type_list_append mg_append ty_list hbase
  | pop => exact key F.plainAttrs_list F.slot_list_pop F.type_list_pop mg_pop ty_list hbase
  | insert => exact key F.plainAttrs_list F.slot_list_insert F.type_list_insert mg_insert ty_list hbase
  | remove => exact key F.plainAttrs_list F.slot_list_remove F.type_list_remove mg_remove ty_list hbase
  | join => exact key F.plainAttrs_str F.slot_str_join F.type_str_join mg_join ty_str hbase
theorem wArgs_nil {f : Expr → TEg} {es : List Expr} (h : es = []) : wArgs f es = gNil := by subst h; rfl
theorem ge_orAll {e : Expr} : ∀ {l : List TEg}, (∀ t ∈ l, PE X e (lE X.K t)) → PE X e (lE X.K (orAll l))
  | [], _ => ge_bad
  | [t], h => h t (by simp)
  | t :: u :: r, h => ge_or2 (h t (by simp)) (ge_orAll fun t ht => h t (List.mem_cons_of_mem _ ht))
theorem wMeth_ok (c : CxOk Γ k X s) {f : Expr → TEg} (hf : ∀ e, PE X e (lE X.K (f e))) {o : Expr} {m : Str} {apos cpos : Pos} {args : List Expr} : PE X (.Call (.Attribute o m apos) args [] cpos) (lE X.K (wMeth Γ f o m apos cpos args)) := by
  unfold wMeth
  split
  · rename_i h
    obtain ⟨h1, h2, h3, h4⟩ := h
    refine ge_orAll fun t ht => ?_
    rcases List.mem_append.mp ht with ht | ht
    · split at ht
      · rename_i b hb
        obtain rfl := List.mem_singleton.mp ht
        have e := bmtOf_nm hb
        rw [e]
        exact ge_bmW c b (hf o) (wArgs_ok hf h2) wArgs_nil h2 h3 (base_of h1) h4
      · cases ht
    · obtain ⟨p, hp, rfl⟩ := List.mem_map.mp ht
      obtain ⟨hp1, hp2⟩ := List.mem_filter.mp hp
      have e := strB_eq hp2
      subst e
      obtain ⟨fa, fd, F, M, C, B⟩ := c.mts p hp1
      exact ge_methW (hf o) C M F c.room B (wArgs_ok hf h2) wArgs_nil h2 h3 (base_of h1) h4
  · exact ge_bad
theorem wCall_ok (c : CxOk Γ k X s) {f : Expr → TEg} (hf : ∀ e, PE X e (lE X.K (f e))) {x : Str} {p pos : Pos} {args : List Expr} : PE X (.Call (.Name x p) args [] pos) (lE X.K (wCall Γ f s x args)) := by
  unfold wCall
  split
  · rename_i h
    obtain ⟨h1, h2, h3⟩ := h
    obtain ⟨o1, o2, o3⟩ := okN_ok h1
    have hg := c.gl h2
    split
    · rename_i F hF
      obtain ⟨fa, fd, Fk, hm, hk, hb⟩ := c.fns _ (look_mem hF)
      cases args with
      | nil => exact ge_call0 (E := fun _ _ _ => True) Fk c.room hg hm hk hb C8.pass0 o1
      | cons e es =>
        have h4 := h3
        simp only [List.all_cons, Bool.and_eq_true] at h4
        exact ge_call (E := fun _ _ _ => True) Fk c.room hg hm hk hb C8.pass0 (wArgs_ok hf h3) o1 (star_cons h4.1) (star_plain h4.2)
    · split
      · rename_i F hF
        obtain ⟨fa, fd, k', hk', Fk, hm, M, hb⟩ := c.mks _ (look_mem hF)
        have hr : Room (k' + 1) X.A := c.room.mono hk'
        cases args with
        | nil => exact ge_make0 M Fk hr hg hm hb o1
        | cons e es =>
          have h4 := h3
          simp only [List.all_cons, Bool.and_eq_true] at h4
          exact ge_make M Fk hr hg hm hb (wArgs_ok hf h3) o1 (star_cons h4.1) (star_plain h4.2)
      · split
        · rename_i hi
          split
          · rename_i e T p2
            split
            · rename_i Ts hT
              obtain ⟨t1, t2, t3, t4⟩ := tyOf_ok hT
              split
              · rename_i hgT
                have h4 := h3
                simp only [List.all_cons, Bool.and_eq_true] at h4
                exact ge_isa t1 (hf e) hg (strB_eq hi) (by rw [strB_eq hi]; exact c.isi) (c.gl hgT) (c.tys _ _ hT) t2 t3 t4 (star_cons h4.1) rfl
              · exact ge_bad
            · split
              · rename_i F hF
                obtain ⟨fa, fd, k', hk', Fk, hm, M, hb⟩ := c.mks _ (look_mem hF)
                split
                · rename_i h5
                  have h4 := h3
                  simp only [List.all_cons, Bool.and_eq_true] at h4
                  exact ge_isO (hf e) hg (strB_eq hi) (by rw [strB_eq hi]; exact c.isi) (c.gl h5.1) hm (okN_ok h5.2).1 (star_cons h4.1) rfl
                · exact ge_bad
              · exact ge_bad
          · exact ge_bad
        · split
          · rename_i e es b hb
            have h4 := h3
            simp only [List.all_cons, Bool.and_eq_true] at h4
            have e := bltOf_nm hb
            subst e
            exact blt_ok c b hg (wArgs_ok hf h3) (star_cons h4.1) (star_plain h4.2)
          · exact ge_bad
  · exact ge_bad
theorem okT_ok (c : CxOk Γ k X s) {x : Str} (h : okT s x = true) : L2.Loc X.env.scope x ∧ (X.fn x = true ∨ X.env.scope.names.lookup x = some .local) := by
  unfold okT at h
  simp only [Bool.and_eq_true, Bool.or_eq_true] at h
  refine ⟨by rw [c.sc]; exact locB_ok h.1, ?_⟩
  rcases h.2 with h | h
  · exact .inl (by rw [c.fn]; exact h)
  · exact .inr (by rw [c.sc]; exact plB_ok h)
theorem tgNames_ok (c : CxOk Γ k X s) : ∀ {es : List Expr} {is : List Nat}, tgNames s.N (okT s) es = some is → PGs X es (gsN is) ∧ (assignEach es X.env).length = is.length ∧ (assignEach es X.env).findIdx? (·.1) = none
  | [], is, h => by
    simp only [tgNames] at h
    cases h
    exact ⟨pgs_nil, rfl, rfl⟩
  | .Name x p :: r, is, h => by
    simp only [tgNames] at h
    split at h
    · rename_i hx
      split at h
      · rename_i i is' hi hr
        cases h
        obtain ⟨h1, h2, h3⟩ := tgNames_ok c hr
        obtain ⟨l1, l2⟩ := okT_ok c hx
        refine ⟨pgs_cons (pg_name c.nd (by rw [c.N]; exact ixOf_get hi) l1 l2) h1 rfl, ?_, ?_⟩
        · show (assignEach r X.env).length + 1 = is'.length + 1
          rw [h2]
        · show List.findIdx? (·.1) ((false, assign (.Name x p) X.env) :: assignEach r X.env) = none
          rw [List.findIdx?_cons]
          simp only [Bool.false_eq_true, if_false, h3]
          rfl
      · cases h
    · cases h
theorem wTg_ok (c : CxOk Γ k X s) {tg : Expr} {t : Tg} (h : wTg s.N (okT s) tg = some t) : PG X tg (t.g X.K) := by
  cases tg with
  | Name x p =>
    simp only [wTg] at h
    split at h
    · rename_i hx
      obtain ⟨l1, l2⟩ := okT_ok c hx
      cases e : ixOf x s.N with
      | none => rw [e] at h; cases h
      | some i =>
        rw [e] at h
        cases h
        exact pg_name c.nd (by rw [c.N]; exact ixOf_get e) l1 l2
    · cases h
  | Tuple es x1 p =>
    simp only [wTg] at h
    cases e : tgNames s.N (okT s) es with
    | none => rw [e] at h; cases h
    | some is =>
      rw [e] at h
      cases h
      obtain ⟨h1, h2, h3⟩ := tgNames_ok c e
      exact pg_tup c.calm h1 h2 h3
  | _ => simp [wTg] at h
theorem wIfs_ok {g : Sc → Expr → TTg} (hg : ∀ e, PT X e (lT X.K (g s e))) : ∀ ifs : List Expr, PTs X ifs (lT X.K (wIfs g s ifs))
  | [] => gts_nil
  | [c] => gts_one (hg c)
  | _ :: _ :: _ => ⟨fun _ _ _ _ _ _ ⟨_, _, _, _, _, t, _⟩ => t.elim⟩
theorem wIter_ok (c : CxOk Γ k X s) {f : Sc → Expr → TEg} (hf : ∀ e, PE X e (lE X.K (f s e))) {tg : Expr} (e : Expr) : PI X tg e (lI X.K (wIter Γ f s e)) := by
  unfold wIter
  have bd : ∀ {e : Expr}, PI X tg e (lI X.K (gIterA bad)) := gi_any ge_bad
  split
  · rename_i x p args pos
    split
    · rename_i h
      obtain ⟨h1, h2, h3⟩ := h
      have e := strB_eq h1
      subst e
      have hg := c.gl h2
      split
      · rename_i a
        have h4 := h3
        simp only [List.all_cons, Bool.and_eq_true] at h4
        exact gi_rng1 hg c.rng (wArgs_ok hf h3) (star_cons h4.1)
      · rename_i a b
        have h4 := h3
        simp only [List.all_cons, Bool.and_eq_true] at h4
        exact gi_rng2 hg c.rng (wArgs_ok hf h3) (by rw [star_cons h4.1, star_cons h4.2.1]; rfl) (star_cons h4.2.1)
      · exact bd
    · split
      · rename_i h
        obtain ⟨h1, h2, h3⟩ := h
        have e := strB_eq h1
        subst e
        split
        · have h4 := h3
          simp only [List.all_cons, Bool.and_eq_true] at h4
          split
          · rename_i h5
            obtain ⟨h5, h6, h7⟩ := h5
            have e := strB_eq h5
            subst e
            exact gi_rvR1 (c.gl h2) c.rev (c.gl h6) c.rng (hf _) (star_cons h7)
          · exact gi_rev (c.gl h2) c.rev (wArgs_ok hf h3) (star_cons h4.1)
        · have h4 := h3
          simp only [List.all_cons, Bool.and_eq_true] at h4
          split
          · rename_i h5
            obtain ⟨h5, h6, h7, h8⟩ := h5
            have e := strB_eq h5
            subst e
            exact gi_rvR2 (c.gl h2) c.rev (c.gl h6) c.rng (hf _) (hf _) (star_cons h7) (star_cons h8) (star_plain (by simp [h8]))
          · exact gi_rev (c.gl h2) c.rev (wArgs_ok hf h3) (star_cons h4.1)
        · have h4 := h3
          simp only [List.all_cons, Bool.and_eq_true] at h4
          exact gi_rev (c.gl h2) c.rev (wArgs_ok hf h3) (star_cons h4.1)
        · exact bd
      · exact gi_any (hf _)
  · exact gi_any (hf _)
theorem wLc_ok (c : CxOk Γ k X s) {f : Sc → Expr → TEg} {g : Sc → Expr → TTg} (hf : ∀ {X s}, CxOk Γ k X s → ∀ e, PE X e (lE X.K (f s e))) (hg : ∀ {X s}, CxOk Γ k X s → ∀ e, PT X e (lT X.K (g s e))) {elt tg iter : Expr} {ifs : List Expr} {scope : Scope} {pos : Pos} :
    PE X (.ListComp elt [⟨tg, iter, ifs, 0⟩] scope pos) (lE X.K (wLc Γ f g s elt tg iter ifs scope)) := by
  unfold wLc
  simp only
  split
  · rename_i h
    split
    · rename_i t ht
      split
      · rename_i hi
        refine ge_lc (own := ownOf s.N scope) c.calm c.nd (wIter_ok c (hf c) iter) (by rw [c.N, c.sc]; exact blkOk_by h.1) (fun i hx => ?_) (fun sh H C cl fp => wTg_ok (c.blk sh H scope (blkOk_by h.1).kind cl C fp) ht) (fun sh H C cl fp => wIfs_ok (hg (c.blk sh H scope (blkOk_by h.1).kind cl C fp)) ifs) (fun sh H C cl fp => hf (c.blk sh H scope (blkOk_by h.1).kind cl C fp) elt) (noSet_ok h.2)
        have := List.all_eq_true.mp hi i hx
        simpa using this
      · exact ge_bad
    · exact ge_bad
  · exact ge_bad
theorem wDc_ok (c : CxOk Γ k X s) {f : Sc → Expr → TEg} {g : Sc → Expr → TTg} (hf : ∀ {X s}, CxOk Γ k X s → ∀ e, PE X e (lE X.K (f s e))) (hg : ∀ {X s}, CxOk Γ k X s → ∀ e, PT X e (lT X.K (g s e))) {kx vx tg iter : Expr} {ifs : List Expr} {scope : Scope} {pos : Pos} :
    PE X (.DictComp kx vx [⟨tg, iter, ifs, 0⟩] scope pos) (lE X.K (wDc Γ f g s kx vx tg iter ifs scope)) := by
  unfold wDc
  simp only
  split
  · rename_i h
    split
    · rename_i t ht
      split
      · rename_i hi
        refine ge_dc (own := ownOf s.N scope) c.calm c.nd (wIter_ok c (hf c) iter) (by rw [c.N, c.sc]; exact blkOk_by h.1) (fun i hx => ?_) (fun sh H C cl fp => wTg_ok (c.blk sh H scope (blkOk_by h.1).kind cl C fp) ht) (fun sh H C cl fp => wIfs_ok (hg (c.blk sh H scope (blkOk_by h.1).kind cl C fp)) ifs) (fun sh H C cl fp => hf (c.blk sh H scope (blkOk_by h.1).kind cl C fp) kx) (fun sh H C cl fp => hf (c.blk sh H scope (blkOk_by h.1).kind cl C fp) vx) (noSet_ok h.2)
        have := List.all_eq_true.mp hi i hx
        simpa using this
      · exact ge_bad
    · exact ge_bad
  · exact ge_bad
theorem ge_neg {a : Expr} {pos : Pos} {t : TEg} (ha : PE X a (lE X.K t)) : PE X (.UnaryOp .USub a pos) (lE X.K (gNeg t)) :=
  PE.imp (pe_un un_neg ha) fun σ H Q ⟨env, G, P, er, hr, t, k⟩ => by
    refine ⟨env, G, _, er, hr, t, fun d G1 v H1 t1 x1 r1 g1 => ?_⟩
    split at t1
    · cases r1
      exact ⟨_, rfl, k _ G1 _ H1 t1 x1 (.int _) g1⟩
    · exact t1.elim
theorem str_eta (x : Str) : (⟨x.cps.toList.toArray⟩ : Str) = x := by simp
theorem str_rp {K : PySem.W.Frag} {H : Hp} (x : Str) : Rp K H (.str x.cps.toList) (.str x) := by
  have := Rp.str (K := K) (H := H) x.cps.toList
  rw [str_eta] at this
  exact this
theorem wAnd_ok {g : Expr → TTg} (hg : ∀ e, PT X e (lT X.K (g e))) {pos : Pos} : ∀ {es : List Expr}, PW X (.BoolOp .And es pos) (lT X.K (wAnd g es))
  | [] => ⟨fun _ _ _ _ _ _ _ ⟨_, _, _, _, _, t, _⟩ => t.elim⟩
  | [a] => pw_and1 (hg a)
  | a :: b :: r => gw_and (hg a) (wAnd_ok hg)
theorem wOr_ok {g : Expr → TTg} (hg : ∀ e, PT X e (lT X.K (g e))) {pos : Pos} : ∀ {es : List Expr}, PW X (.BoolOp .Or es pos) (lT X.K (wOr g es))
  | [] => ⟨fun _ _ _ _ _ _ _ ⟨_, _, _, _, _, t, _⟩ => t.elim⟩
  | [a] => pw_or1 (hg a)
  | a :: b :: r => gw_or (hg a) (wOr_ok hg)
theorem ge_and1 {a : Expr} {pos : Pos} {t : TEg} (ha : PE X a (lE X.K t)) : PE X (.BoolOp .And [a] pos) (lE X.K t) := pe_one ha
theorem ge_or1 {a : Expr} {pos : Pos} {t : TEg} (ha : PE X a (lE X.K t)) : PE X (.BoolOp .Or [a] pos) (lE X.K t) := pe_one ha
theorem wAndE_ok {f : Expr → TEg} (hf : ∀ e, PE X e (lE X.K (f e))) {pos : Pos} : ∀ {es : List Expr}, PE X (.BoolOp .And es pos) (lE X.K (wAndE f es))
  | [] => ge_bad
  | [a] => ge_and1 (hf a)
  | a :: b :: r => ge_and (hf a) (wAndE_ok hf)
theorem wOrE_ok {f : Expr → TEg} (hf : ∀ e, PE X e (lE X.K (f e))) {pos : Pos} : ∀ {es : List Expr}, PE X (.BoolOp .Or es pos) (lE X.K (wOrE f es))
  | [] => ge_bad
  | [a] => ge_or1 (hf a)
  | a :: b :: r => ge_or (hf a) (wOrE_ok hf)
theorem wEx_ok (c : CxOk Γ k X s) {f : Sc → Expr → TEg} {g : Sc → Expr → TTg} (hf : ∀ {X s}, CxOk Γ k X s → ∀ e, PE X e (lE X.K (f s e))) (hg : ∀ {X s}, CxOk Γ k X s → ∀ e, PT X e (lT X.K (g s e))) (e : Expr) : PE X e (lE X.K (wEx Γ f g s e)) := by
  have hu : X.A.units + 1 < cLine := by have := c.room.un; omega
  unfold wEx
  split
  · exact ge_c pe_int fun H => .int _
  · exact ge_c pe_str fun H => str_rp _
  · exact ge_c pe_bl fun H => .bl _
  · exact ge_c pe_non fun H => .non
  · exact wName_ok c
  · split
    · rename_i h; exact ge_op (opR_ok c h) (hf c _) (hf c _)
    · exact ge_bad
  · exact ge_not (hf c _)
  · exact ge_neg (hf c _)
  · exact wAndE_ok (hf c)
  · exact wOrE_ok (hf c)
  · split
    · rename_i h
      split
      · rename_i hm; exact ge_cmp (cmpR_ok c h) (hf c _) (hf c _) hm
      · exact ge_bad
    · exact ge_bad
  · split
    · rename_i h h'
      split
      · rename_i hm; exact ge_chain (cmpR_ok c h) (cmpR_ok c h') (hf c _) (hf c _) (hf c _) hm
      · exact ge_bad
    · exact ge_bad
  · exact ge_if (hg c _) (hf c _) (hf c _)
  · split
    · rename_i h; exact ge_tup (wArgs_ok (hf c) h)
    · exact ge_bad
  · split
    · rename_i h; exact ge_lst (wArgs_ok (hf c) h)
    · exact ge_bad
  · exact ge_d0
  · split
    · rename_i h; exact ge_disp (wPairs_ok (hf c) h.1) (by simp) (by simp; omega)
    · exact ge_bad
  · exact ge_slice (hf c _) (wPart_ok (hf c) _) (wPart_ok (hf c) _)
  · split
    · rename_i h; exact ge_ix hu (hf c _) (hf c _) (plainIx h)
    · exact ge_bad
  · split
    · rename_i h
      have := ge_fld (f := ‹Str›) (pos := ‹Pos›) (hf c ‹Expr›) (base_of h)
      rw [c.K] at this ⊢
      exact this
    · exact ge_bad
  · exact wCall_ok c (hf c)
  · exact wMeth_ok c (hf c)
  · exact wLc_ok c hf hg
  · exact wDc_ok c hf hg
  · exact ge_bad
theorem wTx_ok (c : CxOk Γ k X s) {f : Sc → Expr → TEg} {g : Sc → Expr → TTg} (hf : ∀ {X s}, CxOk Γ k X s → ∀ e, PE X e (lE X.K (f s e))) (hg : ∀ {X s}, CxOk Γ k X s → ∀ e, PT X e (lT X.K (g s e))) (e : Expr) : PT X e (lT X.K (wTx f g s e)) := by
  unfold wTx
  split
  · exact gt_not (hg c _)
  · exact (wAnd_ok (hg c)).pt
  · exact (wOr_ok (hg c)).pt
  · split
    · rename_i h
      split
      · rename_i hm; exact gt_cmp (cmpR_ok c h) (hf c _) (hf c _) hm
      · exact gt_bad
    · exact gt_bad
  · split
    · rename_i h h'
      split
      · rename_i hm; exact gt_chain (cmpR_ok c h) (cmpR_ok c h') (hf c _) (hf c _) (hf c _) hm
      · exact gt_bad
    · exact gt_bad
  · split
    · rename_i h; exact gt_tru (hf c _) (plainT_ok h)
    · exact gt_bad
theorem wBoth_ok : ∀ n, (∀ {X s}, CxOk Γ k X s → ∀ e, PE X e (lE X.K ((wBoth Γ n).1 s e))) ∧ (∀ {X s}, CxOk Γ k X s → ∀ e, PT X e (lT X.K ((wBoth Γ n).2 s e)))
  | 0 => ⟨fun _ _ => ge_bad, fun _ _ => gt_bad⟩
  | n + 1 => ⟨fun c e => wEx_ok c (wBoth_ok n).1 (wBoth_ok n).2 e, fun c e => wTx_ok c (wBoth_ok n).1 (wBoth_ok n).2 e⟩
end
end Vc

set_option Elab.async false
set_option linter.all false
set_option autoImplicit false
set_option maxRecDepth 100000
set_option maxHeartbeats 2000000
namespace Vc
open PySem PySem.Spec PyProof.Rows L2
section
variable {X : Cx}
theorem ps_setDc {i : Nat} {y : Str} {py : Pos} {kx vx tg iter : Expr} {ifs : List Expr} {scope : Scope} {own : List (Str × Nat)} {pos spos : Pos} {wi : TI} {g : TG} {tt : TT} {tk tv : TE} (hc : X.calm = true) (hN : X.N.Nodup) (hy : X.N[i]? = some y) (hyl : X.env.scope.names.lookup y = some .local)
    (hsw : swapsWith (.DictComp kx vx [⟨tg, iter, ifs, 0⟩] scope pos) (some (.Name y py)) spos.line X.env = pure true) (hi : PI X tg iter wi) (ok : BlkOk X.N X.env.scope scope own)
    (hg : ∀ (s : Shared) (H : Hp) (C : Addr) (cl : List (Str × Addr)) (fp : List Addr), PG (X.blk s H scope (compEnvC scope cl C X.env) fp) tg g) (ht : ∀ (s : Shared) (H : Hp) (C : Addr) (cl : List (Str × Addr)) (fp : List Addr), PTs (X.blk s H scope (compEnvC scope cl C X.env) fp) ifs tt)
    (hk : ∀ (s : Shared) (H : Hp) (C : Addr) (cl : List (Str × Addr)) (fp : List Addr), PE (X.blk s H scope (compEnvC scope cl C X.env) fp) kx tk)
    (he : ∀ (s : Shared) (H : Hp) (C : Addr) (cl : List (Str × Addr)) (fp : List Addr), PE (X.blk s H scope (compEnvC scope cl C X.env) fp) vx tv) (hs : ∀ x, foldedSetIterable iter X.env x = pure x) :
    PS X (.Assign [.Name y py] (.DictComp kx vx [⟨tg, iter, ifs, 0⟩] scope pos) spos) (tAsg (tDc wi g tt tk tv (own.map (·.2))) (L2.gName i)) := by
  refine ⟨fun pins s σ H D I h => ?_⟩
  rw [exec_Assign_Name_used _ _ _ _ hsw]
  refine wpAny_bind (wpAny_standAt (wpAny_bind ?_))
  show wpAny _ X.A (do let _ ← comprehension (.DictComp kx vx [⟨tg, iter, ifs, 0⟩] scope pos) scope X.env (firstIterPos [⟨tg, iter, ifs, 0⟩] pos) newDict false (eval iter X.env) (some (assign (.Name y py) X.env))) _ _ s
  have h : tDc wi g tt tk tv (own.map (·.2)) σ H (fun x H1 => L2.gName i x σ H1 D.nx) := h
  refine wpAny_bind (thn (dc_core (Qf := fun _ s' => SP X pins D .next s') hc hN I hi ok hg ht hk he hs h fun L C s' m H' I' q hn f => ?_) fun _ s' hq => wpAny_pure (wpAny_pure hq))
  show wpAny _ _ (assign (.Name y py) X.env (.ref L)) _ _ _
  refine wpAny_assign_Name (store_ok2 (v := V.ref L) I' hN hy (.inl hyl) rfl (fun s2 I2 ⟨a, sb, ha⟩ => ?_) (.inr hyl))
  obtain ⟨f0, f1, f2, f3, f4, f5⟩ := f
  have haC : C ≠ a := by
    rcases ha with z | z
    · rw [z]; exact f1
    · exact fun e => f4 y a z e.symm
  refine ⟨m, hn.sameBut sb haC, fun h3 sb3 => ?_⟩
  exact ⟨_, H', I2.turned (t' := s2.toks) (fun b o hb e => (sb3.2 b hb).trans e) f0 f1 f3 f4 f5, q⟩
theorem sw_trueD {kx vx : Expr} {gs : List Comprehension} {scope : Scope} {pos py : Pos} {y : Str} {l : Nat} {env : Env} (hk : env.scope.kind = .function) (hy : env.scope.names.lookup y = some .local) (hl : (py.line == pos.line) = true)
    (ha : (scope.names.any fun (n, k) => n == y && (k == .local || k == .cell)) = false) : swapsWith (.DictComp kx vx gs scope pos) (some (.Name y py)) l env = pure true := by
  have ky : env.kindOf y = some .local := hy
  have hb : env.blockKind = .function := by unfold Env.blockKind; rw [hk]; rfl
  unfold swapsWith
  simp only [hb, ky, ha, Expr.pos, hl]
  rfl
theorem gs_setDc {i : Nat} {y : Str} {py : Pos} {kx vx tg iter : Expr} {ifs : List Expr} {scope : Scope} {own : List (Str × Nat)} {pos spos : Pos} {ti : TIg} {g : Tg} {tt : TTg} {tk tv : TEg} (hc : X.calm = true) (hN : X.N.Nodup) (hy : X.N[i]? = some y) (hyl : X.env.scope.names.lookup y = some .local)
    (hsw : swapsWith (.DictComp kx vx [⟨tg, iter, ifs, 0⟩] scope pos) (some (.Name y py)) spos.line X.env = pure true) (hi : PI X tg iter (lI X.K ti)) (ok : BlkOk X.N X.env.scope scope own) (hx : ∀ i ∈ g.ix, i ∈ own.map (·.2))
    (hg : ∀ (s : Shared) (H : Hp) (C : Addr) (cl : List (Str × Addr)) (fp : List Addr), PG (X.blk s H scope (compEnvC scope cl C X.env) fp) tg (g.g X.K)) (ht : ∀ (s : Shared) (H : Hp) (C : Addr) (cl : List (Str × Addr)) (fp : List Addr), PTs (X.blk s H scope (compEnvC scope cl C X.env) fp) ifs (lT X.K tt))
    (hk : ∀ (s : Shared) (H : Hp) (C : Addr) (cl : List (Str × Addr)) (fp : List Addr), PE (X.blk s H scope (compEnvC scope cl C X.env) fp) kx (lE X.K tk))
    (he : ∀ (s : Shared) (H : Hp) (C : Addr) (cl : List (Str × Addr)) (fp : List Addr), PE (X.blk s H scope (compEnvC scope cl C X.env) fp) vx (lE X.K tv)) (hs : ∀ x, foldedSetIterable iter X.env x = pure x) :
    PS X (.Assign [.Name y py] (.DictComp kx vx [⟨tg, iter, ifs, 0⟩] scope pos) spos) (lS X.K (gAsg (gDc ti g tt tk tv (own.map (·.2))) (gName i))) := by
  have base := ps_setDc hc hN hy hyl hsw hi ok hg ht hk he hs
  refine ⟨fun pins s σ H D I h => ?_⟩
  obtain ⟨env, G, E, er, hr, t, k⟩ := h
  have q : lE X.K (gDc ti g tt tk tv (own.map (·.2))) σ H (fun v H1 => D.nx (σ.set i (some v)) H1) :=
    ⟨env, G, _, er, hr, t, fun d G1 v H1 t1 x1 r1 g1 => k.nx _ _ _ _ t1 x1 ((er.ext x1).set r1 i) g1⟩
  let D2 : Ends := { D with nx := fun σ' H' => D.nx σ' H' ∨ ∃ a u, H' a = some u ∧ Mut (some u) ∧ ∀ od, D.nx σ' (upd H' a (.frz od u)) }
  have q3 : tAsg (tDc (lI X.K ti) (g.g X.K) (lT X.K tt) (lE X.K tk) (lE X.K tv) (own.map (·.2))) (L2.gName i) D2 σ H := by
    show tDc _ _ _ _ _ _ σ H fun x H1 => D2.nx (σ.set i (some x)) H1
    refine lDc hx q fun v H1 z => ?_
    rcases z with z | ⟨a, u, e, ha, m, z⟩
    · exact .inl z
    · exact .inr ⟨a, u, ha, m, z⟩
  refine thn (base.run pins s σ H D2 I q3) fun f s' z => ?_
  cases f with
  | next =>
    obtain ⟨σ', H', I', z⟩ := z
    rcases z with z | ⟨a, u, ha, m, z⟩
    · exact ⟨σ', H', I', z⟩
    · obtain ⟨od, I2⟩ := I'.lock ha m
      exact ⟨σ', _, I2, z od⟩
  | brk => exact z
  | cont => exact z
  | ret u => exact z
end
def noComp : Expr → Bool
  | .ListComp .. => false
  | .SetComp .. => false
  | .DictComp .. => false
  | _ => true
theorem noComp_ok {e : Expr} {tg : Option Expr} {l : Nat} {env : Env} (h : noComp e = true) : swapsWith e tg l env = pure false := by
  cases e <;> first | rfl | simp [noComp] at h
def noName : Expr → Bool
  | .Name .. => false
  | _ => true
theorem noName_ok {e tg : Expr} {l : Nat} {env : Env} (h : noName tg = true) : swapsWith e (some tg) l env = pure false := by
  cases e <;> first | rfl | (cases tg <;> first | rfl | simp [noName] at h)
theorem noNameS {e tg : Expr} {l : Nat} {env : Env} (h : noName tg = true) : swapsWithSole [tg] e l env = pure false := noName_ok h
def noTup : Expr → Bool
  | .Tuple .. => false
  | _ => true
theorem noTup_ok {e tg : Expr} {env : Env} (h : noTup e = true) : swappedStores [tg] e env = pure none := by
  cases e <;> first | (simp [noTup] at h; done) | (cases tg <;> rfl)
theorem noTup_ok2 {e tg : Expr} {env : Env} (h : noTup tg = true) (h2 : (match tg with | .List .. => false | _ => true) = true) : swappedStores [tg] e env = pure none := by
  cases tg <;> first | (simp [noTup] at h; done) | (simp at h2; done) | (cases e <;> rfl)
def noList : Expr → Bool
  | .List .. => false
  | _ => true
mutual
def wTgt (f : Expr → TEg) (s : Sc) : Expr → Option TGg
  | .Name x _ => if okT s x = true then (ixOf x s.N).map gName else none
  | .Subscript o i _ => if noSl i = true then some (gGSub (f o) (f i)) else none
  | .Tuple es _ _ => (wTgts f s es).map fun u => gGTup es.length u
  | _ => none
def wTgts (f : Expr → TEg) (s : Sc) : List Expr → Option TGsg
  | [] => some gGNil
  | e :: es => if noStar e = true then (match wTgt f s e, wTgts f s es with
    | some t, some u => some (gGCons t u)
    | _, _ => none) else none
end
def sameNm (scope : Scope) (y : Str) : Bool := scope.names.any fun (n, k) => n == y && (k == .local || k == .cell)
def wSetC (Γ : Tb) (f : Sc → Expr → TEg) (g : Sc → Expr → TTg) (s : Sc) (y : Str) (py : Pos) : Expr → TSg
  | .ListComp elt [⟨tg, iter, ifs, 0⟩] scope pos => if (py.line == pos.line) = true ∧ sameNm scope y = false ∧ plB s.sc y = true then (match ixOf y s.N with
      | some i => gAsg (wLc Γ f g s elt tg iter ifs scope) (gName i)
      | none => badS) else badS
  | .DictComp kx vx [⟨tg, iter, ifs, 0⟩] scope pos => if (py.line == pos.line) = true ∧ sameNm scope y = false ∧ plB s.sc y = true then (match ixOf y s.N with
      | some i => gAsg (wDc Γ f g s kx vx tg iter ifs scope) (gName i)
      | none => badS) else badS
  | _ => badS
def wPar (f : Expr → TEg) (s : Sc) : Expr → Expr → Option TSg
  | .Tuple [.Name x px, .Name y py] _ _, .Tuple [a, b] _ _ => if plB s.sc x = true ∧ plB s.sc y = true ∧ (px.line == py.line) = true ∧ strB x y = false ∧ noStar a = true ∧ noStar b = true ∧ (foldedForSure 8 a && foldedForSure 8 b) = false ∧ (constantsAlone 8 a && constantsAlone 8 b) = false then (match ixOf x s.N, ixOf y s.N with
      | some i, some j => if i = j then none else some (gPar i j (wArgs f [a, b]))
      | _, _ => none) else none
  | _, _ => none
def wAssign (Γ : Tb) (f : Sc → Expr → TEg) (g : Sc → Expr → TTg) (s : Sc) (tg e : Expr) : TSg :=
  match tg with
  | .Attribute o x _ => gSFld Γ.K x.cps.toList (f s o) (f s e)
  | .Name y py => if noComp e = true then (if okT s y = true then (match ixOf y s.N with
      | some i => gAsg (f s e) (gName i)
      | none => badS) else badS) else wSetC Γ f g s y py e
  | .Tuple es k p => if noTup e = true then (match wTgt (f s) s (.Tuple es k p) with
      | some t => gAsg (f s e) t
      | none => badS) else (match wPar (f s) s (.Tuple es k p) e with
      | some t => t
      | none => badS)
  | .Subscript o i p => if noSl i = true then gAsg (f s e) (gGSub (f s o) (f s i)) else badS
  | _ => badS
def seqR (t : TSg) : List Stmt → TSg → TSg
  | [], _ => t
  | _ :: _, u => gSeq t u
def wSs1 (h : Stmt → TSg) : List Stmt → TSg
  | [] => gNext
  | [e] => h e
  | e :: r => gSeq (h e) (wSs1 h r)
def wSx (Γ : Tb) (f : Sc → Expr → TEg) (g : Sc → Expr → TTg) (s : Sc) (h : Stmt → TSg) : Stmt → TSg
  | .Expr e _ => if noComp e = true then gDrop (f s e) else badS
  | .Return (some e) _ => gRet (f s e)
  | .Return none _ => gRetN
  | .If c a b _ => gIfS (g s c) (wSs1 h a) (wSs1 h b)
  | .Assign [tg] e _ => wAssign Γ f g s tg e
  | .For tg iter body [] _ => (match wTgt (f s) s tg with
    | some t => if noSet iter = true then gFor (wIter Γ f s iter) t (wSs1 h body) else badS
    | none => badS)
  | .While c body [] _ => gWhile (g s c) (wSs1 h body)
  | .Pass _ => gNext
  | .Break _ => gBreak
  | .Continue _ => gCont
  | _ => badS
def wSt (Γ : Tb) (n : Nat) (s : Sc) : Nat → Stmt → TSg
  | 0 => fun _ => badS
  | m + 1 => wSx Γ (wBoth Γ n).1 (wBoth Γ n).2 s (wSt Γ n s m)
section
variable {Γ : Tb} {k : Nat} {X : Cx} {s : Sc}
mutual
theorem wTgt_ok (c : CxOk Γ k X s) {f : Expr → TEg} (hf : ∀ e, PE X e (lE X.K (f e))) : ∀ {tg : Expr} {t : TGg}, wTgt f s tg = some t → PG X tg (lG X.K t)
  | .Name x p, t, h => by
    simp only [wTgt] at h
    split at h
    · rename_i hx
      obtain ⟨l1, l2⟩ := okT_ok c hx
      cases e : ixOf x s.N with
      | none => rw [e] at h; cases h
      | some i =>
        rw [e] at h
        cases h
        exact gg_name c.nd (by rw [c.N]; exact ixOf_get e) l1 l2
    · cases h
  | .Subscript o i p, t, h => by
    simp only [wTgt] at h
    split at h
    · rename_i hx
      cases h
      have hu : X.A.units + 1 < cLine := by have := c.room.un; omega
      exact gg_sub hu (hf o) (hf i) (fun v => by cases i <;> first | rfl | simp [noSl] at hx)
    · cases h
  | .Tuple es k p, t, h => by
    simp only [wTgt] at h
    cases e : wTgts f s es with
    | none => rw [e] at h; cases h
    | some u =>
      rw [e] at h
      cases h
      obtain ⟨h1, h2, h3⟩ := wTgts_ok c hf e
      exact gg_tup c.calm h1 h2 h3
theorem wTgts_ok (c : CxOk Γ k X s) {f : Expr → TEg} (hf : ∀ e, PE X e (lE X.K (f e))) : ∀ {es : List Expr} {u : TGsg}, wTgts f s es = some u → PGs X es (lGs X.K u) ∧ (assignEach es X.env).length = es.length ∧ (assignEach es X.env).findIdx? (·.1) = none
  | [], u, h => by
    simp only [wTgts] at h
    cases h
    exact ⟨ggs_nil, rfl, rfl⟩
  | e :: es, u, h => by
    simp only [wTgts] at h
    split at h
    · rename_i hs
      split at h
      · rename_i t u' h1 h2
        cases h
        obtain ⟨g1, g2, g3⟩ := wTgts_ok c hf h2
        have hc : assignEach (e :: es) X.env = (false, assign e X.env) :: assignEach es X.env := by
          cases e <;> first | rfl | simp [noStar] at hs
        refine ⟨ggs_cons (wTgt_ok c hf h1) g1 (by rw [hc]; rfl), by rw [hc]; simp [g2], ?_⟩
        rw [hc, List.findIdx?_cons]
        simp only [Bool.false_eq_true, if_false, g3]
        rfl
      · cases h
    · cases h
end
theorem one_map {tg : Expr} {env : Env} (h : noStar tg = true) : (assignEach [tg] env).map (·.2) = [assign tg env] := by
  cases tg <;> first | rfl | simp [noStar] at h
theorem wSetC_ok (c : CxOk Γ k X s) {f : Sc → Expr → TEg} {g : Sc → Expr → TTg} (hf : ∀ {X s}, CxOk Γ k X s → ∀ e, PE X e (lE X.K (f s e))) (hg : ∀ {X s}, CxOk Γ k X s → ∀ e, PT X e (lT X.K (g s e))) {y : Str} {py pos : Pos} (e : Expr) :
    PS X (.Assign [.Name y py] e pos) (lS X.K (wSetC Γ f g s y py e)) := by
  have badC : ∀ {t : TGg}, PS X (.Assign [.Name y py] e pos) (lS X.K (gAsg bad t)) := ⟨fun _ _ _ _ _ _ ⟨_, _, _, _, _, t, _⟩ => t.elim⟩
  unfold wSetC
  split
  · rename_i elt tg iter ifs scope pos'
    split
    · rename_i h0
      obtain ⟨h1, h2, h3⟩ := h0
      split
      · rename_i i hi
        have hy := plB_ok h3
        rw [← c.sc] at hy
        unfold wLc
        simp only
        split
        · rename_i h
          split
          · rename_i t ht
            split
            · rename_i hix
              refine gs_setLc (own := ownOf s.N scope) c.calm c.nd (by rw [c.N]; exact ixOf_get hi) hy (sw_true c.kind hy h1 h2) (wIter_ok c (hf c) iter) (by rw [c.N, c.sc]; exact blkOk_by h.1) (fun i hx => ?_) (fun sh H C cl fp => wTg_ok (c.blk sh H scope (blkOk_by h.1).kind cl C fp) ht) (fun sh H C cl fp => wIfs_ok (hg (c.blk sh H scope (blkOk_by h.1).kind cl C fp)) ifs) (fun sh H C cl fp => hf (c.blk sh H scope (blkOk_by h.1).kind cl C fp) elt) (noSet_ok h.2)
              have := List.all_eq_true.mp hix i hx
              simpa using this
            · exact badC
          · exact badC
        · exact badC
      · exact gs_bad
    · exact gs_bad
  · rename_i kx vx tg iter ifs scope pos'
    split
    · rename_i h0
      obtain ⟨h1, h2, h3⟩ := h0
      split
      · rename_i i hi
        have hy := plB_ok h3
        rw [← c.sc] at hy
        unfold wDc
        simp only
        split
        · rename_i h
          split
          · rename_i t ht
            split
            · rename_i hix
              refine gs_setDc (own := ownOf s.N scope) c.calm c.nd (by rw [c.N]; exact ixOf_get hi) hy (sw_trueD c.kind hy h1 h2) (wIter_ok c (hf c) iter) (by rw [c.N, c.sc]; exact blkOk_by h.1) (fun i hx => ?_) (fun sh H C cl fp => wTg_ok (c.blk sh H scope (blkOk_by h.1).kind cl C fp) ht) (fun sh H C cl fp => wIfs_ok (hg (c.blk sh H scope (blkOk_by h.1).kind cl C fp)) ifs) (fun sh H C cl fp => hf (c.blk sh H scope (blkOk_by h.1).kind cl C fp) kx) (fun sh H C cl fp => hf (c.blk sh H scope (blkOk_by h.1).kind cl C fp) vx) (noSet_ok h.2)
              have := List.all_eq_true.mp hix i hx
              simpa using this
            · exact badC
          · exact badC
        · exact badC
      · exact gs_bad
    · exact gs_bad
  · exact gs_bad
theorem wPar_ok (c : CxOk Γ k X s) {f : Expr → TEg} (hf : ∀ e, PE X e (lE X.K (f e))) {tg e : Expr} {t : TSg} {pos : Pos} (h : wPar f s tg e = some t) : PS X (.Assign [tg] e pos) (lS X.K t) := by
  unfold wPar at h
  split at h
  · rename_i x px y py kt pt a b k2 pt2
    split at h
    · rename_i h0
      obtain ⟨h1, h2, h3, h4, h5, h6, h7, h8⟩ := h0
      split at h
      · rename_i i j hi hj
        split at h
        · cases h
        · rename_i hij
          cases h
          have hx := plB_ok h1
          have hy := plB_ok h2
          rw [← c.sc] at hx hy
          refine gs_par c.calm c.nd (by rw [c.N]; exact ixOf_get hi) (by rw [c.N]; exact ixOf_get hj) hij hx hy (wArgs_ok hf (by simp [h5, h6])) ?_ rfl
          have kx : X.env.kindOf x = some .local := hx
          have ky : X.env.kindOf y = some .local := hy
          have hb : X.env.blockKind = .function := by unfold Env.blockKind; rw [c.kind]; rfl
          have nxy : x ≠ y := by
            intro e; subst e; simp [strB] at h4
          have l2 : (py.line == px.line) = true := by
            have := beq_iff_eq.mp h3
            rw [this]; simp
          have nxy' : (y == x) = false := beq_eq_false_iff_ne.mpr (Ne.symm nxy)
          unfold swappedStores
          simp [hb, kx, ky, Expr.pos, l2, List.filterMap, List.any, h7, h8, List.all, List.eraseDups, List.eraseDupsBy, List.eraseDupsBy.loop, nxy']
          intro z
          exfalso
          rcases z with z | z
          · cases a <;> first | (simp [noStar] at h5; done) | cases z
          · cases b <;> first | (simp [noStar] at h6; done) | cases z
      · cases h
    · cases h
  · cases h
theorem wAssign_ok (c : CxOk Γ k X s) {f : Sc → Expr → TEg} {g : Sc → Expr → TTg} (hf : ∀ {X s}, CxOk Γ k X s → ∀ e, PE X e (lE X.K (f s e))) (hg : ∀ {X s}, CxOk Γ k X s → ∀ e, PT X e (lT X.K (g s e))) {tg e : Expr} {pos : Pos} :
    PS X (.Assign [tg] e pos) (lS X.K (wAssign Γ f g s tg e)) := by
  have hu : X.A.units + 1 < cLine := by have := c.room.un; omega
  unfold wAssign
  split
  · rename_i o x p
    have := gs_fld (f := x) (pos := pos) (pos' := p) (hf c o) (hf c e) (noName_ok rfl)
    rw [c.K] at this ⊢
    exact this
  · split
    · rename_i hc
      split
      · rename_i hx
        split
        · rename_i i hi
          obtain ⟨l1, l2⟩ := okT_ok c hx
          exact gs_set c.nd (by rw [c.N]; exact ixOf_get hi) l1 (hf c e) (noComp_ok hc) l2
        · exact gs_bad
      · exact gs_bad
    · exact wSetC_ok c hf hg e
  · split
    · rename_i hn
      split
      · rename_i t ht
        exact gs_asg (hf c e) (wTgt_ok c (hf c) ht) (noNameS rfl) (noTup_ok hn) rfl
      · exact gs_bad
    · split
      · rename_i t ht
        exact wPar_ok c (hf c) ht
      · exact gs_bad
  · rename_i o i p
    split
    · rename_i hi
      exact gs_asg (hf c e) (gg_sub hu (hf c o) (hf c i) (fun v => by cases i <;> first | rfl | simp [noSl] at hi)) (noNameS rfl) (noTup_ok2 rfl rfl) rfl
    · exact gs_bad
  · exact gs_bad
theorem wSs1_ok {h : Stmt → TSg} (hh : ∀ e, PS X e (lS X.K (h e))) : ∀ b : List Stmt, PSs X b (lS X.K (wSs1 h b))
  | [] => gss_nil
  | [e] => gss_one (hh e)
  | e :: e2 :: r => gss_cons (hh e) (wSs1_ok hh (e2 :: r))
theorem wSx_ok (c : CxOk Γ k X s) {f : Sc → Expr → TEg} {g : Sc → Expr → TTg} (hf : ∀ {X s}, CxOk Γ k X s → ∀ e, PE X e (lE X.K (f s e))) (hg : ∀ {X s}, CxOk Γ k X s → ∀ e, PT X e (lT X.K (g s e))) {h : Stmt → TSg} (hh : ∀ e, PS X e (lS X.K (h e))) (e : Stmt) : PS X e (lS X.K (wSx Γ f g s h e)) := by
  have hp : PassesOwn (model X.prog X.w) X.A X.env X.xe := by rw [c.xe]; exact PassesOwn.never
  unfold wSx
  split
  · split
    · rename_i hn; exact gs_expr (hf c _) (noComp_ok hn)
    · exact gs_bad
  · exact gs_ret (hf c _)
  · exact gs_retN
  · exact gs_if (hg c _) (wSs1_ok hh _) (wSs1_ok hh _)
  · exact wAssign_ok c hf hg
  · split
    · rename_i t ht
      split
      · rename_i hn; exact gs_for hp c.calm (wIter_ok c (hf c) _) (wTgt_ok c (hf c) ht) (wSs1_ok hh _) (noSet_ok hn)
      · exact gs_bad
    · exact gs_bad
  · exact gs_while hp (hg c _) (wSs1_ok hh _)
  · exact gs_pass
  · exact gs_break
  · exact gs_cont
  · exact gs_bad
theorem wSt_ok (c : CxOk Γ k X s) (n : Nat) : ∀ (m : Nat) (e : Stmt), PS X e (lS X.K (wSt Γ n s m e))
  | 0, _ => gs_bad
  | m + 1, e => wSx_ok c (wBoth_ok n).1 (wBoth_ok n).2 (wSt_ok c n m) e
end
end Vc

set_option Elab.async false
set_option linter.all false
set_option autoImplicit false
set_option maxRecDepth 100000
set_option maxHeartbeats 2000000
namespace Vc
open PySem PySem.Spec PyProof.Rows L2
def FnAt (P : Program) (w : World) (K : PySem.W.Frag) (mg : Str → Option Value) (base : Heap) (k : Nat) (x : Str) (F : Fn) : Prop :=
  ∃ fa fd, FnOk P w K mg base C8.CX0 k fa fd F.ps (lSp K F.sp) ∧ mg x = some (.ref fa) ∧ PySem.W.keepIn K (.ref fa) = true ∧ L2.Binds K fd F.ps []
def MkAt (P : Program) (w : World) (K : PySem.W.Frag) (mg : Str → Option Value) (base : Heap) (k : Nat) (x : Str) (F : Fn) : Prop :=
  ∃ fa fd k', k' + 1 ≤ k ∧ FnOk P w K mg base C8.CX0 k' fa fd F.ps (lSp K F.sp) ∧ mg x = some (.ref (cAt K x.cps.toList)) ∧ Mk K (cAt K x.cps.toList) fa ∧ L2.Binds K fd F.ps []
def MtAt (P : Program) (w : World) (K : PySem.W.Frag) (mg : Str → Option Value) (base : Heap) (k : Nat) (m C : Str) (F : Fn) : Prop :=
  ∃ fa fd, FnOk P w K mg base C8.CX0 k fa fd F.ps (lSp K F.sp) ∧ Meth K (cAt K C.cps.toList) m fa ∧ Cls K (cAt K C.cps.toList) ∧ L2.Binds K fd F.ps []
structure Wd (mg : Str → Option Value) : Prop where
  blt : ∀ b : Blt, mg b.nm = none
  tys : ∀ x T, tyOf x = some T → mg x = none
  isi : mg "isinstance" = none
  rng : mg "range" = none
  rev : mg "reversed" = none
section
variable {P : Program} {w : World} {K : PySem.W.Frag} {mg : Str → Option Value} {base : Heap}
theorem FnAt.mono {j k : Nat} {x : Str} {F : Fn} (h : FnAt P w K mg base j x F) (e : j ≤ k) : FnAt P w K mg base k x F :=
  let ⟨fa, fd, h1, h2⟩ := h
  ⟨fa, fd, h1.mono e, h2⟩
theorem MkAt.mono {j k : Nat} {x : Str} {F : Fn} (h : MkAt P w K mg base j x F) (e : j ≤ k) : MkAt P w K mg base k x F :=
  let ⟨fa, fd, k', h0, h1⟩ := h
  ⟨fa, fd, k', Nat.le_trans h0 e, h1⟩
theorem MtAt.mono {j k : Nat} {m C : Str} {F : Fn} (h : MtAt P w K mg base j m C F) (e : j ≤ k) : MtAt P w K mg base k m C F :=
  let ⟨fa, fd, h1, h2⟩ := h
  ⟨fa, fd, h1.mono e, h2⟩
structure TbOk (P : Program) (w : World) (K : PySem.W.Frag) (mg : Str → Option Value) (base : Heap) (k : Nat) (Γ : Tb) : Prop where
  kk : Γ.K = K
  wd : Wd mg
  fns : ∀ p ∈ Γ.fn, FnAt P w K mg base k p.1 p.2
  mks : ∀ p ∈ Γ.mkt, MkAt P w K mg base k p.1 p.2
  mts : ∀ p ∈ Γ.mt, MtAt P w K mg base k p.1 p.2.1 p.2.2
  cons : ∀ p ∈ Γ.con, ∃ v u, mg p.1 = some u ∧ RelV v u ∧ ∀ H, Rp K H p.2 v
def startD (N : List Str) (ds : List D) : Ev := ds.map some ++ List.replicate (N.length - ds.length) none
theorem start_er {H : Hp} {N : List Str} {ds : List D} {vs : List V} (r : RpA K H ds vs) : Er K H (startD N ds) (L2.start N vs) := by
  have hl := r.length
  unfold startD L2.start
  refine ⟨by simp [hl], fun i d h => ?_⟩
  by_cases hi : i < ds.length
  · rw [List.getElem?_append_left (by simpa using hi), List.getElem?_map] at h
    cases e : ds[i]? with
    | none => rw [e] at h; cases h
    | some a =>
      rw [e] at h
      cases h
      obtain ⟨v, hv, rv⟩ := r.get e
      refine ⟨v, ?_, rv⟩
      rw [List.getElem?_append_left (by simpa [← hl] using hi), List.getElem?_map, hv]
      rfl
  · rw [List.getElem?_append_right (by simpa using hi), List.getElem?_replicate] at h
    split at h <;> cases h
abbrev scOf (N : List Str) (scope : Scope) : Sc := ⟨N, scope, fun _ => true⟩
abbrev body (Γ : Tb) (N : List Str) (scope : Scope) (b : List Stmt) : TSg := wSs1 (wSt Γ 40 (scOf N scope) 40) b
abbrev endOf (P : KD) : Eg := { nx := fun _ G' => P .non G', rt := P }
theorem def_ok {Γ : Tb} {x qual : Str} {params : Arguments} {b : List Stmt} {scope : Scope} {fa : Addr} {fd : FuncData} {N ps : List Str} {k : Nat} {sp : Spg} (F : FunD K x qual params b scope [] [] fa fd) (S : FnScope N ps scope) (T : TbOk P w K mg base k Γ)
    (len : ∀ ds G Q, sp ds G Q → ds.length = ps.length) (vc : ∀ ds G Q, sp ds G Q → body Γ N scope b (endOf Q) (startD N ds) G) : FnOk P w K mg base C8.CX0 (k + 1) fa fd ps (lSp K sp) := by
  refine F.ok S (fun vs H Q E ⟨ds, G, P', r, g, h, l⟩ => by rw [← r.length]; exact len ds G P' h) fun cdv A outer s H vs Q E hr ⟨ds, G, P', r, g, h, l⟩ => ?_
  have c : CxOk Γ k (cxOf C8.CX0 P w K mg base N qual scope fa cdv A outer s H E).nox (scOf N scope) :=
    { K := T.kk.symm, N := rfl, sc := rfl, kind := S.kind, fn := fun _ => rfl, nd := S.nd, calm := rfl, room := hr, xe := rfl, fns := T.fns, mks := T.mks, mts := T.mts, cons := T.cons, blt := T.wd.blt, tys := T.wd.tys, isi := T.wd.isi, rng := T.wd.rng, rev := T.wd.rev }
  refine ⟨lS K (body Γ N scope b), (wSs1_ok (wSt_ok c 40 40) b).nox, startD N ds, G, endOf P', start_er r, g, vc ds G P' h, ⟨fun env G' σ H' p x e g' => l _ _ _ _ p x .non g', l, fun _ _ _ _ z => z.elim, fun _ _ _ _ z => z.elim⟩⟩
theorem fn_at {Γ : Tb} {x : Str} {params : Arguments} {b : List Stmt} {scope : Scope} {fd : FuncData} {N ps : List Str} {k : Nat} {sp : Spg} (F : FunD K x x params b scope [] [] (He.ga K x) fd) (hm : mg x = some (.ref (He.ga K x))) (hb : L2.Binds K fd ps []) (S : FnScope N ps scope) (T : TbOk P w K mg base k Γ)
    (len : ∀ ds G Q, sp ds G Q → ds.length = ps.length) (vc : ∀ ds G Q, sp ds G Q → body Γ N scope b (endOf Q) (startD N ds) G) : FnAt P w K mg base (k + 1) x ⟨ps, sp⟩ :=
  ⟨_, fd, def_ok F S T len vc, hm, F.kp, hb⟩
end
end Vc

set_option Elab.async false
set_option linter.all false
set_option autoImplicit false
set_option maxRecDepth 100000
set_option maxHeartbeats 2000000
namespace Vc
open PySem PySem.Spec PyProof.Rows L2
theorem upd_at {G : Hg} {a : Addr} {o : GO} : updG G a o a = some o := by simp [updG]
theorem upd_off {G : Hg} {a b : Addr} {o : GO} (h : b ≠ a) : updG G a o b = G b := by simp [updG, h]
theorem del_at {G : Hg} {a : Addr} : delG G a a = none := by simp [delG]
theorem del_off {G : Hg} {a b : Addr} (h : b ≠ a) : delG G a b = G b := by simp [delG, h]
theorem upd_upd {G : Hg} {a : Addr} {o o' : GO} : updG (updG G a o) a o' = updG G a o' := by
  funext b
  by_cases h : b = a
  · subst h; rw [upd_at, upd_at]
  · rw [upd_off h, upd_off h, upd_off h]
theorem del_upd {G : Hg} {a : Addr} {o : GO} (h : G a = none) : delG (updG G a o) a = G := by
  funext b
  by_cases e : b = a
  · subst e; rw [del_at, h]
  · rw [del_off e, upd_off e]
theorem ne_of_none {G : Hg} {a b : Addr} {o : GO} (h : G a = none) (h2 : G b = some o) : b ≠ a := by
  intro e; subst e; rw [h] at h2; cases h2
def Kp (G G' : Hg) : Prop := ∀ a o, G a = some o → G' a = some o
theorem Kp.refl {G : Hg} : Kp G G := fun _ _ h => h
theorem Kp.trans {G G1 G2 : Hg} (h : Kp G G1) (k : Kp G1 G2) : Kp G G2 := fun a o e => k a o (h a o e)
theorem Kp.new {G : Hg} {a : Addr} {o : GO} (h : G a = none) : Kp G (updG G a o) := fun b u e => by rw [upd_off (ne_of_none h e)]; exact e
theorem Kp.upd {G G' : Hg} {a : Addr} {o : GO} (k : Kp G G') (h : G a = none) : Kp G (updG G' a o) := fun b u e => by rw [upd_off (ne_of_none h e)]; exact k b u e
theorem Kp.del {G G' : Hg} {a : Addr} (k : Kp G G') (h : G a = none) : Kp G (delG G' a) := fun b u e => by rw [del_off (ne_of_none h e)]; exact k b u e
section
variable {G : Hg} {P : KD} {i j : Int} {s t : List Nat} {a b : Bool} {xs : List D} {x : D} {f : Bool → Bool}
theorem ev_add_i : rAdd (.int i) (.int j) G P = P (.int (i + j)) G := rfl
theorem ev_add_s : rAdd (.str s) (.str t) G P = (s.length + t.length ≤ sizeLine ∧ P (.str (s ++ t)) G) := rfl
theorem ev_sub : rSub (.int i) (.int j) G P = P (.int (i - j)) G := rfl
theorem ev_mul : rMul (.int i) (.int j) G P = (CMul i j ∧ P (.int (i * j)) G) := rfl
theorem ev_fdiv : rFdiv (.int i) (.int j) G P = (CDiv i j ∧ P (.int (i / j)) G) := rfl
theorem ev_mod : rMod (.int i) (.int j) G P = (0 < j ∧ P (.int (i % j)) G) := rfl
theorem ev_pow : rPow (.int i) (.int j) G P = (CPow i j ∧ P (.int (i ^ j.toNat)) G) := rfl
theorem ev_lt : rLt (.int i) (.int j) G P = P (.bl (decide (i < j))) G := rfl
theorem ev_le : rLe (.int i) (.int j) G P = P (.bl (decide (i ≤ j))) G := rfl
theorem ev_gt : rGt (.int i) (.int j) G P = P (.bl (decide (j < i))) G := rfl
theorem ev_lts : rLt (.str s) (.str t) G P = P (.bl (decide (s < t))) G := rfl
theorem ev_gts : rGt (.str s) (.str t) G P = P (.bl (decide (t < s))) G := rfl
theorem ev_ge : rGe (.int i) (.int j) G P = P (.bl (decide (j ≤ i))) G := rfl
theorem ev_eq_i : rEqB f (.int i) (.int j) G P = P (.bl (f (decide (i = j)))) G := rfl
theorem ev_eq_s : rEqB f (.str s) (.str t) G P = P (.bl (f (decide (s = t)))) G := rfl
theorem ev_eq_b : rEqB f (.bl a) (.bl b) G P = P (.bl (f (decide (a = b)))) G := rfl
theorem ev_is : rIs x .non G P = P (.bl (isN x)) G := rfl
theorem ev_isnt : rIsnt x .non G P = P (.bl (!isN x)) G := rfl
theorem ev_it_t : rItem (.tup xs) x G P = rAt xs x G P := rfl
theorem ev_it_r : rItem (.rol xs) x G P = rAt xs x G P := rfl
theorem ev_it_k : rItem (.kol xs) x G P = rAt xs x G P := rfl
theorem ev_at : rAt xs (.int i) G P = ∃ d, L2.atI xs i = some d ∧ P d G := rfl
theorem ev_in_t : rInB f x (.tup xs) G P = (D.fl x = true ∧ xs.all D.fl = true ∧ P (.bl (f (inD x xs))) G) := rfl
theorem ev_in_r : rInB f x (.rol xs) G P = (D.fl x = true ∧ xs.all D.fl = true ∧ P (.bl (f (inD x xs))) G) := rfl
theorem ev_in_k : rInB f x (.kol xs) G P = (D.fl x = true ∧ xs.all D.fl = true ∧ P (.bl (f (inD x xs))) G) := rfl
end
theorem nx {u : TSg} {E : Eg} {env : Ev} {G : Hg} (h : u E env G) : ∃ env2 G2, Gh env G env2 G2 ∧ u E env2 G2 := ⟨env, G, .refl, h⟩
theorem nxl {u : TSg} {E : Eg} {env : Ev} {G : Hg} {a : Addr} {d : D} (i : Nat) (h1 : env[i]? = some (some (.ref a))) (h2 : Lk G a d) (h : u E (env.set i (some d)) (delG G a)) : ∃ env2 G2, Gh env G env2 G2 ∧ u E env2 G2 := ⟨_, _, .lk i h1 h2 .refl, h⟩
theorem nxw {u : TSg} {E : Eg} {env : Ev} {G G2 : Hg} (k : Kp G2 G) (h : u E env G2) : ∃ env2 G2, Gh env G env2 G2 ∧ u E env2 G2 := ⟨env, G2, .weak rfl (fun _ _ e => e) (fun a o e => k a o e) .refl, h⟩
theorem nxlw {u : TSg} {E : Eg} {env : Ev} {G G2 : Hg} {a : Addr} {d : D} (i : Nat) (h1 : env[i]? = some (some (.ref a))) (h2 : Lk G a d) (k : Kp G2 (delG G a)) (h : u E (env.set i (some d)) G2) : ∃ env2 G2, Gh env G env2 G2 ∧ u E env2 G2 := ⟨_, _, .lk i h1 h2 (.weak rfl (fun _ _ e => e) (fun a o e => k a o e) .refl), h⟩
theorem atI_nat {α : Type} {xs : List α} {i : Nat} {x : α} (h : xs[i]? = some x) : L2.atI xs (i : Int) = some x := by
  have hl : i < xs.length := (List.getElem?_eq_some_iff.mp h).1
  unfold L2.atI L2.ixN
  rw [if_pos (by omega), if_pos (by omega)]
  simpa using h
theorem it_tup {xs : List D} {i : Nat} {d : D} {G : Hg} {P : KD} (h : xs[i]? = some d) (p : P d G) : rItem (.tup xs) (.int (i : Int)) G P := ⟨d, atI_nat h, p⟩
theorem it_rol {xs : List D} {i : Nat} {d : D} {G : Hg} {P : KD} (h : xs[i]? = some d) (p : P d G) : rItem (.rol xs) (.int (i : Int)) G P := ⟨d, atI_nat h, p⟩
theorem it_ref {a : Addr} {xs : List D} {i : Nat} {d : D} {G : Hg} {P : KD} (hg : G a = some (.lst xs)) (h : xs[i]? = some d) (p : P d G) : rItem (.ref a) (.int (i : Int)) G P := ⟨_, hg, d, atI_nat h, p⟩
theorem fld_obj {K : PySem.W.Frag} {C f : List Nat} {fs : List (List Nat × D)} {d : D} {G : Hg} {P : KD} (c : Fld K C f) (h : fget fs f = some d) (p : P d G) : rFld K f (.obj C fs) G P := ⟨c, d, h, p⟩
theorem rL_rol {ds : List D} {G : Hg} {P : KD} (p : P (.rol ds) G) : rL ds G P := .inl p
theorem rL_ref {ds : List D} {G : Hg} {P : KD} (p : ∀ a, G a = none → P (.ref a) (updG G a (.lst ds))) : rL ds G P := .inr fun a G' h => by rw [h.eq]; exact p a h.fr
theorem ret_self {P : KD} {d : D} {G : Hg} (p : P d G) : rRet P d G := .inl p
theorem ret_lst {P : KD} {a : Addr} {G : Hg} {ds : List D} (h : G a = some (.lst ds)) (p : P (.rol ds) (delG G a)) : rRet P (.ref a) G := .inr ⟨a, _, rfl, .lst h, p⟩
theorem ret_dct {P : KD} {a : Addr} {G : Hg} {ds : List (DK × D)} (h : G a = some (.dct ds)) (p : P (.rdc ds) (delG G a)) : rRet P (.ref a) G := .inr ⟨a, _, rfl, .dct h, p⟩
theorem rL_ret {ds : List D} {G : Hg} {P : KD} (p : rL ds G P) : rL ds G (rRet P) := p.elim (fun p => .inl (.inl p)) fun p => .inr fun a G' h => .inl (p a G' h)
theorem ne_str {s t : List Nat} {G : Hg} {P : KD} (p : P (.bl (!decide (s = t))) G) : rNe (.str s) (.str t) G P := p
theorem add_i {i j : Int} {G : Hg} {P : KD} (p : P (.int (i + j)) G) : rAdd (.int i) (.int j) G P := p
theorem sub_i {i j : Int} {G : Hg} {P : KD} (p : P (.int (i - j)) G) : rSub (.int i) (.int j) G P := p
theorem mul_i {i j : Int} {G : Hg} {P : KD} (h : CMul i j) (p : P (.int (i * j)) G) : rMul (.int i) (.int j) G P := ⟨h, p⟩
theorem div_i {i j : Int} {G : Hg} {P : KD} (h : CDiv i j) (p : P (.int (i / j)) G) : rFdiv (.int i) (.int j) G P := ⟨h, p⟩
theorem mod_i {i j : Int} {G : Hg} {P : KD} (h : 0 < j) (p : P (.int (i % j)) G) : rMod (.int i) (.int j) G P := ⟨h, p⟩
theorem pow_i {i j : Int} {G : Hg} {P : KD} (h : CPow i j) (p : P (.int (i ^ j.toNat)) G) : rPow (.int i) (.int j) G P := ⟨h, p⟩
theorem gt_i {i j : Int} {G : Hg} {P : KD} (p : P (.bl (decide (j < i))) G) : rGt (.int i) (.int j) G P := p
theorem lt_i {i j : Int} {G : Hg} {P : KD} (p : P (.bl (decide (i < j))) G) : rLt (.int i) (.int j) G P := p
theorem le_i {i j : Int} {G : Hg} {P : KD} (p : P (.bl (decide (i ≤ j))) G) : rLe (.int i) (.int j) G P := p
theorem ge_i {i j : Int} {G : Hg} {P : KD} (p : P (.bl (decide (j ≤ i))) G) : rGe (.int i) (.int j) G P := p
theorem int_int {i : Int} {G : Hg} {P : KD} (p : P (.int i) G) : bInt [.int i] G P := p
theorem eq_int {i j : Int} {G : Hg} {P : KD} (p : P (.bl (decide (i = j))) G) : rEq (.int i) (.int j) G P := p
theorem ne_int {i j : Int} {G : Hg} {P : KD} (p : P (.bl (!decide (i = j))) G) : rNe (.int i) (.int j) G P := p
theorem eq_str {s t : List Nat} {G : Hg} {P : KD} (p : P (.bl (decide (s = t))) G) : rEq (.str s) (.str t) G P := p
theorem isa_tuple_non {G : Hg} {P : KD} : rIsa "tuple" .non G P = P (.bl false) G := by
  show P (.bl (isaB "NoneType" "tuple")) G = _
  rw [show isaB "NoneType" "tuple" = false from by decide]
theorem isa_tuple_bl {b : Bool} {G : Hg} {P : KD} : rIsa "tuple" (.bl b) G P = P (.bl false) G := by
  show P (.bl (isaB "bool" "tuple")) G = _
  rw [show isaB "bool" "tuple" = false from by decide]
theorem isa_tuple_int {i : Int} {G : Hg} {P : KD} : rIsa "tuple" (.int i) G P = P (.bl false) G := by
  show P (.bl (isaB "int" "tuple")) G = _
  rw [show isaB "int" "tuple" = false from by decide]
theorem isa_tuple_str {s : List Nat} {G : Hg} {P : KD} : rIsa "tuple" (.str s) G P = P (.bl false) G := by
  show P (.bl (isaB "str" "tuple")) G = _
  rw [show isaB "str" "tuple" = false from by decide]
theorem isa_tuple_tup {xs : List D} {G : Hg} {P : KD} : rIsa "tuple" (.tup xs) G P = P (.bl true) G := by
  show P (.bl (isaB "tuple" "tuple")) G = _
  rw [show isaB "tuple" "tuple" = true from by decide]
theorem isa_tuple_rol {xs : List D} {G : Hg} {P : KD} : rIsa "tuple" (.rol xs) G P = P (.bl false) G := by
  show P (.bl (isaB "list" "tuple")) G = _
  rw [show isaB "list" "tuple" = false from by decide]
theorem isa_list_non {G : Hg} {P : KD} : rIsa "list" .non G P = P (.bl false) G := by
  show P (.bl (isaB "NoneType" "list")) G = _
  rw [show isaB "NoneType" "list" = false from by decide]
theorem isa_list_bl {b : Bool} {G : Hg} {P : KD} : rIsa "list" (.bl b) G P = P (.bl false) G := by
  show P (.bl (isaB "bool" "list")) G = _
  rw [show isaB "bool" "list" = false from by decide]
theorem isa_list_int {i : Int} {G : Hg} {P : KD} : rIsa "list" (.int i) G P = P (.bl false) G := by
  show P (.bl (isaB "int" "list")) G = _
  rw [show isaB "int" "list" = false from by decide]
theorem isa_list_str {s : List Nat} {G : Hg} {P : KD} : rIsa "list" (.str s) G P = P (.bl false) G := by
  show P (.bl (isaB "str" "list")) G = _
  rw [show isaB "str" "list" = false from by decide]
theorem isa_list_tup {xs : List D} {G : Hg} {P : KD} : rIsa "list" (.tup xs) G P = P (.bl false) G := by
  show P (.bl (isaB "tuple" "list")) G = _
  rw [show isaB "tuple" "list" = false from by decide]
theorem isa_list_rol {xs : List D} {G : Hg} {P : KD} : rIsa "list" (.rol xs) G P = P (.bl true) G := by
  show P (.bl (isaB "list" "list")) G = _
  rw [show isaB "list" "list" = true from by decide]
theorem isa_bool_non {G : Hg} {P : KD} : rIsa "bool" .non G P = P (.bl false) G := by
  show P (.bl (isaB "NoneType" "bool")) G = _
  rw [show isaB "NoneType" "bool" = false from by decide]
theorem isa_bool_bl {b : Bool} {G : Hg} {P : KD} : rIsa "bool" (.bl b) G P = P (.bl true) G := by
  show P (.bl (isaB "bool" "bool")) G = _
  rw [show isaB "bool" "bool" = true from by decide]
theorem isa_bool_int {i : Int} {G : Hg} {P : KD} : rIsa "bool" (.int i) G P = P (.bl false) G := by
  show P (.bl (isaB "int" "bool")) G = _
  rw [show isaB "int" "bool" = false from by decide]
theorem isa_bool_str {s : List Nat} {G : Hg} {P : KD} : rIsa "bool" (.str s) G P = P (.bl false) G := by
  show P (.bl (isaB "str" "bool")) G = _
  rw [show isaB "str" "bool" = false from by decide]
theorem isa_bool_tup {xs : List D} {G : Hg} {P : KD} : rIsa "bool" (.tup xs) G P = P (.bl false) G := by
  show P (.bl (isaB "tuple" "bool")) G = _
  rw [show isaB "tuple" "bool" = false from by decide]
theorem isa_bool_rol {xs : List D} {G : Hg} {P : KD} : rIsa "bool" (.rol xs) G P = P (.bl false) G := by
  show P (.bl (isaB "list" "bool")) G = _
  rw [show isaB "list" "bool" = false from by decide]
theorem isa_int_non {G : Hg} {P : KD} : rIsa "int" .non G P = P (.bl false) G := by
  show P (.bl (isaB "NoneType" "int")) G = _
  rw [show isaB "NoneType" "int" = false from by decide]
theorem isa_int_bl {b : Bool} {G : Hg} {P : KD} : rIsa "int" (.bl b) G P = P (.bl true) G := by
  show P (.bl (isaB "bool" "int")) G = _
  rw [show isaB "bool" "int" = true from by decide]
theorem isa_int_int {i : Int} {G : Hg} {P : KD} : rIsa "int" (.int i) G P = P (.bl true) G := by
  show P (.bl (isaB "int" "int")) G = _
  rw [show isaB "int" "int" = true from by decide]
theorem isa_int_str {s : List Nat} {G : Hg} {P : KD} : rIsa "int" (.str s) G P = P (.bl false) G := by
  show P (.bl (isaB "str" "int")) G = _
  rw [show isaB "str" "int" = false from by decide]
theorem isa_int_tup {xs : List D} {G : Hg} {P : KD} : rIsa "int" (.tup xs) G P = P (.bl false) G := by
  show P (.bl (isaB "tuple" "int")) G = _
  rw [show isaB "tuple" "int" = false from by decide]
theorem isa_int_rol {xs : List D} {G : Hg} {P : KD} : rIsa "int" (.rol xs) G P = P (.bl false) G := by
  show P (.bl (isaB "list" "int")) G = _
  rw [show isaB "list" "int" = false from by decide]
theorem isa_str_non {G : Hg} {P : KD} : rIsa "str" .non G P = P (.bl false) G := by
  show P (.bl (isaB "NoneType" "str")) G = _
  rw [show isaB "NoneType" "str" = false from by decide]
theorem isa_str_bl {b : Bool} {G : Hg} {P : KD} : rIsa "str" (.bl b) G P = P (.bl false) G := by
  show P (.bl (isaB "bool" "str")) G = _
  rw [show isaB "bool" "str" = false from by decide]
theorem isa_str_int {i : Int} {G : Hg} {P : KD} : rIsa "str" (.int i) G P = P (.bl false) G := by
  show P (.bl (isaB "int" "str")) G = _
  rw [show isaB "int" "str" = false from by decide]
theorem isa_str_str {s : List Nat} {G : Hg} {P : KD} : rIsa "str" (.str s) G P = P (.bl true) G := by
  show P (.bl (isaB "str" "str")) G = _
  rw [show isaB "str" "str" = true from by decide]
theorem isa_str_tup {xs : List D} {G : Hg} {P : KD} : rIsa "str" (.tup xs) G P = P (.bl false) G := by
  show P (.bl (isaB "tuple" "str")) G = _
  rw [show isaB "tuple" "str" = false from by decide]
theorem isa_str_rol {xs : List D} {G : Hg} {P : KD} : rIsa "str" (.rol xs) G P = P (.bl false) G := by
  show P (.bl (isaB "list" "str")) G = _
  rw [show isaB "list" "str" = false from by decide]
theorem isa_of {x : D} {n T : String} {b : Bool} {G : Hg} {P : KD} (hx : ∀ a, x ≠ .ref a) (h : tyD x = some n) (hb : isaB n T = b) (p : P (.bl b) G) : rIsa T x G P := by
  subst hb
  cases x with
  | ref a => exact absurd rfl (hx a)
  | _ => first | (cases h; exact p) | cases h
theorem isa_li {x : D} {xs : List D} {T : String} {b : Bool} {G : Hg} {P : KD} (h : IsLi G x xs) (hb : isaB "list" T = b) (p : P (.bl b) G) : rIsa T x G P := by
  cases h with
  | rol => exact isa_of (fun a e => by cases e) rfl hb p
  | ref e => subst hb; exact ⟨_, _, e, rfl, p⟩
theorem for_jP {ds : List D} {g : TGg} {tb : TSg} {E : Eg} {env : Ev} {G : Hg} (v : Nat → Ev → Hg → Prop) (h0 : v 0 env G)
    (step : ∀ (i : Nat) (d : D) (env : Ev) (G : Hg) (Nx : Ev → Hg → Prop), ds[i]? = some d → v i env G → (∀ env' G', v (i + 1) env' G' → Nx env' G') → g d env G fun env2 G2 => tb { E with nx := Nx, ct := Nx, bk := E.nx } env2 G2)
    (done : ∀ env G, v ds.length env G → E.nx env G) : ∃ W : Nat → Nat → Ev → Hg → Prop, (∃ m, W 0 m env G) ∧ ∀ i m env G, W i m env G →
      ((jP ds).stop i G ∧ E.nx env G) ∨ ((jP ds).go i G ∧ ∀ d G', (jP ds).yld i G d G' → g d env G' fun env2 G2 => tb { E with nx := fun env' G' => ∃ m', m' < m ∧ W (i + 1) m' env' G', ct := fun env' G' => ∃ m', m' < m ∧ W (i + 1) m' env' G', bk := E.nx } env2 G2) := by
  refine ⟨fun i m env G => m = ds.length - i ∧ i ≤ ds.length ∧ v i env G, ⟨ds.length, by simp, Nat.zero_le _, h0⟩, ?_⟩
  rintro i m env G ⟨rfl, hi, p⟩
  by_cases hl : i < ds.length
  · refine .inr ⟨hl, fun d G' y => ?_⟩
    obtain ⟨rfl, hd⟩ := y
    exact step i d env _ _ hd p fun env' G' q => ⟨ds.length - (i + 1), by omega, rfl, hl, q⟩
  · have e : i = ds.length := by omega
    subst e
    exact .inl ⟨Nat.le_refl _, done env G p⟩
theorem for_jR {lo : Int} {n : Nat} {g : TGg} {tb : TSg} {E : Eg} {env : Ev} {G : Hg} (v : Nat → Ev → Hg → Prop) (h0 : v 0 env G)
    (step : ∀ (i : Nat) (env : Ev) (G : Hg) (Nx : Ev → Hg → Prop), i < n → v i env G → (∀ env' G', v (i + 1) env' G' → Nx env' G') → g (.int (lo + i)) env G fun env2 G2 => tb { E with nx := Nx, ct := Nx, bk := E.nx } env2 G2)
    (done : ∀ env G, v n env G → E.nx env G) : ∃ W : Nat → Nat → Ev → Hg → Prop, (∃ m, W 0 m env G) ∧ ∀ i m env G, W i m env G →
      ((jR lo n).stop i G ∧ E.nx env G) ∨ ((jR lo n).go i G ∧ ∀ d G', (jR lo n).yld i G d G' → g d env G' fun env2 G2 => tb { E with nx := fun env' G' => ∃ m', m' < m ∧ W (i + 1) m' env' G', ct := fun env' G' => ∃ m', m' < m ∧ W (i + 1) m' env' G', bk := E.nx } env2 G2) := by
  refine ⟨fun i m env G => m = n - i ∧ i ≤ n ∧ v i env G, ⟨n, by simp, Nat.zero_le _, h0⟩, ?_⟩
  rintro i m env G ⟨rfl, hi, p⟩
  by_cases hl : i < n
  · refine .inr ⟨hl, fun d G' y => ?_⟩
    obtain ⟨rfl, rfl⟩ := y
    exact step i env _ _ hl p fun env' G' q => ⟨n - (i + 1), by omega, rfl, hl, q⟩
  · have e : i = n := by omega
    subst e
    exact .inl ⟨Nat.le_refl _, done env G p⟩
theorem for_jRv {hi : Int} {n : Nat} {g : TGg} {tb : TSg} {E : Eg} {env : Ev} {G : Hg} (v : Nat → Ev → Hg → Prop) (h0 : v 0 env G)
    (step : ∀ (i : Nat) (env : Ev) (G : Hg) (Nx : Ev → Hg → Prop), i < n → v i env G → (∀ env' G', v (i + 1) env' G' → Nx env' G') → g (.int (hi - i)) env G fun env2 G2 => tb { E with nx := Nx, ct := Nx, bk := E.nx } env2 G2)
    (done : ∀ env G, v n env G → E.nx env G) : ∃ W : Nat → Nat → Ev → Hg → Prop, (∃ m, W 0 m env G) ∧ ∀ i m env G, W i m env G →
      ((jRv hi n).stop i G ∧ E.nx env G) ∨ ((jRv hi n).go i G ∧ ∀ d G', (jRv hi n).yld i G d G' → g d env G' fun env2 G2 => tb { E with nx := fun env' G' => ∃ m', m' < m ∧ W (i + 1) m' env' G', ct := fun env' G' => ∃ m', m' < m ∧ W (i + 1) m' env' G', bk := E.nx } env2 G2) := by
  refine ⟨fun i m env G => m = n - i ∧ i ≤ n ∧ v i env G, ⟨n, by simp, Nat.zero_le _, h0⟩, ?_⟩
  rintro i m env G ⟨rfl, hi', p⟩
  by_cases hl : i < n
  · refine .inr ⟨hl, fun d G' y => ?_⟩
    obtain ⟨rfl, rfl⟩ := y
    exact step i env _ _ hl p fun env' G' q => ⟨n - (i + 1), by omega, rfl, hl, q⟩
  · have e : i = n := by omega
    subst e
    exact .inl ⟨Nat.le_refl _, done env G p⟩
theorem for_items {ti : TIg} {g : TGg} {tb : TSg} {E : Eg} {env : Ev} {G : Hg} (ds : List D) (v : Nat → Ev → Hg → Prop) (hi : ∀ R : Jg → Hg → Prop, (∀ G1, v 0 env G1 → R (jP ds) G1) → ti env G R)
    (step : ∀ (i : Nat) (d : D) (env : Ev) (G : Hg) (Nx : Ev → Hg → Prop), ds[i]? = some d → v i env G → (∀ env' G', v (i + 1) env' G' → Nx env' G') → g d env G fun env2 G2 => tb { E with nx := Nx, ct := Nx, bk := E.nx } env2 G2)
    (done : ∀ env G, v ds.length env G → E.nx env G) : gFor ti g tb E env G := hi _ fun G1 h0 => for_jP v h0 step done
theorem for_ref {ti : TIg} {g : TGg} {tb : TSg} {E : Eg} {env : Ev} {G : Hg} (a : Addr) (ds : List D) (v : Nat → Ev → Hg → Prop) (hv : ∀ i env G, v i env G → G a = some (.lst ds)) (hi : ∀ R : Jg → Hg → Prop, (∀ G1, v 0 env G1 → R (jL a) G1) → ti env G R)
    (step : ∀ (i : Nat) (d : D) (env : Ev) (G : Hg) (Nx : Ev → Hg → Prop), ds[i]? = some d → v i env G → (∀ env' G', v (i + 1) env' G' → Nx env' G') → g d env G fun env2 G2 => tb { E with nx := Nx, ct := Nx, bk := E.nx } env2 G2)
    (done : ∀ env G, v ds.length env G → E.nx env G) : gFor ti g tb E env G := by
  refine hi _ fun G1 h0 => ⟨fun i m env G => m = ds.length - i ∧ i ≤ ds.length ∧ v i env G, ⟨ds.length, by simp, Nat.zero_le _, h0⟩, ?_⟩
  rintro i m env G ⟨rfl, hi, p⟩
  have hg := hv _ _ _ p
  by_cases hl : i < ds.length
  · refine .inr ⟨⟨ds, ds[i], hg, List.getElem?_eq_getElem hl⟩, fun d G' y => ?_⟩
    obtain ⟨rfl, hd⟩ := y
    exact step i d env _ _ (hd ds hg) p fun env' G' q => ⟨ds.length - (i + 1), by omega, rfl, hl, q⟩
  · have e : i = ds.length := by omega
    subst e
    exact .inl ⟨⟨ds, hg, Nat.le_refl _⟩, done env G p⟩
theorem for_range {ti : TIg} {g : TGg} {tb : TSg} {E : Eg} {env : Ev} {G : Hg} (lo : Int) (n : Nat) (v : Nat → Ev → Hg → Prop) (hi : ∀ R : Jg → Hg → Prop, (∀ G1, v 0 env G1 → R (jR lo n) G1) → ti env G R)
    (step : ∀ (i : Nat) (env : Ev) (G : Hg) (Nx : Ev → Hg → Prop), i < n → v i env G → (∀ env' G', v (i + 1) env' G' → Nx env' G') → g (.int (lo + i)) env G fun env2 G2 => tb { E with nx := Nx, ct := Nx, bk := E.nx } env2 G2)
    (done : ∀ env G, v n env G → E.nx env G) : gFor ti g tb E env G := hi _ fun G1 h0 => for_jR v h0 step done
theorem for_back {ti : TIg} {g : TGg} {tb : TSg} {E : Eg} {env : Ev} {G : Hg} (hi' : Int) (n : Nat) (v : Nat → Ev → Hg → Prop) (hi : ∀ R : Jg → Hg → Prop, (∀ G1, v 0 env G1 → R (jRv hi' n) G1) → ti env G R)
    (step : ∀ (i : Nat) (env : Ev) (G : Hg) (Nx : Ev → Hg → Prop), i < n → v i env G → (∀ env' G', v (i + 1) env' G' → Nx env' G') → g (.int (hi' - i)) env G fun env2 G2 => tb { E with nx := Nx, ct := Nx, bk := E.nx } env2 G2)
    (done : ∀ env G, v n env G → E.nx env G) : gFor ti g tb E env G := hi _ fun G1 h0 => for_jRv v h0 step done
theorem lc_jP {ds : List D} {env : Ev} {g : Tg} {tt : TTg} {te : TEg} {vs : List Nat} {P : KD} {Dd : Addr} {G2 : Hg} (v : Nat → List D → Hg → Prop) (hD : G2 Dd = some (.lst [])) (h0 : v 0 [] G2)
    (step : ∀ (i : Nat) (d : D) (acc : List D) (G : Hg) (Yes : D → Hg → Prop) (No : Hg → Prop), ds[i]? = some d → G Dd = some (.lst acc) → v i acc G → acc.length ≤ i →
      (∀ y G', G' Dd = some (.lst acc) → v (i + 1) (acc ++ [y]) (updG G' Dd (.lst (acc ++ [y]))) → Yes y G') → (∀ G', G' Dd = some (.lst acc) → v (i + 1) acc G' → No G') → g.put (wipeE env vs) d fun env2 => tt env2 G fun b G4 => match b with
        | true => te env2 G4 Yes
        | false => No G4)
    (hz : ds.length ≤ sizeLine) (done : ∀ acc G, G Dd = some (.lst acc) → v ds.length acc G → acc.length ≤ ds.length → P (.rol acc) (delG G Dd) ∨ P (.ref Dd) G) : ∃ W : Nat → Nat → Hg → Prop, (∃ m, W 0 m G2) ∧ ∀ i m G, W i m G →
      ((jP ds).stop i G ∧ ∃ acc, G Dd = some (.lst acc) ∧ (P (.rol acc) (delG G Dd) ∨ P (.ref Dd) G)) ∨ ((jP ds).go i G ∧ ∀ d G', (jP ds).yld i G d G' → g.put (wipeE env vs) d fun env2 => tt env2 G' fun b G4 => match b with
        | true => te env2 G4 fun y G5 => ∃ acc, G5 Dd = some (.lst acc) ∧ acc.length < sizeLine ∧ ∀ G6, G6 = updG G5 Dd (.lst (acc ++ [y])) → ∃ m', m' < m ∧ W (i + 1) m' G6
        | false => ∃ m', m' < m ∧ W (i + 1) m' G4) := by
  refine ⟨fun i m G => m = ds.length - i ∧ i ≤ ds.length ∧ ∃ acc, G Dd = some (.lst acc) ∧ v i acc G ∧ acc.length ≤ i, ⟨ds.length, by simp, Nat.zero_le _, [], hD, h0, Nat.le_refl _⟩, ?_⟩
  rintro i m G ⟨rfl, hi, acc, ha, p, hl⟩
  by_cases hlt : i < ds.length
  · refine .inr ⟨hlt, fun d G' y => ?_⟩
    obtain ⟨rfl, hd⟩ := y
    refine step i d acc _ _ _ hd ha p hl (fun y G' e q => ⟨acc, e, by omega, fun G6 e6 => ⟨ds.length - (i + 1), by omega, rfl, hlt, acc ++ [y], by rw [e6, upd_at], by rw [e6]; exact q, by simp; omega⟩⟩) fun G' e q => ⟨ds.length - (i + 1), by omega, rfl, hlt, acc, e, q, by omega⟩
  · have e : i = ds.length := by omega
    subst e
    exact .inl ⟨Nat.le_refl _, acc, ha, done acc G ha p hl⟩
theorem lc_jR {lo : Int} {n : Nat} {env : Ev} {g : Tg} {tt : TTg} {te : TEg} {vs : List Nat} {P : KD} {Dd : Addr} {G2 : Hg} (v : Nat → List D → Hg → Prop) (hD : G2 Dd = some (.lst [])) (h0 : v 0 [] G2)
    (step : ∀ (i : Nat) (acc : List D) (G : Hg) (Yes : D → Hg → Prop) (No : Hg → Prop), i < n → G Dd = some (.lst acc) → v i acc G → acc.length ≤ i →
      (∀ y G', G' Dd = some (.lst acc) → v (i + 1) (acc ++ [y]) (updG G' Dd (.lst (acc ++ [y]))) → Yes y G') → (∀ G', G' Dd = some (.lst acc) → v (i + 1) acc G' → No G') → g.put (wipeE env vs) (.int (lo + i)) fun env2 => tt env2 G fun b G4 => match b with
        | true => te env2 G4 Yes
        | false => No G4)
    (hz : n ≤ sizeLine) (done : ∀ acc G, G Dd = some (.lst acc) → v n acc G → acc.length ≤ n → P (.rol acc) (delG G Dd) ∨ P (.ref Dd) G) : ∃ W : Nat → Nat → Hg → Prop, (∃ m, W 0 m G2) ∧ ∀ i m G, W i m G →
      ((jR lo n).stop i G ∧ ∃ acc, G Dd = some (.lst acc) ∧ (P (.rol acc) (delG G Dd) ∨ P (.ref Dd) G)) ∨ ((jR lo n).go i G ∧ ∀ d G', (jR lo n).yld i G d G' → g.put (wipeE env vs) d fun env2 => tt env2 G' fun b G4 => match b with
        | true => te env2 G4 fun y G5 => ∃ acc, G5 Dd = some (.lst acc) ∧ acc.length < sizeLine ∧ ∀ G6, G6 = updG G5 Dd (.lst (acc ++ [y])) → ∃ m', m' < m ∧ W (i + 1) m' G6
        | false => ∃ m', m' < m ∧ W (i + 1) m' G4) := by
  refine ⟨fun i m G => m = n - i ∧ i ≤ n ∧ ∃ acc, G Dd = some (.lst acc) ∧ v i acc G ∧ acc.length ≤ i, ⟨n, by simp, Nat.zero_le _, [], hD, h0, Nat.le_refl _⟩, ?_⟩
  rintro i m G ⟨rfl, hi, acc, ha, p, hl⟩
  by_cases hlt : i < n
  · refine .inr ⟨hlt, fun d G' y => ?_⟩
    obtain ⟨rfl, rfl⟩ := y
    refine step i acc _ _ _ hlt ha p hl (fun y G' e q => ⟨acc, e, by omega, fun G6 e6 => ⟨n - (i + 1), by omega, rfl, hlt, acc ++ [y], by rw [e6, upd_at], by rw [e6]; exact q, by simp; omega⟩⟩) fun G' e q => ⟨n - (i + 1), by omega, rfl, hlt, acc, e, q, by omega⟩
  · have e : i = n := by omega
    subst e
    exact .inl ⟨Nat.le_refl _, acc, ha, done acc G ha p hl⟩
theorem dc_jP {ds : List D} {env : Ev} {g : Tg} {tt : TTg} {tk tv : TEg} {vs : List Nat} {P : KD} {Dd : Addr} {G2 : Hg} (v : Nat → List (DK × D) → Hg → Prop) (hD : G2 Dd = some (.dct [])) (h0 : v 0 [] G2)
    (step : ∀ (i : Nat) (d : D) (acc : List (DK × D)) (G : Hg) (Yes : D → D → Hg → Prop) (No : Hg → Prop), ds[i]? = some d → G Dd = some (.dct acc) → v i acc G → acc.length ≤ i →
      (∀ k y G', G' Dd = some (.dct acc) → v (i + 1) (dput acc k y) (updG G' Dd (.dct (dput acc k y))) → Yes (kD k) y G') → (∀ G', G' Dd = some (.dct acc) → v (i + 1) acc G' → No G') → g.put (wipeE env vs) d fun env2 => tt env2 G fun b G4 => match b with
        | true => tk env2 G4 fun x G5 => tv env2 G5 fun y G6 => Yes x y G6
        | false => No G4)
    (hz : ds.length ≤ sizeLine) (done : ∀ acc G, G Dd = some (.dct acc) → v ds.length acc G → acc.length ≤ ds.length → P (.rdc acc) (delG G Dd) ∨ P (.ref Dd) G) : ∃ W : Nat → Nat → Hg → Prop, (∃ m, W 0 m G2) ∧ ∀ i m G, W i m G →
      ((jP ds).stop i G ∧ ∃ acc, G Dd = some (.dct acc) ∧ (P (.rdc acc) (delG G Dd) ∨ P (.ref Dd) G)) ∨ ((jP ds).go i G ∧ ∀ d G', (jP ds).yld i G d G' → g.put (wipeE env vs) d fun env2 => tt env2 G' fun b G4 => match b with
        | true => tk env2 G4 fun x G5 => tv env2 G5 fun y G6 => ∃ acc k, x = kD k ∧ G6 Dd = some (.dct acc) ∧ acc.length < sizeLine ∧ ∀ G7, G7 = updG G6 Dd (.dct (dput acc k y)) → ∃ m', m' < m ∧ W (i + 1) m' G7
        | false => ∃ m', m' < m ∧ W (i + 1) m' G4) := by
  have dl : ∀ {acc : List (DK × D)} {k : DK} {y : D}, (dput acc k y).length ≤ acc.length + 1 := by
    intro acc k y
    unfold dput
    split
    · rw [List.length_map]; exact Nat.le_succ _
    · simp
  refine ⟨fun i m G => m = ds.length - i ∧ i ≤ ds.length ∧ ∃ acc, G Dd = some (.dct acc) ∧ v i acc G ∧ acc.length ≤ i, ⟨ds.length, by simp, Nat.zero_le _, [], hD, h0, Nat.le_refl _⟩, ?_⟩
  rintro i m G ⟨rfl, hi, acc, ha, p, hl⟩
  by_cases hlt : i < ds.length
  · refine .inr ⟨hlt, fun d G' y => ?_⟩
    obtain ⟨rfl, hd⟩ := y
    exact step i d acc _ _ _ hd ha p hl (fun k y G' e q => ⟨acc, k, rfl, e, by omega, fun G7 e7 => ⟨ds.length - (i + 1), by omega, rfl, hlt, dput acc k y, by rw [e7, upd_at], by rw [e7]; exact q, by have := @dl acc k y; omega⟩⟩) fun G' e q => ⟨ds.length - (i + 1), by omega, rfl, hlt, acc, e, q, by omega⟩
  · have e : i = ds.length := by omega
    subst e
    exact .inl ⟨Nat.le_refl _, acc, ha, done acc G ha p hl⟩
theorem lc_items {ti : TIg} {g : Tg} {tt : TTg} {te : TEg} {vs : List Nat} {env : Ev} {G : Hg} {P : KD} (ds : List D) (v : Addr → Nat → List D → Hg → Prop) (hz : ds.length ≤ sizeLine) (hi : ∀ R : Jg → Hg → Prop, (∀ G1, (∀ Dd, G1 Dd = none → v Dd 0 [] (updG G1 Dd (.lst []))) → R (jP ds) G1) → ti env G R)
    (step : ∀ (Dd : Addr) (i : Nat) (d : D) (acc : List D) (G : Hg) (Yes : D → Hg → Prop) (No : Hg → Prop), ds[i]? = some d → G Dd = some (.lst acc) → v Dd i acc G → acc.length ≤ i →
      (∀ y G', G' Dd = some (.lst acc) → v Dd (i + 1) (acc ++ [y]) (updG G' Dd (.lst (acc ++ [y]))) → Yes y G') → (∀ G', G' Dd = some (.lst acc) → v Dd (i + 1) acc G' → No G') → g.put (wipeE env vs) d fun env2 => tt env2 G fun b G4 => match b with
        | true => te env2 G4 Yes
        | false => No G4)
    (done : ∀ Dd acc G, G Dd = some (.lst acc) → v Dd ds.length acc G → acc.length ≤ ds.length → P (.rol acc) (delG G Dd) ∨ P (.ref Dd) G) : gLc ti g tt te vs env G P :=
  hi _ fun G1 h0 Dd G2 n => by rw [n.eq]; exact lc_jP (v Dd) upd_at (h0 Dd n.fr) (step Dd) hz (done Dd)
theorem lc_range {ti : TIg} {g : Tg} {tt : TTg} {te : TEg} {vs : List Nat} {env : Ev} {G : Hg} {P : KD} (lo : Int) (n : Nat) (v : Addr → Nat → List D → Hg → Prop) (hz : n ≤ sizeLine) (hi : ∀ R : Jg → Hg → Prop, (∀ G1, (∀ Dd, G1 Dd = none → v Dd 0 [] (updG G1 Dd (.lst []))) → R (jR lo n) G1) → ti env G R)
    (step : ∀ (Dd : Addr) (i : Nat) (acc : List D) (G : Hg) (Yes : D → Hg → Prop) (No : Hg → Prop), i < n → G Dd = some (.lst acc) → v Dd i acc G → acc.length ≤ i →
      (∀ y G', G' Dd = some (.lst acc) → v Dd (i + 1) (acc ++ [y]) (updG G' Dd (.lst (acc ++ [y]))) → Yes y G') → (∀ G', G' Dd = some (.lst acc) → v Dd (i + 1) acc G' → No G') → g.put (wipeE env vs) (.int (lo + i)) fun env2 => tt env2 G fun b G4 => match b with
        | true => te env2 G4 Yes
        | false => No G4)
    (done : ∀ Dd acc G, G Dd = some (.lst acc) → v Dd n acc G → acc.length ≤ n → P (.rol acc) (delG G Dd) ∨ P (.ref Dd) G) : gLc ti g tt te vs env G P :=
  hi _ fun G1 h0 Dd G2 n => by rw [n.eq]; exact lc_jR (v Dd) upd_at (h0 Dd n.fr) (step Dd) hz (done Dd)
theorem dc_items {ti : TIg} {g : Tg} {tt : TTg} {tk tv : TEg} {vs : List Nat} {env : Ev} {G : Hg} {P : KD} (ds : List D) (v : Addr → Nat → List (DK × D) → Hg → Prop) (hz : ds.length ≤ sizeLine) (hi : ∀ R : Jg → Hg → Prop, (∀ G1, (∀ Dd, G1 Dd = none → v Dd 0 [] (updG G1 Dd (.dct []))) → R (jP ds) G1) → ti env G R)
    (step : ∀ (Dd : Addr) (i : Nat) (d : D) (acc : List (DK × D)) (G : Hg) (Yes : D → D → Hg → Prop) (No : Hg → Prop), ds[i]? = some d → G Dd = some (.dct acc) → v Dd i acc G → acc.length ≤ i →
      (∀ k y G', G' Dd = some (.dct acc) → v Dd (i + 1) (dput acc k y) (updG G' Dd (.dct (dput acc k y))) → Yes (kD k) y G') → (∀ G', G' Dd = some (.dct acc) → v Dd (i + 1) acc G' → No G') → g.put (wipeE env vs) d fun env2 => tt env2 G fun b G4 => match b with
        | true => tk env2 G4 fun x G5 => tv env2 G5 fun y G6 => Yes x y G6
        | false => No G4)
    (done : ∀ Dd acc G, G Dd = some (.dct acc) → v Dd ds.length acc G → acc.length ≤ ds.length → P (.rdc acc) (delG G Dd) ∨ P (.ref Dd) G) : gDc ti g tt tk tv vs env G P :=
  hi _ fun G1 h0 Dd G2 n => by rw [n.eq]; exact dc_jP (v Dd) upd_at (h0 Dd n.fr) (step Dd) hz (done Dd)
end Vc

set_option Elab.async false
set_option linter.all false
set_option autoImplicit false
set_option maxRecDepth 100000
set_option maxHeartbeats 2000000
namespace Vc
open PySem PySem.Spec PyProof.Rows
theorem perm_eq {α : Type} {le : α → α → Prop} (anti : ∀ a b, le a b → le b a → a = b) : ∀ {xs ys : List α}, xs.Perm ys → xs.Pairwise le → ys.Pairwise le → xs = ys
  | [], ys, p, _, _ => by rw [List.nil_perm.mp p]
  | x :: xs, [], p, _, _ => by simp at p
  | x :: xs, y :: ys, p, h1, h2 => by
    have e : x = y := by
      have m1 : x ∈ y :: ys := p.subset List.mem_cons_self
      have m2 : y ∈ x :: xs := p.symm.subset List.mem_cons_self
      rcases List.mem_cons.mp m1 with e | m1
      · exact e
      · rcases List.mem_cons.mp m2 with e | m2
        · exact e.symm
        · exact anti _ _ (List.rel_of_pairwise_cons h1 m2) (List.rel_of_pairwise_cons h2 m1)
    subst e
    rw [perm_eq anti (List.Perm.cons_inv p) (List.pairwise_cons.mp h1).2 (List.pairwise_cons.mp h2).2]
def srtT (xs : List (List Nat)) : List (List Nat) := xs.mergeSort fun a b => decide (a ≤ b)
def txs (xs : List (List Nat)) : List D := xs.map .str
theorem txs_app (xs ys : List (List Nat)) : txs (xs ++ ys) = txs xs ++ txs ys := List.map_append
theorem txs_len (xs : List (List Nat)) : (txs xs).length = xs.length := List.length_map ..
theorem srtT_perm (xs : List (List Nat)) : (srtT xs).Perm xs := List.mergeSort_perm ..
theorem srtT_sorted (xs : List (List Nat)) : (srtT xs).Pairwise (· ≤ ·) := by
  have h := List.pairwise_mergeSort (le := fun a b : List Nat => decide (a ≤ b)) (fun a b c h1 h2 => by
    simp only [decide_eq_true_eq] at h1 h2 ⊢
    exact List.le_trans h1 h2) (fun a b => by
    simp only [Bool.or_eq_true, decide_eq_true_eq]
    exact List.le_total a b) xs
  exact h.imp fun z => by simpa using z
theorem srtT_of {xs ys : List (List Nat)} (h : xs.Perm ys) : srtT xs = srtT ys :=
  perm_eq (le := (· ≤ ·)) (fun a b h1 h2 => List.le_antisymm h1 h2) (((srtT_perm xs).trans h).trans (srtT_perm ys).symm) (srtT_sorted xs) (srtT_sorted ys)
theorem mem_srtT {x : List Nat} {xs : List (List Nat)} : x ∈ srtT xs ↔ x ∈ xs := (srtT_perm xs).mem_iff
theorem srtT_len (xs : List (List Nat)) : (srtT xs).length = xs.length := (srtT_perm xs).length_eq
theorem dle_str (a b : List Nat) : dle (.str a) (.str b) = decide (a ≤ b) := by
  have h := congrFun (congrFun (PySem.W.dataLe_str (fun b : List Nat => (⟨b.toArray⟩ : Str))) a) b
  have e : dle (.str a) (.str b) = PySem.W.dataLe false (fun b : List Nat => PyData.str ⟨b.toArray⟩) a b := rfl
  rw [e, h]
theorem srt_txs (xs : List (List Nat)) : srt (txs xs) = txs (srtT xs) := by
  unfold srt txs srtT
  exact (List.map_mergeSort (fun a _ b _ => by rw [dle_str])).symm
theorem Srt.txs {xs : List (List Nat)} (h : ∀ x ∈ xs, ∀ c ∈ x, c < 128) : Srt (txs xs) := by
  refine ⟨?_, ?_, fun d hd => ?_⟩
  · unfold Vc.txs
    rw [List.map_map]
    exact PySem.W.AllAlike.of fun b b' => rfl
  · unfold Vc.txs
    rw [List.map_map]
    exact PySem.W.Sortable.others fun b => ⟨fun e => PyData.noConfusion e, fun xs e => PyData.noConfusion e⟩
  · obtain ⟨x, hx, rfl⟩ := List.mem_map.mp hd
    unfold D.pr
    rw [List.all_eq_true]
    intro c hc
    have := h x hx c hc
    simp only [decide_eq_true_eq]
    omega
def nats (xs : List Nat) : List D := xs.map fun (n : Nat) => D.int (n : Int)
theorem fl_txs (xs : List (List Nat)) : (txs xs).all D.fl = true := by
  rw [List.all_eq_true]
  intro d hd
  obtain ⟨x, _, rfl⟩ := List.mem_map.mp hd
  rfl
theorem fl_nats (xs : List Nat) : (nats xs).all D.fl = true := by
  rw [List.all_eq_true]
  intro d hd
  obtain ⟨x, _, rfl⟩ := List.mem_map.mp hd
  rfl
theorem inD_txs {x : List Nat} : ∀ {xs : List (List Nat)}, inD (.str x) (txs xs) = decide (x ∈ xs)
  | [] => by simp [inD, txs]
  | y :: ys => by
    have h := inD_txs (x := x) (xs := ys)
    unfold inD txs at h ⊢
    rw [List.map_cons, List.any_cons, h]
    by_cases e : y = x
    · subst e; simp [feq]
    · have e' : ¬ x = y := fun z => e z.symm
      simp [feq, e, e']
theorem inD_nats {x : Nat} : ∀ {xs : List Nat}, inD (.int (x : Int)) (nats xs) = decide (x ∈ xs)
  | [] => by simp [inD, nats]
  | y :: ys => by
    have h := inD_nats (x := x) (xs := ys)
    unfold inD nats at h ⊢
    rw [List.map_cons, List.any_cons, h]
    by_cases e : y = x
    · subst e; simp [feq]
    · have e' : ¬ x = y := fun z => e z.symm
      have e2 : ¬ ((y : Int) = (x : Int)) := by omega
      simp [feq, e', e2]
theorem in_txs {x : List Nat} {xs : List (List Nat)} {f : Bool → Bool} {G : Hg} {P : KD} (p : P (.bl (f (decide (x ∈ xs)))) G) : rInB f (.str x) (.rol (txs xs)) G P := ⟨rfl, fl_txs xs, by rw [inD_txs]; exact p⟩
theorem in_txsT {x : List Nat} {xs : List (List Nat)} {f : Bool → Bool} {G : Hg} {P : KD} (p : P (.bl (f (decide (x ∈ xs)))) G) : rInB f (.str x) (.tup (txs xs)) G P := ⟨rfl, fl_txs xs, by rw [inD_txs]; exact p⟩
theorem in_txsR {a : Addr} {x : List Nat} {xs : List (List Nat)} {f : Bool → Bool} {G : Hg} {P : KD} (h : G a = some (.lst (txs xs))) (p : P (.bl (f (decide (x ∈ xs)))) G) : rInB f (.str x) (.ref a) G P := ⟨_, h, rfl, fl_txs xs, by rw [inD_txs]; exact p⟩
theorem in_natsR {a : Addr} {x : Nat} {xs : List Nat} {f : Bool → Bool} {G : Hg} {P : KD} (h : G a = some (.lst (nats xs))) (p : P (.bl (f (decide (x ∈ xs)))) G) : rInB f (.int (x : Int)) (.ref a) G P := ⟨_, h, rfl, fl_nats xs, by rw [inD_nats]; exact p⟩
theorem deqv_str (x y : List Nat) : PyData.eqv (D.str x).py (D.str y).py = decide (x = y) := by
  show ((⟨x.toArray⟩ : Str) == ⟨y.toArray⟩) = _
  rw [beq_str]
  by_cases z : x = y
  · subst z; simp
  · simp [z]
theorem pys_txs : ∀ a b : List (List Nat), PyData.eqvAll (D.pys (txs a)) (D.pys (txs b)) = decide (a = b)
  | [], [] => by simp [txs, D.pys, PyData.eqvAll]
  | [], y :: b => by simp [txs, D.pys, PyData.eqvAll]
  | x :: a, [] => by simp [txs, D.pys, PyData.eqvAll]
  | x :: a, y :: b => by
    have ih := pys_txs a b
    unfold txs at ih ⊢
    rw [List.map_cons, List.map_cons, D.pys, D.pys, PyData.eqvAll, ih, deqv_str]
    by_cases h1 : x = y <;> by_cases h2 : a = b <;> simp [h1, h2]
theorem deqv_txs (a b : List (List Nat)) : deqv (.rol (txs a)) (.rol (txs b)) = decide (a = b) := pys_txs a b
theorem prs_txs : ∀ {n : Nat} {xs : List (List Nat)}, (∀ x ∈ xs, ∀ c ∈ x, c < 128) → D.prs n (txs xs) = true
  | _, [], _ => by simp [txs, D.prs]
  | n, x :: xs, h => by
    have ih := prs_txs (n := n) (xs := xs) fun y hy => h y (List.mem_cons_of_mem _ hy)
    unfold txs at ih ⊢
    rw [List.map_cons, D.prs, ih]
    have hx := h x List.mem_cons_self
    cases n <;> (simp only [D.pr, Bool.and_true, List.all_eq_true, decide_eq_true_eq]; exact fun c hc => by have := hx c hc; omega)
theorem ne_txsR {a b : Addr} {xs ys : List (List Nat)} {G : Hg} {P : KD} (h1 : G a = some (.lst (txs xs))) (h2 : G b = some (.lst (txs ys))) (w1 : ∀ x ∈ xs, ∀ c ∈ x, c < 128) (w2 : ∀ x ∈ ys, ∀ c ∈ x, c < 128) (p : P (.bl (!decide (xs = ys))) G) : rNe (.ref a) (.ref b) G P :=
  .inl ⟨.rol (txs xs), .rol (txs ys), .lst h1, .lst h2, by unfold D.pr; exact prs_txs w1, by unfold D.pr; exact prs_txs w2, by rw [deqv_txs]; exact p⟩
def kys (ks : List (List Nat)) : List (DK × D) := ks.map fun k => (Sum.inr k, .bl true)
theorem kys_put {ks : List (List Nat)} {x : List Nat} : dput (kys ks) (Sum.inr x) (.bl true) = kys (if x ∈ ks then ks else ks ++ [x]) := by
  unfold dput
  have e : ((kys ks).any fun kv => decide (kv.1 = Sum.inr x)) = decide (x ∈ ks) := by
    induction ks with
    | nil => simp [kys]
    | cons k ks ih =>
      unfold kys at ih ⊢
      rw [List.map_cons, List.any_cons, ih]
      by_cases h : k = x
      · subst h; simp
      · have h' : ¬ x = k := fun z => h z.symm
        have h2 : ¬ ((Sum.inr k : DK) = Sum.inr x) := fun z => h (by injection z)
        simp [h', h2]
  rw [e]
  by_cases h : x ∈ ks
  · rw [if_pos (by simpa using h), if_pos h]
    unfold kys
    rw [List.map_map]
    refine List.map_congr_left fun k _ => ?_
    simp only [Function.comp]
    split <;> simp_all
  · rw [if_neg (by simpa using h), if_neg h]
    simp [kys]
theorem kys_keys (ks : List (List Nat)) : ((kys ks).map fun kv => kD kv.1) = txs ks := by
  unfold kys txs
  rw [List.map_map]
  rfl
theorem ins_nodup {α : Type} {ks : List α} {x : α} [Decidable (x ∈ ks)] (h : ks.Nodup) : (if x ∈ ks then ks else ks ++ [x]).Nodup := by
  split
  · exact h
  · rename_i hx
    rw [List.nodup_append]
    refine ⟨h, by simp, fun a ha b hb => ?_⟩
    simp at hb
    subst hb
    exact fun e => hx (e ▸ ha)
theorem ins_mem {α : Type} {ks : List α} {x y : α} [Decidable (x ∈ ks)] : y ∈ (if x ∈ ks then ks else ks ++ [x]) ↔ y ∈ ks ∨ y = x := by
  split
  · rename_i hx
    constructor
    · exact .inl
    · rintro (h | rfl)
      · exact h
      · exact hx
  · simp
theorem nodup_perm {α : Type} [DecidableEq α] {xs ys : List α} (h1 : xs.Nodup) (h2 : ys.Nodup) (h : ∀ x, x ∈ xs ↔ x ∈ ys) : xs.Perm ys := List.perm_iff_count.mpr fun a => by
  by_cases ha : a ∈ xs
  · rw [List.Nodup.count h1, List.Nodup.count h2]
    simp [ha, (h a).mp ha]
  · rw [List.count_eq_zero.mpr ha, List.count_eq_zero.mpr (fun z => ha ((h a).mpr z))]
abbrev Tp := List Nat × List Nat
def tpD (q : Tp) : D := .tup [.str q.1, .str q.2]
def pks (ks : List Tp) : List (List DK × D) := ks.map fun q => ([Sum.inr q.1, Sum.inr q.2], .bl true)
theorem pks_keys (ks : List Tp) : ((pks ks).map fun kv => D.tup (kv.1.map kD)) = ks.map tpD := by
  unfold pks
  rw [List.map_map]
  rfl
theorem pks_put {ks : List Tp} {x : Tp} : dput (pks ks) [Sum.inr x.1, Sum.inr x.2] (.bl true) = pks (if x ∈ ks then ks else ks ++ [x]) := by
  have inj : ∀ k : Tp, ([Sum.inr k.1, Sum.inr k.2] : List DK) = [Sum.inr x.1, Sum.inr x.2] ↔ k = x := by
    intro k
    obtain ⟨a, b⟩ := k
    obtain ⟨c, d⟩ := x
    simp
  unfold dput
  have e : ((pks ks).any fun kv => decide (kv.1 = [Sum.inr x.1, Sum.inr x.2])) = decide (x ∈ ks) := by
    induction ks with
    | nil => simp [pks]
    | cons k ks ih =>
      unfold pks at ih ⊢
      rw [List.map_cons, List.any_cons, ih]
      by_cases h : k = x
      · subst h; simp
      · have h' : ¬ x = k := fun z => h z.symm
        have h2 : ¬ (([Sum.inr k.1, Sum.inr k.2] : List DK) = [Sum.inr x.1, Sum.inr x.2]) := fun z => h ((inj k).mp z)
        rw [decide_eq_false h2]
        simp [h']
  rw [e]
  by_cases h : x ∈ ks
  · rw [if_pos (by simpa using h), if_pos h]
    unfold pks
    rw [List.map_map]
    refine List.map_congr_left fun k _ => ?_
    simp only [Function.comp]
    split <;> rfl
  · rw [if_neg (by simpa using h), if_neg h]
    simp [pks]
def ple (p q : Tp) : Bool := decide (p.1 < q.1 ∨ (p.1 = q.1 ∧ p.2 ≤ q.2))
theorem dlt_str (a b : List Nat) : PySem.W.dataLt (.str ⟨a.toArray⟩) (.str ⟨b.toArray⟩) = decide (a < b) := by
  have h : dle (.str b) (.str a) = !PySem.W.dataLt (.str ⟨a.toArray⟩) (.str ⟨b.toArray⟩) := rfl
  rw [dle_str] at h
  have e : decide (a < b) = !decide (b ≤ a) := by
    by_cases z : a < b
    · have : ¬ b ≤ a := List.not_le.mpr z
      simp [z, this]
    · have : b ≤ a := List.not_lt.mp z
      simp [z, this]
  rw [e, h, Bool.not_not]
theorem dle_tp (p q : Tp) : dle (tpD p) (tpD q) = ple p q := by
  have h : dle (tpD p) (tpD q) = !PySem.W.dataLt (tpD q).py (tpD p).py := rfl
  rw [h]
  show (!PySem.W.dataLt (.tuple [.str ⟨q.1.toArray⟩, .str ⟨q.2.toArray⟩]) (.tuple [.str ⟨p.1.toArray⟩, .str ⟨p.2.toArray⟩])) = _
  rw [PySem.W.dataLt_pair rfl rfl, dlt_str, dlt_str]
  have eq : ∀ a b : List Nat, PyData.eqv (.str ⟨a.toArray⟩) (.str ⟨b.toArray⟩) = decide (a = b) := by
    intro a b
    show ((⟨a.toArray⟩ : Str) == ⟨b.toArray⟩) = _
    rw [beq_str]
    by_cases z : a = b
    · subst z; simp
    · simp [z]
  rw [eq, eq]
  unfold ple
  by_cases h1 : q.1 = p.1
  · have n1 : ¬ p.1 < q.1 := by rw [h1]; exact List.lt_irrefl _
    by_cases h2 : q.2 = p.2
    · simp [h1, h2]
    · have e2 : (!decide (q.2 < p.2)) = decide (p.2 ≤ q.2) := by
        by_cases z : q.2 < p.2
        · have : ¬ p.2 ≤ q.2 := List.not_le.mpr z
          simp [z, this]
        · have : p.2 ≤ q.2 := List.not_lt.mp z
          simp [z, this]
      rw [if_pos (by simpa using h1), if_neg (by simpa using h2), e2]
      have : p.1 = q.1 := h1.symm
      simp [this, List.lt_irrefl]
  · have h1' : ¬ p.1 = q.1 := fun z => h1 z.symm
    rw [if_neg (by simpa using h1)]
    by_cases z : q.1 < p.1
    · have n1 : ¬ p.1 < q.1 := List.lt_asymm z
      simp [z, n1, h1']
    · have : p.1 < q.1 := by
        rcases List.le_iff_lt_or_eq.mp (List.not_lt.mp z) with h | h
        · exact h
        · exact absurd h h1'
      simp [z, this]
def srtP (xs : List Tp) : List Tp := xs.mergeSort ple
theorem srt_tp (xs : List Tp) : srt (xs.map tpD) = (srtP xs).map tpD := by
  unfold srt srtP
  exact (List.map_mergeSort (fun a _ b _ => by rw [dle_tp])).symm
theorem srtP_perm (xs : List Tp) : (srtP xs).Perm xs := List.mergeSort_perm ..
theorem srtP_sorted (xs : List Tp) : (srtP xs).Pairwise fun p q => ple p q = true := by
  refine List.pairwise_mergeSort (fun a b c h1 h2 => ?_) (fun a b => ?_) xs
  · simp only [ple, decide_eq_true_eq] at h1 h2 ⊢
    rcases h1 with h1 | ⟨e1, h1⟩
    · rcases h2 with h2 | ⟨e2, h2⟩
      · exact .inl (List.lt_trans h1 h2)
      · exact .inl (e2 ▸ h1)
    · rcases h2 with h2 | ⟨e2, h2⟩
      · exact .inl (e1 ▸ h2)
      · exact .inr ⟨e1.trans e2, List.le_trans h1 h2⟩
  · simp only [ple, Bool.or_eq_true, decide_eq_true_eq]
    by_cases h : a.1 < b.1
    · exact .inl (.inl h)
    · rcases List.le_iff_lt_or_eq.mp (List.not_lt.mp h) with h | h
      · exact .inr (.inl h)
      · rcases List.le_total a.2 b.2 with z | z
        · exact .inl (.inr ⟨h.symm, z⟩)
        · exact .inr (.inr ⟨h, z⟩)
theorem srtP_of {xs ys : List Tp} (h : xs.Perm ys) : srtP xs = srtP ys :=
  perm_eq (le := fun p q => ple p q = true) (fun a b h1 h2 => by
    simp only [ple, decide_eq_true_eq] at h1 h2
    obtain ⟨a1, a2⟩ := a
    obtain ⟨b1, b2⟩ := b
    simp only at h1 h2
    rcases h1 with h1 | ⟨e1, h1⟩
    · rcases h2 with h2 | ⟨e2, h2⟩
      · exact absurd h2 (List.lt_asymm h1)
      · subst e2; exact absurd h1 (List.lt_irrefl _)
    · rcases h2 with h2 | ⟨e2, h2⟩
      · subst e1; exact absurd h2 (List.lt_irrefl _)
      · subst e1
        rw [List.le_antisymm h1 h2]) (((srtP_perm xs).trans h).trans (srtP_perm ys).symm) (srtP_sorted xs) (srtP_sorted ys)
theorem mem_srtP {x : Tp} {xs : List Tp} : x ∈ srtP xs ↔ x ∈ xs := (srtP_perm xs).mem_iff
theorem Srt.tps {xs : List Tp} (h : ∀ q ∈ xs, (∀ c ∈ q.1, c < 128) ∧ ∀ c ∈ q.2, c < 128) : Srt (xs.map tpD) := by
  refine ⟨?_, ?_, fun d hd => ?_⟩
  · rw [List.map_map]
    exact PySem.W.AllAlike.of fun b b' => rfl
  · rw [List.map_map]
    exact PySem.W.Sortable.tuples fun b => ⟨_, _, rfl⟩
  · obtain ⟨q, hq, rfl⟩ := List.mem_map.mp hd
    have h1 := (h q hq).1
    have h2 := (h q hq).2
    unfold tpD D.pr D.prs D.prs D.prs D.pr
    simp only [Bool.and_true, Bool.and_eq_true, List.all_eq_true, decide_eq_true_eq]
    exact ⟨fun c hc => by have := h1 c hc; omega, fun c hc => by have := h2 c hc; omega⟩
def upr (a b : List Nat) : Tp := (if b < a then b else a, if a < b then b else a)
end Vc

set_option Elab.async false
set_option linter.all false
set_option autoImplicit false
set_option maxRecDepth 100000
set_option maxHeartbeats 2000000
namespace My
open PySem PySem.Spec PyProof.Rows L2 Vc
def S_rows : List Nat := [114, 111, 119, 115]
def S_fail : List Nat := [102, 97, 105, 108]
def S_return : List Nat := [114, 101, 116, 117, 114, 110]
def S_jump : List Nat := [106, 117, 109, 112]
def S_test : List Nat := [116, 101, 115, 116]
def S_var : List Nat := [118, 97, 114]
def S_cell : List Nat := [99, 101, 108, 108]
def S_cmp : List Nat := [99, 109, 112]
def S_either : List Nat := [101, 105, 116, 104, 101, 114]
def S_all : List Nat := [97, 108, 108]
def S_below : List Nat := [98, 101, 108, 111, 119]
def S_list : List Nat := [108, 105, 115, 116]
def S_set : List Nat := [115, 101, 116]
def S_put : List Nat := [112, 117, 116]
def S_choose : List Nat := [99, 104, 111, 111, 115, 101]
def S_swap : List Nat := [115, 119, 97, 112]
def S_call : List Nat := [99, 97, 108, 108]
def S_mark : List Nat := [109, 97, 114, 107]
def S_registers : List Nat := [114, 101, 103, 105, 115, 116, 101, 114, 115]
def S_name : List Nat := [110, 97, 109, 101]
def S_parameters : List Nat := [112, 97, 114, 97, 109, 101, 116, 101, 114, 115]
def S_needs : List Nat := [110, 101, 101, 100, 115]
def S_gives : List Nat := [103, 105, 118, 101, 115]
def S_falls : List Nat := [102, 97, 108, 108, 115]
def S_changes : List Nat := [99, 104, 97, 110, 103, 101, 115]
def S_uses : List Nat := [117, 115, 101, 115]
def S_Head : List Nat := [72, 101, 97, 100]
def S_Unit : List Nat := [85, 110, 105, 116]
def S_head : List Nat := [104, 101, 97, 100]
def S_empty : List Nat := []
def S_abcdefghijklmnopqstuvwxyz : List Nat := [97, 98, 99, 100, 101, 102, 103, 104, 105, 106, 107, 108, 109, 110, 111, 112, 113, 115, 116, 117, 118, 119, 120, 121, 122]
def S_qzjx : List Nat := [113, 122, 106, 120]
def S_abcdefgh : List Nat := [97, 98, 99, 100, 101, 102, 103, 104]
def S_numbers : List Nat := [110, 117, 109, 98, 101, 114, 115]
def S_lists : List Nat := [108, 105, 115, 116, 115]
def S_len : List Nat := [108, 101, 110]
def S_num : List Nat := [110, 117, 109]
def S_old : List Nat := [111, 108, 100]
def S_33_61 : List Nat := [33, 61]
def S_61_61 : List Nat := [61, 61]
def S_62_61 : List Nat := [62, 61]
def S_62 : List Nat := [62]
def S_60_61 : List Nat := [60, 61]
def S_60 : List Nat := [60]
def S_match : List Nat := [109, 97, 116, 99, 104]
def S_sorted : List Nat := [115, 111, 114, 116, 101, 100]
def S_result : List Nat := [114, 101, 115, 117, 108, 116]
def S_zq : List Nat := [122, 113]
def S_b : List Nat := [98]
def S_a : List Nat := [97]
abbrev Tx := List Nat
inductive Pl where
  | num (n : Int)
  | var (x : Tx) (n : Int)
  | len (x : Tx) (n : Int)
def Pl.d : Pl → D
  | .num n => .tup [.str S_num, .int n]
  | .var x n => .tup [.str S_var, .str x, .int n]
  | .len x n => .tup [.str S_len, .str x, .int n]
inductive Tm where
  | pl (p : Pl)
  | cell (x : Tx) (o : Bool) (i : Pl) (n : Int)
def oneD (x : Tx) (o : Bool) : D := .tup [.str x, .bl o]
def Tm.d : Tm → D
  | .pl p => p.d
  | .cell x o i n => .tup [.str S_cell, oneD x o, i.d, .int n]
structure Cm where
  sg : Tx
  a : Tm
  b : Tm
def Cm.d (c : Cm) : D := .tup [.str S_cmp, .str c.sg, c.a.d, c.b.d]
inductive Pr where
  | cmp (c : Cm)
  | either (a b : Cm)
  | all (x : Tx) (o : Bool) (lo hi : Pl) (sg : Tx) (q : Pl)
  | mat (x : Tx) (o : Bool) (lo hi : Pl) (sg : Tx) (y : Tx) (p : Bool) (n : Int)
  | sor (x : Tx) (o : Bool) (lo hi : Pl)
  | bel (x : Tx) (o : Bool) (lo hi : Pl) (y : Tx) (p : Bool) (a b : Pl)
def Pr.d : Pr → D
  | .cmp c => c.d
  | .either a b => .tup [.str S_either, a.d, b.d]
  | .all x o lo hi sg q => .tup [.str S_all, oneD x o, lo.d, hi.d, .str sg, q.d]
  | .mat x o lo hi sg y p n => .tup [.str S_match, oneD x o, lo.d, hi.d, .str sg, oneD y p, .int n]
  | .sor x o lo hi => .tup [.str S_sorted, oneD x o, lo.d, hi.d]
  | .bel x o lo hi y p a b => .tup [.str S_below, oneD x o, lo.d, hi.d, oneD y p, a.d, b.d]
inductive Ag where
  | lst (x : Tx)
  | pl (p : Pl)
def Ag.d : Ag → D
  | .lst x => .tup [.str S_list, .str x]
  | .pl p => p.d
inductive Rw where
  | set (r : Int) (x : Tx) (t : Tm)
  | put (r : Int) (c : Tx) (p : Pl) (t : Tm)
  | swap (r : Int) (c : Tx) (p q : Pl)
  | choose (r : Int) (x : Tx) (p q : Pl)
  | call (r : Int) (x n : Tx) (as : List Ag)
  | ret (r : Int) (t : Tm)
  | test (r : Int) (c : Cm) (aim : Nat)
  | mark (r : Int) (prs : List Pr) (f1 f2 : Pl) (ns ls : List Tx)
  | jump (r : Int) (aim : Nat)
  | fail (r : Int)
def Rw.d : Rw → D
  | .set r x t => .tup [.str S_set, .int r, .str x, t.d]
  | .put r c p t => .tup [.str S_put, .int r, .str c, p.d, t.d]
  | .swap r c p q => .tup [.str S_swap, .int r, .str c, p.d, q.d]
  | .choose r x p q => .tup [.str S_choose, .int r, .str x, p.d, q.d]
  | .call r x n as => .tup [.str S_call, .int r, .str x, .str n, .tup (as.map Ag.d)]
  | .ret r t => .tup [.str S_return, .int r, t.d]
  | .test r c a => .tup [.str S_test, .int r, c.d, .int a]
  | .mark r prs f1 f2 ns ls => .tup [.str S_mark, .int r, .tup (prs.map Pr.d), .tup [f1.d, f2.d], .tup (txs ns), .tup (txs ls)]
  | .jump r a => .tup [.str S_jump, .int r, .int a]
  | .fail r => .tup [.str S_fail, .int r]
structure Hd where
  nm : Tx
  ps : List (Tx × Bool)
  ne : List Pr
  gi : List Pr
  ch : List Tx
structure Un where
  nm : Tx
  ps : List (Tx × Bool)
  ne : List Pr
  gi : List Pr
  fa : Option (Pl × Pl)
  ch : List Tx
  us : List Hd
  rg : List Tx
  rows : List Rw
def parD (ps : List (Tx × Bool)) : List D := ps.map fun p => oneD p.1 p.2
def faD : Option (Pl × Pl) → D
  | none => .non
  | some (a, b) => .tup [a.d, b.d]
def Hd.obj (h : Hd) : D := .obj S_Head [(S_name, .str h.nm), (S_parameters, .tup (parD h.ps)), (S_needs, .tup (h.ne.map Pr.d)), (S_gives, .tup (h.gi.map Pr.d)), (S_falls, .non), (S_changes, .tup (txs h.ch))]
def Un.obj (u : Un) : D := .obj S_Unit [(S_name, .str u.nm), (S_parameters, .tup (parD u.ps)), (S_needs, .tup (u.ne.map Pr.d)), (S_gives, .tup (u.gi.map Pr.d)), (S_falls, faD u.fa), (S_changes, .tup (txs u.ch)), (S_uses, .tup (u.us.map Hd.obj)), (S_registers, .tup (txs u.rg)), (S_rows, .tup (u.rows.map Rw.d))]
def sk (x : Tx) : DK := Sum.inr x
def Hd.dct (h : Hd) : D := .rdc [(sk S_name, .str h.nm), (sk S_parameters, .rol (parD h.ps)), (sk S_falls, .non), (sk S_needs, .rol (h.ne.map Pr.d)), (sk S_gives, .rol (h.gi.map Pr.d)), (sk S_changes, .rol (txs h.ch))]
structure Kf (K : PySem.W.Frag) : Prop where
  u : ∀ f ∈ [S_name, S_parameters, S_needs, S_gives, S_falls, S_changes, S_uses, S_registers, S_rows], Fld K S_Unit f
  h : ∀ f ∈ [S_name, S_parameters, S_needs, S_gives, S_falls, S_changes], Fld K S_Head f
def Wn (x : Tx) : Prop := ∀ c ∈ x, c < 128 ∧ c ≠ 114
theorem Wn.var {x : Tx} (h : Wn x) : x ≠ S_var := by
  intro e
  subst e
  exact (h 114 (by simp [S_var])).2 rfl
end My

set_option Elab.async false
set_option linter.all false
set_option maxRecDepth 100000
set_option maxHeartbeats 0
namespace My
open PySem PySem.Spec PyProof.Rows L2
def top (i : Nat) : Stmt := PySem.Challenge.pw_sworncode_k61_lives_and_foes.main.body.getD i (.Pass ⟨0, 0, 0, 0⟩)
def d_steps_from : He.DefD := ⟨("steps_from", none), "steps_from", "steps_from", defArgs (top 2), defBody (top 2), defScope (top 2), [], []⟩
def d_next_rows : He.DefD := ⟨("next_rows", none), "next_rows", "next_rows", defArgs (top 3), defBody (top 3), defScope (top 3), [], []⟩
def d_names_of_plain : He.DefD := ⟨("names_of_plain", none), "names_of_plain", "names_of_plain", defArgs (top 5), defBody (top 5), defScope (top 5), [], []⟩
def d_names_of_term : He.DefD := ⟨("names_of_term", none), "names_of_term", "names_of_term", defArgs (top 6), defBody (top 6), defScope (top 6), [], []⟩
def d_names_of_comparison : He.DefD := ⟨("names_of_comparison", none), "names_of_comparison", "names_of_comparison", defArgs (top 7), defBody (top 7), defScope (top 7), [], []⟩
def d_names_of_promise : He.DefD := ⟨("names_of_promise", none), "names_of_promise", "names_of_promise", defArgs (top 8), defBody (top 8), defScope (top 8), [], []⟩
def d_names_of_mark : He.DefD := ⟨("names_of_mark", none), "names_of_mark", "names_of_mark", defArgs (top 9), defBody (top 9), defScope (top 9), [], []⟩
def d_names_of_call : He.DefD := ⟨("names_of_call", none), "names_of_call", "names_of_call", defArgs (top 10), defBody (top 10), defScope (top 10), [], []⟩
def d_names_read : He.DefD := ⟨("names_read", none), "names_read", "names_read", defArgs (top 11), defBody (top 11), defScope (top 11), [], []⟩
def d_reads : He.DefD := ⟨("reads", none), "reads", "reads", defArgs (top 12), defBody (top 12), defScope (top 12), [], []⟩
def d_given_by : He.DefD := ⟨("given_by", none), "given_by", "given_by", defArgs (top 13), defBody (top 13), defScope (top 13), [], []⟩
def d_alive_behind : He.DefD := ⟨("alive_behind", none), "alive_behind", "alive_behind", defArgs (top 14), defBody (top 14), defScope (top 14), [], []⟩
def d_alive_before : He.DefD := ⟨("alive_before", none), "alive_before", "alive_before", defArgs (top 15), defBody (top 15), defScope (top 15), [], []⟩
def d_alive_at : He.DefD := ⟨("alive_at", none), "alive_at", "alive_at", defArgs (top 16), defBody (top 16), defScope (top 16), [], []⟩
def d_made_by : He.DefD := ⟨("made_by", none), "made_by", "made_by", defArgs (top 17), defBody (top 17), defScope (top 17), [], []⟩
def d_add_foes : He.DefD := ⟨("add_foes", none), "add_foes", "add_foes", defArgs (top 18), defBody (top 18), defScope (top 18), [], []⟩
def d_foes : He.DefD := ⟨("foes", none), "foes", "foes", defArgs (top 19), defBody (top 19), defScope (top 19), [], []⟩
def d_Head___init__ : He.DefD := ⟨("Head", some "__init__"), "__init__", "Head.__init__", defArgs (inClass (top 21) 0), defBody (inClass (top 21) 0), defScope (inClass (top 21) 0), [], []⟩
def d_Head_parts : He.DefD := ⟨("Head", some "parts"), "parts", "Head.parts", defArgs (inClass (top 21) 3), defBody (inClass (top 21) 3), defScope (inClass (top 21) 3), [], []⟩
def d_Head_same : He.DefD := ⟨("Head", some "same"), "same", "Head.same", defArgs (inClass (top 21) 4), defBody (inClass (top 21) 4), defScope (inClass (top 21) 4), [], []⟩
def d_Unit___init__ : He.DefD := ⟨("Unit", some "__init__"), "__init__", "Unit.__init__", defArgs (inClass (top 22) 0), defBody (inClass (top 22) 0), defScope (inClass (top 22) 0), [], []⟩
def d_Unit_head : He.DefD := ⟨("Unit", some "head"), "head", "Unit.head", defArgs (inClass (top 22) 3), defBody (inClass (top 22) 3), defScope (inClass (top 22) 3), [], []⟩
def d_Unit_used : He.DefD := ⟨("Unit", some "used"), "used", "Unit.used", defArgs (inClass (top 22) 4), defBody (inClass (top 22) 4), defScope (inClass (top 22) 4), [], []⟩
def d_Unit_same : He.DefD := ⟨("Unit", some "same"), "same", "Unit.same", defArgs (inClass (top 22) 5), defBody (inClass (top 22) 5), defScope (inClass (top 22) 5), [], []⟩
def d__law_box : He.DefD := ⟨("_law_box", none), "_law_box", "_law_box", defArgs (top 24), defBody (top 24), defScope (top 24), [], []⟩
def d__law_next : He.DefD := ⟨("_law_next", none), "_law_next", "_law_next", defArgs (top 25), defBody (top 25), defScope (top 25), [], []⟩
def d__law_names : He.DefD := ⟨("_law_names", none), "_law_names", "_law_names", defArgs (top 26), defBody (top 26), defScope (top 26), [], []⟩
def d__law_plain_drawn : He.DefD := ⟨("_law_plain_drawn", none), "_law_plain_drawn", "_law_plain_drawn", defArgs (top 27), defBody (top 27), defScope (top 27), [], []⟩
def d__law_list_drawn : He.DefD := ⟨("_law_list_drawn", none), "_law_list_drawn", "_law_list_drawn", defArgs (top 28), defBody (top 28), defScope (top 28), [], []⟩
def d__law_term_drawn : He.DefD := ⟨("_law_term_drawn", none), "_law_term_drawn", "_law_term_drawn", defArgs (top 29), defBody (top 29), defScope (top 29), [], []⟩
def d__law_cmp_drawn : He.DefD := ⟨("_law_cmp_drawn", none), "_law_cmp_drawn", "_law_cmp_drawn", defArgs (top 30), defBody (top 30), defScope (top 30), [], []⟩
def d__law_promise_drawn : He.DefD := ⟨("_law_promise_drawn", none), "_law_promise_drawn", "_law_promise_drawn", defArgs (top 31), defBody (top 31), defScope (top 31), [], []⟩
def d__law_mixed_head : He.DefD := ⟨("_law_mixed_head", none), "_law_mixed_head", "_law_mixed_head", defArgs (top 32), defBody (top 32), defScope (top 32), [], []⟩
def d__law_mixed_call : He.DefD := ⟨("_law_mixed_call", none), "_law_mixed_call", "_law_mixed_call", defArgs (top 33), defBody (top 33), defScope (top 33), [], []⟩
def d__law_mixed_row : He.DefD := ⟨("_law_mixed_row", none), "_law_mixed_row", "_law_mixed_row", defArgs (top 34), defBody (top 34), defScope (top 34), [], []⟩
def d__law_loops : He.DefD := ⟨("_law_loops", none), "_law_loops", "_law_loops", defArgs (top 35), defBody (top 35), defScope (top 35), [], []⟩
def d__law_changed : He.DefD := ⟨("_law_changed", none), "_law_changed", "_law_changed", defArgs (top 36), defBody (top 36), defScope (top 36), [], []⟩
def d__law_marked : He.DefD := ⟨("_law_marked", none), "_law_marked", "_law_marked", defArgs (top 37), defBody (top 37), defScope (top 37), [], []⟩
def d__law_mixed : He.DefD := ⟨("_law_mixed", none), "_law_mixed", "_law_mixed", defArgs (top 38), defBody (top 38), defScope (top 38), [], []⟩
def d__law_free : He.DefD := ⟨("_law_free", none), "_law_free", "_law_free", defArgs (top 39), defBody (top 39), defScope (top 39), [], []⟩
def d__law_head_made : He.DefD := ⟨("_law_head_made", none), "_law_head_made", "_law_head_made", defArgs (top 40), defBody (top 40), defScope (top 40), [], []⟩
def d__law_made : He.DefD := ⟨("_law_made", none), "_law_made", "_law_made", defArgs (top 41), defBody (top 41), defScope (top 41), [], []⟩
def d__law_same : He.DefD := ⟨("_law_same", none), "_law_same", "_law_same", defArgs (top 42), defBody (top 42), defScope (top 42), [], []⟩
def d__law_is_head : He.DefD := ⟨("_law_is_head", none), "_law_is_head", "_law_is_head", defArgs (top 43), defBody (top 43), defScope (top 43), [], []⟩
def d__law_is : He.DefD := ⟨("_law_is", none), "_law_is", "_law_is", defArgs (top 44), defBody (top 44), defScope (top 44), [], []⟩
def d__law_named : He.DefD := ⟨("_law_named", none), "_law_named", "_law_named", defArgs (top 45), defBody (top 45), defScope (top 45), [], []⟩
def d__law_reads : He.DefD := ⟨("_law_reads", none), "_law_reads", "_law_reads", defArgs (top 46), defBody (top 46), defScope (top 46), [], []⟩
def d__law_given : He.DefD := ⟨("_law_given", none), "_law_given", "_law_given", defArgs (top 47), defBody (top 47), defScope (top 47), [], []⟩
def d__law_after : He.DefD := ⟨("_law_after", none), "_law_after", "_law_after", defArgs (top 48), defBody (top 48), defScope (top 48), [], []⟩
def d__law_alive : He.DefD := ⟨("_law_alive", none), "_law_alive", "_law_alive", defArgs (top 49), defBody (top 49), defScope (top 49), [], []⟩
def d__law_foes : He.DefD := ⟨("_law_foes", none), "_law_foes", "_law_foes", defArgs (top 50), defBody (top 50), defScope (top 50), [], []⟩
def d__law_told_rightly : He.DefD := ⟨("_law_told_rightly", none), "_law_told_rightly", "_law_told_rightly", defArgs (top 51), defBody (top 51), defScope (top 51), [], []⟩
def d_law : He.DefD := ⟨("law", none), "law", "law", defArgs (top 52), defBody (top 52), defScope (top 52), [], []⟩
def fn : List He.DefD := [d_steps_from, d_next_rows, d_names_of_plain, d_names_of_term, d_names_of_comparison, d_names_of_promise, d_names_of_mark, d_names_of_call, d_names_read, d_reads, d_given_by, d_alive_behind, d_alive_before, d_alive_at, d_made_by, d_add_foes, d_foes, d_Head___init__, d_Head_parts, d_Head_same, d_Unit___init__, d_Unit_head, d_Unit_used, d_Unit_same, d__law_box, d__law_next, d__law_names, d__law_plain_drawn, d__law_list_drawn, d__law_term_drawn, d__law_cmp_drawn, d__law_promise_drawn, d__law_mixed_head, d__law_mixed_call, d__law_mixed_row, d__law_loops, d__law_changed, d__law_marked, d__law_mixed, d__law_free, d__law_head_made, d__law_made, d__law_same, d__law_is_head, d__law_is, d__law_named, d__law_reads, d__law_given, d__law_after, d__law_alive, d__law_foes, d__law_told_rightly, d_law]
def fa : List He.Fa := [.glo "steps_from", .glo "next_rows", .glo "names_of_plain", .glo "names_of_term", .glo "names_of_comparison", .glo "names_of_promise", .glo "names_of_mark", .glo "names_of_call", .glo "names_read", .glo "reads", .glo "given_by", .glo "alive_behind", .glo "alive_before", .glo "alive_at", .glo "made_by", .glo "add_foes", .glo "foes", .glo "Head", .glo "Unit", .glo "_law_box", .glo "_law_next", .glo "_law_names", .glo "_law_plain_drawn", .glo "_law_list_drawn", .glo "_law_term_drawn", .glo "_law_cmp_drawn", .glo "_law_promise_drawn", .glo "_law_mixed_head", .glo "_law_mixed_call", .glo "_law_mixed_row", .glo "_law_loops", .glo "_law_changed", .glo "_law_marked", .glo "_law_mixed", .glo "_law_free", .glo "_law_head_made", .glo "_law_made", .glo "_law_same", .glo "_law_is_head", .glo "_law_is", .glo "_law_named", .glo "_law_reads", .glo "_law_given", .glo "_law_after", .glo "_law_alive", .glo "_law_foes", .glo "_law_told_rightly", .glo "law", .free "abs", .free "bool", .free "dict", .free "int", .free "isinstance", .free "len", .free "list", .free "max", .free "min", .free "property", .free "range", .free "reversed", .free "sorted", .free "str", .free "tuple", .cls "Head", .mkr "Head", .noat "Head" "name", .noat "Head" "parameters", .noat "Head" "needs", .noat "Head" "gives", .noat "Head" "falls", .noat "Head" "changes", .meth "Head" "parts", .meth "Head" "same", .cls "Unit", .mkr "Unit", .noat "Unit" "name", .noat "Unit" "parameters", .noat "Unit" "needs", .noat "Unit" "gives", .noat "Unit" "falls", .noat "Unit" "changes", .noat "Unit" "uses", .noat "Unit" "registers", .noat "Unit" "rows", .meth "Unit" "head", .meth "Unit" "used", .meth "Unit" "same"]
abbrev R : PySem.W.OpenRow := PySem.W.OpenLaw.row PySem.Challenge.rw_sworncode_k61_lives_and_foes
abbrev hk : PySem.W.Hook := He.hookD 6 fa fn
def ob (s : PySem.W.SharedT) : He.AlD := He.obsDG 6 fa fn (HandSHeadRun.getT s)
theorem ob_eq (s : PySem.W.SharedT) : ob s = hk.obs s.abs := He.obsDG_eq (HandSHeadRun.getT_eq s)
def loose0 : List PySem.Str := ["_wall", "__name__", "steps_from", "next_rows", "names_of_plain", "names_of_term", "names_of_comparison", "names_of_promise", "names_of_mark", "names_of_call", "names_read", "reads", "given_by", "alive_behind", "alive_before", "alive_at", "made_by", "add_foes", "foes", "Head"]
def loose1 : List PySem.Str := ["Unit", "_law_box", "_law_next", "_law_names", "_law_plain_drawn", "_law_list_drawn", "_law_term_drawn", "_law_cmp_drawn", "_law_promise_drawn", "_law_mixed_head", "_law_mixed_call", "_law_mixed_row", "_law_loops", "_law_changed", "_law_marked", "_law_mixed", "_law_free", "_law_head_made", "_law_made", "_law_same"]
def loose2 : List PySem.Str := ["_law_is_head", "_law_is", "_law_named", "_law_reads", "_law_given", "_law_after", "_law_alive", "_law_foes", "_law_told_rightly"]
def loose : List PySem.Str := loose0 ++ loose1 ++ loose2
theorem run (w : World) : HandSHeadRun.RunEq R (PySem.W.view R.prog [52]) hk ob 6000 loose w := by
  intro os
  kernel_rfl
end My

set_option Elab.async false
set_option linter.all false
set_option autoImplicit false
set_option maxRecDepth 100000
set_option maxHeartbeats 2000000
namespace My
open PySem PySem.Spec PyProof.Rows L2 Vc
def stp (r : Rw) (k : Nat) : List Nat := match r with
  | .ret .. => []
  | .fail .. => []
  | .jump _ a => [a]
  | .test _ _ a => [k + 1, a]
  | _ => [k + 1]
def Pl.ns : Pl → List Tx
  | .var x _ => [x]
  | _ => []
def Tm.ns : Tm → List Tx
  | .pl p => p.ns
  | .cell _ _ i _ => i.ns
def Cm.ns (c : Cm) : List Tx := c.a.ns ++ c.b.ns
def Pr.ns : Pr → List Tx
  | .cmp c => c.ns
  | .either a b => a.ns ++ b.ns
  | .all _ _ lo hi _ q => lo.ns ++ hi.ns ++ q.ns
  | .mat _ _ lo hi _ _ _ _ => lo.ns ++ hi.ns
  | .sor _ _ lo hi => lo.ns ++ hi.ns
  | .bel _ _ lo hi _ _ a b => lo.ns ++ hi.ns ++ a.ns ++ b.ns
def Ag.ns : Ag → List Tx
  | .lst _ => []
  | .pl p => p.ns
def Rw.ns : Rw → List Tx
  | .set _ _ t => t.ns
  | .put _ _ p t => p.ns ++ t.ns
  | .swap _ _ p q => p.ns ++ q.ns
  | .choose _ _ p q => p.ns ++ q.ns
  | .call _ _ _ as => as.flatMap Ag.ns
  | .ret _ t => t.ns
  | .test _ c _ => c.ns
  | .mark _ prs f1 f2 _ _ => prs.foldl (fun acc p => acc ++ p.ns) (f1.ns ++ f2.ns)
  | .jump .. => []
  | .fail .. => []
def Rw.giv : Rw → Option Tx
  | .set _ x _ => some x
  | .choose _ x _ _ => some x
  | .call _ x _ _ => some x
  | _ => none
def Rw.mks : Rw → List Tx
  | .mark _ _ _ _ ns _ => ns
  | _ => []
def optD : Option Tx → D
  | none => .non
  | some x => .str x
abbrev Sz (n : Nat) : Prop := n ≤ 1000
def Rw.sz : Rw → Prop
  | .call _ _ _ as => Sz as.length
  | .mark _ prs _ _ ns ls => Sz prs.length ∧ Sz ns.length
  | _ => True
structure Un.ok (u : Un) : Prop where
  sz : Sz u.rows.length
  rsz : Sz u.rg.length
  nd : u.rg.Nodup
  wn : ∀ x ∈ u.rg, Wn x
  rws : ∀ r ∈ u.rows, r.sz
  gv : ∀ r ∈ u.rows, ∀ x, r.giv = some x → x ∈ u.rg
  mks : ∀ r ∈ u.rows, ∀ x ∈ r.mks, x ∈ u.rg
  go : ∀ (k : Nat) (r : Rw), u.rows[k]? = some r → ∀ t ∈ stp r k, t < u.rows.length
def sp_steps_from : Spg := fun ds G P => ∃ (u : Un) (k : Nat) (r : Rw), ds = [u.obj, .int k] ∧ u.ok ∧ u.rows[k]? = some r ∧ P (.rol (nats (stp r k))) G
def ddp (xs : List Nat) : List Nat := xs.foldl (fun acc t => if t ∈ acc then acc else acc ++ [t]) []
def sp_next_rows : Spg := fun ds G P => ∃ (u : Un) (k : Nat) (r : Rw), ds = [u.obj, .int k] ∧ u.ok ∧ u.rows[k]? = some r ∧ P (.rol (nats (ddp (stp r k)))) G
def sp_names_of_plain : Spg := fun ds G P => ∃ p : Pl, ds = [p.d] ∧ P (.rol (txs p.ns)) G
def sp_names_of_term : Spg := fun ds G P => ∃ p : Tm, ds = [p.d] ∧ P (.rol (txs p.ns)) G
def sp_names_of_comparison : Spg := fun ds G P => ∃ p : Cm, ds = [p.d] ∧ P (.rol (txs p.ns)) G
def sp_names_of_promise : Spg := fun ds G P => ∃ p : Pr, ds = [p.d] ∧ P (.rol (txs p.ns)) G
def sp_names_of_mark : Spg := fun ds G P => ∃ (r : Int) (prs : List Pr) (f1 f2 : Pl) (ns ls : List Tx), ds = [(Rw.mark r prs f1 f2 ns ls).d] ∧ Sz prs.length ∧ P (.rol (txs (Rw.mark r prs f1 f2 ns ls).ns)) G
def sp_names_of_call : Spg := fun ds G P => ∃ (r : Int) (x n : Tx) (as : List Ag), ds = [(Rw.call r x n as).d] ∧ Sz as.length ∧ P (.rol (txs (Rw.call r x n as).ns)) G
def sp_names_read : Spg := fun ds G P => ∃ r : Rw, ds = [r.d] ∧ r.sz ∧ P (.rol (txs r.ns)) G
def rds (rg : List Tx) (r : Rw) : List Tx := srtT (rg.filter fun x => decide (x ∈ r.ns))
theorem canon {rg ks : List Tx} {p : Tx → Prop} [DecidablePred p] (h1 : rg.Nodup) (h2 : ks.Nodup) (h : ∀ x, x ∈ ks ↔ x ∈ rg ∧ p x) : srtT ks = srtT (rg.filter fun x => decide (p x)) :=
  srtT_of (nodup_perm h2 (h1.filter _) fun x => by rw [h, List.mem_filter]; simp)
def sp_reads : Spg := fun ds G P => ∃ (u : Un) (k : Nat) (r : Rw), ds = [u.obj, .int k] ∧ u.ok ∧ u.rows[k]? = some r ∧ rL (txs (rds u.rg r)) G P
def sp_given_by : Spg := fun ds G P => ∃ (u : Un) (k : Nat) (r : Rw), ds = [u.obj, .int k] ∧ u.ok ∧ u.rows[k]? = some r ∧ P (optD r.giv) G
structure Alv (G : Hg) (pa : Addr) (as : List Addr) (L : List (List Tx)) : Prop where
  top : G pa = some (.lst (as.map .ref))
  len : as.length = L.length
  at_ : ∀ (i : Nat) (a : Addr) (l : List Tx), as[i]? = some a → L[i]? = some l → G a = some (.lst (txs l))
def atL (L : List (List Tx)) (i : Nat) : List Tx := (L[i]?).getD []
structure LOk (u : Un) (L : List (List Tx)) : Prop where
  len : L.length = u.rows.length
  nd : ∀ l ∈ L, l.Nodup
  rg : ∀ l ∈ L, ∀ x ∈ l, x ∈ u.rg
theorem LOk.at_ {u : Un} {L : List (List Tx)} (h : LOk u L) {k : Nat} : (atL L k).Nodup ∧ ∀ x ∈ atL L k, x ∈ u.rg := by
  unfold atL
  cases e : L[k]? with
  | none => simp
  | some l => exact ⟨h.nd l (List.mem_of_getElem? e), h.rg l (List.mem_of_getElem? e)⟩
def sp_alive_behind : Spg := fun ds G P => ∃ (u : Un) (k : Nat) (r : Rw) (pa : Addr) (as : List Addr) (L : List (List Tx)), ds = [u.obj, .ref pa, .int k] ∧ u.ok ∧ u.rows[k]? = some r ∧ Alv G pa as L ∧ LOk u L ∧
  ∀ ks : List Tx, ks.Nodup → (∀ x, x ∈ ks ↔ ∃ t ∈ stp r k, x ∈ atL L t) → P (.rdc (kys ks)) G
def bef (rg : List Tx) (L : List (List Tx)) (r : Rw) (k : Nat) : List Tx := srtT (rg.filter fun x => decide (x ∈ r.ns ∨ ((∃ t ∈ stp r k, x ∈ atL L t) ∧ r.giv ≠ some x)))
def sp_alive_before : Spg := fun ds G P => ∃ (u : Un) (k : Nat) (r : Rw) (pa : Addr) (as : List Addr) (L : List (List Tx)), ds = [u.obj, .ref pa, .int k] ∧ u.ok ∧ u.rows[k]? = some r ∧ Alv G pa as L ∧ LOk u L ∧ rL (txs (bef u.rg L r k)) G P
inductive Live (u : Un) : Nat → Tx → Prop
  | use {k : Nat} {r : Rw} {x : Tx} : u.rows[k]? = some r → x ∈ u.rg → x ∈ r.ns → Live u k x
  | step {k t : Nat} {r : Rw} {x : Tx} : u.rows[k]? = some r → t ∈ stp r k → Live u t x → r.giv ≠ some x → Live u k x
theorem Live.rg {u : Un} {k : Nat} {x : Tx} (h : Live u k x) : x ∈ u.rg := by
  induction h with
  | use _ h _ => exact h
  | step _ _ _ _ ih => exact ih
open Classical in
noncomputable def alvOf (u : Un) : List (List Tx) := (List.range u.rows.length).map fun k => srtT (u.rg.filter fun x => decide (Live u k x))
def sp_alive_at : Spg := fun ds G P => ∃ u : Un, ds = [u.obj] ∧ u.ok ∧ ∀ pa as G', Kp G G' → G pa = none → Alv G' pa as (alvOf u) → P (.ref pa) G'
def Rw.made (r : Rw) : List Tx := match r with
  | .mark _ _ _ _ ns _ => ns
  | r => r.giv.toList
def sp_made_by : Spg := fun ds G P => ∃ (u : Un) (k : Nat) (r : Rw), ds = [u.obj, .int k] ∧ u.ok ∧ u.rows[k]? = some r ∧ P (.rol (txs r.made)) G
def sp_add_foes : Spg := fun ds G P => ∃ (p : Addr) (one : Tx) (x : D) (xs A : List Tx) (K0 : List Tp), ds = [.ref p, .str one, x] ∧ G p = some (.dtt (pks K0)) ∧ IsLi G x (txs xs) ∧ Sz A.length ∧ K0.Nodup ∧ (∀ q ∈ K0, q.1 ∈ A ∧ q.2 ∈ A) ∧ one ∈ A ∧ (∀ y ∈ xs, y ∈ A) ∧
  ∀ K1 : List Tp, K1.Nodup → (∀ q, q ∈ K1 ↔ q ∈ K0 ∨ ∃ y ∈ xs, y ≠ one ∧ q = upr one y) → P .non (updG G p (.dtt (pks K1)))
def oth (u : Un) (L : List (List Tx)) (r : Rw) (k : Nat) (x : Tx) : Prop := match r with
  | .mark .. => x ∈ atL L k
  | r => ∃ t ∈ stp r k, x ∈ atL L t
def Foe (u : Un) (q : Tp) : Prop := ∃ (k : Nat) (r : Rw) (a b : Tx), u.rows[k]? = some r ∧ b ≠ a ∧ q = upr a b ∧ ((a ∈ atL (alvOf u) k ∧ b ∈ atL (alvOf u) k) ∨ (a ∈ r.made ∧ oth u (alvOf u) r k b))
def sp_foes : Spg := fun ds G P => ∃ u : Un, ds = [u.obj] ∧ u.ok ∧ ∀ K : List Tp, K.Nodup → (∀ q, q ∈ K ↔ Foe u q) → rL ((srtP K).map tpD) G P
end My

set_option Elab.async false
set_option linter.all false
set_option autoImplicit false
set_option maxRecDepth 100000
set_option maxHeartbeats 2000000
namespace My
open PySem PySem.Spec PyProof.Rows L2 Vc
def N_steps_from : List Str := ["unit", "at", "row", "found"]
def G_steps_from (K : PySem.W.Frag) : Tb := ⟨K, [], [], [], []⟩
def r_steps_from_2 (K : PySem.W.Frag) : TSg := (gRet (gLst gNil))
def r_steps_from_4 (K : PySem.W.Frag) : TSg := (gRet (gLst (gCons (gOp rItem (gVar 2) (gC (.int 2))) gNil)))
def r_steps_from_7 (K : PySem.W.Frag) : TSg := (gDrop (gBm isLst mAppend (gVar 3) (gCons (gOp rItem (gVar 2) (gC (.int 3))) gNil)))
def r_steps_from_8 (K : PySem.W.Frag) : TSg := (gRet (gVar 3))
def r_steps_from_6 (K : PySem.W.Frag) : TSg := gSeq (gIfS (gB (gOp rEq (gOp rItem (gVar 2) (gC (.int 0))) (gC (.str S_test)))) (r_steps_from_7 K) gNext) (r_steps_from_8 K)
def r_steps_from_5 (K : PySem.W.Frag) : TSg := gSeq (gAsg (gIf (gB (gOp rLt (gOp rAdd (gVar 1) (gC (.int 1))) (gCall bLen (gCons (gFld K S_rows (gVar 0)) gNil)))) (gLst (gCons (gOp rAdd (gVar 1) (gC (.int 1))) gNil)) (gLst gNil)) (gName 3)) (r_steps_from_6 K)
def r_steps_from_3 (K : PySem.W.Frag) : TSg := gSeq (gIfS (gB (gOp rEq (gOp rItem (gVar 2) (gC (.int 0))) (gC (.str S_jump)))) (r_steps_from_4 K) gNext) (r_steps_from_5 K)
def r_steps_from_1 (K : PySem.W.Frag) : TSg := gSeq (gIfS (gB (gOp rIn (gOp rItem (gVar 2) (gC (.int 0))) (gTup (gCons (gC (.str S_return)) (gCons (gC (.str S_fail)) gNil))))) (r_steps_from_2 K) gNext) (r_steps_from_3 K)
def r_steps_from (K : PySem.W.Frag) : TSg := gSeq (gAsg (gOp rItem (gFld K S_rows (gVar 0)) (gVar 1)) (gName 2)) (r_steps_from_1 K)
theorem rd_steps_from (K : PySem.W.Frag) : body (G_steps_from K) N_steps_from d_steps_from.scope d_steps_from.body = r_steps_from K := by kernel_rfl
def N_next_rows : List Str := ["unit", "at", "found", "target"]
def G_next_rows (K : PySem.W.Frag) : Tb := ⟨K, [("steps_from", ⟨["unit", "at"], sp_steps_from⟩)], [], [], []⟩
def r_next_rows_3 (K : PySem.W.Frag) : TSg := (gDrop (gBm isLst mAppend (gVar 2) (gCons (gVar 3) gNil)))
def r_next_rows_2 (K : PySem.W.Frag) : TSg := (gIfS (gB (gOp rNin (gVar 3) (gVar 2))) (r_next_rows_3 K) gNext)
def r_next_rows_4 (K : PySem.W.Frag) : TSg := (gRet (gVar 2))
def r_next_rows_1 (K : PySem.W.Frag) : TSg := gSeq (gFor (gIterA (gCall sp_steps_from (gCons (gVar 0) (gCons (gVar 1) gNil)))) (gName 3) (r_next_rows_2 K)) (r_next_rows_4 K)
def r_next_rows (K : PySem.W.Frag) : TSg := gSeq (gAsg (gLst gNil) (gName 2)) (r_next_rows_1 K)
theorem rd_next_rows (K : PySem.W.Frag) : body (G_next_rows K) N_next_rows d_next_rows.scope d_next_rows.body = r_next_rows K := by kernel_rfl
def N_names_of_plain : List Str := ["term"]
def G_names_of_plain (K : PySem.W.Frag) : Tb := ⟨K, [], [], [], []⟩
def r_names_of_plain (K : PySem.W.Frag) : TSg := (gRet (gIf (gB (gOp rEq (gOp rItem (gVar 0) (gC (.int 0))) (gC (.str S_var)))) (gLst (gCons (gOp rItem (gVar 0) (gC (.int 1))) gNil)) (gLst gNil)))
theorem rd_names_of_plain (K : PySem.W.Frag) : body (G_names_of_plain K) N_names_of_plain d_names_of_plain.scope d_names_of_plain.body = r_names_of_plain K := by kernel_rfl
def N_names_of_term : List Str := ["term"]
def G_names_of_term (K : PySem.W.Frag) : Tb := ⟨K, [("names_of_plain", ⟨["term"], sp_names_of_plain⟩)], [], [], []⟩
def r_names_of_term (K : PySem.W.Frag) : TSg := (gRet (gIf (gB (gOp rEq (gOp rItem (gVar 0) (gC (.int 0))) (gC (.str S_cell)))) (gCall sp_names_of_plain (gCons (gOp rItem (gVar 0) (gC (.int 2))) gNil)) (gCall sp_names_of_plain (gCons (gVar 0) gNil))))
theorem rd_names_of_term (K : PySem.W.Frag) : body (G_names_of_term K) N_names_of_term d_names_of_term.scope d_names_of_term.body = r_names_of_term K := by kernel_rfl
def N_names_of_comparison : List Str := ["comparison"]
def G_names_of_comparison (K : PySem.W.Frag) : Tb := ⟨K, [("names_of_term", ⟨["term"], sp_names_of_term⟩)], [], [], []⟩
def r_names_of_comparison (K : PySem.W.Frag) : TSg := (gRet (gOp rAdd (gCall sp_names_of_term (gCons (gOp rItem (gVar 0) (gC (.int 2))) gNil)) (gCall sp_names_of_term (gCons (gOp rItem (gVar 0) (gC (.int 3))) gNil))))
theorem rd_names_of_comparison (K : PySem.W.Frag) : body (G_names_of_comparison K) N_names_of_comparison d_names_of_comparison.scope d_names_of_comparison.body = r_names_of_comparison K := by kernel_rfl
def N_names_of_promise : List Str := ["promise", "found"]
def G_names_of_promise (K : PySem.W.Frag) : Tb := ⟨K, [("names_of_comparison", ⟨["comparison"], sp_names_of_comparison⟩), ("names_of_plain", ⟨["term"], sp_names_of_plain⟩)], [], [], []⟩
def r_names_of_promise_1 (K : PySem.W.Frag) : TSg := (gRet (gCall sp_names_of_comparison (gCons (gVar 0) gNil)))
def r_names_of_promise_3 (K : PySem.W.Frag) : TSg := (gRet (gOp rAdd (gCall sp_names_of_comparison (gCons (gOp rItem (gVar 0) (gC (.int 1))) gNil)) (gCall sp_names_of_comparison (gCons (gOp rItem (gVar 0) (gC (.int 2))) gNil))))
def r_names_of_promise_6 (K : PySem.W.Frag) : TSg := (gAsg (gOp rAdd (gVar 1) (gCall sp_names_of_plain (gCons (gOp rItem (gVar 0) (gC (.int 5))) gNil))) (gName 1))
def r_names_of_promise_8 (K : PySem.W.Frag) : TSg := (gAsg (gOp rAdd (gOp rAdd (gVar 1) (gCall sp_names_of_plain (gCons (gOp rItem (gVar 0) (gC (.int 5))) gNil))) (gCall sp_names_of_plain (gCons (gOp rItem (gVar 0) (gC (.int 6))) gNil))) (gName 1))
def r_names_of_promise_9 (K : PySem.W.Frag) : TSg := (gRet (gVar 1))
def r_names_of_promise_7 (K : PySem.W.Frag) : TSg := gSeq (gIfS (gB (gOp rEq (gOp rItem (gVar 0) (gC (.int 0))) (gC (.str S_below)))) (r_names_of_promise_8 K) gNext) (r_names_of_promise_9 K)
def r_names_of_promise_5 (K : PySem.W.Frag) : TSg := gSeq (gIfS (gB (gOp rEq (gOp rItem (gVar 0) (gC (.int 0))) (gC (.str S_all)))) (r_names_of_promise_6 K) gNext) (r_names_of_promise_7 K)
def r_names_of_promise_4 (K : PySem.W.Frag) : TSg := gSeq (gAsg (gOp rAdd (gCall sp_names_of_plain (gCons (gOp rItem (gVar 0) (gC (.int 2))) gNil)) (gCall sp_names_of_plain (gCons (gOp rItem (gVar 0) (gC (.int 3))) gNil))) (gName 1)) (r_names_of_promise_5 K)
def r_names_of_promise_2 (K : PySem.W.Frag) : TSg := gSeq (gIfS (gB (gOp rEq (gOp rItem (gVar 0) (gC (.int 0))) (gC (.str S_either)))) (r_names_of_promise_3 K) gNext) (r_names_of_promise_4 K)
def r_names_of_promise (K : PySem.W.Frag) : TSg := gSeq (gIfS (gB (gOp rEq (gOp rItem (gVar 0) (gC (.int 0))) (gC (.str S_cmp)))) (r_names_of_promise_1 K) gNext) (r_names_of_promise_2 K)
theorem rd_names_of_promise (K : PySem.W.Frag) : body (G_names_of_promise K) N_names_of_promise d_names_of_promise.scope d_names_of_promise.body = r_names_of_promise K := by kernel_rfl
def N_names_of_mark : List Str := ["row", "found", "promise"]
def G_names_of_mark (K : PySem.W.Frag) : Tb := ⟨K, [("names_of_plain", ⟨["term"], sp_names_of_plain⟩), ("names_of_promise", ⟨["promise"], sp_names_of_promise⟩)], [], [], []⟩
def r_names_of_mark_2 (K : PySem.W.Frag) : TSg := (gAsg (gOp rAdd (gVar 1) (gCall sp_names_of_promise (gCons (gVar 2) gNil))) (gName 1))
def r_names_of_mark_3 (K : PySem.W.Frag) : TSg := (gRet (gVar 1))
def r_names_of_mark_1 (K : PySem.W.Frag) : TSg := gSeq (gFor (gIterA (gOp rItem (gVar 0) (gC (.int 2)))) (gName 2) (r_names_of_mark_2 K)) (r_names_of_mark_3 K)
def r_names_of_mark (K : PySem.W.Frag) : TSg := gSeq (gAsg (gOp rAdd (gCall sp_names_of_plain (gCons (gOp rItem (gOp rItem (gVar 0) (gC (.int 3))) (gC (.int 0))) gNil)) (gCall sp_names_of_plain (gCons (gOp rItem (gOp rItem (gVar 0) (gC (.int 3))) (gC (.int 1))) gNil))) (gName 1)) (r_names_of_mark_1 K)
theorem rd_names_of_mark (K : PySem.W.Frag) : body (G_names_of_mark K) N_names_of_mark d_names_of_mark.scope d_names_of_mark.body = r_names_of_mark K := by kernel_rfl
def N_names_of_call : List Str := ["row", "found", "argument"]
def G_names_of_call (K : PySem.W.Frag) : Tb := ⟨K, [("names_of_plain", ⟨["term"], sp_names_of_plain⟩)], [], [], []⟩
def r_names_of_call_3 (K : PySem.W.Frag) : TSg := (gAsg (gOp rAdd (gVar 1) (gCall sp_names_of_plain (gCons (gVar 2) gNil))) (gName 1))
def r_names_of_call_2 (K : PySem.W.Frag) : TSg := (gIfS (gB (gOp rNe (gOp rItem (gVar 2) (gC (.int 0))) (gC (.str S_list)))) (r_names_of_call_3 K) gNext)
def r_names_of_call_4 (K : PySem.W.Frag) : TSg := (gRet (gVar 1))
def r_names_of_call_1 (K : PySem.W.Frag) : TSg := gSeq (gFor (gIterA (gOp rItem (gVar 0) (gC (.int 4)))) (gName 2) (r_names_of_call_2 K)) (r_names_of_call_4 K)
def r_names_of_call (K : PySem.W.Frag) : TSg := gSeq (gAsg (gLst gNil) (gName 1)) (r_names_of_call_1 K)
theorem rd_names_of_call (K : PySem.W.Frag) : body (G_names_of_call K) N_names_of_call d_names_of_call.scope d_names_of_call.body = r_names_of_call K := by kernel_rfl
def N_names_read : List Str := ["row", "kind"]
def G_names_read (K : PySem.W.Frag) : Tb := ⟨K, [("names_of_term", ⟨["term"], sp_names_of_term⟩), ("names_of_plain", ⟨["term"], sp_names_of_plain⟩), ("names_of_call", ⟨["row"], sp_names_of_call⟩), ("names_of_comparison", ⟨["comparison"], sp_names_of_comparison⟩), ("names_of_mark", ⟨["row"], sp_names_of_mark⟩)], [], [], []⟩
def r_names_read_2 (K : PySem.W.Frag) : TSg := (gRet (gCall sp_names_of_term (gCons (gOp rItem (gVar 0) (gC (.int 3))) gNil)))
def r_names_read_4 (K : PySem.W.Frag) : TSg := (gRet (gOp rAdd (gCall sp_names_of_plain (gCons (gOp rItem (gVar 0) (gC (.int 3))) gNil)) (gCall sp_names_of_term (gCons (gOp rItem (gVar 0) (gC (.int 4))) gNil))))
def r_names_read_6 (K : PySem.W.Frag) : TSg := (gRet (gOp rAdd (gCall sp_names_of_plain (gCons (gOp rItem (gVar 0) (gC (.int 3))) gNil)) (gCall sp_names_of_plain (gCons (gOp rItem (gVar 0) (gC (.int 4))) gNil))))
def r_names_read_8 (K : PySem.W.Frag) : TSg := (gRet (gCall sp_names_of_call (gCons (gVar 0) gNil)))
def r_names_read_10 (K : PySem.W.Frag) : TSg := (gRet (gCall sp_names_of_term (gCons (gOp rItem (gVar 0) (gC (.int 2))) gNil)))
def r_names_read_12 (K : PySem.W.Frag) : TSg := (gRet (gCall sp_names_of_comparison (gCons (gOp rItem (gVar 0) (gC (.int 2))) gNil)))
def r_names_read_13 (K : PySem.W.Frag) : TSg := (gRet (gIf (gB (gOp rEq (gVar 1) (gC (.str S_mark)))) (gCall sp_names_of_mark (gCons (gVar 0) gNil)) (gLst gNil)))
def r_names_read_11 (K : PySem.W.Frag) : TSg := gSeq (gIfS (gB (gOp rEq (gVar 1) (gC (.str S_test)))) (r_names_read_12 K) gNext) (r_names_read_13 K)
def r_names_read_9 (K : PySem.W.Frag) : TSg := gSeq (gIfS (gB (gOp rEq (gVar 1) (gC (.str S_return)))) (r_names_read_10 K) gNext) (r_names_read_11 K)
def r_names_read_7 (K : PySem.W.Frag) : TSg := gSeq (gIfS (gB (gOp rEq (gVar 1) (gC (.str S_call)))) (r_names_read_8 K) gNext) (r_names_read_9 K)
def r_names_read_5 (K : PySem.W.Frag) : TSg := gSeq (gIfS (gB (gOp rIn (gVar 1) (gTup (gCons (gC (.str S_swap)) (gCons (gC (.str S_choose)) gNil))))) (r_names_read_6 K) gNext) (r_names_read_7 K)
def r_names_read_3 (K : PySem.W.Frag) : TSg := gSeq (gIfS (gB (gOp rEq (gVar 1) (gC (.str S_put)))) (r_names_read_4 K) gNext) (r_names_read_5 K)
def r_names_read_1 (K : PySem.W.Frag) : TSg := gSeq (gIfS (gB (gOp rEq (gVar 1) (gC (.str S_set)))) (r_names_read_2 K) gNext) (r_names_read_3 K)
def r_names_read (K : PySem.W.Frag) : TSg := gSeq (gAsg (gOp rItem (gVar 0) (gC (.int 0))) (gName 1)) (r_names_read_1 K)
theorem rd_names_read (K : PySem.W.Frag) : body (G_names_read K) N_names_read d_names_read.scope d_names_read.body = r_names_read K := by kernel_rfl
def N_reads : List Str := ["unit", "at", "name"]
def G_reads (K : PySem.W.Frag) : Tb := ⟨K, [("names_read", ⟨["row"], sp_names_read⟩)], [], [], []⟩
def r_reads (K : PySem.W.Frag) : TSg := (gRet (gCall bSorted (gCons (gDc (gIterA (gCall sp_names_read (gCons (gOp rItem (gFld K S_rows (gVar 0)) (gVar 1)) gNil))) (.one 2) (gB (gOp rIn (gVar 2) (gFld K S_registers (gVar 0)))) (gVar 2) (gC (.bl true)) [2]) gNil)))
theorem rd_reads (K : PySem.W.Frag) : body (G_reads K) N_reads d_reads.scope d_reads.body = r_reads K := by kernel_rfl
def N_given_by : List Str := ["unit", "at", "row"]
def G_given_by (K : PySem.W.Frag) : Tb := ⟨K, [], [], [], []⟩
def r_given_by_1 (K : PySem.W.Frag) : TSg := (gRet (gIf (gB (gOp rIn (gOp rItem (gVar 2) (gC (.int 0))) (gTup (gCons (gC (.str S_set)) (gCons (gC (.str S_choose)) (gCons (gC (.str S_call)) gNil)))))) (gOp rItem (gVar 2) (gC (.int 2))) (gC .non)))
def r_given_by (K : PySem.W.Frag) : TSg := gSeq (gAsg (gOp rItem (gFld K S_rows (gVar 0)) (gVar 1)) (gName 2)) (r_given_by_1 K)
theorem rd_given_by (K : PySem.W.Frag) : body (G_given_by K) N_given_by d_given_by.scope d_given_by.body = r_given_by K := by kernel_rfl
def N_alive_behind : List Str := ["unit", "alive", "at", "found", "target", "name"]
def G_alive_behind (K : PySem.W.Frag) : Tb := ⟨K, [("next_rows", ⟨["unit", "at"], sp_next_rows⟩)], [], [], []⟩
def r_alive_behind_3 (K : PySem.W.Frag) : TSg := (gAsg (gC (.bl true)) (gGSub (gVar 3) (gVar 5)))
def r_alive_behind_2 (K : PySem.W.Frag) : TSg := (gFor (gIterA (gOp rItem (gVar 1) (gVar 4))) (gName 5) (r_alive_behind_3 K))
def r_alive_behind_4 (K : PySem.W.Frag) : TSg := (gRet (gVar 3))
def r_alive_behind_1 (K : PySem.W.Frag) : TSg := gSeq (gFor (gIterA (gCall sp_next_rows (gCons (gVar 0) (gCons (gVar 2) gNil)))) (gName 4) (r_alive_behind_2 K)) (r_alive_behind_4 K)
def r_alive_behind (K : PySem.W.Frag) : TSg := gSeq (gAsg gD0 (gName 3)) (r_alive_behind_1 K)
theorem rd_alive_behind (K : PySem.W.Frag) : body (G_alive_behind K) N_alive_behind d_alive_behind.scope d_alive_behind.body = r_alive_behind K := by kernel_rfl
end My

set_option Elab.async false
set_option linter.all false
set_option autoImplicit false
set_option maxRecDepth 100000
set_option maxHeartbeats 2000000
namespace My
open PySem PySem.Spec PyProof.Rows Vc
local macro_rules | `(tactic| walk_at "vc") => `(tactic| (try dsimp only [gSeq, gAsg, gName, gRet, gRetN, gIfS, gDrop, gNext, gBreak, gCont, gVar, gC, gOp, gB, gCh, gAnd, gOr, gNot, gAndV, gOrV, gNotV, gIf, gTru, gNil, gCons, gTup, gLst, gFld, gCall, gBm, gCut, gNoPart, gPart, gIsa, gIsO, gNeg, gYes, gGSub, gIterA, gGTup, gGCons, gGNil, gRng1, gRng2, gRev, gRvR1, gRvR2, Tg.put, setAll, wipeE, List.set, List.getElem?_cons_zero, List.getElem?_cons_succ]))
local macro_rules | `(tactic| walk_at "ev") => `(tactic| (try simp [ev_add_i, ev_add_s, ev_sub, ev_mul, ev_fdiv, ev_mod, ev_pow, ev_lt, ev_le, ev_gt, ev_lts, ev_gts, ev_ge, ev_eq_i, ev_eq_s, ev_eq_b, ev_is, ev_isnt, isN, ev_it_t, ev_it_r, ev_it_k, ev_at, ev_in_t, ev_in_r, ev_in_k, sizeLine_eq, L2.atI, L2.ixN, D.fl, inD, feq, S_return, S_fail, S_jump, S_test, S_set, S_put, S_swap, S_choose, S_call, S_mark, S_cell, S_var, S_num, S_len, S_cmp, S_either, S_all, S_match, S_sorted, S_below, S_list]))
theorem map_at {α β : Type} {f : α → β} {xs : List α} {i : Nat} {x : α} (h : xs[i]? = some x) : (xs.map f)[i]? = some (f x) := by rw [List.getElem?_map, h]; rfl
theorem fld_rows {K : PySem.W.Frag} (hK : Kf K) {u : Un} {G : Hg} {P : KD} (p : P (.tup (u.rows.map Rw.d)) G) : rFld K S_rows u.obj G P := fld_obj (hK.u _ (by simp)) (by simp [fget, dget, S_name, S_parameters, S_needs, S_gives, S_falls, S_changes, S_uses, S_registers, S_rows]) p
theorem Un.ok.len {u : Un} (h : u.ok) : u.rows.length ≤ sizeLine := by have := h.sz; rw [sizeLine_eq]; omega
theorem vc_steps_from {K : PySem.W.Frag} (hK : Kf K) (ds : List D) (G : Hg) (Q : KD) (h : sp_steps_from ds G Q) : r_steps_from K (endOf Q) (startD N_steps_from ds) G := by
  obtain ⟨u, k, r, rfl, hs, hr, hP⟩ := h
  have hgo := hs.go k r hr
  show r_steps_from K (endOf Q) [some u.obj, some (.int k), none, none] G
  unfold r_steps_from
  walk_at "vc"
  refine fld_rows hK (it_tup (map_at hr) (nx ?_))
  cases r
  all_goals
    unfold r_steps_from_1
    walk_at "vc"
    unfold Rw.d
    walk_at "ev"
  case ret => unfold r_steps_from_2; walk_at "vc"; exact ⟨by simp, .inl (.inl hP)⟩
  case fail => unfold r_steps_from_2; walk_at "vc"; exact ⟨by simp, .inl (.inl hP)⟩
  all_goals
    refine nx ?_
    unfold r_steps_from_3
    walk_at "vc"
    walk_at "ev"
  case jump => unfold r_steps_from_4; walk_at "vc"; walk_at "ev"; exact .inl (.inl hP)
  all_goals
    have hk : k + 1 < u.rows.length := hgo _ (by simp [stp])
    refine nx ?_
    unfold r_steps_from_5
    walk_at "vc"
    walk_at "ev"
    refine fld_rows hK ?_
    dsimp only [bLen]
    rw [List.length_map, ev_lt, decide_eq_true (by omega)]
  case test r c a =>
    refine rL_ref fun p hp => nx ?_
    unfold r_steps_from_6
    walk_at "vc"
    walk_at "ev"
    unfold r_steps_from_7
    walk_at "vc"
    walk_at "ev"
    refine ⟨⟨_, upd_at⟩, _, upd_at, by simp [sizeLine_eq], fun G' e => nx ?_⟩
    subst e
    unfold r_steps_from_8
    walk_at "vc"
    refine ret_lst upd_at ?_
    rw [upd_upd, del_upd hp]
    exact hP
  all_goals
    refine rL_rol (nx ?_)
    unfold r_steps_from_6
    walk_at "vc"
    walk_at "ev"
    refine nx ?_
    unfold r_steps_from_8
    walk_at "vc"
    exact ret_self hP
theorem vc_names_of_plain {K : PySem.W.Frag} (ds : List D) (G : Hg) (Q : KD) (h : sp_names_of_plain ds G Q) : r_names_of_plain K (endOf Q) (startD N_names_of_plain ds) G := by
  obtain ⟨p, rfl, hP⟩ := h
  show r_names_of_plain K (endOf Q) [some p.d] G
  unfold r_names_of_plain
  walk_at "vc"
  cases p <;> unfold Pl.d <;> walk_at "ev" <;> exact .inl (.inl hP)
theorem vc_names_of_term {K : PySem.W.Frag} (ds : List D) (G : Hg) (Q : KD) (h : sp_names_of_term ds G Q) : r_names_of_term K (endOf Q) (startD N_names_of_term ds) G := by
  obtain ⟨t, rfl, hP⟩ := h
  show r_names_of_term K (endOf Q) [some t.d] G
  unfold r_names_of_term
  walk_at "vc"
  cases t with
  | pl p =>
    unfold Tm.d
    cases p with
    | num n => simp only [Pl.d]; walk_at "ev"; exact ⟨.num n, rfl, .inl hP⟩
    | var x n => simp only [Pl.d]; walk_at "ev"; exact ⟨.var x n, rfl, .inl hP⟩
    | len x n => simp only [Pl.d]; walk_at "ev"; exact ⟨.len x n, rfl, .inl hP⟩
  | cell x o i n =>
    unfold Tm.d
    walk_at "ev"
    exact ⟨i, rfl, .inl hP⟩
theorem add_rol {xs ys : List D} {G : Hg} {P : KD} (hl : xs.length + ys.length ≤ sizeLine) (p : P (.rol (xs ++ ys)) G) : rAdd (.rol xs) (.rol ys) G P := ⟨xs, ys, .rol _, .rol _, hl, .inl p⟩
theorem Pl.ns_len (p : Pl) : p.ns.length ≤ 1 := by cases p <;> simp [Pl.ns]
theorem Tm.ns_len (p : Tm) : p.ns.length ≤ 1 := by cases p <;> simp [Tm.ns, Pl.ns_len]
theorem Cm.ns_len (c : Cm) : c.ns.length ≤ 2 := by have := c.a.ns_len; have := c.b.ns_len; simp only [Cm.ns, List.length_append]; omega
theorem vc_names_of_comparison {K : PySem.W.Frag} (ds : List D) (G : Hg) (Q : KD) (h : sp_names_of_comparison ds G Q) : r_names_of_comparison K (endOf Q) (startD N_names_of_comparison ds) G := by
  obtain ⟨c, rfl, hP⟩ := h
  show r_names_of_comparison K (endOf Q) [some c.d] G
  unfold r_names_of_comparison
  walk_at "vc"
  unfold Cm.d
  refine ⟨_, rfl, c.a, rfl, _, rfl, c.b, rfl, ?_⟩
  have := c.ns_len
  refine add_rol (by rw [← List.length_append, ← txs_app, txs_len, sizeLine_eq]; exact Nat.le_trans this (by decide)) ?_
  rw [← txs_app]
  exact .inl hP
theorem add_txs {xs ys : List Tx} {G : Hg} {P : KD} (hl : (xs ++ ys).length ≤ sizeLine) (p : P (.rol (txs (xs ++ ys))) G) : rAdd (.rol (txs xs)) (.rol (txs ys)) G P :=
  add_rol (by rw [txs_len, txs_len, ← List.length_append]; exact hl) (by rw [← txs_app]; exact p)
theorem Pr.ns_len (p : Pr) : p.ns.length ≤ 4 := by
  cases p with
  | cmp c => have := c.ns_len; simp only [Pr.ns]; omega
  | either a b => have := a.ns_len; have := b.ns_len; simp only [Pr.ns, List.length_append]; omega
  | all x o lo hi sg q => have := lo.ns_len; have := hi.ns_len; have := q.ns_len; simp only [Pr.ns, List.length_append]; omega
  | mat x o lo hi sg y p n => have := lo.ns_len; have := hi.ns_len; simp only [Pr.ns, List.length_append]; omega
  | sor x o lo hi => have := lo.ns_len; have := hi.ns_len; simp only [Pr.ns, List.length_append]; omega
  | bel x o lo hi y p a b => have := lo.ns_len; have := hi.ns_len; have := a.ns_len; have := b.ns_len; simp only [Pr.ns, List.length_append]; omega
theorem le_sz {n : Nat} (h : n ≤ 10000) : n ≤ sizeLine := by rw [sizeLine_eq]; omega
theorem vc_names_of_promise {K : PySem.W.Frag} (ds : List D) (G : Hg) (Q : KD) (h : sp_names_of_promise ds G Q) : r_names_of_promise K (endOf Q) (startD N_names_of_promise ds) G := by
  obtain ⟨p, rfl, hP⟩ := h
  have hl := p.ns_len
  show r_names_of_promise K (endOf Q) [some p.d, none] G
  unfold r_names_of_promise
  walk_at "vc"
  cases p with
  | cmp c =>
    refine ⟨_, rfl, ?_⟩
    walk_at "ev"
    unfold r_names_of_promise_1
    walk_at "vc"
    exact ⟨c, rfl, .inl hP⟩
  | either a b =>
    unfold Pr.d
    walk_at "ev"
    refine nx ?_
    unfold r_names_of_promise_2
    walk_at "vc"
    walk_at "ev"
    unfold r_names_of_promise_3
    walk_at "vc"
    walk_at "ev"
    exact ⟨a, rfl, b, rfl, add_txs (le_sz (by simp only [Pr.ns] at hl; omega)) (.inl hP)⟩
  | all x o lo hi sg q =>
    simp only [Pr.ns] at hl
    simp only [List.length_append] at hl
    unfold Pr.d
    walk_at "ev"
    refine nx ?_
    unfold r_names_of_promise_2
    walk_at "vc"
    walk_at "ev"
    refine nx ?_
    unfold r_names_of_promise_4
    walk_at "vc"
    walk_at "ev"
    refine ⟨lo, rfl, hi, rfl, add_txs (le_sz (by simp only [List.length_append]; omega)) (nx ?_)⟩
    unfold r_names_of_promise_5
    walk_at "vc"
    walk_at "ev"
    unfold r_names_of_promise_6
    walk_at "vc"
    walk_at "ev"
    refine ⟨q, rfl, add_txs (le_sz (by simp only [List.length_append]; omega)) (nx ?_)⟩
    unfold r_names_of_promise_7
    walk_at "vc"
    walk_at "ev"
    refine nx ?_
    unfold r_names_of_promise_9
    walk_at "vc"
    rw [← List.append_assoc]
    exact .inl hP
  | mat x o lo hi sg y p n =>
    simp only [Pr.ns] at hl
    unfold Pr.d
    walk_at "ev"
    refine nx ?_
    unfold r_names_of_promise_2
    walk_at "vc"
    walk_at "ev"
    refine nx ?_
    unfold r_names_of_promise_4
    walk_at "vc"
    walk_at "ev"
    refine ⟨lo, rfl, hi, rfl, add_txs (le_sz (by omega)) (nx ?_)⟩
    unfold r_names_of_promise_5
    walk_at "vc"
    walk_at "ev"
    refine nx ?_
    unfold r_names_of_promise_7
    walk_at "vc"
    walk_at "ev"
    refine nx ?_
    unfold r_names_of_promise_9
    walk_at "vc"
    exact .inl hP
  | sor x o lo hi =>
    simp only [Pr.ns] at hl
    unfold Pr.d
    walk_at "ev"
    refine nx ?_
    unfold r_names_of_promise_2
    walk_at "vc"
    walk_at "ev"
    refine nx ?_
    unfold r_names_of_promise_4
    walk_at "vc"
    walk_at "ev"
    refine ⟨lo, rfl, hi, rfl, add_txs (le_sz (by omega)) (nx ?_)⟩
    unfold r_names_of_promise_5
    walk_at "vc"
    walk_at "ev"
    refine nx ?_
    unfold r_names_of_promise_7
    walk_at "vc"
    walk_at "ev"
    refine nx ?_
    unfold r_names_of_promise_9
    walk_at "vc"
    exact .inl hP
  | bel x o lo hi y p a b =>
    simp only [Pr.ns] at hl
    simp only [List.length_append] at hl
    unfold Pr.d
    walk_at "ev"
    refine nx ?_
    unfold r_names_of_promise_2
    walk_at "vc"
    walk_at "ev"
    refine nx ?_
    unfold r_names_of_promise_4
    walk_at "vc"
    walk_at "ev"
    refine ⟨lo, rfl, hi, rfl, add_txs (le_sz (by simp only [List.length_append]; omega)) (nx ?_)⟩
    unfold r_names_of_promise_5
    walk_at "vc"
    walk_at "ev"
    refine nx ?_
    unfold r_names_of_promise_7
    walk_at "vc"
    walk_at "ev"
    unfold r_names_of_promise_8
    walk_at "vc"
    walk_at "ev"
    refine ⟨a, rfl, add_txs (le_sz (by simp only [List.length_append]; omega)) ⟨b, rfl, add_txs (le_sz (by simp only [List.length_append]; omega)) (nx ?_)⟩⟩
    unfold r_names_of_promise_9
    walk_at "vc"
    exact .inl hP
theorem vc_names_of_mark {K : PySem.W.Frag} (ds : List D) (G : Hg) (Q : KD) (h : sp_names_of_mark ds G Q) : r_names_of_mark K (endOf Q) (startD N_names_of_mark ds) G := by
  obtain ⟨r, prs, f1, f2, ns, ls, rfl, hs, hP⟩ := h
  show r_names_of_mark K (endOf Q) [some (Rw.mark r prs f1 f2 ns ls).d, none, none] G
  unfold r_names_of_mark
  walk_at "vc"
  unfold Rw.d
  walk_at "ev"
  refine ⟨f1, rfl, f2, rfl, add_txs (le_sz (by have := f1.ns_len; have := f2.ns_len; simp only [List.length_append]; omega)) (nx ?_)⟩
  unfold r_names_of_mark_1
  walk_at "vc"
  walk_at "ev"
  let acc : Nat → List Tx := fun i => (prs.take i).foldl (fun acc p => acc ++ p.ns) (f1.ns ++ f2.ns)
  have al : ∀ i, i ≤ prs.length → (acc i).length ≤ 2 + 4 * i := by
    intro i
    induction i with
    | zero => intro _; have := f1.ns_len; have := f2.ns_len; simp only [acc, List.take_zero, List.foldl_nil, List.length_append]; omega
    | succ i ih =>
      intro hi
      have := ih (by omega)
      have h2 := (prs[i]'(by omega)).ns_len
      simp only [acc] at this ⊢
      rw [List.take_succ, List.getElem?_eq_getElem (by omega)]
      simp only [Option.toList_some, List.foldl_append, List.foldl_cons, List.foldl_nil, List.length_append]
      omega
  refine for_items (prs.map Pr.d) (fun i env G' => G' = G ∧ ∃ z, env = [some (Rw.mark r prs f1 f2 ns ls).d, some (.rol (txs (acc i))), z]) (fun R h => ?_) ?_ ?_
  · walk_at "vc"
    walk_at "ev"
    exact h G ⟨rfl, _, rfl⟩
  · rintro i d env G' Nx hd ⟨rfl, z, rfl⟩ nxt
    rw [List.getElem?_map] at hd
    cases hp : prs[i]? with
    | none => rw [hp] at hd; cases hd
    | some p =>
      rw [hp] at hd
      cases hd
      have hi : i < prs.length := (List.getElem?_eq_some_iff.mp hp).1
      have e : acc (i + 1) = acc i ++ p.ns := by simp only [acc]; rw [List.take_succ, hp]; simp
      have l2 := al (i + 1) hi
      walk_at "vc"
      unfold r_names_of_mark_2
      walk_at "vc"
      refine ⟨p, rfl, add_txs (le_sz (by rw [← e]; omega)) (nxt _ _ ⟨rfl, _, by rw [← e]⟩)⟩
  · rintro env G' ⟨rfl, z, rfl⟩
    refine nx ?_
    unfold r_names_of_mark_3
    walk_at "vc"
    refine .inl ?_
    have e : acc (prs.map Pr.d).length = (Rw.mark r prs f1 f2 ns ls).ns := by rw [List.length_map]; simp only [acc, List.take_length, Rw.ns]
    rw [e]
    exact hP
theorem vc_names_of_call {K : PySem.W.Frag} (ds : List D) (G : Hg) (Q : KD) (h : sp_names_of_call ds G Q) : r_names_of_call K (endOf Q) (startD N_names_of_call ds) G := by
  obtain ⟨r, x, n, as, rfl, hs, hP⟩ := h
  show r_names_of_call K (endOf Q) [some (Rw.call r x n as).d, none, none] G
  unfold r_names_of_call
  walk_at "vc"
  refine ⟨by simp, rL_rol (nx ?_)⟩
  unfold r_names_of_call_1
  walk_at "vc"
  let acc : Nat → List Tx := fun i => (as.take i).flatMap Ag.ns
  have an : ∀ a : Ag, a.ns.length ≤ 1 := fun a => by cases a with
    | lst x => simp [Ag.ns]
    | pl p => exact p.ns_len
  have al : ∀ i, i ≤ as.length → (acc i).length ≤ i := by
    intro i
    induction i with
    | zero => intro _; simp [acc]
    | succ i ih =>
      intro hi
      have := ih (by omega)
      have h2 := an (as[i]'(by omega))
      simp only [acc] at this ⊢
      rw [List.take_succ, List.getElem?_eq_getElem (by omega)]
      simp only [Option.toList_some, List.flatMap_append, List.flatMap_cons, List.flatMap_nil, List.append_nil, List.length_append]
      omega
  refine for_items (as.map Ag.d) (fun i env G' => G' = G ∧ ∃ z, env = [some (Rw.call r x n as).d, some (.rol (txs (acc i))), z]) (fun R h => ?_) ?_ ?_
  · walk_at "vc"
    unfold Rw.d
    walk_at "ev"
    exact h G ⟨rfl, _, rfl⟩
  · rintro i d env G' Nx hd ⟨rfl, z, rfl⟩ nxt
    rw [List.getElem?_map] at hd
    cases hp : as[i]? with
    | none => rw [hp] at hd; cases hd
    | some p =>
      rw [hp] at hd
      cases hd
      have hi : i < as.length := (List.getElem?_eq_some_iff.mp hp).1
      have e : acc (i + 1) = acc i ++ p.ns := by simp only [acc]; rw [List.take_succ, hp]; simp
      have l2 := al (i + 1) hi
      walk_at "vc"
      unfold r_names_of_call_2
      walk_at "vc"
      cases p with
      | lst y =>
        unfold Ag.d
        walk_at "ev"
        have e2 : acc (i + 1) = acc i := by rw [e]; simp [Ag.ns]
        exact nxt _ _ ⟨rfl, _, by rw [e2]⟩
      | pl p =>
        have fin : r_names_of_call_3 K { nx := Nx, rt := Q, bk := fun env1 G1 => ∃ env2 G2, Gh env1 G1 env2 G2 ∧ r_names_of_call_4 K (endOf Q) env2 G2, ct := Nx } [some (Rw.call r x n as).d, some (.rol (txs (acc i))), some (Ag.pl p).d] G' := by
          unfold r_names_of_call_3
          walk_at "vc"
          exact ⟨p, rfl, add_txs (le_sz (by have e' : acc (i + 1) = acc i ++ p.ns := e; rw [← e']; omega)) (nxt _ _ ⟨rfl, _, by rw [e]; rfl⟩)⟩
        cases p <;> (unfold Ag.d Pl.d; walk_at "ev"; exact fin)
  · rintro env G' ⟨rfl, z, rfl⟩
    refine nx ?_
    unfold r_names_of_call_4
    walk_at "vc"
    refine .inl ?_
    have e : acc (as.map Ag.d).length = (Rw.call r x n as).ns := by rw [List.length_map]; simp only [acc, List.take_length, Rw.ns]
    rw [e]
    exact hP
theorem vc_names_read {K : PySem.W.Frag} (ds : List D) (G : Hg) (Q : KD) (h : sp_names_read ds G Q) : r_names_read K (endOf Q) (startD N_names_read ds) G := by
  obtain ⟨r, rfl, hs, hP⟩ := h
  show r_names_read K (endOf Q) [some r.d, none] G
  unfold r_names_read
  walk_at "vc"
  cases r
  all_goals
    unfold Rw.d
    walk_at "ev"
    refine nx ?_
    unfold r_names_read_1
    walk_at "vc"
    walk_at "ev"
  case set => unfold r_names_read_2; walk_at "vc"; walk_at "ev"; exact ⟨_, rfl, .inl hP⟩
  all_goals
    refine nx ?_
    unfold r_names_read_3
    walk_at "vc"
    walk_at "ev"
  case put r c p t => unfold r_names_read_4; walk_at "vc"; walk_at "ev"; exact ⟨p, rfl, t, rfl, add_txs (le_sz (by have := p.ns_len; have := t.ns_len; simp only [List.length_append]; omega)) (.inl hP)⟩
  all_goals
    refine nx ?_
    unfold r_names_read_5
    walk_at "vc"
    walk_at "ev"
  case swap r c p t => unfold r_names_read_6; walk_at "vc"; walk_at "ev"; exact ⟨p, rfl, t, rfl, add_txs (le_sz (by have := p.ns_len; have := t.ns_len; simp only [List.length_append]; omega)) (.inl hP)⟩
  case choose r c p t => unfold r_names_read_6; walk_at "vc"; walk_at "ev"; exact ⟨p, rfl, t, rfl, add_txs (le_sz (by have := p.ns_len; have := t.ns_len; simp only [List.length_append]; omega)) (.inl hP)⟩
  all_goals
    refine nx ?_
    unfold r_names_read_7
    walk_at "vc"
    walk_at "ev"
  case call r x n as => unfold r_names_read_8; walk_at "vc"; exact ⟨r, x, n, as, rfl, hs, .inl hP⟩
  all_goals
    refine nx ?_
    unfold r_names_read_9
    walk_at "vc"
    walk_at "ev"
  case ret => unfold r_names_read_10; walk_at "vc"; walk_at "ev"; exact ⟨_, rfl, .inl hP⟩
  all_goals
    refine nx ?_
    unfold r_names_read_11
    walk_at "vc"
    walk_at "ev"
  case test => unfold r_names_read_12; walk_at "vc"; walk_at "ev"; exact ⟨_, rfl, .inl hP⟩
  all_goals
    refine nx ?_
    unfold r_names_read_13
    walk_at "vc"
    walk_at "ev"
  case mark r prs f1 f2 ns ls => exact ⟨r, prs, f1, f2, ns, ls, rfl, hs.1, .inl hP⟩
  all_goals exact .inl (.inl hP)
theorem vc_given_by {K : PySem.W.Frag} (hK : Kf K) (ds : List D) (G : Hg) (Q : KD) (h : sp_given_by ds G Q) : r_given_by K (endOf Q) (startD N_given_by ds) G := by
  obtain ⟨u, k, r, rfl, hs, hr, hP⟩ := h
  show r_given_by K (endOf Q) [some u.obj, some (.int k), none] G
  unfold r_given_by
  walk_at "vc"
  refine fld_rows hK (it_tup (map_at hr) (nx ?_))
  unfold r_given_by_1
  walk_at "vc"
  cases r <;> (unfold Rw.d; walk_at "ev"; exact .inl hP)
theorem ddp_snoc {xs : List Nat} {t : Nat} : ddp (xs ++ [t]) = if t ∈ ddp xs then ddp xs else ddp xs ++ [t] := by
  unfold ddp
  rw [List.foldl_append]
  rfl
theorem vc_next_rows {K : PySem.W.Frag} (ds : List D) (G : Hg) (Q : KD) (h : sp_next_rows ds G Q) : r_next_rows K (endOf Q) (startD N_next_rows ds) G := by
  obtain ⟨u, k, r, rfl, hs, hr, hP⟩ := h
  show r_next_rows K (endOf Q) [some u.obj, some (.int k), none, none] G
  unfold r_next_rows
  walk_at "vc"
  refine ⟨by simp, rL_ref fun p hp => nx ?_⟩
  unfold r_next_rows_1
  walk_at "vc"
  have l2 : (stp r k).length ≤ 2 := by cases r <;> simp [stp]
  have dl : ∀ i, (ddp ((stp r k).take i)).length ≤ i := by
    intro i
    induction i with
    | zero => simp [ddp]
    | succ i ih =>
      cases h : (stp r k)[i]? with
      | none => rw [List.take_succ, h]; simp; omega
      | some t =>
        rw [List.take_succ, h]
        simp only [ddp, Option.toList_some, List.foldl_append, List.foldl_cons, List.foldl_nil] at ih ⊢
        split
        · omega
        · rw [List.length_append]; simp; omega
  refine for_items (nats (stp r k)) (fun i env G' => G' = updG G p (.lst (nats (ddp ((stp r k).take i)))) ∧ i ≤ 2 ∧ ∃ z, env = [some u.obj, some (.int k), some (.ref p), z]) (fun R h => ?_) ?_ ?_
  · walk_at "vc"
    exact ⟨u, k, r, rfl, hs, hr, h _ ⟨rfl, by omega, _, rfl⟩⟩
  · rintro i d env G' Nx hd ⟨rfl, hi2, z, rfl⟩ nxt
    unfold nats at hd
    rw [List.getElem?_map] at hd
    cases ht : (stp r k)[i]? with
    | none => rw [ht] at hd; cases hd
    | some t =>
      rw [ht] at hd
      cases hd
      have hi : i < (stp r k).length := (List.getElem?_eq_some_iff.mp ht).1
      have e : ddp ((stp r k).take (i + 1)) = if t ∈ ddp ((stp r k).take i) then ddp ((stp r k).take i) else ddp ((stp r k).take i) ++ [t] := by
        rw [List.take_succ, ht]
        exact ddp_snoc
      walk_at "vc"
      unfold r_next_rows_2
      walk_at "vc"
      refine in_natsR upd_at ?_
      by_cases hm : t ∈ ddp ((stp r k).take i)
      · rw [decide_eq_true hm]
        rw [if_pos hm] at e
        exact nxt _ _ ⟨by rw [e], by omega, _, rfl⟩
      · rw [decide_eq_false hm]
        rw [if_neg hm] at e
        show r_next_rows_3 K _ _ _
        unfold r_next_rows_3
        walk_at "vc"
        refine ⟨⟨_, upd_at⟩, _, upd_at, ?_, fun G' e' => ?_⟩
        · have := dl i
          rw [sizeLine_eq]
          simp only [nats, List.length_map]
          omega
        · refine nxt _ _ ⟨?_, by omega, _, rfl⟩
          rw [e', upd_upd, e]
          simp [nats]
  · rintro env G' ⟨rfl, hi2, z, rfl⟩
    refine nx ?_
    unfold r_next_rows_4
    walk_at "vc"
    refine ret_lst upd_at ?_
    rw [del_upd hp]
    have e : (nats (stp r k)).length = (stp r k).length := by simp [nats]
    rw [e, List.take_length]
    exact hP
theorem fld_regs {K : PySem.W.Frag} (hK : Kf K) {u : Un} {G : Hg} {P : KD} (p : P (.tup (txs u.rg)) G) : rFld K S_registers u.obj G P := fld_obj (hK.u _ (by simp)) (by simp [fget, dget, S_name, S_parameters, S_needs, S_gives, S_falls, S_changes, S_uses, S_registers, S_rows]) p
theorem Rw.ns_len {r : Rw} (h : r.sz) : r.ns.length ≤ 5000 := by
  cases r with
  | set r x t => have := t.ns_len; simp only [Rw.ns]; omega
  | put r c p t => have := p.ns_len; have := t.ns_len; simp only [Rw.ns, List.length_append]; omega
  | swap r c p q => have := p.ns_len; have := q.ns_len; simp only [Rw.ns, List.length_append]; omega
  | choose r c p q => have := p.ns_len; have := q.ns_len; simp only [Rw.ns, List.length_append]; omega
  | call r x n as =>
    have hl : ∀ l : List Ag, (l.flatMap Ag.ns).length ≤ l.length := by
      intro l
      induction l with
      | nil => simp
      | cons a l ih =>
        have : a.ns.length ≤ 1 := by cases a with
          | lst x => simp [Ag.ns]
          | pl p => exact p.ns_len
        rw [List.flatMap_cons, List.length_append, List.length_cons]
        omega
    have := hl as
    have hs : as.length ≤ 1000 := h
    simp only [Rw.ns]
    omega
  | ret r t => have := t.ns_len; simp only [Rw.ns]; omega
  | test r c a => have := c.ns_len; simp only [Rw.ns]; omega
  | mark r prs f1 f2 ns ls =>
    have hl : ∀ (l : List Pr) (acc : List Tx), (l.foldl (fun acc p => acc ++ p.ns) acc).length ≤ acc.length + 4 * l.length := by
      intro l
      induction l with
      | nil => intro acc; simp
      | cons p l ih =>
        intro acc
        have := p.ns_len
        have h2 := ih (acc ++ p.ns)
        rw [List.foldl_cons, List.length_cons]
        rw [List.length_append] at h2
        omega
    have := hl prs (f1.ns ++ f2.ns)
    have := f1.ns_len
    have := f2.ns_len
    have hs : prs.length ≤ 1000 := h.1
    simp only [Rw.ns]
    simp only [List.length_append] at *
    omega
  | jump => simp [Rw.ns]
  | fail => simp [Rw.ns]
theorem vc_reads {K : PySem.W.Frag} (hK : Kf K) (ds : List D) (G : Hg) (Q : KD) (h : sp_reads ds G Q) : r_reads K (endOf Q) (startD N_reads ds) G := by
  obtain ⟨u, k, r, rfl, hu, hr, hP⟩ := h
  have hsz := hu.rws r (List.mem_of_getElem? hr)
  show r_reads K (endOf Q) [some u.obj, some (.int k), none] G
  unfold r_reads
  walk_at "vc"
  refine dc_items (txs r.ns) (fun Dd i acc G' => G Dd = none ∧ G' = updG G Dd (.dct acc) ∧ ∃ ks, acc = kys ks ∧ ks.Nodup ∧ ∀ x, x ∈ ks ↔ x ∈ u.rg ∧ x ∈ r.ns.take i) ?_ (fun R h => ?_) ?_ ?_
  · rw [txs_len]; exact le_sz (by have := Rw.ns_len hsz; omega)
  · walk_at "vc"
    refine fld_rows hK (it_tup (map_at hr) ⟨r, rfl, hsz, h G fun Dd hd => ⟨hd, rfl, [], rfl, by simp, by simp⟩⟩)
  · rintro Dd i d acc G' Yes No hd ha ⟨hn, rfl, ks, rfl, nd, mem⟩ hl yes no
    unfold txs at hd
    rw [List.getElem?_map] at hd
    cases hx : r.ns[i]? with
    | none => rw [hx] at hd; cases hd
    | some x =>
      rw [hx] at hd
      cases hd
      have tk : r.ns.take (i + 1) = r.ns.take i ++ [x] := by rw [List.take_succ, hx]; rfl
      walk_at "vc"
      refine fld_regs hK (in_txsT ?_)
      by_cases hm : x ∈ u.rg
      · rw [decide_eq_true hm]
        refine yes (Sum.inr x) (.bl true) _ ha ⟨hn, by rw [upd_upd], _, kys_put, ins_nodup nd, fun y => ?_⟩
        rw [ins_mem, mem, tk, List.mem_append, List.mem_singleton]
        constructor
        · rintro (⟨h1, h2⟩ | rfl)
          · exact ⟨h1, .inl h2⟩
          · exact ⟨hm, .inr rfl⟩
        · rintro ⟨h1, h2 | h2⟩
          · exact .inl ⟨h1, h2⟩
          · exact .inr h2
      · rw [decide_eq_false hm]
        refine no _ ha ⟨hn, rfl, ks, rfl, nd, fun y => ?_⟩
        rw [mem, tk, List.mem_append, List.mem_singleton]
        constructor
        · rintro ⟨h1, h2⟩; exact ⟨h1, .inl h2⟩
        · rintro ⟨h1, h2 | h2⟩
          · exact ⟨h1, h2⟩
          · subst h2; exact absurd h1 hm
  · rintro Dd acc G' ha ⟨hn, rfl, ks, rfl, nd, mem⟩ hl
    refine .inl ?_
    rw [del_upd hn]
    rw [txs_len, List.take_length] at mem
    have e : srtT ks = rds u.rg r := canon (p := fun x => x ∈ r.ns) hu.nd nd mem
    refine ⟨_, .rdc _, ?_, ?_, ?_⟩
    · rw [kys_keys, txs_len]
      unfold kys at hl
      rw [List.length_map, txs_len] at hl
      exact le_sz (by have := Rw.ns_len hsz; omega)
    · rw [kys_keys]
      exact .txs fun x hx c hc => (hu.wn x ((mem x).mp hx).1 c hc).1
    · rw [kys_keys, srt_txs, e]
      exact rL_ret hP
theorem Alv.el {G : Hg} {pa : Addr} {as : List Addr} {L : List (List Tx)} (h : Alv G pa as L) {t : Nat} (ht : t < L.length) : ∃ a, (as.map D.ref)[t]? = some (.ref a) ∧ G a = some (.lst (txs (atL L t))) := by
  have ha : t < as.length := by rw [h.len]; exact ht
  refine ⟨as[t], by rw [List.getElem?_map, List.getElem?_eq_getElem ha]; rfl, h.at_ t _ _ (List.getElem?_eq_getElem ha) ?_⟩
  unfold atL
  rw [List.getElem?_eq_getElem ht]
  rfl
theorem Alv.kp {G G' : Hg} {pa : Addr} {as : List Addr} {L : List (List Tx)} (h : Alv G pa as L) (k : Kp G G') : Alv G' pa as L := ⟨k _ _ h.top, h.len, fun i a l h1 h2 => k _ _ (h.at_ i a l h1 h2)⟩
end My

set_option Elab.async false
set_option linter.all false
set_option autoImplicit false
set_option maxRecDepth 100000
set_option maxHeartbeats 2000000
namespace My
open PySem PySem.Spec PyProof.Rows L2 Vc
def N_alive_before : List Str := ["unit", "alive", "at", "found", "given", "kept", "name"]
def G_alive_before (K : PySem.W.Frag) : Tb := ⟨K, [("alive_behind", ⟨["unit", "alive", "at"], sp_alive_behind⟩), ("given_by", ⟨["unit", "at"], sp_given_by⟩), ("reads", ⟨["unit", "at"], sp_reads⟩)], [], [], []⟩
def r_alive_before_4 (K : PySem.W.Frag) : TSg := (gAsg (gC (.bl true)) (gGSub (gVar 5) (gVar 6)))
def r_alive_before_5 (K : PySem.W.Frag) : TSg := (gRet (gCall bSorted (gCons (gVar 5) gNil)))
def r_alive_before_3 (K : PySem.W.Frag) : TSg := gSeq (gFor (gIterA (gCall sp_reads (gCons (gVar 0) (gCons (gVar 2) gNil)))) (gName 6) (r_alive_before_4 K)) (r_alive_before_5 K)
def r_alive_before_2 (K : PySem.W.Frag) : TSg := gSeq (gAsg (gDc (gIterA (gVar 3)) (.one 6) (gB (gOp rNe (gVar 6) (gVar 4))) (gVar 6) (gC (.bl true)) [6]) (gName 5)) (r_alive_before_3 K)
def r_alive_before_1 (K : PySem.W.Frag) : TSg := gSeq (gAsg (gCall sp_given_by (gCons (gVar 0) (gCons (gVar 2) gNil))) (gName 4)) (r_alive_before_2 K)
def r_alive_before (K : PySem.W.Frag) : TSg := gSeq (gAsg (gCall sp_alive_behind (gCons (gVar 0) (gCons (gVar 1) (gCons (gVar 2) gNil)))) (gName 3)) (r_alive_before_1 K)
theorem rd_alive_before (K : PySem.W.Frag) : body (G_alive_before K) N_alive_before d_alive_before.scope d_alive_before.body = r_alive_before K := by kernel_rfl
def N_alive_at : List Str := ["unit", "alive", "_", "changing", "at", "found"]
def G_alive_at (K : PySem.W.Frag) : Tb := ⟨K, [("alive_before", ⟨["unit", "alive", "at"], sp_alive_before⟩)], [], [], []⟩
def r_alive_at_8 (K : PySem.W.Frag) : TSg := (gAsg (gC (.bl true)) (gName 3))
def r_alive_at_7 (K : PySem.W.Frag) : TSg := gSeq (gAsg (gVar 5) (gGSub (gVar 1) (gVar 4))) (r_alive_at_8 K)
def r_alive_at_6 (K : PySem.W.Frag) : TSg := (gIfS (gB (gOp rNe (gVar 5) (gOp rItem (gVar 1) (gVar 4)))) (r_alive_at_7 K) gNext)
def r_alive_at_5 (K : PySem.W.Frag) : TSg := gSeq (gAsg (gCall sp_alive_before (gCons (gVar 0) (gCons (gVar 1) (gCons (gVar 4) gNil)))) (gName 5)) (r_alive_at_6 K)
def r_alive_at_4 (K : PySem.W.Frag) : TSg := (gFor (gRvR1 (gCall bLen (gCons (gFld K S_rows (gVar 0)) gNil))) (gName 4) (r_alive_at_5 K))
def r_alive_at_3 (K : PySem.W.Frag) : TSg := gSeq (gAsg (gC (.bl false)) (gName 3)) (r_alive_at_4 K)
def r_alive_at_9 (K : PySem.W.Frag) : TSg := (gRet (gVar 1))
def r_alive_at_2 (K : PySem.W.Frag) : TSg := gSeq (gWhile (gTru (gVar 3)) (r_alive_at_3 K)) (r_alive_at_9 K)
def r_alive_at_1 (K : PySem.W.Frag) : TSg := gSeq (gAsg (gC (.bl true)) (gName 3)) (r_alive_at_2 K)
def r_alive_at (K : PySem.W.Frag) : TSg := gSeq (gAsg (gLc (gIterA (gFld K S_rows (gVar 0))) (.one 2) gYes (gLst gNil) [2]) (gName 1)) (r_alive_at_1 K)
theorem rd_alive_at (K : PySem.W.Frag) : body (G_alive_at K) N_alive_at d_alive_at.scope d_alive_at.body = r_alive_at K := by kernel_rfl
def N_made_by : List Str := ["unit", "at", "given"]
def G_made_by (K : PySem.W.Frag) : Tb := ⟨K, [("given_by", ⟨["unit", "at"], sp_given_by⟩)], [], [], []⟩
def r_made_by_1 (K : PySem.W.Frag) : TSg := (gRet (gCall bList (gCons (gOp rItem (gOp rItem (gFld K S_rows (gVar 0)) (gVar 1)) (gC (.int 4))) gNil)))
def r_made_by_3 (K : PySem.W.Frag) : TSg := (gRet (gIf (gB (gOp rIs (gVar 2) (gC .non))) (gLst gNil) (gLst (gCons (gVar 2) gNil))))
def r_made_by_2 (K : PySem.W.Frag) : TSg := gSeq (gAsg (gCall sp_given_by (gCons (gVar 0) (gCons (gVar 1) gNil))) (gName 2)) (r_made_by_3 K)
def r_made_by (K : PySem.W.Frag) : TSg := gSeq (gIfS (gB (gOp rEq (gOp rItem (gOp rItem (gFld K S_rows (gVar 0)) (gVar 1)) (gC (.int 0))) (gC (.str S_mark)))) (r_made_by_1 K) gNext) (r_made_by_2 K)
theorem rd_made_by (K : PySem.W.Frag) : body (G_made_by K) N_made_by d_made_by.scope d_made_by.body = r_made_by K := by kernel_rfl
def N_add_foes : List Str := ["found", "one", "others", "other"]
def G_add_foes (K : PySem.W.Frag) : Tb := ⟨K, [], [], [], []⟩
def r_add_foes_2 (K : PySem.W.Frag) : TSg := (gAsg (gC (.bl true)) (gGSub (gVar 0) (gTup (gCons (gCall bMin (gCons (gVar 1) (gCons (gVar 3) gNil))) (gCons (gCall bMax (gCons (gVar 1) (gCons (gVar 3) gNil))) gNil)))))
def r_add_foes_1 (K : PySem.W.Frag) : TSg := (gIfS (gB (gOp rNe (gVar 3) (gVar 1))) (r_add_foes_2 K) gNext)
def r_add_foes (K : PySem.W.Frag) : TSg := (gFor (gIterA (gVar 2)) (gName 3) (r_add_foes_1 K))
theorem rd_add_foes (K : PySem.W.Frag) : body (G_add_foes K) N_add_foes d_add_foes.scope d_add_foes.body = r_add_foes K := by kernel_rfl
def N_foes : List Str := ["unit", "alive", "found", "at", "others", "one"]
def G_foes (K : PySem.W.Frag) : Tb := ⟨K, [("alive_at", ⟨["unit"], sp_alive_at⟩), ("alive_behind", ⟨["unit", "alive", "at"], sp_alive_behind⟩), ("made_by", ⟨["unit", "at"], sp_made_by⟩), ("add_foes", ⟨["found", "one", "others"], sp_add_foes⟩)], [], [], []⟩
def r_foes_5 (K : PySem.W.Frag) : TSg := (gDrop (gCall sp_add_foes (gCons (gVar 2) (gCons (gVar 5) (gCons (gVar 4) gNil)))))
def r_foes_7 (K : PySem.W.Frag) : TSg := (gDrop (gCall sp_add_foes (gCons (gVar 2) (gCons (gVar 5) (gCons (gOp rItem (gVar 1) (gVar 3)) gNil)))))
def r_foes_6 (K : PySem.W.Frag) : TSg := (gFor (gIterA (gOp rItem (gVar 1) (gVar 3))) (gName 5) (r_foes_7 K))
def r_foes_4 (K : PySem.W.Frag) : TSg := gSeq (gFor (gIterA (gCall sp_made_by (gCons (gVar 0) (gCons (gVar 3) gNil)))) (gName 5) (r_foes_5 K)) (r_foes_6 K)
def r_foes_3 (K : PySem.W.Frag) : TSg := gSeq (gAsg (gIf (gB (gOp rEq (gOp rItem (gOp rItem (gFld K S_rows (gVar 0)) (gVar 3)) (gC (.int 0))) (gC (.str S_mark)))) (gOp rItem (gVar 1) (gVar 3)) (gCall bSorted (gCons (gCall sp_alive_behind (gCons (gVar 0) (gCons (gVar 1) (gCons (gVar 3) gNil)))) gNil))) (gName 4)) (r_foes_4 K)
def r_foes_8 (K : PySem.W.Frag) : TSg := (gRet (gCall bSorted (gCons (gVar 2) gNil)))
def r_foes_2 (K : PySem.W.Frag) : TSg := gSeq (gFor (gRng1 (gCons (gCall bLen (gCons (gFld K S_rows (gVar 0)) gNil)) gNil)) (gName 3) (r_foes_3 K)) (r_foes_8 K)
def r_foes_1 (K : PySem.W.Frag) : TSg := gSeq (gAsg gD0 (gName 2)) (r_foes_2 K)
def r_foes (K : PySem.W.Frag) : TSg := gSeq (gAsg (gCall sp_alive_at (gCons (gVar 0) gNil)) (gName 1)) (r_foes_1 K)
theorem rd_foes (K : PySem.W.Frag) : body (G_foes K) N_foes d_foes.scope d_foes.body = r_foes K := by kernel_rfl
end My

set_option Elab.async false
set_option linter.all false
set_option autoImplicit false
set_option maxRecDepth 100000
set_option maxHeartbeats 2000000
namespace My
open PySem PySem.Spec PyProof.Rows Vc
local macro_rules | `(tactic| walk_at "vc") => `(tactic| (try dsimp only [gSeq, gAsg, gName, gRet, gRetN, gIfS, gDrop, gNext, gBreak, gCont, gVar, gC, gOp, gB, gCh, gAnd, gOr, gNot, gAndV, gOrV, gNotV, gIf, gTru, gNil, gCons, gTup, gLst, gFld, gCall, gBm, gCut, gNoPart, gPart, gIsa, gIsO, gNeg, gYes, gGSub, gIterA, gGTup, gGCons, gGNil, gRng1, gRng2, gRev, gRvR1, gRvR2, Tg.put, setAll, wipeE, List.set, List.getElem?_cons_zero, List.getElem?_cons_succ]))
local macro_rules | `(tactic| walk_at "ev") => `(tactic| (try simp [ev_add_i, ev_add_s, ev_sub, ev_mul, ev_fdiv, ev_mod, ev_pow, ev_lt, ev_le, ev_gt, ev_lts, ev_gts, ev_ge, ev_eq_i, ev_eq_s, ev_eq_b, ev_is, ev_isnt, isN, ev_it_t, ev_it_r, ev_it_k, ev_at, ev_in_t, ev_in_r, ev_in_k, sizeLine_eq, L2.atI, L2.ixN, D.fl, inD, feq, S_return, S_fail, S_jump, S_test, S_set, S_put, S_swap, S_choose, S_call, S_mark, S_cell, S_var, S_num, S_len, S_cmp, S_either, S_all, S_match, S_sorted, S_below, S_list]))
theorem put_kys {G : Hg} {p : Addr} {ks : List Tx} {x : Tx} {P : Hg → Prop} (h : G p = some (.dct (kys ks))) (hl : ks.length < sizeLine) (k : P (updG G p (.dct (kys (if x ∈ ks then ks else ks ++ [x]))))) : rSet (.ref p) (.str x) (.bl true) G P :=
  ⟨_, h, Sum.inr x, rfl, by unfold kys; rw [List.length_map]; exact hl, fun G' e => by rw [e, kys_put]; exact k⟩
theorem sub_len {xs ys : List Tx} (h1 : xs.Nodup) (h : ∀ x ∈ xs, x ∈ ys) : xs.length ≤ ys.length := List.Nodup.length_le_of_subset h1 h
theorem vc_alive_behind {K : PySem.W.Frag} (ds : List D) (G : Hg) (Q : KD) (h : sp_alive_behind ds G Q) : r_alive_behind K (endOf Q) (startD N_alive_behind ds) G := by
  obtain ⟨u, k, r, pa, as, L, rfl, hu, hr, hA, hL, hP⟩ := h
  have hgo := hu.go k r hr
  show r_alive_behind K (endOf Q) [some u.obj, some (.ref pa), some (.int k), none, none, none] G
  unfold r_alive_behind
  walk_at "vc"
  refine .inl fun p G1 n => ?_
  have hn := n.fr
  rw [n.eq]
  refine nx ?_
  unfold r_alive_behind_1
  walk_at "vc"
  have mdd : ∀ (xs : List Nat) (t : Nat), t ∈ ddp xs ↔ t ∈ xs := by
    intro xs t
    have go : ∀ (xs acc : List Nat), t ∈ xs.foldl (fun acc t => if t ∈ acc then acc else acc ++ [t]) acc ↔ t ∈ acc ∨ t ∈ xs := by
      intro xs
      induction xs with
      | nil => intro acc; simp
      | cons y ys ih =>
        intro acc
        rw [List.foldl_cons, ih, List.mem_cons]
        split
        · rename_i hy
          constructor
          · rintro (h | h)
            · exact .inl h
            · exact .inr (.inr h)
          · rintro (h | rfl | h)
            · exact .inl h
            · exact .inl hy
            · exact .inr h
        · rw [List.mem_append, List.mem_singleton]
          constructor
          · rintro ((h | h) | h)
            · exact .inl h
            · exact .inr (.inl h)
            · exact .inr (.inr h)
          · rintro (h | h | h)
            · exact .inl (.inl h)
            · exact .inl (.inr h)
            · exact .inr h
    have := go xs []
    unfold ddp
    rw [this]
    simp
  let ts := ddp (stp r k)
  refine for_items (nats ts) (fun i env G' => ∃ ks z1 z2, env = [some u.obj, some (.ref pa), some (.int k), some (.ref p), z1, z2] ∧ G' = updG G p (.dct (kys ks)) ∧ ks.Nodup ∧ ∀ x, x ∈ ks ↔ ∃ t ∈ ts.take i, x ∈ atL L t) (fun R h => ?_) ?_ ?_
  · walk_at "vc"
    exact ⟨u, k, r, rfl, hu, hr, h _ ⟨[], _, _, rfl, rfl, by simp, by simp⟩⟩
  · rintro i d env G' Nx hd ⟨ks, z1, z2, rfl, rfl, nd, mem⟩ nxt
    unfold nats at hd
    rw [List.getElem?_map] at hd
    cases ht : ts[i]? with
    | none => rw [ht] at hd; cases hd
    | some t =>
      rw [ht] at hd
      cases hd
      have tk : ts.take (i + 1) = ts.take i ++ [t] := by rw [List.take_succ, ht]; rfl
      have hts : t ∈ stp r k := (mdd _ _).mp (List.mem_of_getElem? ht)
      have htl : t < L.length := by rw [hL.len]; exact hgo t hts
      have kp : Kp G (updG G p (.dct (kys ks))) := .new hn
      obtain ⟨a, ha, hga⟩ := (hA.kp kp).el htl
      have hla := hL.at_ (k := t)
      have mrg : ∀ x, x ∈ ks → x ∈ u.rg := fun x hx => by
        obtain ⟨t', _, h2⟩ := (mem x).mp hx
        exact (hL.at_ (k := t')).2 x h2
      have nap : a ≠ p := by
        intro e; subst e
        rw [upd_at] at hga; cases hga
      walk_at "vc"
      unfold r_alive_behind_2
      refine for_ref a (txs (atL L t)) (fun j env G' => ∃ ks' z2, env = [some u.obj, some (.ref pa), some (.int k), some (.ref p), some (.int t), z2] ∧ G' = updG G p (.dct (kys ks')) ∧ ks'.Nodup ∧ ∀ x, x ∈ ks' ↔ x ∈ ks ∨ x ∈ (atL L t).take j) (fun j env G' ⟨ks', z2, _, e, _, _⟩ => by
        rw [e, upd_off nap]; rw [upd_off nap] at hga; exact hga) (fun R h => ?_) ?_ ?_
      · walk_at "vc"
        exact it_ref (hA.kp kp).top ha ⟨⟨_, hga⟩, h _ ⟨ks, _, rfl, rfl, nd, by simp⟩⟩
      · rintro j d env G' Nx' hd ⟨ks', z2, rfl, rfl, nd', mem'⟩ nxt'
        unfold txs at hd
        rw [List.getElem?_map] at hd
        cases hx : (atL L t)[j]? with
        | none => rw [hx] at hd; cases hd
        | some x =>
          rw [hx] at hd
          cases hd
          have tk' : (atL L t).take (j + 1) = (atL L t).take j ++ [x] := by rw [List.take_succ, hx]; rfl
          walk_at "vc"
          unfold r_alive_behind_3
          walk_at "vc"
          have sub : ∀ y ∈ ks', y ∈ u.rg := fun y hy => by
            rcases (mem' y).mp hy with h | h
            · exact mrg y h
            · exact hla.2 y (List.mem_of_mem_take h)
          refine put_kys upd_at (by have := sub_len nd' sub; have := hu.rsz; rw [sizeLine_eq]; omega) (nxt' _ _ ⟨_, _, rfl, by rw [upd_upd], ins_nodup nd', fun y => ?_⟩)
          rw [ins_mem, mem', tk', List.mem_append, List.mem_singleton, or_assoc]
      · rintro env G' ⟨ks', z2, rfl, rfl, nd', mem'⟩
        refine nxt _ _ ⟨ks', _, _, rfl, rfl, nd', fun x => ?_⟩
        rw [txs_len, List.take_length] at mem'
        rw [mem', mem, tk]
        constructor
        · rintro (⟨t', h1, h2⟩ | h)
          · exact ⟨t', List.mem_append_left _ h1, h2⟩
          · exact ⟨t, by simp, h⟩
        · rintro ⟨t', h1, h2⟩
          rcases List.mem_append.mp h1 with h1 | h1
          · exact .inl ⟨t', h1, h2⟩
          · rw [List.mem_singleton] at h1
            subst h1
            exact .inr h2
  · rintro env G' ⟨ks, z1, z2, rfl, rfl, nd, mem⟩
    refine nx ?_
    unfold r_alive_behind_4
    walk_at "vc"
    refine ret_dct upd_at ?_
    rw [del_upd hn]
    refine hP ks nd fun x => ?_
    rw [mem]
    have e : (nats ts).length = ts.length := by simp [nats]
    rw [e, List.take_length]
    constructor
    · rintro ⟨t, h1, h2⟩; exact ⟨t, (mdd _ _).mp h1, h2⟩
    · rintro ⟨t, h1, h2⟩; exact ⟨t, (mdd _ _).mpr h1, h2⟩
theorem ne_opt {x : Tx} {o : Option Tx} {G : Hg} {P : KD} (h1 : Wn x) (h2 : ∀ y, o = some y → Wn y) (p : P (.bl (decide (o ≠ some x))) G) : rNe (.str x) (optD o) G P := by
  cases o with
  | none =>
    refine .inl ⟨_, _, .self _, .self _, ?_, rfl, ?_⟩
    · unfold D.pr
      rw [List.all_eq_true]
      intro c hc
      have := (h1 c hc).1
      simp only [decide_eq_true_eq]
      omega
    · have e : (!deqv (.str x) .non) = decide ((none : Option Tx) ≠ some x) := rfl
      show P (.bl (!deqv (.str x) .non)) G
      rw [e]; exact p
  | some y =>
    show P (.bl (!decide (x = y))) G
    have e : (!decide (x = y)) = decide (some y ≠ some x) := by
      by_cases z : x = y
      · subst z; simp
      · have : ¬ y = x := fun e => z e.symm
        simp [z, this]
    rw [e]; exact p
theorem vc_alive_before {K : PySem.W.Frag} (ds : List D) (G : Hg) (Q : KD) (h : sp_alive_before ds G Q) : r_alive_before K (endOf Q) (startD N_alive_before ds) G := by
  obtain ⟨u, k, r, pa, as, L, rfl, hu, hr, hA, hL, hP⟩ := h
  have hrm := List.mem_of_getElem? hr
  show r_alive_before K (endOf Q) [some u.obj, some (.ref pa), some (.int k), none, none, none, none] G
  unfold r_alive_before
  walk_at "vc"
  refine ⟨u, k, r, pa, as, L, rfl, hu, hr, hA, hL, fun ks nd mem => nx ?_⟩
  have krg : ∀ x ∈ ks, x ∈ u.rg := fun x hx => by
    obtain ⟨t', _, h2⟩ := (mem x).mp hx
    exact (hL.at_ (k := t')).2 x h2
  unfold r_alive_before_1
  walk_at "vc"
  refine ⟨u, k, r, rfl, hu, hr, nx ?_⟩
  unfold r_alive_before_2
  walk_at "vc"
  have kl : ks.length ≤ 1000 := Nat.le_trans (sub_len nd krg) hu.rsz
  refine dc_items (txs ks) (fun Dd i acc G' => G Dd = none ∧ G' = updG G Dd (.dct acc) ∧ ∃ ks', acc = kys ks' ∧ ks'.Nodup ∧ ∀ x, x ∈ ks' ↔ x ∈ ks.take i ∧ r.giv ≠ some x) (by rw [txs_len]; exact le_sz (by omega)) (fun R h => ?_) ?_ ?_
  · walk_at "vc"
    have e : ((kys ks).map fun kv => kD kv.1) = txs ks := kys_keys ks
    show R (jP ((kys ks).map fun kv => kD kv.1)) G
    rw [e]
    exact h G fun Dd hd => ⟨hd, rfl, [], rfl, by simp, by simp⟩
  · rintro Dd i d acc G' Yes No hd ha ⟨hn, rfl, ks', rfl, nd', mem'⟩ hl yes no
    unfold txs at hd
    rw [List.getElem?_map] at hd
    cases hx : ks[i]? with
    | none => rw [hx] at hd; cases hd
    | some x =>
      rw [hx] at hd
      cases hd
      have tk : ks.take (i + 1) = ks.take i ++ [x] := by rw [List.take_succ, hx]; rfl
      have hxr : x ∈ u.rg := krg x (List.mem_of_getElem? hx)
      walk_at "vc"
      refine ne_opt (hu.wn x hxr) (fun y hy => hu.wn y (hu.gv r hrm y hy)) ?_
      by_cases hg : r.giv ≠ some x
      · rw [decide_eq_true hg]
        refine yes (Sum.inr x) (.bl true) _ ha ⟨hn, by rw [upd_upd], _, kys_put, ins_nodup nd', fun y => ?_⟩
        rw [ins_mem, mem', tk, List.mem_append, List.mem_singleton]
        constructor
        · rintro (⟨h1, h2⟩ | rfl)
          · exact ⟨.inl h1, h2⟩
          · exact ⟨.inr rfl, hg⟩
        · rintro ⟨h1 | h1, h2⟩
          · exact .inl ⟨h1, h2⟩
          · exact .inr h1
      · rw [decide_eq_false hg]
        refine no _ ha ⟨hn, rfl, ks', rfl, nd', fun y => ?_⟩
        rw [mem', tk, List.mem_append, List.mem_singleton]
        constructor
        · rintro ⟨h1, h2⟩; exact ⟨.inl h1, h2⟩
        · rintro ⟨h1 | h1, h2⟩
          · exact ⟨h1, h2⟩
          · subst h1; exact absurd h2 hg
  · rintro p acc G' ha ⟨hn, rfl, k0, rfl, nd0, mem0⟩ hl
    rw [txs_len, List.take_length] at mem0
    refine .inr (nx ?_)
    unfold r_alive_before_3
    walk_at "vc"
    have k0rg : ∀ x ∈ k0, x ∈ u.rg := fun x hx => krg x ((mem0 x).mp hx).1
    let rs := rds u.rg r
    have rsm : ∀ x, x ∈ rs ↔ x ∈ u.rg ∧ x ∈ r.ns := fun x => by
      show x ∈ srtT _ ↔ _
      rw [mem_srtT, List.mem_filter]
      simp
    refine for_items (txs rs) (fun i env G' => ∃ ks' z, env = [some u.obj, some (.ref pa), some (.int k), some (.rdc (kys ks)), some (optD r.giv), some (.ref p), z] ∧ G' = updG G p (.dct (kys ks')) ∧ ks'.Nodup ∧ ∀ x, x ∈ ks' ↔ x ∈ k0 ∨ x ∈ rs.take i) (fun R h => ?_) ?_ ?_
    · walk_at "vc"
      exact ⟨u, k, r, rfl, hu, hr, .inl (h _ ⟨k0, _, rfl, rfl, nd0, by simp⟩)⟩
    · rintro i d env G' Nx hd ⟨ks', z, rfl, rfl, nd', mem'⟩ nxt
      unfold txs at hd
      rw [List.getElem?_map] at hd
      cases hx : rs[i]? with
      | none => rw [hx] at hd; cases hd
      | some x =>
        rw [hx] at hd
        cases hd
        have tk : rs.take (i + 1) = rs.take i ++ [x] := by rw [List.take_succ, hx]; rfl
        walk_at "vc"
        unfold r_alive_before_4
        walk_at "vc"
        have sub : ∀ y ∈ ks', y ∈ u.rg := fun y hy => by
          rcases (mem' y).mp hy with h | h
          · exact k0rg y h
          · exact ((rsm y).mp (List.mem_of_mem_take h)).1
        refine put_kys upd_at (by have := sub_len nd' sub; have := hu.rsz; rw [sizeLine_eq]; omega) (nxt _ _ ⟨_, _, rfl, by rw [upd_upd], ins_nodup nd', fun y => ?_⟩)
        rw [ins_mem, mem', tk, List.mem_append, List.mem_singleton, or_assoc]
    · rintro env G' ⟨k1, z, rfl, rfl, nd1, mem1⟩
      rw [txs_len, List.take_length] at mem1
      refine nxl 5 (a := p) rfl (.dct upd_at) ?_
      rw [del_upd hn]
      unfold r_alive_before_5
      walk_at "vc"
      have sub : ∀ y ∈ k1, y ∈ u.rg := fun y hy => by
        rcases (mem1 y).mp hy with h | h
        · exact k0rg y h
        · exact ((rsm y).mp h).1
      have e : srtT k1 = bef u.rg L r k := canon (p := fun x => x ∈ r.ns ∨ ((∃ t ∈ stp r k, x ∈ atL L t) ∧ r.giv ≠ some x)) hu.nd nd1 fun x => by
        rw [mem1, mem0, mem, rsm]
        constructor
        · rintro (⟨⟨t, h1, h2⟩, h3⟩ | ⟨h1, h2⟩)
          · exact ⟨(hL.at_ (k := t)).2 x h2, .inr ⟨⟨t, h1, h2⟩, h3⟩⟩
          · exact ⟨h1, .inl h2⟩
        · rintro ⟨h1, h2 | ⟨h2, h3⟩⟩
          · exact .inr ⟨h1, h2⟩
          · exact .inl ⟨h2, h3⟩
      refine ⟨_, .rdc _, ?_, ?_, ?_⟩
      · rw [kys_keys, txs_len]
        have := sub_len nd1 sub
        have := hu.rsz
        exact le_sz (by omega)
      · rw [kys_keys]
        exact .txs fun x hx c hc => (hu.wn x (sub x hx) c hc).1
      · rw [kys_keys, srt_txs, e]
        exact rL_ret hP
theorem mem_bef {rg : List Tx} {L : List (List Tx)} {r : Rw} {k : Nat} {x : Tx} : x ∈ bef rg L r k ↔ x ∈ rg ∧ (x ∈ r.ns ∨ ((∃ t ∈ stp r k, x ∈ atL L t) ∧ r.giv ≠ some x)) := by
  unfold bef
  rw [mem_srtT, List.mem_filter, decide_eq_true_iff]
structure Fx (u : Un) (L : List (List Tx)) : Prop where
  ok : LOk u L
  so : ∀ k x, x ∈ atL L k → Live u k x
  gr : ∀ k r, u.rows[k]? = some r → ∀ x, x ∈ atL L k → x ∈ bef u.rg L r k
  sr : ∀ k, srtT (atL L k) = atL L k
def Fx.mu (u : Un) (L : List (List Tx)) : Nat := (L.map fun l => u.rg.length - l.length).sum
theorem atL_set {L : List (List Tx)} {k j : Nat} {l : List Tx} (hk : k < L.length) : atL (L.set k l) j = if j = k then l else atL L j := by
  unfold atL
  by_cases h : j = k
  · subst h; rw [if_pos rfl, List.getElem?_set_self hk]; rfl
  · rw [if_neg h, List.getElem?_set_ne (fun e => h e.symm)]
theorem mu_set {u : Un} : ∀ {L : List (List Tx)} {k : Nat} {l l0 : List Tx}, L[k]? = some l0 → l0.length < l.length → l.length ≤ u.rg.length → Fx.mu u (L.set k l) < Fx.mu u L
  | [], k, _, _, h, _, _ => by simp at h
  | x :: L, 0, l, l0, h, h1, h2 => by
    simp at h; subst h
    simp only [Fx.mu, List.set_cons_zero, List.map_cons, List.sum_cons]
    omega
  | x :: L, k + 1, l, l0, h, h1, h2 => by
    have ih := mu_set (u := u) (L := L) (k := k) (l := l) (by simpa using h) h1 h2
    simp only [Fx.mu, List.set_cons_succ, List.map_cons, List.sum_cons] at ih ⊢
    omega
theorem srtT_nodup {xs : List Tx} (h : xs.Nodup) : (srtT xs).Nodup := (srtT_perm xs).symm.nodup h
theorem srtT_idem (xs : List Tx) : srtT (srtT xs) = srtT xs := srtT_of (srtT_perm xs)
theorem bef_nodup {u : Un} {L : List (List Tx)} {r : Rw} {k : Nat} (hu : u.ok) : (bef u.rg L r k).Nodup := srtT_nodup (hu.nd.filter _)
theorem bef_rg {u : Un} {L : List (List Tx)} {r : Rw} {k : Nat} : ∀ x ∈ bef u.rg L r k, x ∈ u.rg := fun x h => (mem_bef.mp h).1
theorem Fx.turn {u : Un} {L : List (List Tx)} {k : Nat} {r : Rw} (hu : u.ok) (h : Fx u L) (hr : u.rows[k]? = some r) (hne : bef u.rg L r k ≠ atL L k) : Fx u (L.set k (bef u.rg L r k)) ∧ Fx.mu u (L.set k (bef u.rg L r k)) < Fx.mu u L := by
  have hk : k < L.length := by rw [h.ok.len]; exact (List.getElem?_eq_some_iff.mp hr).1
  have a := fun j => atL_set (j := j) (l := bef u.rg L r k) hk
  have mono : ∀ j x, x ∈ atL L j → x ∈ atL (L.set k (bef u.rg L r k)) j := fun j x hx => by
    rw [a]
    split
    · rename_i e; subst e; exact h.gr _ r hr x hx
    · exact hx
  have bmono : ∀ j r' x, x ∈ bef u.rg L r' j → x ∈ bef u.rg (L.set k (bef u.rg L r k)) r' j := fun j r' x hx => by
    rw [mem_bef] at hx ⊢
    refine ⟨hx.1, hx.2.imp id fun ⟨⟨t, h1, h2⟩, h3⟩ => ⟨⟨t, h1, mono t x h2⟩, h3⟩⟩
  have hl : L[k]? = some (atL L k) := by unfold atL; rw [List.getElem?_eq_getElem hk]; rfl
  refine ⟨⟨⟨by rw [List.length_set]; exact h.ok.len, fun l hl => ?_, fun l hl => ?_⟩, fun j x hx => ?_, fun j r' hr' x hx => ?_, fun j => ?_⟩, ?_⟩
  · rcases List.mem_or_eq_of_mem_set hl with h1 | h1
    · exact h.ok.nd l h1
    · subst h1; exact bef_nodup hu
  · rcases List.mem_or_eq_of_mem_set hl with h1 | h1
    · exact h.ok.rg l h1
    · subst h1; exact bef_rg
  · rw [a] at hx
    split at hx
    · rename_i e; subst e
      obtain ⟨h1, h2 | ⟨⟨t, h2, h3⟩, h4⟩⟩ := mem_bef.mp hx
      · exact .use hr h1 h2
      · exact .step hr h2 (h.so t x h3) h4
    · exact h.so j x hx
  · rw [a] at hx
    split at hx
    · rename_i e; subst e
      rw [hr] at hr'; cases hr'
      exact bmono _ _ _ hx
    · exact bmono _ _ _ (h.gr j r' hr' x hx)
  · rw [a]
    split
    · unfold bef; exact srtT_idem _
    · exact h.sr j
  · refine mu_set hl ?_ (sub_len (bef_nodup hu) bef_rg)
    have le := sub_len (h.ok.at_ (k := k)).1 (h.gr k r hr)
    rcases Nat.lt_or_ge (atL L k).length (bef u.rg L r k).length with z | z
    · exact z
    · exfalso
      apply hne
      have p : (atL L k).Perm (bef u.rg L r k) := by
        refine nodup_perm (h.ok.at_ (k := k)).1 (bef_nodup hu) fun x => ⟨h.gr k r hr x, fun hx => ?_⟩
        by_cases hm : x ∈ atL L k
        · exact hm
        · exfalso
          have hnd : (x :: atL L k).Nodup := List.nodup_cons.mpr ⟨hm, (h.ok.at_ (k := k)).1⟩
          have := sub_len hnd (ys := bef u.rg L r k) fun y hy => by
            rcases List.mem_cons.mp hy with e | hy
            · rw [e]; exact hx
            · exact h.gr k r hr y hy
          rw [List.length_cons] at this
          omega
      have := srtT_of p
      rw [h.sr k] at this
      unfold bef at this ⊢
      rw [srtT_idem] at this
      exact this.symm
theorem Fx.done {u : Un} {L : List (List Tx)} (hu : u.ok) (h : Fx u L) (hf : ∀ k r, u.rows[k]? = some r → atL L k = bef u.rg L r k) : L = alvOf u := by
  have lv : ∀ k x, Live u k x → x ∈ atL L k := fun k x hx => by
    induction hx with
    | use hr h1 h2 => rw [hf _ _ hr, mem_bef]; exact ⟨h1, .inl h2⟩
    | step hr h1 h2 h3 ih => rw [hf _ _ hr, mem_bef]; exact ⟨h2.rg, .inr ⟨⟨_, h1, ih⟩, h3⟩⟩
  classical
  refine List.ext_getElem? fun k => ?_
  unfold alvOf
  rw [List.getElem?_map]
  by_cases hk : k < u.rows.length
  · have hk' : k < L.length := by rw [h.ok.len]; exact hk
    rw [List.getElem?_range hk]
    have hl : L[k]? = some (atL L k) := by unfold atL; rw [List.getElem?_eq_getElem hk']; rfl
    rw [hl]
    show some _ = some _
    rw [← h.sr k]
    congr 1
    exact canon (p := fun x => Live u k x) hu.nd (h.ok.at_ (k := k)).1 fun x => ⟨fun hx => ⟨(h.ok.at_ (k := k)).2 x hx, h.so k x hx⟩, fun hx => lv k x hx.2⟩
  · rw [List.getElem?_eq_none (by rw [h.ok.len]; omega), List.getElem?_eq_none (by simp; omega)]
    rfl
structure AlvS (u : Un) (G G' : Hg) (pa : Addr) (as : List Addr) (L : List (List Tx)) : Prop where
  kp : Kp G G'
  al : Alv G' pa as L
  fx : Fx u L
theorem Alv.ne {G : Hg} {pa : Addr} {as : List Addr} {L : List (List Tx)} (h : Alv G pa as L) {i : Nat} {a : Addr} (ha : as[i]? = some a) : a ≠ pa := by
  intro e
  subst e
  have hi : i < as.length := (List.getElem?_eq_some_iff.mp ha).1
  have hi2 : i < L.length := by rw [← h.len]; exact hi
  have h2 := h.at_ i a (L[i]'hi2) ha (List.getElem?_eq_getElem hi2)
  rw [h.top] at h2
  injection h2 with h2
  injection h2 with h2
  cases as with
  | nil => simp at hi
  | cons b bs =>
    cases hl : L[i]'hi2 with
    | nil => rw [hl] at h2; simp [txs] at h2
    | cons x xs => rw [hl] at h2; simp [txs] at h2
theorem Alv.put {G : Hg} {pa p : Addr} {as : List Addr} {L : List (List Tx)} {l : List Tx} {k : Nat} (h : Alv G pa as L) (hp : G p = some (.lst (txs l))) (hne : p ≠ pa) (hk : k < as.length) : Alv (updG G pa (.lst ((as.map D.ref).set k (.ref p)))) pa (as.set k p) (L.set k l) := by
  refine ⟨by rw [upd_at, List.map_set], by rw [List.length_set, List.length_set]; exact h.len, fun i a l' h1 h2 => ?_⟩
  by_cases e : i = k
  · subst e
    rw [List.getElem?_set_self hk] at h1
    rw [List.getElem?_set_self (by rw [← h.len]; exact hk)] at h2
    cases h1; cases h2
    rw [upd_off hne]; exact hp
  · rw [List.getElem?_set_ne (fun z => e z.symm)] at h1 h2
    rw [upd_off (h.ne h1)]
    exact h.at_ i a l' h1 h2
theorem vc_alive_at {K : PySem.W.Frag} (hK : Kf K) (ds : List D) (G : Hg) (Q : KD) (h : sp_alive_at ds G Q) : r_alive_at K (endOf Q) (startD N_alive_at ds) G := by
  obtain ⟨u, rfl, hu, hP⟩ := h
  let n := u.rows.length
  have hn : n ≤ 1000 := hu.sz
  show r_alive_at K (endOf Q) [some u.obj, none, none, none, none, none] G
  unfold r_alive_at
  walk_at "vc"
  have wn : ∀ x ∈ u.rg, ∀ c ∈ x, c < 128 := fun x hx c hc => (hu.wn x hx c hc).1
  refine lc_items (u.rows.map Rw.d) (fun Dd i acc G' => G Dd = none ∧ Kp G G' ∧ ∃ as : List Addr, acc = as.map D.ref ∧ as.length = i ∧ ∀ a ∈ as, G' a = some (.lst []) ∧ a ≠ Dd) (by rw [List.length_map]; exact hu.len) (fun R h => ?_) ?_ ?_
  · walk_at "vc"
    exact fld_rows hK (h G fun Dd hd => ⟨hd, .new hd, [], rfl, rfl, by simp⟩)
  · rintro Dd i d acc G' Yes No hd ha ⟨hn, kp, as, rfl, hl, hall⟩ _ yes no
    walk_at "vc"
    refine ⟨by simp, rL_ref fun a hfa => ?_⟩
    have nad : a ≠ Dd := by intro e; subst e; rw [ha] at hfa; cases hfa
    refine yes _ _ (by rw [upd_off (Ne.symm nad)]; exact ha) ⟨hn, (kp.trans (.new hfa)).upd hn, as ++ [a], by simp, by simp [hl], fun b hb => ?_⟩
    rcases List.mem_append.mp hb with hb | hb
    · obtain ⟨h1, h2⟩ := hall b hb
      have nba : b ≠ a := by intro e; subst e; rw [h1] at hfa; cases hfa
      exact ⟨by rw [upd_off h2, upd_off nba]; exact h1, h2⟩
    · rw [List.mem_singleton] at hb
      subst hb
      exact ⟨by rw [upd_off nad, upd_at], nad⟩
  · rintro pa acc G1 ha ⟨hna, kp, as, rfl, hl, hall⟩ _
    rw [List.length_map] at hl
    refine .inr (nx ?_)
    unfold r_alive_at_1
    walk_at "vc"
    refine nx ?_
    unfold r_alive_at_2
    let L0 : List (List Tx) := List.replicate n []
    have a0 : ∀ k, atL L0 k = [] := fun k => by
      unfold atL
      by_cases hk : k < n
      · rw [List.getElem?_replicate, if_pos hk]; rfl
      · rw [List.getElem?_replicate, if_neg hk]; rfl
    have f0 : Fx u L0 := ⟨⟨by simp [L0, n], fun l hl => by rw [List.eq_of_mem_replicate hl]; simp, fun l hl => by rw [List.eq_of_mem_replicate hl]; simp⟩, fun k x hx => by rw [a0] at hx; simp at hx, fun k r _ x hx => by rw [a0] at hx; simp at hx, fun k => by rw [a0]; exact List.mergeSort_nil⟩
    have al0 : Alv G1 pa as L0 := ⟨ha, by rw [hl]; simp [L0, n], fun i a l h1 h2 => by
      have := (hall a (List.mem_of_getElem? h1)).1
      rw [this, List.eq_of_mem_replicate (List.mem_of_getElem? h2)]
      rfl⟩
    dsimp only [gSeq]
    refine ⟨fun m env G' => ∃ as L z2 z4 z5 c, env = [some u.obj, some (.ref pa), z2, some (.bl c), z4, z5] ∧ AlvS u G G' pa as L ∧ (c = false → ∀ k r, u.rows[k]? = some r → atL L k = bef u.rg L r k) ∧ m = 2 * Fx.mu u L + (if c then 1 else 0), ⟨_, as, L0, _, _, _, true, rfl, ⟨kp, al0, f0⟩, by simp, rfl⟩, ?_⟩
    rintro m env G2 ⟨as, L, z2, z4, z5, c, rfl, S, hc, rfl⟩
    walk_at "vc"
    cases c with
    | false =>
      show (∃ env2 G3, Gh _ G2 env2 G3 ∧ r_alive_at_9 K (endOf Q) env2 G3)
      refine nx ?_
      unfold r_alive_at_9
      walk_at "vc"
      have e := Fx.done hu S.fx (hc rfl)
      exact .inl (hP pa as G2 S.kp hna (e ▸ S.al))
    | true =>
      show r_alive_at_3 K _ _ _
      unfold r_alive_at_3
      walk_at "vc"
      refine nx ?_
      unfold r_alive_at_4
      refine for_back ((n : Int) - 1) n (fun i env G' => ∃ as' L' z2 z4 z5 c, env = [some u.obj, some (.ref pa), z2, some (.bl c), z4, z5] ∧ AlvS u G G' pa as' L' ∧ (c = false → L' = L ∧ ∀ k r, n - i ≤ k → u.rows[k]? = some r → atL L k = bef u.rg L r k) ∧ (c = true → Fx.mu u L' < Fx.mu u L)) (fun R h => ?_) ?_ ?_
      · walk_at "vc"
        refine fld_rows hK ?_
        show (-(2 ^ 62) ≤ (((u.rows.map Rw.d).length : Nat) : Int) ∧ (((u.rows.map Rw.d).length : Nat) : Int) < 2 ^ 62 ∧ R (jRv ((((u.rows.map Rw.d).length : Nat) : Int).toNat - 1) (((u.rows.map Rw.d).length : Nat) : Int).toNat) G2)
        rw [List.length_map, Int.toNat_natCast]
        refine ⟨by omega, by omega, h _ ⟨as, L, _, _, _, false, rfl, S, fun _ => ⟨rfl, fun k r hk hr => ?_⟩, by simp⟩⟩
        have := (List.getElem?_eq_some_iff.mp hr).1
        omega
      · rintro i env G' Nx hi ⟨as', L', z2, z4, z5, c, rfl, S', hcf, hct⟩ nxt
        have hk : n - 1 - i < n := by omega
        obtain ⟨r, hr⟩ : ∃ r, u.rows[n - 1 - i]? = some r := ⟨_, List.getElem?_eq_getElem hk⟩
        have ei : (n : Int) - 1 - i = ((n - 1 - i : Nat) : Int) := by omega
        rw [ei]
        generalize hkk : n - 1 - i = k at hk hr
        walk_at "vc"
        unfold r_alive_at_5
        walk_at "vc"
        refine ⟨u, k, r, pa, as', L', rfl, hu, hr, S'.al, S'.fx.ok, rL_ref fun p hp => nx ?_⟩
        have S2 := S'.al.kp (Kp.new (o := .lst (txs (bef u.rg L' r k))) hp)
        have hkl : k < L'.length := by rw [S'.fx.ok.len]; exact hk
        obtain ⟨a, ha, hga⟩ := S2.el hkl
        have npa : p ≠ pa := by intro e; subst e; rw [S'.al.top] at hp; cases hp
        unfold r_alive_at_6
        walk_at "vc"
        refine it_ref S2.top ha (ne_txsR upd_at hga (fun x hx => wn x (bef_rg x hx)) (fun x hx => wn x ((S'.fx.ok.at_ (k := k)).2 x hx)) ?_)
        by_cases he : bef u.rg L' r k = atL L' k
        · rw [decide_eq_true he]
          refine nxt _ _ ⟨as', L', _, _, _, c, rfl, ⟨S'.kp.trans (.new hp), S2, S'.fx⟩, fun e => ?_, hct⟩
          obtain ⟨rfl, hcf⟩ := hcf e
          refine ⟨rfl, fun j r' hj hr' => ?_⟩
          by_cases ej : j = k
          · subst ej
            rw [hr] at hr'; cases hr'
            exact he.symm
          · exact hcf j r' (by omega) hr'
        · rw [decide_eq_false he]
          show r_alive_at_7 K _ _ _
          unfold r_alive_at_7
          walk_at "vc"
          have hka : k < as'.length := by rw [S'.al.len]; exact hkl
          have ix : L2.ixN (as'.map D.ref).length (k : Int) = some k := by
            unfold L2.ixN
            rw [List.length_map, if_pos (by omega), if_pos (by omega)]
            simp
          refine ⟨_, S2.top, k, ix, fun G3 e3 => nx ?_⟩
          unfold r_alive_at_8
          walk_at "vc"
          obtain ⟨f1, f2⟩ := S'.fx.turn hu hr he
          have pt := S2.put (l := bef u.rg L' r k) (k := k) upd_at npa hka
          have kp3 : Kp G G3 := by
            rw [e3]
            refine Kp.upd (S'.kp.trans (.new hp)) hna
          rw [← e3] at pt
          refine nxt _ _ ⟨_, _, _, _, _, true, rfl, ⟨kp3, pt, f1⟩, (by intro e; cases e), fun _ => ?_⟩
          cases c with
          | false => obtain ⟨rfl, _⟩ := hcf rfl; exact f2
          | true => exact Nat.lt_trans f2 (hct rfl)
      · rintro env G' ⟨as', L', z2, z4, z5, c, rfl, S', hcf, hct⟩
        cases c with
        | false =>
          obtain ⟨rfl, hcf⟩ := hcf rfl
          exact ⟨2 * Fx.mu u L' + 0, by simp, as', L', _, _, _, false, rfl, S', fun _ k r hr => hcf k r (by omega) hr, rfl⟩
        | true =>
          have := hct rfl
          exact ⟨2 * Fx.mu u L' + 1, by simp; omega, as', L', _, _, _, true, rfl, S', (by intro e; cases e), rfl⟩
end My

set_option Elab.async false
set_option linter.all false
set_option autoImplicit false
set_option maxRecDepth 100000
set_option maxHeartbeats 2000000
namespace My
open PySem PySem.Spec PyProof.Rows Vc
local macro_rules | `(tactic| walk_at "vc") => `(tactic| (try dsimp only [gSeq, gAsg, gName, gRet, gRetN, gIfS, gDrop, gNext, gBreak, gCont, gVar, gC, gOp, gB, gCh, gAnd, gOr, gNot, gAndV, gOrV, gNotV, gIf, gTru, gNil, gCons, gTup, gLst, gFld, gCall, gBm, gCut, gNoPart, gPart, gIsa, gIsO, gNeg, gYes, gGSub, gIterA, gGTup, gGCons, gGNil, gRng1, gRng2, gRev, gRvR1, gRvR2, Tg.put, setAll, wipeE, List.set, List.getElem?_cons_zero, List.getElem?_cons_succ]))
local macro_rules | `(tactic| walk_at "ev") => `(tactic| (try simp [ev_add_i, ev_add_s, ev_sub, ev_mul, ev_fdiv, ev_mod, ev_pow, ev_lt, ev_le, ev_gt, ev_lts, ev_gts, ev_ge, ev_eq_i, ev_eq_s, ev_eq_b, ev_is, ev_isnt, isN, ev_it_t, ev_it_r, ev_it_k, ev_at, ev_in_t, ev_in_r, ev_in_k, sizeLine_eq, L2.atI, L2.ixN, D.fl, inD, feq, S_return, S_fail, S_jump, S_test, S_set, S_put, S_swap, S_choose, S_call, S_mark, S_cell, S_var, S_num, S_len, S_cmp, S_either, S_all, S_match, S_sorted, S_below, S_list]))
theorem vc_made_by {K : PySem.W.Frag} (hK : Kf K) (ds : List D) (G : Hg) (Q : KD) (h : sp_made_by ds G Q) : r_made_by K (endOf Q) (startD N_made_by ds) G := by
  obtain ⟨u, k, r, rfl, hu, hr, hP⟩ := h
  show r_made_by K (endOf Q) [some u.obj, some (.int k), none] G
  unfold r_made_by
  walk_at "vc"
  refine fld_rows hK (it_tup (map_at hr) ?_)
  have rest : r.made = r.giv.toList → r_made_by_2 K (endOf Q) [some u.obj, some (.int k), none] G := by
    intro e
    rw [e] at hP
    unfold r_made_by_2
    walk_at "vc"
    refine ⟨u, k, r, rfl, hu, hr, nx ?_⟩
    unfold r_made_by_3
    walk_at "vc"
    cases hg : r.giv with
    | none =>
      rw [hg] at hP
      exact ⟨by simp, .inl (.inl hP)⟩
    | some x =>
      rw [hg] at hP
      show [D.str x].length ≤ sizeLine ∧ rL [D.str x] G _
      exact ⟨by simp [sizeLine_eq], .inl (.inl hP)⟩
  cases r with
  | mark r prs f1 f2 ns ls =>
    unfold Rw.d
    walk_at "ev"
    unfold r_made_by_1
    walk_at "vc"
    refine fld_rows hK (it_tup (map_at hr) ?_)
    unfold Rw.d
    walk_at "ev"
    exact ⟨_, .tup _, .inl (.inl hP)⟩
  | _ => unfold Rw.d; walk_at "ev"; exact nx (rest rfl)
theorem put_pks {G : Hg} {p : Addr} {ks : List Tp} {x : Tp} {P : Hg → Prop} (h : G p = some (.dtt (pks ks))) (hl : ks.length < sizeLine) (k : P (updG G p (.dtt (pks (if x ∈ ks then ks else ks ++ [x]))))) : rSet (.ref p) (tpD x) (.bl true) G P :=
  ⟨_, h, [Sum.inr x.1, Sum.inr x.2], rfl, by unfold pks; rw [List.length_map]; exact hl, fun G' e => by rw [e, pks_put]; exact k⟩
theorem pairs_len {A : List Tx} {ks : List Tp} (nd : ks.Nodup) (h : ∀ q ∈ ks, q.1 ∈ A ∧ q.2 ∈ A) (hA : Sz A.length) : ks.length < sizeLine := by
  have h1 : ks.length ≤ (A.flatMap fun a => A.map fun b => (a, b)).length := List.Nodup.length_le_of_subset nd fun q hq => by
    obtain ⟨a, b⟩ := h q hq
    exact List.mem_flatMap.mpr ⟨q.1, a, List.mem_map.mpr ⟨q.2, b, rfl⟩⟩
  have h2 : ∀ B : List Tx, (B.flatMap fun a => A.map fun b => (a, b)).length = B.length * A.length := by
    intro B
    induction B with
    | nil => simp
    | cons b B ih => rw [List.flatMap_cons, List.length_append, ih, List.length_map, List.length_cons, Nat.succ_mul, Nat.add_comm]
  rw [h2] at h1
  have : A.length * A.length ≤ 1000 * 1000 := Nat.mul_le_mul hA hA
  rw [sizeLine_eq]
  omega
theorem upr_in {A : List Tx} {a b : Tx} (h1 : a ∈ A) (h2 : b ∈ A) : (upr a b).1 ∈ A ∧ (upr a b).2 ∈ A := by
  unfold upr
  constructor
  · show (if b < a then b else a) ∈ A
    split
    · exact h2
    · exact h1
  · show (if a < b then b else a) ∈ A
    split
    · exact h2
    · exact h1
theorem vc_add_foes {K : PySem.W.Frag} (ds : List D) (G : Hg) (Q : KD) (h : sp_add_foes ds G Q) : r_add_foes K (endOf Q) (startD N_add_foes ds) G := by
  obtain ⟨p, one, x, xs, A, K0, rfl, hp, hx, hA, nd0, in0, ho, hxs, hP⟩ := h
  show r_add_foes K (endOf Q) [some (.ref p), some (.str one), some x, none] G
  unfold r_add_foes
  let v : Nat → Ev → Hg → Prop := fun i env G' => ∃ K1 z, env = [some (.ref p), some (.str one), some x, z] ∧ G' = updG G p (.dtt (pks K1)) ∧ K1.Nodup ∧ ∀ q, q ∈ K1 ↔ q ∈ K0 ∨ ∃ y ∈ xs.take i, y ≠ one ∧ q = upr one y
  have g0 : G = updG G p (.dtt (pks K0)) := by
    funext b
    by_cases e : b = p
    · subst e; rw [upd_at, hp]
    · rw [upd_off e]
  have v0 : v 0 [some (.ref p), some (.str one), some x, none] G := ⟨K0, _, rfl, g0, nd0, by simp⟩
  have step : ∀ (i : Nat) (d : D) (env : Ev) (G' : Hg) (Nx : Ev → Hg → Prop), (txs xs)[i]? = some d → v i env G' → (∀ env' G', v (i + 1) env' G' → Nx env' G') → Vc.gName 3 d env G' fun env2 G2 => r_add_foes_1 K { (endOf Q) with nx := Nx, ct := Nx, bk := (endOf Q).nx } env2 G2 := by
    rintro i d env G' Nx hd ⟨K1, z, rfl, rfl, nd, mem⟩ nxt
    unfold txs at hd
    rw [List.getElem?_map] at hd
    cases hy : xs[i]? with
    | none => rw [hy] at hd; cases hd
    | some y =>
      rw [hy] at hd
      cases hd
      have tk : xs.take (i + 1) = xs.take i ++ [y] := by rw [List.take_succ, hy]; rfl
      have hyA := hxs y (List.mem_of_getElem? hy)
      have inA : ∀ q ∈ K1, q.1 ∈ A ∧ q.2 ∈ A := fun q hq => by
        rcases (mem q).mp hq with h | ⟨y', h1, _, rfl⟩
        · exact in0 q h
        · exact upr_in ho (hxs y' (List.mem_of_mem_take h1))
      walk_at "vc"
      unfold r_add_foes_1
      walk_at "vc"
      refine ne_str ?_
      by_cases he : y = one
      · rw [decide_eq_true he]
        refine nxt _ _ ⟨K1, _, rfl, rfl, nd, fun q => ?_⟩
        rw [mem, tk]
        constructor
        · rintro (h | ⟨y', h1, h2, h3⟩)
          · exact .inl h
          · exact .inr ⟨y', List.mem_append_left _ h1, h2, h3⟩
        · rintro (h | ⟨y', h1, h2, h3⟩)
          · exact .inl h
          · rcases List.mem_append.mp h1 with h1 | h1
            · exact .inr ⟨y', h1, h2, h3⟩
            · rw [List.mem_singleton] at h1
              subst h1
              exact absurd he h2
      · rw [decide_eq_false he]
        show r_add_foes_2 K _ _ _
        unfold r_add_foes_2
        walk_at "vc"
        have fin : rSet (.ref p) (tpD (upr one y)) (.bl true) (updG G p (.dtt (pks K1))) fun G3 => Nx [some (.ref p), some (.str one), some x, some (.str y)] G3 := by
          refine put_pks upd_at (pairs_len nd inA hA) (nxt _ _ ⟨_, _, rfl, by rw [upd_upd], ins_nodup nd, fun q => ?_⟩)
          rw [ins_mem, mem, tk]
          constructor
          · rintro ((h | ⟨y', h1, h2, h3⟩) | h)
            · exact .inl h
            · exact .inr ⟨y', List.mem_append_left _ h1, h2, h3⟩
            · exact .inr ⟨y, by simp, he, h⟩
          · rintro (h | ⟨y', h1, h2, h3⟩)
            · exact .inl (.inl h)
            · rcases List.mem_append.mp h1 with h1 | h1
              · exact .inl (.inr ⟨y', h1, h2, h3⟩)
              · rw [List.mem_singleton] at h1
                subst h1
                exact .inr h3
        exact ⟨by simp [sizeLine_eq], fin⟩
  have done : ∀ env G', v (txs xs).length env G' → (endOf Q).nx env G' := by
    rintro env G' ⟨K1, z, rfl, rfl, nd, mem⟩
    rw [txs_len, List.take_length] at mem
    exact hP K1 nd mem
  cases hx with
  | rol => exact for_items (txs xs) v (fun R h => h G v0) step done
  | ref ha =>
    rename_i a
    have nap : a ≠ p := by intro e; subst e; rw [hp] at ha; cases ha
    exact for_ref a (txs xs) v (fun i env G' ⟨K1, z, _, e, _⟩ => by rw [e, upd_off nap]; exact ha) (fun R h => ⟨⟨_, ha⟩, h G v0⟩) step done
def FoeAt (u : Un) (k : Nat) (r : Rw) (q : Tp) : Prop := ∃ a b : Tx, b ≠ a ∧ q = upr a b ∧ ((a ∈ atL (alvOf u) k ∧ b ∈ atL (alvOf u) k) ∨ (a ∈ r.made ∧ oth u (alvOf u) r k b))
theorem made_rg {u : Un} (hu : u.ok) {k : Nat} {r : Rw} (hr : u.rows[k]? = some r) : ∀ x ∈ r.made, x ∈ u.rg := by
  have hm := List.mem_of_getElem? hr
  intro x hx
  cases r with
  | mark r prs f1 f2 ns ls => exact hu.mks _ hm x hx
  | _ => exact hu.gv _ hm x (by simpa [Rw.made] using hx)
theorem vc_foes {K : PySem.W.Frag} (hK : Kf K) (ds : List D) (G : Hg) (Q : KD) (h : sp_foes ds G Q) : r_foes K (endOf Q) (startD N_foes ds) G := by
  obtain ⟨u, rfl, hu, hP⟩ := h
  let n := u.rows.length
  have hn : n ≤ 1000 := hu.sz
  show r_foes K (endOf Q) [some u.obj, none, none, none, none, none] G
  unfold r_foes
  walk_at "vc"
  refine ⟨u, rfl, hu, fun pa as G1 kp hpa hA => nx ?_⟩
  have hL : LOk u (alvOf u) := by
    classical
    refine ⟨by simp [alvOf], fun l hl => ?_, fun l hl x hx => ?_⟩
    · obtain ⟨k, _, rfl⟩ := List.mem_map.mp hl
      exact srtT_nodup (hu.nd.filter _)
    · obtain ⟨k, _, rfl⟩ := List.mem_map.mp hl
      rw [mem_srtT, List.mem_filter] at hx
      exact hx.1
  unfold r_foes_1
  walk_at "vc"
  refine .inr fun p G2 hN => ?_
  have hp := hN.fr
  rw [hN.eq]
  refine nx ?_
  unfold r_foes_2
  walk_at "vc"
  have g1p : ∀ K1 : List Tp, Kp G1 (updG G1 p (.dtt (pks K1))) := fun K1 => .new hp
  refine for_range 0 n (fun i env G' => ∃ K1 z3 z4 z5, env = [some u.obj, some (.ref pa), some (.ref p), z3, z4, z5] ∧ G' = updG G1 p (.dtt (pks K1)) ∧ K1.Nodup ∧ (∀ q ∈ K1, q.1 ∈ u.rg ∧ q.2 ∈ u.rg) ∧ ∀ q, q ∈ K1 ↔ ∃ k r, k < i ∧ u.rows[k]? = some r ∧ FoeAt u k r q) (fun R h => ?_) ?_ ?_
  · walk_at "vc"
    refine fld_rows hK ?_
    show (-(2 ^ 62) ≤ (((u.rows.map Rw.d).length : Nat) : Int) ∧ (((u.rows.map Rw.d).length : Nat) : Int) < 2 ^ 62 ∧ R (jR 0 (((u.rows.map Rw.d).length : Nat) : Int).toNat) _)
    rw [List.length_map, Int.toNat_natCast]
    exact ⟨by omega, by omega, h _ ⟨[], _, _, _, rfl, rfl, by simp, by simp, by simp⟩⟩
  · rintro k env G' Nx hk ⟨K1, z3, z4, z5, rfl, rfl, nd1, in1, mem1⟩ nxt
    obtain ⟨r, hr⟩ : ∃ r, u.rows[k]? = some r := ⟨_, List.getElem?_eq_getElem hk⟩
    have e0 : (0 : Int) + k = (k : Int) := by omega
    rw [e0]
    have hkl : k < (alvOf u).length := by rw [hL.len]; exact hk
    have hAk := hL.at_ (k := k)
    walk_at "vc"
    unfold r_foes_3
    walk_at "vc"
    -- what the rest does, others told
    have rest : ∀ (x : D) (os : List Tx), (∀ K2 : List Tp, IsLi (updG G1 p (.dtt (pks K2))) x (txs os)) → (∀ y ∈ os, y ∈ u.rg) → (∀ y, y ∈ os ↔ oth u (alvOf u) r k y) → r_foes_4 K { (endOf Q) with nx := Nx, ct := Nx, bk := fun env1 G1 => ∃ env2 G2, Gh env1 G1 env2 G2 ∧ r_foes_8 K (endOf Q) env2 G2 } [some u.obj, some (.ref pa), some (.ref p), some (.int k), some x, z5] (updG G1 p (.dtt (pks K1))) := by
      intro x os hli hos hoth
      unfold r_foes_4
      walk_at "vc"
      refine for_items (txs r.made) (fun j env G' => ∃ K2 z5, env = [some u.obj, some (.ref pa), some (.ref p), some (.int k), some x, z5] ∧ G' = updG G1 p (.dtt (pks K2)) ∧ K2.Nodup ∧ (∀ q ∈ K2, q.1 ∈ u.rg ∧ q.2 ∈ u.rg) ∧ ∀ q, q ∈ K2 ↔ q ∈ K1 ∨ ∃ a ∈ r.made.take j, ∃ b ∈ os, b ≠ a ∧ q = upr a b) (fun R h => ?_) ?_ ?_
      · walk_at "vc"
        exact ⟨u, k, r, rfl, hu, hr, h _ ⟨K1, _, rfl, rfl, nd1, in1, by simp⟩⟩
      · rintro j d env G' Nx' hd ⟨K2, z5, rfl, rfl, nd2, in2, mem2⟩ nxt'
        unfold txs at hd
        rw [List.getElem?_map] at hd
        cases ha : r.made[j]? with
        | none => rw [ha] at hd; cases hd
        | some a =>
          rw [ha] at hd
          cases hd
          have tk : r.made.take (j + 1) = r.made.take j ++ [a] := by rw [List.take_succ, ha]; rfl
          have haA := made_rg hu hr a (List.mem_of_getElem? ha)
          walk_at "vc"
          unfold r_foes_5
          walk_at "vc"
          refine ⟨p, a, x, os, u.rg, K2, rfl, upd_at, hli K2, hu.rsz, nd2, in2, haA, hos, fun K3 nd3 mem3 => ?_⟩
          rw [upd_upd]
          refine nxt' _ _ ⟨K3, _, rfl, rfl, nd3, fun q hq => ?_, fun q => ?_⟩
          · rcases (mem3 q).mp hq with h | ⟨y, h1, _, rfl⟩
            · exact in2 q h
            · exact upr_in haA (hos y h1)
          · rw [mem3, mem2, tk]
            constructor
            · rintro ((h | ⟨a', h1, h2⟩) | ⟨y, h1, h2, h3⟩)
              · exact .inl h
              · exact .inr ⟨a', List.mem_append_left _ h1, h2⟩
              · exact .inr ⟨a, by simp, y, h1, h2, h3⟩
            · rintro (h | ⟨a', h1, h2⟩)
              · exact .inl (.inl h)
              · rcases List.mem_append.mp h1 with h1 | h1
                · exact .inl (.inr ⟨a', h1, h2⟩)
                · rw [List.mem_singleton] at h1
                  subst h1
                  exact .inr h2
      · rintro env G' ⟨K2, z5, rfl, rfl, nd2, in2, mem2⟩
        rw [txs_len, List.take_length] at mem2
        refine nx ?_
        unfold r_foes_6
        have hA2 := fun K3 : List Tp => hA.kp (g1p K3)
        obtain ⟨a, ha, hga⟩ := (hA2 K2).el hkl
        have nap : a ≠ p := by intro e; subst e; rw [upd_at] at hga; cases hga
        have hga1 : G1 a = some (.lst (txs (atL (alvOf u) k))) := by rw [upd_off nap] at hga; exact hga
        refine for_ref a (txs (atL (alvOf u) k)) (fun j env G' => ∃ K3 z5, env = [some u.obj, some (.ref pa), some (.ref p), some (.int k), some x, z5] ∧ G' = updG G1 p (.dtt (pks K3)) ∧ K3.Nodup ∧ (∀ q ∈ K3, q.1 ∈ u.rg ∧ q.2 ∈ u.rg) ∧ ∀ q, q ∈ K3 ↔ q ∈ K2 ∨ ∃ b ∈ (atL (alvOf u) k).take j, ∃ c ∈ atL (alvOf u) k, c ≠ b ∧ q = upr b c) (fun j env G' ⟨K3, z5, _, e, _⟩ => by rw [e, upd_off nap]; exact hga1) (fun R h => ?_) ?_ ?_
        · walk_at "vc"
          exact it_ref (hA2 K2).top ha ⟨⟨_, hga⟩, h _ ⟨K2, _, rfl, rfl, nd2, in2, by simp⟩⟩
        · rintro j d env G' Nx' hd ⟨K3, z5, rfl, rfl, nd3, in3, mem3⟩ nxt'
          unfold txs at hd
          rw [List.getElem?_map] at hd
          cases hb : (atL (alvOf u) k)[j]? with
          | none => rw [hb] at hd; cases hd
          | some b =>
            rw [hb] at hd
            cases hd
            have tk : (atL (alvOf u) k).take (j + 1) = (atL (alvOf u) k).take j ++ [b] := by rw [List.take_succ, hb]; rfl
            have hbA := hAk.2 b (List.mem_of_getElem? hb)
            have hga3 : updG G1 p (.dtt (pks K3)) a = some (.lst (txs (atL (alvOf u) k))) := by rw [upd_off nap]; exact hga1
            walk_at "vc"
            unfold r_foes_7
            walk_at "vc"
            refine it_ref (hA2 K3).top ha ⟨p, b, .ref a, atL (alvOf u) k, u.rg, K3, rfl, upd_at, .ref hga3, hu.rsz, nd3, in3, hbA, hAk.2, fun K4 nd4 mem4 => ?_⟩
            rw [upd_upd]
            refine nxt' _ _ ⟨K4, _, rfl, rfl, nd4, fun q hq => ?_, fun q => ?_⟩
            · rcases (mem4 q).mp hq with h | ⟨y, h1, _, rfl⟩
              · exact in3 q h
              · exact upr_in hbA (hAk.2 y h1)
            · rw [mem4, mem3, tk]
              constructor
              · rintro ((h | ⟨a', h1, h2⟩) | ⟨y, h1, h2, h3⟩)
                · exact .inl h
                · exact .inr ⟨a', List.mem_append_left _ h1, h2⟩
                · exact .inr ⟨b, by simp, y, h1, h2, h3⟩
              · rintro (h | ⟨a', h1, h2⟩)
                · exact .inl (.inl h)
                · rcases List.mem_append.mp h1 with h1 | h1
                  · exact .inl (.inr ⟨a', h1, h2⟩)
                  · rw [List.mem_singleton] at h1
                    subst h1
                    exact .inr h2
        · rintro env G' ⟨K3, z5, rfl, rfl, nd3, in3, mem3⟩
          rw [txs_len, List.take_length] at mem3
          refine nxt _ _ ⟨K3, _, _, _, rfl, rfl, nd3, in3, fun q => ?_⟩
          rw [mem3, mem2, mem1]
          constructor
          · rintro ((⟨k', r', h1, h2, h3⟩ | ⟨a', h1, b', h2, h3, h4⟩) | ⟨b', h1, c', h2, h3, h4⟩)
            · exact ⟨k', r', by omega, h2, h3⟩
            · exact ⟨k, r, by omega, hr, a', b', h3, h4, .inr ⟨h1, (hoth b').mp h2⟩⟩
            · exact ⟨k, r, by omega, hr, b', c', h3, h4, .inl ⟨h1, h2⟩⟩
          · rintro ⟨k', r', h1, h2, h3⟩
            by_cases ek : k' = k
            · subst ek
              rw [hr] at h2; cases h2
              obtain ⟨a', b', h4, h5, h6 | h6⟩ := h3
              · exact .inr ⟨a', h6.1, b', h6.2, h4, h5⟩
              · exact .inl (.inr ⟨a', h6.1, b', (hoth b').mpr h6.2, h4, h5⟩)
            · exact .inl (.inl ⟨k', r', by omega, h2, h3⟩)
    refine fld_rows hK (it_tup (map_at hr) ?_)
    have mk : (∀ y, y ∈ atL (alvOf u) k ↔ oth u (alvOf u) r k y) → rItem (.ref pa) (.int (k : Int)) (updG G1 p (.dtt (pks K1))) fun d G2 => ∃ env2 G3, Gh [some u.obj, some (.ref pa), some (.ref p), some (.int k), some d, z5] G2 env2 G3 ∧ r_foes_4 K { (endOf Q) with nx := Nx, ct := Nx, bk := fun env1 G1 => ∃ env2 G2, Gh env1 G1 env2 G2 ∧ r_foes_8 K (endOf Q) env2 G2 } env2 G3 := by
      intro ho
      obtain ⟨a, ha, hga⟩ := (hA.kp (g1p K1)).el hkl
      have nap : a ≠ p := by intro e; subst e; rw [upd_at] at hga; cases hga
      have hga1 : G1 a = some (.lst (txs (atL (alvOf u) k))) := by rw [upd_off nap] at hga; exact hga
      exact it_ref (hA.kp (g1p K1)).top ha (nx (rest (.ref a) _ (fun K2 => .ref (by rw [upd_off nap]; exact hga1)) hAk.2 ho))
    have nmk : (∀ y, (∃ t ∈ stp r k, y ∈ atL (alvOf u) t) ↔ oth u (alvOf u) r k y) → sp_alive_behind [u.obj, .ref pa, .int k] (updG G1 p (.dtt (pks K1))) fun d G2 => bSorted [d] G2 fun d G2 => ∃ env2 G3, Gh [some u.obj, some (.ref pa), some (.ref p), some (.int k), some d, z5] G2 env2 G3 ∧ r_foes_4 K { (endOf Q) with nx := Nx, ct := Nx, bk := fun env1 G1 => ∃ env2 G2, Gh env1 G1 env2 G2 ∧ r_foes_8 K (endOf Q) env2 G2 } env2 G3 := by
      intro ho
      refine ⟨u, k, r, pa, as, alvOf u, rfl, hu, hr, hA.kp (g1p K1), hL, fun ks nd mem => ?_⟩
      have krg : ∀ x ∈ ks, x ∈ u.rg := fun x hx => by
        obtain ⟨t', _, h2⟩ := (mem x).mp hx
        exact (hL.at_ (k := t')).2 x h2
      refine ⟨_, .rdc _, ?_, ?_, ?_⟩
      · rw [kys_keys, txs_len]
        have := sub_len nd krg
        have := hu.rsz
        exact le_sz (by omega)
      · rw [kys_keys]
        exact .txs fun x hx c hc => (hu.wn x (krg x hx) c hc).1
      · rw [kys_keys, srt_txs]
        exact .inl (nx (rest _ (srtT ks) (fun K2 => .rol _) (fun y hy => krg y (mem_srtT.mp hy)) fun y => by rw [mem_srtT, mem, ho]))
    cases r
    case mark => unfold Rw.d; walk_at "ev"; exact mk fun y => Iff.rfl
    all_goals (unfold Rw.d; walk_at "ev"; exact nmk fun y => Iff.rfl)
  · rintro env G' ⟨K1, z3, z4, z5, rfl, rfl, nd1, in1, mem1⟩
    refine nxlw (G2 := G) 2 (a := p) rfl (.dtt upd_at) (by rw [del_upd hp]; exact kp) ?_
    unfold r_foes_8
    walk_at "vc"
    have mem : ∀ q, q ∈ K1 ↔ Foe u q := fun q => by
      rw [mem1]
      constructor
      · rintro ⟨k, r, h1, h2, a, b, h3, h4, h5⟩; exact ⟨k, r, a, b, h2, h3, h4, h5⟩
      · rintro ⟨k, r, a, b, h2, h3, h4, h5⟩; exact ⟨k, r, (List.getElem?_eq_some_iff.mp h2).1, h2, a, b, h3, h4, h5⟩
    refine ⟨_, .rdt _, ?_, ?_, ?_⟩
    · rw [pks_keys, List.length_map]
      exact Nat.le_of_lt (pairs_len nd1 in1 hu.rsz)
    · rw [pks_keys]
      exact .tps fun q hq => ⟨fun c hc => (hu.wn _ (in1 q hq).1 c hc).1, fun c hc => (hu.wn _ (in1 q hq).2 c hc).1⟩
    · rw [pks_keys, srt_tp]
      exact rL_ret (hP K1 nd1 mem)
end My

set_option Elab.async false
set_option linter.all false
set_option autoImplicit false
set_option maxRecDepth 100000
set_option maxHeartbeats 2000000
namespace My
open PySem PySem.Spec PyProof.Rows L2 Vc
def Un.kvs (u : Un) : List (DK × D) := [(sk S_name, .str u.nm), (sk S_parameters, .rol (parD u.ps)), (sk S_registers, .rol (txs u.rg)), (sk S_needs, .rol (u.ne.map Pr.d)), (sk S_falls, faD u.fa), (sk S_changes, .rol (txs u.ch)), (sk S_uses, .rol (u.us.map Hd.dct)), (sk S_gives, .rol (u.gi.map Pr.d)), (sk S_rows, .rol (u.rows.map Rw.d))]
def Un.dct (u : Un) : D := .rdc u.kvs
def Hd.fs (h : Hd) : List (List Nat × D) := [(S_name, .str h.nm), (S_parameters, .tup (parD h.ps)), (S_needs, .tup (h.ne.map Pr.d)), (S_gives, .tup (h.gi.map Pr.d)), (S_falls, .non), (S_changes, .tup (txs h.ch))]
def Un.fs (u : Un) : List (List Nat × D) := [(S_name, .str u.nm), (S_parameters, .tup (parD u.ps)), (S_needs, .tup (u.ne.map Pr.d)), (S_gives, .tup (u.gi.map Pr.d)), (S_falls, faD u.fa), (S_changes, .tup (txs u.ch)), (S_uses, .tup (u.us.map Hd.obj)), (S_registers, .tup (txs u.rg)), (S_rows, .tup (u.rows.map Rw.d))]
def sp_Head___init__ : Spg := fun ds G P => ∃ (p : Addr) (h : Hd), ds = [.ref p, .str h.nm, .rol (parD h.ps), .rol (h.ne.map Pr.d), .rol (h.gi.map Pr.d), .non, .rol (txs h.ch)] ∧ G p = some (.ins S_Head []) ∧ P .non (updG G p (.ins S_Head h.fs))
def sp_Unit___init__ : Spg := fun ds G P => ∃ (p : Addr) (u : Un), ds = [.ref p, .str u.nm, .rol (parD u.ps), .rol (u.ne.map Pr.d), .rol (u.gi.map Pr.d), faD u.fa, .rol (txs u.ch), .rol (u.us.map Hd.obj), .rol (txs u.rg), .rol (u.rows.map Rw.d)] ∧ G p = some (.ins S_Unit []) ∧ P .non (updG G p (.ins S_Unit u.fs))
def sp__law_head_made : Spg := fun ds G P => ∃ h : Hd, ds = [h.dct] ∧ P h.obj G
def sp__law_made : Spg := fun ds G P => ∃ u : Un, ds = [u.dct] ∧ Sz u.us.length ∧ P u.obj G
inductive Sm (G : Hg) : Nat → D → D → Prop
  | non (n : Nat) : Sm G (n + 1) .non .non
  | bl (n : Nat) (b : Bool) : Sm G (n + 1) (.bl b) (.bl b)
  | int (n : Nat) (i : Int) : Sm G (n + 1) (.int i) (.int i)
  | str (n : Nat) (s : Tx) : Sm G (n + 1) (.str s) (.str s)
  | tup {n : Nat} {xs ys : List D} : xs.length = ys.length → ys.length ≤ 16777216 → (∀ (i : Nat) (x y : D), xs[i]? = some x → ys[i]? = some y → Sm G n x y) → Sm G (n + 1) (.tup xs) (.tup ys)
  | lst {n : Nat} {x y : D} {xs ys : List D} : IsLi G x xs → IsLi G y ys → xs.length = ys.length → ys.length ≤ 16777216 → (∀ (i : Nat) (x y : D), xs[i]? = some x → ys[i]? = some y → Sm G n x y) → Sm G (n + 1) x y
def sp__law_same (n : Nat) : Spg := fun ds G P => ∃ x y : D, ds = [x, y] ∧ Sm G n x y ∧ P (.bl true) G
def sp__law_is_head : Spg := fun ds G P => ∃ h : Hd, ds = [h.obj, h.dct] ∧ Sz h.ps.length ∧ Sz h.ne.length ∧ Sz h.gi.length ∧ Sz h.ch.length ∧ P (.bl true) G
structure Un.szs (u : Un) : Prop where
  ps : Sz u.ps.length
  ne : Sz u.ne.length
  gi : Sz u.gi.length
  ch : Sz u.ch.length
  us : Sz u.us.length
  hs : ∀ h ∈ u.us, Sz h.ps.length ∧ Sz h.ne.length ∧ Sz h.gi.length ∧ Sz h.ch.length
  mls : ∀ r ∈ u.rows, ∀ r0 prs f1 f2 ns ls, r = Rw.mark r0 prs f1 f2 ns ls → Sz ls.length
def sp__law_is : Spg := fun ds G P => ∃ u : Un, ds = [u.obj, u.dct] ∧ u.ok ∧ u.szs ∧ P (.bl true) G
def N_Head___init__ : List Str := ["self", "name", "parameters", "needs", "gives", "falls", "changes"]
def G_Head___init__ (K : PySem.W.Frag) : Tb := ⟨K, [], [], [], []⟩
def r_Head___init___5 (K : PySem.W.Frag) : TSg := (gSFld K S_changes (gVar 0) (gCall bTuple (gCons (gVar 6) gNil)))
def r_Head___init___4 (K : PySem.W.Frag) : TSg := gSeq (gSFld K S_falls (gVar 0) (gVar 5)) (r_Head___init___5 K)
def r_Head___init___3 (K : PySem.W.Frag) : TSg := gSeq (gSFld K S_gives (gVar 0) (gCall bTuple (gCons (gVar 4) gNil))) (r_Head___init___4 K)
def r_Head___init___2 (K : PySem.W.Frag) : TSg := gSeq (gSFld K S_needs (gVar 0) (gCall bTuple (gCons (gVar 3) gNil))) (r_Head___init___3 K)
def r_Head___init___1 (K : PySem.W.Frag) : TSg := gSeq (gSFld K S_parameters (gVar 0) (gCall bTuple (gCons (gVar 2) gNil))) (r_Head___init___2 K)
def r_Head___init__ (K : PySem.W.Frag) : TSg := gSeq (gSFld K S_name (gVar 0) (gVar 1)) (r_Head___init___1 K)
theorem rd_Head___init__ (K : PySem.W.Frag) : body (G_Head___init__ K) N_Head___init__ d_Head___init__.scope d_Head___init__.body = r_Head___init__ K := by kernel_rfl
def N_Unit___init__ : List Str := ["self", "name", "parameters", "needs", "gives", "falls", "changes", "uses", "registers", "rows"]
def G_Unit___init__ (K : PySem.W.Frag) : Tb := ⟨K, [], [], [], []⟩
def r_Unit___init___8 (K : PySem.W.Frag) : TSg := (gSFld K S_rows (gVar 0) (gCall bTuple (gCons (gVar 9) gNil)))
def r_Unit___init___7 (K : PySem.W.Frag) : TSg := gSeq (gSFld K S_registers (gVar 0) (gCall bTuple (gCons (gVar 8) gNil))) (r_Unit___init___8 K)
def r_Unit___init___6 (K : PySem.W.Frag) : TSg := gSeq (gSFld K S_uses (gVar 0) (gCall bTuple (gCons (gVar 7) gNil))) (r_Unit___init___7 K)
def r_Unit___init___5 (K : PySem.W.Frag) : TSg := gSeq (gSFld K S_changes (gVar 0) (gCall bTuple (gCons (gVar 6) gNil))) (r_Unit___init___6 K)
def r_Unit___init___4 (K : PySem.W.Frag) : TSg := gSeq (gSFld K S_falls (gVar 0) (gVar 5)) (r_Unit___init___5 K)
def r_Unit___init___3 (K : PySem.W.Frag) : TSg := gSeq (gSFld K S_gives (gVar 0) (gCall bTuple (gCons (gVar 4) gNil))) (r_Unit___init___4 K)
def r_Unit___init___2 (K : PySem.W.Frag) : TSg := gSeq (gSFld K S_needs (gVar 0) (gCall bTuple (gCons (gVar 3) gNil))) (r_Unit___init___3 K)
def r_Unit___init___1 (K : PySem.W.Frag) : TSg := gSeq (gSFld K S_parameters (gVar 0) (gCall bTuple (gCons (gVar 2) gNil))) (r_Unit___init___2 K)
def r_Unit___init__ (K : PySem.W.Frag) : TSg := gSeq (gSFld K S_name (gVar 0) (gVar 1)) (r_Unit___init___1 K)
theorem rd_Unit___init__ (K : PySem.W.Frag) : body (G_Unit___init__ K) N_Unit___init__ d_Unit___init__.scope d_Unit___init__.body = r_Unit___init__ K := by kernel_rfl
def N__law_head_made : List Str := ["h", "parts", "word"]
def G__law_head_made (K : PySem.W.Frag) : Tb := ⟨K, [], [("Head", ⟨["self", "name", "parameters", "needs", "gives", "falls", "changes"], sp_Head___init__⟩)], [], []⟩
def r__law_head_made_1 (K : PySem.W.Frag) : TSg := (gRet (gMake S_Head sp_Head___init__ (gCons (gOp rItem (gVar 0) (gC (.str S_name))) (gCons (gOp rItem (gVar 1) (gC (.int 0))) (gCons (gOp rItem (gVar 1) (gC (.int 1))) (gCons (gOp rItem (gVar 1) (gC (.int 2))) (gCons (gOp rItem (gVar 0) (gC (.str S_falls))) (gCons (gOp rItem (gVar 1) (gC (.int 3))) gNil))))))))
def r__law_head_made (K : PySem.W.Frag) : TSg := gSeq (gAsg (gLc (gIterA (gTup (gCons (gC (.str S_parameters)) (gCons (gC (.str S_needs)) (gCons (gC (.str S_gives)) (gCons (gC (.str S_changes)) gNil)))))) (.one 2) gYes (gCall bList (gCons (gOp rItem (gVar 0) (gVar 2)) gNil)) [2]) (gName 1)) (r__law_head_made_1 K)
theorem rd__law_head_made (K : PySem.W.Frag) : body (G__law_head_made K) N__law_head_made d__law_head_made.scope d__law_head_made.body = r__law_head_made K := by kernel_rfl
def N__law_made : List Str := ["u", "uses", "h", "parts", "word"]
def G__law_made (K : PySem.W.Frag) : Tb := ⟨K, [("_law_head_made", ⟨["h"], sp__law_head_made⟩)], [("Unit", ⟨["self", "name", "parameters", "needs", "gives", "falls", "changes", "uses", "registers", "rows"], sp_Unit___init__⟩)], [], []⟩
def r__law_made_2 (K : PySem.W.Frag) : TSg := (gRet (gMake S_Unit sp_Unit___init__ (gCons (gOp rItem (gVar 0) (gC (.str S_name))) (gCons (gOp rItem (gVar 3) (gC (.int 0))) (gCons (gOp rItem (gVar 3) (gC (.int 1))) (gCons (gOp rItem (gVar 3) (gC (.int 2))) (gCons (gOp rItem (gVar 0) (gC (.str S_falls))) (gCons (gOp rItem (gVar 3) (gC (.int 3))) (gCons (gVar 1) (gCons (gOp rItem (gVar 3) (gC (.int 4))) (gCons (gOp rItem (gVar 3) (gC (.int 5))) gNil)))))))))))
def r__law_made_1 (K : PySem.W.Frag) : TSg := gSeq (gAsg (gLc (gIterA (gTup (gCons (gC (.str S_parameters)) (gCons (gC (.str S_needs)) (gCons (gC (.str S_gives)) (gCons (gC (.str S_changes)) (gCons (gC (.str S_registers)) (gCons (gC (.str S_rows)) gNil)))))))) (.one 4) gYes (gCall bList (gCons (gOp rItem (gVar 0) (gVar 4)) gNil)) [4]) (gName 3)) (r__law_made_2 K)
def r__law_made (K : PySem.W.Frag) : TSg := gSeq (gAsg (gLc (gIterA (gOp rItem (gVar 0) (gC (.str S_uses)))) (.one 2) gYes (gCall sp__law_head_made (gCons (gVar 2) gNil)) [2]) (gName 1)) (r__law_made_1 K)
theorem rd__law_made (K : PySem.W.Frag) : body (G__law_made K) N__law_made d__law_made.scope d__law_made.body = r__law_made K := by kernel_rfl
def N__law_same : List Str := ["one", "two", "k"]
def G__law_same (K : PySem.W.Frag) (n : Nat) : Tb := ⟨K, [("_law_same", ⟨["one", "two"], (sp__law_same n)⟩)], [], [], []⟩
def r__law_same_2 (K : PySem.W.Frag) (n : Nat) : TSg := (gRet (gC (.bl false)))
def r__law_same_4 (K : PySem.W.Frag) (n : Nat) : TSg := (gRet (gC (.bl false)))
def r__law_same_7 (K : PySem.W.Frag) (n : Nat) : TSg := (gRet (gC (.bl false)))
def r__law_same_6 (K : PySem.W.Frag) (n : Nat) : TSg := (gIfS (gNot (gTru (gCall (sp__law_same n) (gCons (gOp rItem (gVar 0) (gVar 2)) (gCons (gOp rItem (gVar 1) (gVar 2)) gNil))))) (r__law_same_7 K n) gNext)
def r__law_same_8 (K : PySem.W.Frag) (n : Nat) : TSg := (gRet (gC (.bl true)))
def r__law_same_5 (K : PySem.W.Frag) (n : Nat) : TSg := gSeq (gFor (gRng1 (gCons (gCall bLen (gCons (gVar 1) gNil)) gNil)) (gName 2) (r__law_same_6 K n)) (r__law_same_8 K n)
def r__law_same_3 (K : PySem.W.Frag) (n : Nat) : TSg := gSeq (gIfS (gB (gOp rNe (gCall bLen (gCons (gVar 0) gNil)) (gCall bLen (gCons (gVar 1) gNil)))) (r__law_same_4 K n) gNext) (r__law_same_5 K n)
def r__law_same_1 (K : PySem.W.Frag) (n : Nat) : TSg := gSeq (gIfS (gOr (gB (gOp rNe (gIsa "tuple" (gVar 1)) (gIsa "tuple" (gVar 0)))) (gB (gOp rNe (gIsa "list" (gVar 1)) (gIsa "list" (gVar 0))))) (r__law_same_2 K n) gNext) (r__law_same_3 K n)
def r__law_same_10 (K : PySem.W.Frag) (n : Nat) : TSg := (gRet (gAndV (gIsa "bool" (gVar 0)) (gOp rEq (gVar 0) (gVar 1))))
def r__law_same_12 (K : PySem.W.Frag) (n : Nat) : TSg := (gRet (gAndV (gIsa "int" (gVar 0)) (gAndV (gNotV (gIsa "bool" (gVar 0))) (gOp rEq (gVar 0) (gVar 1)))))
def r__law_same_14 (K : PySem.W.Frag) (n : Nat) : TSg := (gRet (gAndV (gIsa "str" (gVar 0)) (gOp rEq (gVar 0) (gVar 1))))
def r__law_same_15 (K : PySem.W.Frag) (n : Nat) : TSg := (gRet (gOp rIs (gVar 0) (gC .non)))
def r__law_same_13 (K : PySem.W.Frag) (n : Nat) : TSg := gSeq (gIfS (gTru (gIsa "str" (gVar 1))) (r__law_same_14 K n) gNext) (r__law_same_15 K n)
def r__law_same_11 (K : PySem.W.Frag) (n : Nat) : TSg := gSeq (gIfS (gTru (gIsa "int" (gVar 1))) (r__law_same_12 K n) gNext) (r__law_same_13 K n)
def r__law_same_9 (K : PySem.W.Frag) (n : Nat) : TSg := gSeq (gIfS (gTru (gIsa "bool" (gVar 1))) (r__law_same_10 K n) gNext) (r__law_same_11 K n)
def r__law_same (K : PySem.W.Frag) (n : Nat) : TSg := gSeq (gIfS (gOr (gTru (gIsa "tuple" (gVar 1))) (gTru (gIsa "list" (gVar 1)))) (r__law_same_1 K n) gNext) (r__law_same_9 K n)
theorem rd__law_same (K : PySem.W.Frag) (n : Nat) : body (G__law_same K n) N__law_same d__law_same.scope d__law_same.body = r__law_same K n := by kernel_rfl
def N__law_is_head : List Str := ["head", "h", "told"]
def G__law_is_head (K : PySem.W.Frag) : Tb := ⟨K, [("_law_same", ⟨["one", "two"], (sp__law_same 12)⟩)], [("Head", ⟨["self", "name", "parameters", "needs", "gives", "falls", "changes"], sp_Head___init__⟩)], [], []⟩
def r__law_is_head_1 (K : PySem.W.Frag) : TSg := (gRet (gC (.bl false)))
def r__law_is_head_3 (K : PySem.W.Frag) : TSg := (gRet (gCall (sp__law_same 12) (gCons (gVar 2) (gCons (gTup (gCons (gOp rItem (gVar 1) (gC (.str S_name))) (gCons (gCall bTuple (gCons (gOp rItem (gVar 1) (gC (.str S_parameters))) gNil)) (gCons (gCall bTuple (gCons (gOp rItem (gVar 1) (gC (.str S_needs))) gNil)) (gCons (gCall bTuple (gCons (gOp rItem (gVar 1) (gC (.str S_gives))) gNil)) (gCons (gOp rItem (gVar 1) (gC (.str S_falls))) (gCons (gCall bTuple (gCons (gOp rItem (gVar 1) (gC (.str S_changes))) gNil)) gNil))))))) gNil))))
def r__law_is_head_2 (K : PySem.W.Frag) : TSg := gSeq (gAsg (gTup (gCons (gFld K S_name (gVar 0)) (gCons (gFld K S_parameters (gVar 0)) (gCons (gFld K S_needs (gVar 0)) (gCons (gFld K S_gives (gVar 0)) (gCons (gFld K S_falls (gVar 0)) (gCons (gFld K S_changes (gVar 0)) gNil))))))) (gName 2)) (r__law_is_head_3 K)
def r__law_is_head (K : PySem.W.Frag) : TSg := gSeq (gIfS (gNot (gTru (gIsO S_Head (gVar 0)))) (r__law_is_head_1 K) gNext) (r__law_is_head_2 K)
theorem rd__law_is_head (K : PySem.W.Frag) : body (G__law_is_head K) N__law_is_head d__law_is_head.scope d__law_is_head.body = r__law_is_head K := by kernel_rfl
def N__law_is : List Str := ["unit", "u", "k", "told"]
def G__law_is (K : PySem.W.Frag) : Tb := ⟨K, [("_law_is_head", ⟨["head", "h"], sp__law_is_head⟩), ("_law_same", ⟨["one", "two"], (sp__law_same 12)⟩)], [("Unit", ⟨["self", "name", "parameters", "needs", "gives", "falls", "changes", "uses", "registers", "rows"], sp_Unit___init__⟩)], [], []⟩
def r__law_is_1 (K : PySem.W.Frag) : TSg := (gRet (gC (.bl false)))
def r__law_is_4 (K : PySem.W.Frag) : TSg := (gRet (gC (.bl false)))
def r__law_is_3 (K : PySem.W.Frag) : TSg := (gIfS (gNot (gTru (gCall sp__law_is_head (gCons (gOp rItem (gFld K S_uses (gVar 0)) (gVar 2)) (gCons (gOp rItem (gOp rItem (gVar 1) (gC (.str S_uses))) (gVar 2)) gNil))))) (r__law_is_4 K) gNext)
def r__law_is_6 (K : PySem.W.Frag) : TSg := (gRet (gCall (sp__law_same 12) (gCons (gVar 3) (gCons (gTup (gCons (gOp rItem (gVar 1) (gC (.str S_name))) (gCons (gCall bTuple (gCons (gOp rItem (gVar 1) (gC (.str S_parameters))) gNil)) (gCons (gCall bTuple (gCons (gOp rItem (gVar 1) (gC (.str S_needs))) gNil)) (gCons (gCall bTuple (gCons (gOp rItem (gVar 1) (gC (.str S_gives))) gNil)) (gCons (gOp rItem (gVar 1) (gC (.str S_falls))) (gCons (gCall bTuple (gCons (gOp rItem (gVar 1) (gC (.str S_changes))) gNil)) (gCons (gCall bTuple (gCons (gOp rItem (gVar 1) (gC (.str S_registers))) gNil)) (gCons (gCall bTuple (gCons (gOp rItem (gVar 1) (gC (.str S_rows))) gNil)) gNil))))))))) gNil))))
def r__law_is_5 (K : PySem.W.Frag) : TSg := gSeq (gAsg (gTup (gCons (gFld K S_name (gVar 0)) (gCons (gFld K S_parameters (gVar 0)) (gCons (gFld K S_needs (gVar 0)) (gCons (gFld K S_gives (gVar 0)) (gCons (gFld K S_falls (gVar 0)) (gCons (gFld K S_changes (gVar 0)) (gCons (gFld K S_registers (gVar 0)) (gCons (gFld K S_rows (gVar 0)) gNil))))))))) (gName 3)) (r__law_is_6 K)
def r__law_is_2 (K : PySem.W.Frag) : TSg := gSeq (gFor (gRng1 (gCons (gCall bLen (gCons (gOp rItem (gVar 1) (gC (.str S_uses))) gNil)) gNil)) (gName 2) (r__law_is_3 K)) (r__law_is_5 K)
def r__law_is (K : PySem.W.Frag) : TSg := gSeq (gIfS (gOr (gNot (gTru (gIsO S_Unit (gVar 0)))) (gOr (gNot (gTru (gIsa "tuple" (gFld K S_uses (gVar 0))))) (gB (gOp rNe (gCall bLen (gCons (gFld K S_uses (gVar 0)) gNil)) (gCall bLen (gCons (gOp rItem (gVar 1) (gC (.str S_uses))) gNil)))))) (r__law_is_1 K) gNext) (r__law_is_2 K)
theorem rd__law_is (K : PySem.W.Frag) : body (G__law_is K) N__law_is d__law_is.scope d__law_is.body = r__law_is K := by kernel_rfl
end My

set_option Elab.async false
set_option linter.all false
set_option autoImplicit false
set_option maxRecDepth 100000
set_option maxHeartbeats 2000000
namespace My
open PySem PySem.Spec PyProof.Rows Vc
local macro_rules | `(tactic| walk_at "vc") => `(tactic| (try dsimp only [gSeq, gMake, gSFld, gAsg, gName, gRet, gRetN, gIfS, gDrop, gNext, gBreak, gCont, gVar, gC, gOp, gB, gCh, gAnd, gOr, gNot, gAndV, gOrV, gNotV, gIf, gTru, gNil, gCons, gTup, gLst, gFld, gCall, gBm, gCut, gNoPart, gPart, gIsa, gIsO, gNeg, gYes, gGSub, gIterA, gGTup, gGCons, gGNil, gRng1, gRng2, gRev, gRvR1, gRvR2, Tg.put, setAll, wipeE, List.set, List.getElem?_cons_zero, List.getElem?_cons_succ]))
local macro_rules | `(tactic| walk_at "ev") => `(tactic| (try simp [ev_add_i, ev_add_s, ev_sub, ev_mul, ev_fdiv, ev_mod, ev_pow, ev_lt, ev_le, ev_gt, ev_lts, ev_gts, ev_ge, ev_eq_i, ev_eq_s, ev_eq_b, ev_is, ev_isnt, isN, ev_it_t, ev_it_r, ev_it_k, ev_at, ev_in_t, ev_in_r, ev_in_k, sizeLine_eq, L2.atI, L2.ixN, D.fl, inD, feq, S_return, S_fail, S_jump, S_test, S_set, S_put, S_swap, S_choose, S_call, S_mark, S_cell, S_var, S_num, S_len, S_cmp, S_either, S_all, S_match, S_sorted, S_below, S_list]))
local macro_rules | `(tactic| walk_at "is") => `(tactic| (try simp only [isa_tuple_non, isa_tuple_bl, isa_tuple_int, isa_tuple_str, isa_tuple_tup, isa_tuple_rol, isa_list_non, isa_list_bl, isa_list_int, isa_list_str, isa_list_tup, isa_list_rol, isa_bool_non, isa_bool_bl, isa_bool_int, isa_bool_str, isa_bool_tup, isa_bool_rol, isa_int_non, isa_int_bl, isa_int_int, isa_int_str, isa_int_tup, isa_int_rol, isa_str_non, isa_str_bl, isa_str_int, isa_str_str, isa_str_tup, isa_str_rol, rTru, ev_eq_b, ev_eq_i, ev_eq_s, id, Bool.not_true, Bool.not_false, decide_true, decide_false, reduceCtorEq, Bool.false_eq_true, Bool.true_eq_false]))
theorem it_rdc {kvs : List (DK × D)} {k : Tx} {d : D} {G : Hg} {P : KD} (h : dget kvs (sk k) = some d) (p : P d G) : rItem (.rdc kvs) (.str k) G P := ⟨sk k, d, rfl, h, p⟩
theorem tup_rol {xs : List D} {G : Hg} {P : KD} (p : P (.tup xs) G) : bTuple [.rol xs] G P := ⟨xs, .lk (.li (.rol _)), p⟩
theorem vc_Head___init__ {K : PySem.W.Frag} (hK : Kf K) (ds : List D) (G : Hg) (Q : KD) (h : sp_Head___init__ ds G Q) : r_Head___init__ K (endOf Q) (startD N_Head___init__ ds) G := by
  obtain ⟨p, h, rfl, hp, hP⟩ := h
  show r_Head___init__ K (endOf Q) [some (.ref p), some (.str h.nm), some (.rol (parD h.ps)), some (.rol (h.ne.map Pr.d)), some (.rol (h.gi.map Pr.d)), some .non, some (.rol (txs h.ch))] G
  unfold r_Head___init__
  walk_at "vc"
  refine ⟨_, _, hp, hK.h _ (by simp), by simp, fun G1 e1 => nx ?_⟩
  subst e1
  unfold r_Head___init___1
  walk_at "vc"
  refine tup_rol ⟨_, _, upd_at, hK.h _ (by simp), by simp [fput], fun G1 e1 => nx ?_⟩
  rw [upd_upd] at e1
  subst e1
  unfold r_Head___init___2
  walk_at "vc"
  refine tup_rol ⟨_, _, upd_at, hK.h _ (by simp), by simp [fput, S_name, S_parameters], fun G1 e1 => nx ?_⟩
  rw [upd_upd] at e1
  subst e1
  unfold r_Head___init___3
  walk_at "vc"
  refine tup_rol ⟨_, _, upd_at, hK.h _ (by simp), by simp [fput, S_name, S_parameters, S_needs], fun G1 e1 => nx ?_⟩
  rw [upd_upd] at e1
  subst e1
  unfold r_Head___init___4
  walk_at "vc"
  refine ⟨_, _, upd_at, hK.h _ (by simp), by simp [fput, S_name, S_parameters, S_needs, S_gives], fun G1 e1 => nx ?_⟩
  rw [upd_upd] at e1
  subst e1
  unfold r_Head___init___5
  walk_at "vc"
  refine tup_rol ⟨_, _, upd_at, hK.h _ (by simp), by simp [fput, S_name, S_parameters, S_needs, S_gives, S_falls], fun G1 e1 => ?_⟩
  rw [upd_upd] at e1
  subst e1
  exact hP
theorem vc_Unit___init__ {K : PySem.W.Frag} (hK : Kf K) (ds : List D) (G : Hg) (Q : KD) (h : sp_Unit___init__ ds G Q) : r_Unit___init__ K (endOf Q) (startD N_Unit___init__ ds) G := by
  obtain ⟨p, u, rfl, hp, hP⟩ := h
  show r_Unit___init__ K (endOf Q) [some (.ref p), some (.str u.nm), some (.rol (parD u.ps)), some (.rol (u.ne.map Pr.d)), some (.rol (u.gi.map Pr.d)), some (faD u.fa), some (.rol (txs u.ch)), some (.rol (u.us.map Hd.obj)), some (.rol (txs u.rg)), some (.rol (u.rows.map Rw.d))] G
  unfold r_Unit___init__
  walk_at "vc"
  refine ⟨_, _, hp, hK.u _ (by simp), by simp, fun G1 e1 => nx ?_⟩
  subst e1
  unfold r_Unit___init___1
  walk_at "vc"
  refine tup_rol ⟨_, _, upd_at, hK.u _ (by simp), by simp [fput], fun G1 e1 => nx ?_⟩
  rw [upd_upd] at e1
  subst e1
  unfold r_Unit___init___2
  walk_at "vc"
  refine tup_rol ⟨_, _, upd_at, hK.u _ (by simp), by simp [fput, S_name, S_parameters], fun G1 e1 => nx ?_⟩
  rw [upd_upd] at e1
  subst e1
  unfold r_Unit___init___3
  walk_at "vc"
  refine tup_rol ⟨_, _, upd_at, hK.u _ (by simp), by simp [fput, S_name, S_parameters, S_needs], fun G1 e1 => nx ?_⟩
  rw [upd_upd] at e1
  subst e1
  unfold r_Unit___init___4
  walk_at "vc"
  refine ⟨_, _, upd_at, hK.u _ (by simp), by simp [fput, S_name, S_parameters, S_needs, S_gives], fun G1 e1 => nx ?_⟩
  rw [upd_upd] at e1
  subst e1
  unfold r_Unit___init___5
  walk_at "vc"
  refine tup_rol ⟨_, _, upd_at, hK.u _ (by simp), by simp [fput, S_name, S_parameters, S_needs, S_gives, S_falls], fun G1 e1 => nx ?_⟩
  rw [upd_upd] at e1
  subst e1
  unfold r_Unit___init___6
  walk_at "vc"
  refine tup_rol ⟨_, _, upd_at, hK.u _ (by simp), by simp [fput, S_name, S_parameters, S_needs, S_gives, S_falls, S_changes], fun G1 e1 => nx ?_⟩
  rw [upd_upd] at e1
  subst e1
  unfold r_Unit___init___7
  walk_at "vc"
  refine tup_rol ⟨_, _, upd_at, hK.u _ (by simp), by simp [fput, S_name, S_parameters, S_needs, S_gives, S_falls, S_changes, S_uses], fun G1 e1 => nx ?_⟩
  rw [upd_upd] at e1
  subst e1
  unfold r_Unit___init___8
  walk_at "vc"
  refine tup_rol ⟨_, _, upd_at, hK.u _ (by simp), by simp [fput, S_name, S_parameters, S_needs, S_gives, S_falls, S_changes, S_uses, S_registers], fun G1 e1 => ?_⟩
  rw [upd_upd] at e1
  subst e1
  exact hP
theorem list_rol {xs : List D} {G : Hg} {P : KD} (p : P (.rol xs) G) : bList [.rol xs] G P := ⟨xs, .lk (.li (.rol _)), .inl p⟩
theorem lc_words {K : PySem.W.Frag} {ti : TIg} {te : TEg} {vs : List Nat} {i : Nat} {env : Ev} {G : Hg} {P : KD} (ws : List Tx) (f : Tx → List D) (hl : ws.length ≤ 100) (hi : ∀ R : Jg → Hg → Prop, R (jP (txs ws)) G → ti env G R)
    (el : ∀ (w : Tx) (G' : Hg) (P' : KD), w ∈ ws → P' (.rol (f w)) G' → te ((wipeE env vs).set i (some (.str w))) G' P') (hP : P (.rol (ws.map fun w => .rol (f w))) G) : gLc ti (.one i) gYes te vs env G P := by
  refine lc_items (txs ws) (fun Dd j acc G' => G Dd = none ∧ G' = updG G Dd (.lst acc) ∧ acc = (ws.take j).map fun w => .rol (f w)) (by rw [txs_len]; exact le_sz (by omega)) (fun R h => hi R (h G fun Dd hd => ⟨hd, rfl, rfl⟩)) ?_ ?_
  · rintro Dd j d acc G' Yes No hd ha ⟨hn, rfl, rfl⟩ _ yes no
    unfold txs at hd
    rw [List.getElem?_map] at hd
    cases hw : ws[j]? with
    | none => rw [hw] at hd; cases hd
    | some w =>
      rw [hw] at hd
      cases hd
      have tk : ws.take (j + 1) = ws.take j ++ [w] := by rw [List.take_succ, hw]; rfl
      exact el w _ _ (List.mem_of_getElem? hw) (yes _ _ ha ⟨hn, by rw [upd_upd], by rw [tk, List.map_append]; rfl⟩)
  · rintro Dd acc G' ha ⟨hn, rfl, rfl⟩ _
    refine .inl ?_
    rw [del_upd hn, txs_len, List.take_length]
    exact hP
theorem vc__law_head_made {K : PySem.W.Frag} (ds : List D) (G : Hg) (Q : KD) (h : sp__law_head_made ds G Q) : r__law_head_made K (endOf Q) (startD N__law_head_made ds) G := by
  obtain ⟨h, rfl, hP⟩ := h
  show r__law_head_made K (endOf Q) [some h.dct, none, none] G
  unfold r__law_head_made
  walk_at "vc"
  let f : Tx → List D := fun w => if w = S_parameters then parD h.ps else if w = S_needs then h.ne.map Pr.d else if w = S_gives then h.gi.map Pr.d else txs h.ch
  refine lc_words (K := K) [S_parameters, S_needs, S_gives, S_changes] f (by simp) (fun R h => ?_) (fun w G' P' hw hP' => ?_) (nx ?_)
  · walk_at "vc"
    exact ⟨by simp [sizeLine_eq], h⟩
  · walk_at "vc"
    simp only [List.mem_cons, List.not_mem_nil, or_false] at hw
    rcases hw with rfl | rfl | rfl | rfl
    all_goals exact it_rdc rfl (list_rol hP')
  · unfold r__law_head_made_1
    walk_at "vc"
    refine it_rdc rfl ?_
    refine ⟨_, rfl, ⟨_, rfl, ⟨_, rfl, ?_⟩⟩⟩
    refine it_rdc rfl ⟨_, rfl, fun p G2 n => ?_⟩
    rw [n.eq]
    refine ⟨p, h, rfl, upd_at, ?_⟩
    rw [upd_upd]
    refine .inr ⟨_, upd_at, ?_⟩
    rw [del_upd n.fr]
    exact .inl hP
theorem lc_map {K : PySem.W.Frag} {β : Type} {ti : TIg} {te : TEg} {vs : List Nat} {i : Nat} {env : Ev} {G : Hg} {P : KD} (bs : List β) (e f : β → D) (hl : Sz bs.length) (hi : ∀ R : Jg → Hg → Prop, R (jP (bs.map e)) G → ti env G R)
    (el : ∀ (b : β) (G' : Hg) (P' : KD), b ∈ bs → P' (f b) G' → te ((wipeE env vs).set i (some (e b))) G' P') (hP : P (.rol (bs.map f)) G) : gLc ti (.one i) gYes te vs env G P := by
  refine lc_items (bs.map e) (fun Dd j acc G' => G Dd = none ∧ G' = updG G Dd (.lst acc) ∧ acc = (bs.take j).map f) (by rw [List.length_map]; exact le_sz (by omega)) (fun R h => hi R (h G fun Dd hd => ⟨hd, rfl, rfl⟩)) ?_ ?_
  · rintro Dd j d acc G' Yes No hd ha ⟨hn, rfl, rfl⟩ _ yes no
    rw [List.getElem?_map] at hd
    cases hw : bs[j]? with
    | none => rw [hw] at hd; cases hd
    | some w =>
      rw [hw] at hd
      cases hd
      have tk : bs.take (j + 1) = bs.take j ++ [w] := by rw [List.take_succ, hw]; rfl
      exact el w _ _ (List.mem_of_getElem? hw) (yes _ _ ha ⟨hn, by rw [upd_upd], by rw [tk, List.map_append]; rfl⟩)
  · rintro Dd acc G' ha ⟨hn, rfl, rfl⟩ _
    refine .inl ?_
    rw [del_upd hn, List.length_map, List.take_length]
    exact hP
theorem vc__law_made {K : PySem.W.Frag} (ds : List D) (G : Hg) (Q : KD) (h : sp__law_made ds G Q) : r__law_made K (endOf Q) (startD N__law_made ds) G := by
  obtain ⟨u, rfl, hs, hP⟩ := h
  show r__law_made K (endOf Q) [some u.dct, none, none, none, none] G
  unfold r__law_made
  walk_at "vc"
  refine lc_map (K := K) u.us Hd.dct Hd.obj hs (fun R h => ?_) (fun h G' P' hh hP' => ?_) (nx ?_)
  · walk_at "vc"
    exact it_rdc rfl h
  · walk_at "vc"
    exact ⟨h, rfl, hP'⟩
  · unfold r__law_made_1
    walk_at "vc"
    let f : Tx → List D := fun w => if w = S_parameters then parD u.ps else if w = S_needs then u.ne.map Pr.d else if w = S_gives then u.gi.map Pr.d else if w = S_changes then txs u.ch else if w = S_registers then txs u.rg else u.rows.map Rw.d
    refine lc_words (K := K) [S_parameters, S_needs, S_gives, S_changes, S_registers, S_rows] f (by simp) (fun R h => ?_) (fun w G' P' hw hP' => ?_) (nx ?_)
    · walk_at "vc"
      exact ⟨by simp [sizeLine_eq], h⟩
    · walk_at "vc"
      simp only [List.mem_cons, List.not_mem_nil, or_false] at hw
      rcases hw with rfl | rfl | rfl | rfl | rfl | rfl
      all_goals exact it_rdc rfl (list_rol hP')
    · unfold r__law_made_2
      walk_at "vc"
      refine it_rdc rfl ⟨_, rfl, _, rfl, _, rfl, it_rdc rfl ⟨_, rfl, ⟨_, rfl, ⟨_, rfl, fun p G2 n => ?_⟩⟩⟩⟩
      rw [n.eq]
      refine ⟨p, u, rfl, upd_at, ?_⟩
      rw [upd_upd]
      refine .inr ⟨_, upd_at, ?_⟩
      rw [del_upd n.fr]
      exact .inl hP
theorem len_tup {xs : List D} {G : Hg} {P : KD} (p : P (.int xs.length) G) : bLen [.tup xs] G P := p
theorem len_rol {xs : List D} {G : Hg} {P : KD} (p : P (.int xs.length) G) : bLen [.rol xs] G P := p
theorem len_li {x : D} {xs : List D} {G : Hg} {P : KD} (h : IsLi G x xs) (p : P (.int xs.length) G) : bLen [x] G P := by
  cases h with
  | rol => exact p
  | ref e => exact ⟨_, e, p⟩
theorem it_li {x : D} {xs : List D} {i : Nat} {d : D} {G : Hg} {P : KD} (h : IsLi G x xs) (hi : xs[i]? = some d) (p : P d G) : rItem x (.int (i : Int)) G P := by
  cases h with
  | rol => exact it_rol hi p
  | ref e => exact it_ref e hi p
theorem same_loop {K : PySem.W.Frag} {n : Nat} {x y : D} {xs ys : List D} {G : Hg} {Q : KD} (lx : ∀ P : KD, P (.int xs.length) G → bLen [x] G P) (ly : ∀ P : KD, P (.int ys.length) G → bLen [y] G P) (ix : ∀ (i : Nat) (d : D) (P : KD), xs[i]? = some d → P d G → rItem x (.int (i : Int)) G P) (iy : ∀ (i : Nat) (d : D) (P : KD), ys[i]? = some d → P d G → rItem y (.int (i : Int)) G P)
    (hl : xs.length = ys.length) (hz : ys.length ≤ 16777216) (hs : ∀ (i : Nat) (x y : D), xs[i]? = some x → ys[i]? = some y → Sm G n x y) (hP : Q (.bl true) G) : r__law_same_3 K n (endOf Q) [some x, some y, none] G := by
  unfold r__law_same_3
  walk_at "vc"
  refine lx _ (ly _ ?_)
  rw [hl]
  walk_at "is"
  refine nx ?_
  unfold r__law_same_5
  walk_at "vc"
  refine for_range 0 ys.length (fun i env G' => G' = G ∧ ∃ z, env = [some x, some y, z]) (fun R h => ?_) ?_ ?_
  · walk_at "vc"
    refine ly _ ?_
    show (-(2 ^ 62) ≤ ((ys.length : Nat) : Int) ∧ ((ys.length : Nat) : Int) < 2 ^ 62 ∧ R (jR 0 ((ys.length : Nat) : Int).toNat) G)
    rw [Int.toNat_natCast]
    exact ⟨by omega, by omega, h _ ⟨rfl, _, rfl⟩⟩
  · rintro i env G' Nx hi ⟨rfl, z, rfl⟩ nxt
    have e0 : (0 : Int) + i = (i : Int) := by omega
    rw [e0]
    walk_at "vc"
    unfold r__law_same_6
    walk_at "vc"
    have hx := List.getElem?_eq_getElem (show i < xs.length by omega)
    have hy := List.getElem?_eq_getElem (show i < ys.length by omega)
    exact ix i _ _ hx (iy i _ _ hy ⟨_, _, rfl, hs i _ _ hx hy, nxt _ _ ⟨rfl, _, rfl⟩⟩)
  · rintro env G' ⟨rfl, z, rfl⟩
    refine nx ?_
    unfold r__law_same_8
    walk_at "vc"
    exact .inl hP
theorem vc__law_same {K : PySem.W.Frag} (n : Nat) (ds : List D) (G : Hg) (Q : KD) (h : sp__law_same (n + 1) ds G Q) : r__law_same K n (endOf Q) (startD N__law_same ds) G := by
  obtain ⟨x, y, rfl, hs, hP⟩ := h
  show r__law_same K n (endOf Q) [some x, some y, none] G
  unfold r__law_same
  walk_at "vc"
  cases hs with
  | tup hl hz hs =>
    walk_at "is"
    unfold r__law_same_1
    walk_at "vc"
    walk_at "is"
    exact nx (same_loop (fun P p => p) (fun P p => p) (fun i d P h p => it_tup h p) (fun i d P h p => it_tup h p) hl hz hs hP)
  | lst h1 h2 hl hz hs =>
    refine isa_li h2 (b := false) (by decide) ?_
    walk_at "is"
    refine isa_li h2 (b := true) (by decide) ?_
    walk_at "is"
    unfold r__law_same_1
    walk_at "vc"
    refine isa_li h2 (b := false) (by decide) (isa_li h1 (b := false) (by decide) ?_)
    walk_at "is"
    refine isa_li h2 (b := true) (by decide) (isa_li h1 (b := true) (by decide) ?_)
    walk_at "is"
    exact nx (same_loop (fun P p => len_li h1 p) (fun P p => len_li h2 p) (fun i d P h p => it_li h1 h p) (fun i d P h p => it_li h2 h p) hl hz hs hP)
  | non =>
    walk_at "is"
    refine nx ?_
    unfold r__law_same_9
    walk_at "vc"
    walk_at "is"
    refine nx ?_
    unfold r__law_same_11
    walk_at "vc"
    walk_at "is"
    refine nx ?_
    unfold r__law_same_13
    walk_at "vc"
    walk_at "is"
    refine nx ?_
    unfold r__law_same_15
    walk_at "vc"
    exact .inl hP
  | bl _ b =>
    walk_at "is"
    refine nx ?_
    unfold r__law_same_9
    walk_at "vc"
    walk_at "is"
    unfold r__law_same_10
    walk_at "vc"
    walk_at "is"
    exact .inl hP
  | int _ i =>
    walk_at "is"
    refine nx ?_
    unfold r__law_same_9
    walk_at "vc"
    walk_at "is"
    refine nx ?_
    unfold r__law_same_11
    walk_at "vc"
    walk_at "is"
    unfold r__law_same_12
    walk_at "vc"
    walk_at "is"
    exact .inl hP
  | str _ s =>
    walk_at "is"
    refine nx ?_
    unfold r__law_same_9
    walk_at "vc"
    walk_at "is"
    refine nx ?_
    unfold r__law_same_11
    walk_at "vc"
    walk_at "is"
    refine nx ?_
    unfold r__law_same_13
    walk_at "vc"
    walk_at "is"
    unfold r__law_same_14
    walk_at "vc"
    walk_at "is"
    exact .inl hP
def D.qr : Nat → D → Bool
  | _, .non => true
  | _, .bl _ => true
  | _, .int _ => true
  | _, .str _ => true
  | n + 1, .tup ds => decide (ds.length ≤ 1000) && ds.all (D.qr n)
  | n + 1, .rol ds => decide (ds.length ≤ 1000) && ds.all (D.qr n)
  | _, _ => false
theorem Sm.refl {G : Hg} : ∀ {n : Nat} {d : D}, D.qr n d = true → Sm G (n + 1) d d
  | _, .non, _ => .non _
  | _, .bl _, _ => .bl _ _
  | _, .int _, _ => .int _ _
  | _, .str _, _ => .str _ _
  | n + 1, .tup ds, h => by
    simp only [D.qr, Bool.and_eq_true, decide_eq_true_eq, List.all_eq_true] at h
    exact .tup rfl (by omega) fun i x y h1 h2 => by
      rw [h1] at h2; cases h2
      exact Sm.refl (h.2 x (List.mem_of_getElem? h1))
  | n + 1, .rol ds, h => by
    simp only [D.qr, Bool.and_eq_true, decide_eq_true_eq, List.all_eq_true] at h
    exact .lst (.rol _) (.rol _) rfl (by omega) fun i x y h1 h2 => by
      rw [h1] at h2; cases h2
      exact Sm.refl (h.2 x (List.mem_of_getElem? h1))
  | 0, .tup _, h => by simp [D.qr] at h
  | 0, .rol _, h => by simp [D.qr] at h
  | n, .ref _, h => by cases n <;> simp [D.qr] at h
  | n, .kol _, h => by cases n <;> simp [D.qr] at h
  | n, .ktp _, h => by cases n <;> simp [D.qr] at h
  | n, .rdc _, h => by cases n <;> simp [D.qr] at h
  | n, .rdt _, h => by cases n <;> simp [D.qr] at h
  | n, .obj _ _, h => by cases n <;> simp [D.qr] at h
theorem qr_int {n : Nat} {i : Int} : D.qr n (.int i) = true := by cases n <;> rfl
theorem qr_str {n : Nat} {i : Tx} : D.qr n (.str i) = true := by cases n <;> rfl
theorem qr_bl {n : Nat} {i : Bool} : D.qr n (.bl i) = true := by cases n <;> rfl
theorem qr_non {n : Nat} : D.qr n .non = true := by cases n <;> rfl
theorem qr_tup {n : Nat} {ds : List D} (h : ds.length ≤ 1000) (h2 : ∀ d ∈ ds, D.qr n d = true) : D.qr (n + 1) (.tup ds) = true := by
  simp only [D.qr, Bool.and_eq_true, decide_eq_true_eq, List.all_eq_true]
  exact ⟨h, h2⟩
theorem qr_rol {n : Nat} {ds : List D} (h : ds.length ≤ 1000) (h2 : ∀ d ∈ ds, D.qr n d = true) : D.qr (n + 1) (.rol ds) = true := by
  simp only [D.qr, Bool.and_eq_true, decide_eq_true_eq, List.all_eq_true]
  exact ⟨h, h2⟩
theorem qr_map {β : Type} {n : Nat} {f : β → D} {bs : List β} (h : Sz bs.length) (h2 : ∀ b ∈ bs, D.qr n (f b) = true) : D.qr (n + 1) (.tup (bs.map f)) = true :=
  qr_tup (by rw [List.length_map]; exact h) fun d hd => by
    obtain ⟨b, hb, rfl⟩ := List.mem_map.mp hd
    exact h2 b hb
theorem qr_txs {n : Nat} {xs : List Tx} (h : Sz xs.length) : D.qr (n + 1) (.tup (txs xs)) = true := qr_map h fun _ _ => qr_str
theorem Pl.qr (p : Pl) (n : Nat) : D.qr (n + 1) p.d = true := by
  cases p <;> (unfold Pl.d; refine qr_tup (by simp) ?_; simp [qr_int, qr_str])
theorem one_qr (x : Tx) (o : Bool) (n : Nat) : D.qr (n + 1) (oneD x o) = true := by
  unfold oneD; refine qr_tup (by simp) ?_; simp [qr_bl, qr_str]
theorem Tm.qr (p : Tm) (n : Nat) : D.qr (n + 2) p.d = true := by
  cases p with
  | pl p => exact p.qr (n + 1)
  | cell x o i k => unfold Tm.d; refine qr_tup (by simp) ?_; simp [qr_int, qr_str, one_qr, Pl.qr]
theorem Cm.qr (c : Cm) (n : Nat) : D.qr (n + 3) c.d = true := by
  unfold Cm.d; refine qr_tup (by simp) ?_; simp [qr_str, Tm.qr]
theorem Pr.qr (p : Pr) (n : Nat) : D.qr (n + 4) p.d = true := by
  cases p with
  | cmp c => exact c.qr (n + 1)
  | _ => unfold Pr.d; refine qr_tup (by simp) ?_; simp [qr_int, qr_str, one_qr, Pl.qr, Cm.qr]
theorem Ag.qr (a : Ag) (n : Nat) : D.qr (n + 1) a.d = true := by
  cases a with
  | lst x => unfold Ag.d; refine qr_tup (by simp) ?_; simp [qr_str]
  | pl p => exact p.qr n
theorem Rw.qr {r : Rw} (n : Nat) (h : r.sz) (h2 : ∀ r0 prs f1 f2 ns ls, r = Rw.mark r0 prs f1 f2 ns ls → Sz ls.length) : D.qr (n + 6) r.d = true := by
  cases r with
  | call r x k as =>
    unfold Rw.d
    refine qr_tup (by simp) ?_
    have := qr_map (n := n + 4) (f := Ag.d) (bs := as) h fun a _ => a.qr (n + 3)
    simp [qr_int, qr_str, this]
  | mark r prs f1 f2 ns ls =>
    unfold Rw.d
    refine qr_tup (by simp) ?_
    have a := qr_map (n := n + 4) (f := Pr.d) (bs := prs) h.1 fun a _ => a.qr n
    have b := qr_txs (n := n + 4) h.2
    have c := qr_txs (n := n + 4) (h2 _ _ _ _ _ _ rfl)
    have d : D.qr (n + 5) (.tup [f1.d, f2.d]) = true := by refine qr_tup (by simp) ?_; simp [Pl.qr]
    simp [qr_int, qr_str, a, b, c, d]
  | _ => unfold Rw.d; refine qr_tup (by simp) ?_; simp [qr_int, qr_str, Pl.qr, Tm.qr, Cm.qr]
theorem par_qr {ps : List (Tx × Bool)} (n : Nat) (h : Sz ps.length) : D.qr (n + 2) (.tup (parD ps)) = true := qr_map h fun p _ => one_qr _ _ _
theorem fa_qr (f : Option (Pl × Pl)) (n : Nat) : D.qr (n + 2) (faD f) = true := by
  cases f with
  | none => exact qr_non
  | some p => unfold faD; refine qr_tup (by simp) ?_; simp [Pl.qr]
theorem fld_h {K : PySem.W.Frag} (hK : Kf K) {h : Hd} {f : Tx} {d : D} {G : Hg} {P : KD} (hf : f ∈ [S_name, S_parameters, S_needs, S_gives, S_falls, S_changes]) (e : fget h.fs f = some d) (p : P d G) : rFld K f h.obj G P := fld_obj (hK.h _ hf) e p
theorem fld_u {K : PySem.W.Frag} (hK : Kf K) {u : Un} {f : Tx} {d : D} {G : Hg} {P : KD} (hf : f ∈ [S_name, S_parameters, S_needs, S_gives, S_falls, S_changes, S_uses, S_registers, S_rows]) (e : fget u.fs f = some d) (p : P d G) : rFld K f u.obj G P := fld_obj (hK.u _ hf) e p
theorem iso_obj {C : List Nat} {fs : List (List Nat × D)} {G : Hg} {P : KD} (p : P (.bl true) G) : rIsO C (.obj C fs) G P := ⟨rfl, p⟩
theorem vc__law_is_head {K : PySem.W.Frag} (hK : Kf K) (ds : List D) (G : Hg) (Q : KD) (h : sp__law_is_head ds G Q) : r__law_is_head K (endOf Q) (startD N__law_is_head ds) G := by
  obtain ⟨h, rfl, h1, h2, h3, h4, hP⟩ := h
  show r__law_is_head K (endOf Q) [some h.obj, some h.dct, none] G
  unfold r__law_is_head
  walk_at "vc"
  refine iso_obj ?_
  walk_at "is"
  refine nx ?_
  unfold r__law_is_head_2
  walk_at "vc"
  refine fld_h hK (by simp) rfl (fld_h hK (by simp) rfl (fld_h hK (by simp) rfl (fld_h hK (by simp) rfl (fld_h hK (by simp) rfl (fld_h hK (by simp) rfl ⟨by simp [sizeLine_eq], nx ?_⟩)))))
  unfold r__law_is_head_3
  walk_at "vc"
  refine it_rdc rfl (it_rdc rfl (tup_rol (it_rdc rfl (tup_rol (it_rdc rfl (tup_rol (it_rdc rfl (it_rdc rfl (tup_rol ⟨by simp [sizeLine_eq], _, _, rfl, Sm.refl (n := 11) ?_, .inl hP⟩)))))))))
  refine qr_tup (by simp) ?_
  simp [qr_str, qr_non, par_qr 8 h1, qr_map (n := 9) (f := Pr.d) h2 (fun a _ => a.qr 5), qr_map (n := 9) (f := Pr.d) h3 (fun a _ => a.qr 5), qr_txs (n := 9) h4]
theorem vc__law_is {K : PySem.W.Frag} (hK : Kf K) (ds : List D) (G : Hg) (Q : KD) (h : sp__law_is ds G Q) : r__law_is K (endOf Q) (startD N__law_is ds) G := by
  obtain ⟨u, rfl, hu, hs, hP⟩ := h
  have us := hs.us
  show r__law_is K (endOf Q) [some u.obj, some u.dct, none, none] G
  unfold r__law_is
  walk_at "vc"
  refine iso_obj ?_
  walk_at "is"
  refine fld_u hK (by simp) rfl ?_
  walk_at "is"
  refine fld_u hK (by simp) rfl ?_
  refine len_tup (it_rdc rfl (len_rol ?_))
  rw [List.length_map, List.length_map]
  walk_at "is"
  refine nx ?_
  unfold r__law_is_2
  walk_at "vc"
  refine for_range 0 u.us.length (fun i env G' => G' = G ∧ ∃ z, env = [some u.obj, some u.dct, z, none]) (fun R h => ?_) ?_ ?_
  · walk_at "vc"
    refine it_rdc rfl ?_
    show (-(2 ^ 62) ≤ (((u.us.map Hd.dct).length : Nat) : Int) ∧ (((u.us.map Hd.dct).length : Nat) : Int) < 2 ^ 62 ∧ R (jR 0 (((u.us.map Hd.dct).length : Nat) : Int).toNat) G)
    rw [List.length_map, Int.toNat_natCast]
    exact ⟨by omega, by omega, h _ ⟨rfl, _, rfl⟩⟩
  · rintro i env G' Nx hi ⟨rfl, z, rfl⟩ nxt
    have e0 : (0 : Int) + i = (i : Int) := by omega
    rw [e0]
    walk_at "vc"
    unfold r__law_is_3
    walk_at "vc"
    have hx := List.getElem?_eq_getElem hi
    have hh := hs.hs _ (List.mem_of_getElem? hx)
    exact fld_u hK (by simp) rfl (it_tup (map_at hx) (it_rdc rfl (it_rol (map_at hx) ⟨_, rfl, hh.1, hh.2.1, hh.2.2.1, hh.2.2.2, nxt _ _ ⟨rfl, _, rfl⟩⟩)))
  · rintro env G' ⟨rfl, z, rfl⟩
    refine nx ?_
    unfold r__law_is_5
    walk_at "vc"
    refine fld_u hK (by simp) rfl (fld_u hK (by simp) rfl (fld_u hK (by simp) rfl (fld_u hK (by simp) rfl (fld_u hK (by simp) rfl (fld_u hK (by simp) rfl (fld_u hK (by simp) rfl (fld_u hK (by simp) rfl ⟨by simp [sizeLine_eq], nx ?_⟩)))))))
    unfold r__law_is_6
    walk_at "vc"
    refine it_rdc rfl (it_rdc rfl (tup_rol (it_rdc rfl (tup_rol (it_rdc rfl (tup_rol (it_rdc rfl (it_rdc rfl (tup_rol (it_rdc rfl (tup_rol (it_rdc rfl (tup_rol ⟨by simp [sizeLine_eq], _, _, rfl, Sm.refl (n := 11) ?_, .inl hP⟩)))))))))))))
    refine qr_tup (by simp) ?_
    simp [qr_str, fa_qr, par_qr 8 hs.ps, qr_map (n := 9) (f := Pr.d) hs.ne (fun a _ => a.qr 5), qr_map (n := 9) (f := Pr.d) hs.gi (fun a _ => a.qr 5), qr_txs (n := 9) hs.ch, qr_txs (n := 9) hu.rsz, qr_map (n := 9) (f := Rw.d) hu.sz (fun r hr => Rw.qr 3 (hu.rws r hr) (hs.mls r hr))]
end My

set_option Elab.async false
set_option linter.all false
set_option autoImplicit false
set_option maxRecDepth 100000
set_option maxHeartbeats 2000000
namespace My
open PySem PySem.Spec PyProof.Rows L2 Vc
def hdv : List D → List Tx
  | [.str s, .str x, _] => if s = S_var then [x] else []
  | _ => []
def hwf : List D → Bool
  | [.str s, b, _] => !decide (s = S_var) || (match b with | .str _ => true | _ => false)
  | [.tup _, _, _] => true
  | [_, _, _] => false
  | _ => true
mutual
def nmd : D → List Tx
  | .tup ds => hdv ds ++ nmds ds
  | _ => []
def nmds : List D → List Tx
  | [] => []
  | d :: ds => nmd d ++ nmds ds
end
mutual
def nwf : D → Bool
  | .tup ds => hwf ds && nwfs ds
  | .str _ => true
  | .int _ => true
  | .bl _ => true
  | .non => true
  | _ => false
def nwfs : List D → Bool
  | [] => true
  | d :: ds => nwf d && nwfs ds
end
mutual
def dsz : D → Nat
  | .tup ds => 1 + dszs ds
  | _ => 1
def dszs : List D → Nat
  | [] => 0
  | d :: ds => dsz d + dszs ds
end
def sp__law_named : Spg := fun ds G P => ∃ d : D, ds = [d] ∧ nwf d = true ∧ D.pr 50 d = true ∧ dsz d ≤ 1000000 ∧ ∀ ns : List Tx, (∀ x, x ∈ ns ↔ x ∈ nmd d) → P (.rol (txs ns)) G
def Rw.its (r : Rw) : List D := match r.d with
  | .tup ds => ds
  | _ => []
def Rw.rest (r : Rw) : D := .tup (cutD r.its (some 2) none)
structure Rw.wn (r : Rw) : Prop where
  wf : nwf r.rest = true
  pr : D.pr 50 r.rest = true
  sz : dsz r.rest ≤ 1000000
  nm : ∀ x, x ∈ nmd r.rest ↔ x ∈ r.ns
structure Un.wk (u : Un) : Prop where
  ok : u.ok
  rw : ∀ r ∈ u.rows, r.wn
def sp__law_reads : Spg := fun ds G P => ∃ (u : Un) (k : Nat) (r : Rw), ds = [u.dct, .int k] ∧ u.wk ∧ u.rows[k]? = some r ∧ rL (txs (rds u.rg r)) G P
def sp__law_given : Spg := fun ds G P => ∃ (u : Un) (k : Nat) (r : Rw), ds = [u.dct, .int k] ∧ u.ok ∧ u.rows[k]? = some r ∧ P (optD r.giv) G
def aft (r : Rw) (k : Nat) : List Nat := match r with
  | .test _ _ a => if a = k + 1 then [k + 1] else [k + 1, a]
  | r => stp r k
def sp__law_after : Spg := fun ds G P => ∃ (rows : List Rw) (k : Nat) (r : Rw), ds = [.rol (rows.map Rw.d), .int k] ∧ rows[k]? = some r ∧ P (.rol (nats (aft r k))) G
def lls (L : List (List Tx)) : List D := L.map fun l => .rol (txs l)
def sp__law_alive : Spg := fun ds G P => ∃ u : Un, ds = [u.dct] ∧ u.wk ∧ ∀ G', Kp G G' → P (.rol (lls (alvOf u))) G'
def sp__law_foes : Spg := fun ds G P => ∃ u : Un, ds = [u.dct] ∧ u.wk ∧ ∀ K : List Tp, K.Nodup → (∀ q, q ∈ K ↔ Foe u q) → rL ((srtP K).map tpD) G P
def sp__law_told_rightly : Spg := fun ds G P => ∃ u : Un, ds = [u.obj, u.dct] ∧ u.wk ∧ ∀ G', P (.bl true) G'
def N__law_named : List Str := ["thing", "found", "stack", "one", "part"]
def G__law_named (K : PySem.W.Frag) : Tb := ⟨K, [], [], [], []⟩
def r__law_named_6 (K : PySem.W.Frag) : TSg := (gDrop (gBm isLst mAppend (gVar 1) (gCons (gOp rItem (gVar 3) (gC (.int 1))) gNil)))
def r__law_named_8 (K : PySem.W.Frag) : TSg := (gDrop (gBm isLst mAppend (gVar 2) (gCons (gVar 4) gNil)))
def r__law_named_7 (K : PySem.W.Frag) : TSg := (gFor (gIterA (gVar 3)) (gName 4) (r__law_named_8 K))
def r__law_named_5 (K : PySem.W.Frag) : TSg := gSeq (gIfS (gAnd (gB (gOp rEq (gCall bLen (gCons (gVar 3) gNil)) (gC (.int 3)))) (gB (gOp rEq (gOp rItem (gVar 3) (gC (.int 0))) (gC (.str S_var))))) (r__law_named_6 K) gNext) (r__law_named_7 K)
def r__law_named_4 (K : PySem.W.Frag) : TSg := (gIfS (gTru (gIsa "tuple" (gVar 3))) (r__law_named_5 K) gNext)
def r__law_named_3 (K : PySem.W.Frag) : TSg := gSeq (gAsg (gBm isLst mPop (gVar 2) gNil) (gName 3)) (r__law_named_4 K)
def r__law_named_9 (K : PySem.W.Frag) : TSg := (gRet (gVar 1))
def r__law_named_2 (K : PySem.W.Frag) : TSg := gSeq (gWhile (gB (gOp rGt (gCall bLen (gCons (gVar 2) gNil)) (gC (.int 0)))) (r__law_named_3 K)) (r__law_named_9 K)
def r__law_named_1 (K : PySem.W.Frag) : TSg := gSeq (gAsg (gLst (gCons (gVar 0) gNil)) (gName 2)) (r__law_named_2 K)
def r__law_named (K : PySem.W.Frag) : TSg := gSeq (gAsg (gLst gNil) (gName 1)) (r__law_named_1 K)
theorem rd__law_named (K : PySem.W.Frag) : body (G__law_named K) N__law_named d__law_named.scope d__law_named.body = r__law_named K := by kernel_rfl
def N__law_reads : List Str := ["u", "at", "names", "name"]
def G__law_reads (K : PySem.W.Frag) : Tb := ⟨K, [("_law_named", ⟨["thing"], sp__law_named⟩)], [], [], []⟩
def r__law_reads_1 (K : PySem.W.Frag) : TSg := (gRet (gCall bSorted (gCons (gLc (gIterA (gOp rItem (gVar 0) (gC (.str S_registers)))) (.one 3) (gB (gOp rIn (gVar 3) (gVar 2))) (gVar 3) [3]) gNil)))
def r__law_reads (K : PySem.W.Frag) : TSg := gSeq (gAsg (gCall sp__law_named (gCons (gCut (gOp rItem (gOp rItem (gVar 0) (gC (.str S_rows))) (gVar 1)) (gPart (gC (.int 2))) gNoPart) gNil)) (gName 2)) (r__law_reads_1 K)
theorem rd__law_reads (K : PySem.W.Frag) : body (G__law_reads K) N__law_reads d__law_reads.scope d__law_reads.body = r__law_reads K := by kernel_rfl
def N__law_given : List Str := ["u", "at", "row"]
def G__law_given (K : PySem.W.Frag) : Tb := ⟨K, [], [], [], []⟩
def r__law_given_2 (K : PySem.W.Frag) : TSg := (gRet (gOp rItem (gVar 2) (gC (.int 2))))
def r__law_given_3 (K : PySem.W.Frag) : TSg := (gRet (gC .non))
def r__law_given_1 (K : PySem.W.Frag) : TSg := gSeq (gIfS (gB (gOp rIn (gOp rItem (gVar 2) (gC (.int 0))) (gTup (gCons (gC (.str S_set)) (gCons (gC (.str S_choose)) (gCons (gC (.str S_call)) gNil)))))) (r__law_given_2 K) gNext) (r__law_given_3 K)
def r__law_given (K : PySem.W.Frag) : TSg := gSeq (gAsg (gOp rItem (gOp rItem (gVar 0) (gC (.str S_rows))) (gVar 1)) (gName 2)) (r__law_given_1 K)
theorem rd__law_given (K : PySem.W.Frag) : body (G__law_given K) N__law_given d__law_given.scope d__law_given.body = r__law_given K := by kernel_rfl
def N__law_after : List Str := ["rows", "at", "row"]
def G__law_after (K : PySem.W.Frag) : Tb := ⟨K, [], [], [], []⟩
def r__law_after_2 (K : PySem.W.Frag) : TSg := (gRet (gLst gNil))
def r__law_after_4 (K : PySem.W.Frag) : TSg := (gRet (gLst (gCons (gOp rItem (gVar 2) (gC (.int 2))) gNil)))
def r__law_after_6 (K : PySem.W.Frag) : TSg := (gRet (gLst (gCons (gOp rAdd (gVar 1) (gC (.int 1))) (gCons (gOp rItem (gVar 2) (gC (.int 3))) gNil))))
def r__law_after_7 (K : PySem.W.Frag) : TSg := (gRet (gLst (gCons (gOp rAdd (gVar 1) (gC (.int 1))) gNil)))
def r__law_after_5 (K : PySem.W.Frag) : TSg := gSeq (gIfS (gAnd (gB (gOp rEq (gOp rItem (gVar 2) (gC (.int 0))) (gC (.str S_test)))) (gB (gOp rNe (gOp rItem (gVar 2) (gC (.int 3))) (gOp rAdd (gVar 1) (gC (.int 1)))))) (r__law_after_6 K) gNext) (r__law_after_7 K)
def r__law_after_3 (K : PySem.W.Frag) : TSg := gSeq (gIfS (gB (gOp rEq (gOp rItem (gVar 2) (gC (.int 0))) (gC (.str S_jump)))) (r__law_after_4 K) gNext) (r__law_after_5 K)
def r__law_after_1 (K : PySem.W.Frag) : TSg := gSeq (gIfS (gB (gOp rIn (gOp rItem (gVar 2) (gC (.int 0))) (gTup (gCons (gC (.str S_return)) (gCons (gC (.str S_fail)) gNil))))) (r__law_after_2 K) gNext) (r__law_after_3 K)
def r__law_after (K : PySem.W.Frag) : TSg := gSeq (gAsg (gOp rItem (gVar 0) (gVar 1)) (gName 2)) (r__law_after_1 K)
theorem rd__law_after (K : PySem.W.Frag) : body (G__law_after K) N__law_after d__law_after.scope d__law_after.body = r__law_after K := by kernel_rfl
def N__law_alive : List Str := ["u", "rows", "alive", "at", "moved", "given", "behind", "name", "names"]
def G__law_alive (K : PySem.W.Frag) : Tb := ⟨K, [("_law_reads", ⟨["u", "at"], sp__law_reads⟩), ("_law_given", ⟨["u", "at"], sp__law_given⟩), ("_law_after", ⟨["rows", "at"], sp__law_after⟩)], [], [], []⟩
def r__law_alive_11 (K : PySem.W.Frag) : TSg := (gAsg (gC (.bl true)) (gName 4))
def r__law_alive_10 (K : PySem.W.Frag) : TSg := gSeq (gDrop (gBm isLst mAppend (gOp rItem (gVar 2) (gVar 3)) (gCons (gVar 7) gNil))) (r__law_alive_11 K)
def r__law_alive_9 (K : PySem.W.Frag) : TSg := (gIfS (gAnd (gB (gOp rNe (gVar 7) (gVar 5))) (gB (gOp rNin (gVar 7) (gOp rItem (gVar 2) (gVar 3))))) (r__law_alive_10 K) gNext)
def r__law_alive_8 (K : PySem.W.Frag) : TSg := (gFor (gIterA (gCall bList (gCons (gOp rItem (gVar 2) (gVar 6)) gNil))) (gName 7) (r__law_alive_9 K))
def r__law_alive_7 (K : PySem.W.Frag) : TSg := (gFor (gIterA (gCall sp__law_after (gCons (gVar 1) (gCons (gVar 3) gNil)))) (gName 6) (r__law_alive_8 K))
def r__law_alive_6 (K : PySem.W.Frag) : TSg := gSeq (gAsg (gCall sp__law_given (gCons (gVar 0) (gCons (gVar 3) gNil))) (gName 5)) (r__law_alive_7 K)
def r__law_alive_5 (K : PySem.W.Frag) : TSg := (gFor (gRvR1 (gCall bLen (gCons (gVar 1) gNil))) (gName 3) (r__law_alive_6 K))
def r__law_alive_4 (K : PySem.W.Frag) : TSg := gSeq (gAsg (gC (.bl false)) (gName 4)) (r__law_alive_5 K)
def r__law_alive_12 (K : PySem.W.Frag) : TSg := (gRet (gLc (gIterA (gVar 2)) (.one 8) gYes (gCall bSorted (gCons (gVar 8) gNil)) [8]))
def r__law_alive_3 (K : PySem.W.Frag) : TSg := gSeq (gWhile (gTru (gVar 4)) (r__law_alive_4 K)) (r__law_alive_12 K)
def r__law_alive_2 (K : PySem.W.Frag) : TSg := gSeq (gAsg (gC (.bl true)) (gName 4)) (r__law_alive_3 K)
def r__law_alive_1 (K : PySem.W.Frag) : TSg := gSeq (gAsg (gLc (gRng1 (gCons (gCall bLen (gCons (gVar 1) gNil)) gNil)) (.one 3) gYes (gCall sp__law_reads (gCons (gVar 0) (gCons (gVar 3) gNil))) [3]) (gName 2)) (r__law_alive_2 K)
def r__law_alive (K : PySem.W.Frag) : TSg := gSeq (gAsg (gOp rItem (gVar 0) (gC (.str S_rows))) (gName 1)) (r__law_alive_1 K)
theorem rd__law_alive (K : PySem.W.Frag) : body (G__law_alive K) N__law_alive d__law_alive.scope d__law_alive.body = r__law_alive K := by kernel_rfl
def N__law_foes : List Str := ["u", "rows", "alive", "found", "wide", "at", "near", "given", "behind", "y", "x", "name", "pair"]
def G__law_foes (K : PySem.W.Frag) : Tb := ⟨K, [("_law_alive", ⟨["u"], sp__law_alive⟩), ("_law_given", ⟨["u", "at"], sp__law_given⟩), ("_law_after", ⟨["rows", "at"], sp__law_after⟩)], [], [], []⟩
def r__law_foes_9 (K : PySem.W.Frag) : TSg := (gAsg (gOp rAdd (gVar 6) (gLc (gIterA (gOp rItem (gVar 2) (gVar 8))) (.one 9) gYes (gTup (gCons (gVar 7) (gCons (gVar 9) gNil))) [9])) (gName 6))
def r__law_foes_8 (K : PySem.W.Frag) : TSg := (gFor (gIterA (gCall sp__law_after (gCons (gVar 1) (gCons (gVar 5) gNil)))) (gName 8) (r__law_foes_9 K))
def r__law_foes_12 (K : PySem.W.Frag) : TSg := (gAsg (gOp rAdd (gVar 6) (gLc (gIterA (gOp rItem (gVar 2) (gVar 5))) (.one 9) gYes (gTup (gCons (gVar 10) (gCons (gVar 9) gNil))) [9])) (gName 6))
def r__law_foes_11 (K : PySem.W.Frag) : TSg := (gFor (gIterA (gOp rItem (gOp rItem (gVar 1) (gVar 5)) (gC (.int 4)))) (gName 10) (r__law_foes_12 K))
def r__law_foes_16 (K : PySem.W.Frag) : TSg := (gAsg (gOp rAdd (gVar 6) (gLc (gIterA (gVar 4)) (.one 9) (gB (gOp rGt (gVar 9) (gVar 10))) (gTup (gCons (gVar 10) (gCons (gVar 9) gNil))) [9])) (gName 6))
def r__law_foes_15 (K : PySem.W.Frag) : TSg := (gFor (gIterA (gVar 4)) (gName 10) (r__law_foes_16 K))
def r__law_foes_14 (K : PySem.W.Frag) : TSg := gSeq (gAsg (gOp rItem (gVar 2) (gVar 5)) (gName 4)) (r__law_foes_15 K)
def r__law_foes_19 (K : PySem.W.Frag) : TSg := (gAsg (gC (.bl true)) (gGSub (gVar 3) (gTup (gCons (gCall bMin (gCons (gOp rItem (gVar 12) (gC (.int 0))) (gCons (gOp rItem (gVar 12) (gC (.int 1))) gNil))) (gCons (gCall bMax (gCons (gOp rItem (gVar 12) (gC (.int 0))) (gCons (gOp rItem (gVar 12) (gC (.int 1))) gNil))) gNil)))))
def r__law_foes_18 (K : PySem.W.Frag) : TSg := (gIfS (gB (gOp rNe (gOp rItem (gVar 12) (gC (.int 0))) (gOp rItem (gVar 12) (gC (.int 1))))) (r__law_foes_19 K) gNext)
def r__law_foes_17 (K : PySem.W.Frag) : TSg := (gFor (gIterA (gVar 6)) (gName 12) (r__law_foes_18 K))
def r__law_foes_13 (K : PySem.W.Frag) : TSg := gSeq (gIfS (gB (gOp rNe (gLc (gIterA (gOp rItem (gVar 2) (gVar 5))) (.one 11) (gB (gOp rNin (gVar 11) (gVar 4))) (gVar 11) [11]) (gLst gNil))) (r__law_foes_14 K) gNext) (r__law_foes_17 K)
def r__law_foes_10 (K : PySem.W.Frag) : TSg := gSeq (gIfS (gB (gOp rEq (gOp rItem (gOp rItem (gVar 1) (gVar 5)) (gC (.int 0))) (gC (.str S_mark)))) (r__law_foes_11 K) gNext) (r__law_foes_13 K)
def r__law_foes_7 (K : PySem.W.Frag) : TSg := gSeq (gIfS (gB (gOp rIsnt (gVar 7) (gC .non))) (r__law_foes_8 K) gNext) (r__law_foes_10 K)
def r__law_foes_6 (K : PySem.W.Frag) : TSg := gSeq (gAsg (gCall sp__law_given (gCons (gVar 0) (gCons (gVar 5) gNil))) (gName 7)) (r__law_foes_7 K)
def r__law_foes_5 (K : PySem.W.Frag) : TSg := gSeq (gAsg (gLst gNil) (gName 6)) (r__law_foes_6 K)
def r__law_foes_20 (K : PySem.W.Frag) : TSg := (gRet (gCall bSorted (gCons (gLc (gIterA (gVar 3)) (.one 12) gYes (gVar 12) [12]) gNil)))
def r__law_foes_4 (K : PySem.W.Frag) : TSg := gSeq (gFor (gRng1 (gCons (gCall bLen (gCons (gVar 1) gNil)) gNil)) (gName 5) (r__law_foes_5 K)) (r__law_foes_20 K)
def r__law_foes_3 (K : PySem.W.Frag) : TSg := gSeq (gAsg (gLst gNil) (gName 4)) (r__law_foes_4 K)
def r__law_foes_2 (K : PySem.W.Frag) : TSg := gSeq (gAsg gD0 (gName 3)) (r__law_foes_3 K)
def r__law_foes_1 (K : PySem.W.Frag) : TSg := gSeq (gAsg (gCall sp__law_alive (gCons (gVar 0) gNil)) (gName 2)) (r__law_foes_2 K)
def r__law_foes (K : PySem.W.Frag) : TSg := gSeq (gAsg (gOp rItem (gVar 0) (gC (.str S_rows))) (gName 1)) (r__law_foes_1 K)
theorem rd__law_foes (K : PySem.W.Frag) : body (G__law_foes K) N__law_foes d__law_foes.scope d__law_foes.body = r__law_foes K := by kernel_rfl
def N__law_told_rightly : List Str := ["unit", "u", "many", "at", "named", "alive", "pairs", "names"]
def G__law_told_rightly (K : PySem.W.Frag) : Tb := ⟨K, [("reads", ⟨["unit", "at"], sp_reads⟩), ("_law_same", ⟨["one", "two"], (sp__law_same 12)⟩), ("_law_reads", ⟨["u", "at"], sp__law_reads⟩), ("_law_given", ⟨["u", "at"], sp__law_given⟩), ("given_by", ⟨["unit", "at"], sp_given_by⟩), ("alive_at", ⟨["unit"], sp_alive_at⟩), ("foes", ⟨["unit"], sp_foes⟩), ("_law_alive", ⟨["u"], sp__law_alive⟩), ("_law_foes", ⟨["u"], sp__law_foes⟩)], [], [], []⟩
def r__law_told_rightly_4 (K : PySem.W.Frag) : TSg := (gRet (gC (.bl false)))
def r__law_told_rightly_5 (K : PySem.W.Frag) : TSg := (gDrop (gBm isLst mAppend (gVar 4) (gCons (gC (.str S_zq)) gNil)))
def r__law_told_rightly_3 (K : PySem.W.Frag) : TSg := gSeq (gIfS (gOr (gNot (gTru (gCall (sp__law_same 12) (gCons (gVar 4) (gCons (gCall sp__law_reads (gCons (gVar 1) (gCons (gVar 3) gNil))) gNil))))) (gNot (gTru (gCall (sp__law_same 12) (gCons (gCall sp_given_by (gCons (gVar 0) (gCons (gVar 3) gNil))) (gCons (gCall sp__law_given (gCons (gVar 1) (gCons (gVar 3) gNil))) gNil)))))) (r__law_told_rightly_4 K) gNext) (r__law_told_rightly_5 K)
def r__law_told_rightly_2 (K : PySem.W.Frag) : TSg := gSeq (gAsg (gCall sp_reads (gCons (gVar 0) (gCons (gVar 3) gNil))) (gName 4)) (r__law_told_rightly_3 K)
def r__law_told_rightly_9 (K : PySem.W.Frag) : TSg := (gRet (gC (.bl false)))
def r__law_told_rightly_11 (K : PySem.W.Frag) : TSg := (gDrop (gBm isLst mAppend (gVar 7) (gCons (gC (.str S_zq)) gNil)))
def r__law_told_rightly_14 (K : PySem.W.Frag) : TSg := (gRet (gC (.bl true)))
def r__law_told_rightly_13 (K : PySem.W.Frag) : TSg := gSeq (gDrop (gBm isLst mInsert (gVar 6) (gCons (gC (.int 0)) (gCons (gTup (gCons (gC (.str S_a)) (gCons (gC (.str S_b)) gNil))) gNil)))) (r__law_told_rightly_14 K)
def r__law_told_rightly_12 (K : PySem.W.Frag) : TSg := gSeq (gDrop (gBm isLst mAppend (gVar 5) (gCons (gLst gNil) gNil))) (r__law_told_rightly_13 K)
def r__law_told_rightly_10 (K : PySem.W.Frag) : TSg := gSeq (gFor (gIterA (gVar 5)) (gName 7) (r__law_told_rightly_11 K)) (r__law_told_rightly_12 K)
def r__law_told_rightly_8 (K : PySem.W.Frag) : TSg := gSeq (gIfS (gOr (gNot (gTru (gCall (sp__law_same 12) (gCons (gVar 5) (gCons (gCall sp__law_alive (gCons (gVar 1) gNil)) gNil))))) (gNot (gTru (gCall (sp__law_same 12) (gCons (gVar 6) (gCons (gCall sp__law_foes (gCons (gVar 1) gNil)) gNil)))))) (r__law_told_rightly_9 K) gNext) (r__law_told_rightly_10 K)
def r__law_told_rightly_7 (K : PySem.W.Frag) : TSg := gSeq (gAsg (gCall sp_foes (gCons (gVar 0) gNil)) (gName 6)) (r__law_told_rightly_8 K)
def r__law_told_rightly_6 (K : PySem.W.Frag) : TSg := gSeq (gAsg (gCall sp_alive_at (gCons (gVar 0) gNil)) (gName 5)) (r__law_told_rightly_7 K)
def r__law_told_rightly_1 (K : PySem.W.Frag) : TSg := gSeq (gFor (gRng1 (gCons (gVar 2) gNil)) (gName 3) (r__law_told_rightly_2 K)) (r__law_told_rightly_6 K)
def r__law_told_rightly (K : PySem.W.Frag) : TSg := gSeq (gAsg (gCall bLen (gCons (gOp rItem (gVar 1) (gC (.str S_rows))) gNil)) (gName 2)) (r__law_told_rightly_1 K)
theorem rd__law_told_rightly (K : PySem.W.Frag) : body (G__law_told_rightly K) N__law_told_rightly d__law_told_rightly.scope d__law_told_rightly.body = r__law_told_rightly K := by kernel_rfl
end My

set_option Elab.async false
set_option linter.all false
set_option autoImplicit false
set_option maxRecDepth 100000
set_option maxHeartbeats 2000000
namespace My
open PySem PySem.Spec PyProof.Rows Vc
local macro_rules | `(tactic| walk_at "vc") => `(tactic| (try dsimp only [gSeq, gMake, gSFld, gAsg, gName, gRet, gRetN, gIfS, gDrop, gNext, gBreak, gCont, gVar, gC, gOp, gB, gCh, gAnd, gOr, gNot, gAndV, gOrV, gNotV, gIf, gTru, gNil, gCons, gTup, gLst, gFld, gCall, gBm, gCut, gNoPart, gPart, gIsa, gIsO, gNeg, gYes, gGSub, gIterA, gGTup, gGCons, gGNil, gRng1, gRng2, gRev, gRvR1, gRvR2, Tg.put, setAll, wipeE, List.set, List.getElem?_cons_zero, List.getElem?_cons_succ]))
local macro_rules | `(tactic| walk_at "ev") => `(tactic| (try simp [ev_add_i, ev_add_s, ev_sub, ev_mul, ev_fdiv, ev_mod, ev_pow, ev_lt, ev_le, ev_gt, ev_lts, ev_gts, ev_ge, ev_eq_i, ev_eq_s, ev_eq_b, ev_is, ev_isnt, isN, ev_it_t, ev_it_r, ev_it_k, ev_at, ev_in_t, ev_in_r, ev_in_k, sizeLine_eq, L2.atI, L2.ixN, D.fl, inD, feq, S_return, S_fail, S_jump, S_test, S_set, S_put, S_swap, S_choose, S_call, S_mark, S_cell, S_var, S_num, S_len, S_cmp, S_either, S_all, S_match, S_sorted, S_below, S_list]))
local macro_rules | `(tactic| walk_at "is") => `(tactic| (try simp only [isa_tuple_non, isa_tuple_bl, isa_tuple_int, isa_tuple_str, isa_tuple_tup, isa_tuple_rol, isa_list_non, isa_list_bl, isa_list_int, isa_list_str, isa_list_tup, isa_list_rol, isa_bool_non, isa_bool_bl, isa_bool_int, isa_bool_str, isa_bool_tup, isa_bool_rol, isa_int_non, isa_int_bl, isa_int_int, isa_int_str, isa_int_tup, isa_int_rol, isa_str_non, isa_str_bl, isa_str_int, isa_str_str, isa_str_tup, isa_str_rol, rTru, ev_eq_b, ev_eq_i, ev_eq_s, id, Bool.not_true, Bool.not_false, decide_true, decide_false, reduceCtorEq, Bool.false_eq_true, Bool.true_eq_false]))
local macro_rules | `(tactic| walk_at "ev") => `(tactic| (try simp [ev_add_i, ev_add_s, ev_sub, ev_mul, ev_fdiv, ev_mod, ev_pow, ev_lt, ev_le, ev_gt, ev_lts, ev_gts, ev_ge, ev_eq_i, ev_eq_s, ev_eq_b, ev_is, ev_isnt, isN, ev_it_t, ev_it_r, ev_it_k, ev_at, ev_in_t, ev_in_r, ev_in_k, sizeLine_eq, L2.atI, L2.ixN, D.fl, inD, feq, S_return, S_fail, S_jump, S_test, S_set, S_put, S_swap, S_choose, S_call, S_mark, S_cell, S_var, S_num, S_len, S_cmp, S_either, S_all, S_match, S_sorted, S_below, S_list]))
theorem it_rows {u : Un} {k : Nat} {r : Rw} {G : Hg} {P : KD} (hr : u.rows[k]? = some r) (p : P r.d G) : rItem u.dct (.str S_rows) G fun d G1 => rItem d (.int (k : Int)) G1 P := it_rdc rfl (it_rol (map_at hr) p)
theorem vc__law_given {K : PySem.W.Frag} (ds : List D) (G : Hg) (Q : KD) (h : sp__law_given ds G Q) : r__law_given K (endOf Q) (startD N__law_given ds) G := by
  obtain ⟨u, k, r, rfl, hu, hr, hP⟩ := h
  show r__law_given K (endOf Q) [some u.dct, some (.int k), none] G
  unfold r__law_given
  walk_at "vc"
  refine it_rows hr (nx ?_)
  unfold r__law_given_1
  walk_at "vc"
  cases r <;> (unfold Rw.d; walk_at "ev")
  case set => unfold r__law_given_2; walk_at "vc"; walk_at "ev"; exact .inl hP
  case choose => unfold r__law_given_2; walk_at "vc"; walk_at "ev"; exact .inl hP
  case call => unfold r__law_given_2; walk_at "vc"; walk_at "ev"; exact .inl hP
  all_goals exact nx (by unfold r__law_given_3; walk_at "vc"; exact .inl hP)
theorem vc__law_after {K : PySem.W.Frag} (ds : List D) (G : Hg) (Q : KD) (h : sp__law_after ds G Q) : r__law_after K (endOf Q) (startD N__law_after ds) G := by
  obtain ⟨rows, k, r, rfl, hr, hP⟩ := h
  show r__law_after K (endOf Q) [some (.rol (rows.map Rw.d)), some (.int k), none] G
  unfold r__law_after
  walk_at "vc"
  refine it_rol (map_at hr) (nx ?_)
  unfold r__law_after_1
  walk_at "vc"
  cases r
  all_goals
    unfold Rw.d
    walk_at "ev"
  case ret => unfold r__law_after_2; walk_at "vc"; exact ⟨by simp, .inl (.inl hP)⟩
  case fail => unfold r__law_after_2; walk_at "vc"; exact ⟨by simp, .inl (.inl hP)⟩
  all_goals
    refine nx ?_
    unfold r__law_after_3
    walk_at "vc"
    walk_at "ev"
  case jump => unfold r__law_after_4; walk_at "vc"; walk_at "ev"; exact .inl (.inl hP)
  all_goals
    refine nx ?_
    unfold r__law_after_5
    walk_at "vc"
    walk_at "ev"
  case test r c a =>
    by_cases he : a = k + 1
    · have e2 : (a : Int) = (k : Int) + 1 := by omega
      rw [decide_eq_true e2]
      refine nx ?_
      unfold r__law_after_7
      walk_at "vc"
      walk_at "ev"
      refine .inl (.inl ?_)
      have e3 : aft (.test r c a) k = [k + 1] := by simp [aft, he]
      rw [e3] at hP
      exact hP
    · have e2 : ¬ (a : Int) = (k : Int) + 1 := by omega
      rw [decide_eq_false e2]
      show r__law_after_6 K _ _ _
      unfold r__law_after_6
      walk_at "vc"
      walk_at "ev"
      refine .inl (.inl ?_)
      have e3 : aft (.test r c a) k = [k + 1, a] := by simp [aft, he]
      rw [e3] at hP
      exact hP
  all_goals
    refine nx ?_
    unfold r__law_after_7
    walk_at "vc"
    walk_at "ev"
    exact .inl (.inl hP)
theorem mem_aft {r : Rw} {k t : Nat} : t ∈ aft r k ↔ t ∈ stp r k := by
  cases r with
  | test r c a =>
    show (t ∈ if a = k + 1 then [k + 1] else [k + 1, a]) ↔ t ∈ [k + 1, a]
    split
    · rename_i e; subst e; simp
    · rfl
  | _ => rfl
theorem dsz_pos (d : D) : 1 ≤ dsz d := by cases d <;> simp [dsz]
theorem dszs_app : ∀ (a b : List D), dszs (a ++ b) = dszs a + dszs b
  | [], b => by simp [dszs]
  | x :: a, b => by rw [List.cons_append, dszs, dszs, dszs_app a b, Nat.add_assoc]
theorem nmds_app : ∀ (a b : List D), nmds (a ++ b) = nmds a ++ nmds b
  | [], b => by simp [nmds]
  | x :: a, b => by rw [List.cons_append, nmds, nmds, nmds_app a b, List.append_assoc]
theorem nwfs_app : ∀ (a b : List D), nwfs (a ++ b) = (nwfs a && nwfs b)
  | [], b => by simp [nwfs]
  | x :: a, b => by rw [List.cons_append, nwfs, nwfs, nwfs_app a b, Bool.and_assoc]
theorem dszs_len : ∀ (a : List D), a.length ≤ dszs a
  | [] => by simp
  | x :: a => by have := dszs_len a; have := dsz_pos x; rw [List.length_cons, dszs]; omega
theorem prs_all : ∀ {n : Nat} {ds : List D}, D.prs n ds = true ↔ ∀ d ∈ ds, D.pr n d = true
  | n, [] => by simp [D.prs]
  | n, d :: ds => by
    rw [D.prs, Bool.and_eq_true, prs_all]
    simp
theorem pr_mono : ∀ {n m : Nat} {d : D}, D.pr n d = true → n ≤ m → D.pr m d = true
  | _, m, .non, _, _ => by cases m <;> rfl
  | _, m, .bl _, _, _ => by cases m <;> rfl
  | _, m, .int _, _, _ => by cases m <;> rfl
  | n, m, .str s, h, _ => by
    have : s.all (· < 0x110000) = true := by cases n <;> simpa [D.pr] using h
    cases m <;> simpa [D.pr] using this
  | n + 1, m + 1, .tup ds, h, l => by
    simp only [D.pr] at h ⊢
    rw [prs_all] at h ⊢
    exact fun d hd => pr_mono (h d hd) (by omega)
  | n + 1, m + 1, .rol ds, h, l => by
    simp only [D.pr] at h ⊢
    rw [prs_all] at h ⊢
    exact fun d hd => pr_mono (h d hd) (by omega)
  | n + 1, m + 1, .kol ds, h, l => by
    simp only [D.pr] at h ⊢
    rw [prs_all] at h ⊢
    exact fun d hd => pr_mono (h d hd) (by omega)
  | n + 1, m + 1, .ktp ds, h, l => by
    simp only [D.pr] at h ⊢
    rw [prs_all] at h ⊢
    exact fun d hd => pr_mono (h d hd) (by omega)
  | 0, _, .tup _, h, _ => by simp [D.pr] at h
  | 0, _, .rol _, h, _ => by simp [D.pr] at h
  | 0, _, .kol _, h, _ => by simp [D.pr] at h
  | 0, _, .ktp _, h, _ => by simp [D.pr] at h
  | n + 1, 0, .tup _, _, l => by omega
  | n + 1, 0, .rol _, _, l => by omega
  | n + 1, 0, .kol _, _, l => by omega
  | n + 1, 0, .ktp _, _, l => by omega
  | n, _, .ref _, h, _ => by cases n <;> simp [D.pr] at h
  | n, _, .rdc _, h, _ => by cases n <;> simp [D.pr] at h
  | n, _, .rdt _, h, _ => by cases n <;> simp [D.pr] at h
  | n, _, .obj _ _, h, _ => by cases n <;> simp [D.pr] at h
theorem hdv_no {ds : List D} (h : ds.length ≠ 3) : hdv ds = [] := by
  unfold hdv
  split
  · simp at h
  · rfl
theorem eq_tup_str {as : List D} {s : Tx} {G : Hg} {P : KD} (h : D.pr 60 (.tup as) = true) (h2 : D.pr 60 (.str s) = true) (p : P (.bl false) G) : rEq (.tup as) (.str s) G P := .inl ⟨_, _, .self _, .self _, h, h2, p⟩
def Stk (st : List D) : Prop := ∀ d ∈ st, nwf d = true ∧ D.pr 50 d = true
theorem vc__law_named {K : PySem.W.Frag} (ds : List D) (G : Hg) (Q : KD) (h : sp__law_named ds G Q) : r__law_named K (endOf Q) (startD N__law_named ds) G := by
  obtain ⟨th, rfl, hw, hp, hz, hP⟩ := h
  show r__law_named K (endOf Q) [some th, none, none, none, none] G
  unfold r__law_named
  walk_at "vc"
  refine ⟨by simp, rL_ref fun pf hf => nx ?_⟩
  unfold r__law_named_1
  walk_at "vc"
  refine ⟨by simp [sizeLine_eq], rL_ref fun ps hs => nx ?_⟩
  have npf : pf ≠ ps := by intro e; subst e; rw [upd_at] at hs; cases hs
  unfold r__law_named_2
  dsimp only [gSeq]
  refine ⟨fun m env G' => ∃ fs st z3 z4, env = [some th, some (.ref pf), some (.ref ps), z3, z4] ∧ Kp G G' ∧ G' pf = some (.lst (txs fs)) ∧ G' ps = some (.lst st) ∧ Stk st ∧ m = dszs st ∧ fs.length + dszs st ≤ 1000000 ∧ ∀ x, (x ∈ fs ∨ x ∈ nmds st) ↔ x ∈ nmd th, ⟨_, [], [th], _, _, rfl, (Kp.new hf).trans (.new hs), by rw [upd_off npf, upd_at]; rfl, upd_at, ?_, rfl, ?_, ?_⟩, ?_⟩
  · intro d hd
    rw [List.mem_singleton] at hd
    subst hd
    exact ⟨hw, hp⟩
  · simp [dszs]; exact hz
  · simp [nmds]
  rintro m env G1 ⟨fs, st, z3, z4, rfl, kp, hgf, hgs, hst, rfl, hle, hmem⟩
  walk_at "vc"
  refine len_li (.ref hgs) ?_
  rw [ev_gt]
  have hsl := dszs_len st
  by_cases hne : st = []
  · subst hne
    show (∃ env2 G3, Gh _ G1 env2 G3 ∧ r__law_named_9 K (endOf Q) env2 G3)
    refine nxlw (G2 := G) 1 (a := pf) rfl (.lst hgf) (kp.del hf) ?_
    unfold r__law_named_9
    walk_at "vc"
    refine .inl (hP fs fun x => ?_)
    rw [← hmem]
    simp [nmds]
  · have hlen : 0 < st.length := List.length_pos_iff.mpr hne
    rw [decide_eq_true (show (0 : Int) < (st.length : Int) by omega)]
    show r__law_named_3 K _ _ _
    unfold r__law_named_3
    walk_at "vc"
    obtain ⟨st', one, rfl⟩ : ∃ st' one, st = st' ++ [one] := ⟨st.dropLast, st.getLast hne, (List.dropLast_concat_getLast hne).symm⟩
    obtain ⟨hw1, hp1⟩ := hst one (by simp)
    have hst' : Stk st' := fun d hd => hst d (List.mem_append_left _ hd)
    have hd1 : dszs (st' ++ [one]) = dszs st' + dsz one := by rw [dszs_app]; simp [dszs]
    have hnm : ∀ x, x ∈ nmds (st' ++ [one]) ↔ x ∈ nmds st' ∨ x ∈ nmd one := fun x => by rw [nmds_app]; simp [nmds]
    refine ⟨⟨_, hgs⟩, _, one, hgs, by simp, fun G2 e2 => nx ?_⟩
    rw [List.dropLast_concat] at e2
    have kp2 : Kp G G2 := by
      rw [e2]
      exact kp.upd (by
        cases h : G ps with
        | none => rfl
        | some o => have := Kp.new (G := G) (o := .lst []) hf ps o h; rw [hs] at this; cases this)
    have gf2 : G2 pf = some (.lst (txs fs)) := by rw [e2, upd_off npf]; exact hgf
    have gs2 : G2 ps = some (.lst st') := by rw [e2, upd_at]
    unfold r__law_named_4
    walk_at "vc"
    have leaf : nmd one = [] → ∃ m', m' < dszs (st' ++ [one]) ∧ ∃ fs st y3 y4, [some th, some (.ref pf), some (.ref ps), some one, z4] = [some th, some (.ref pf), some (.ref ps), y3, y4] ∧ Kp G G2 ∧ G2 pf = some (.lst (txs fs)) ∧ G2 ps = some (.lst st) ∧ Stk st ∧ m' = dszs st ∧ fs.length + dszs st ≤ 1000000 ∧ ∀ x, (x ∈ fs ∨ x ∈ nmds st) ↔ x ∈ nmd th := by
      intro e
      have := dsz_pos one
      exact ⟨dszs st', by omega, fs, st', _, _, rfl, kp2, gf2, gs2, hst', rfl, by omega, fun x => by rw [← hmem, hnm, e]; simp⟩
    cases one with
    | tup ds =>
      walk_at "is"
      have hw2 : hwf ds = true ∧ nwfs ds = true := by simpa [nwf] using hw1
      have hp2 : ∀ d ∈ ds, D.pr 49 d = true := by
        simp only [D.pr] at hp1
        exact prs_all.mp hp1
      have hz1 : dsz (.tup ds) = 1 + dszs ds := by simp [dsz]
      have wfs : ∀ {l : List D}, nwfs l = true → ∀ d ∈ l, nwf d = true := by
        intro l
        induction l with
        | nil => intro _ d hd; simp at hd
        | cons y l ih =>
          intro hl d hd
          simp only [nwfs, Bool.and_eq_true] at hl
          rcases List.mem_cons.mp hd with e | hd
          · rw [e]; exact hl.1
          · exact ih hl.2 d hd
      have key : ∀ (fs' : List Tx) (G3 : Hg) (E : Eg), fs'.length ≤ fs.length + 1 → (∀ x, x ∈ fs' ↔ x ∈ fs ∨ x ∈ hdv ds) → Kp G G3 → G3 pf = some (.lst (txs fs')) → G3 ps = some (.lst st') → (∀ env' G', (∃ m', m' < dszs (st' ++ [D.tup ds]) ∧ ∃ fs st z3 z4, env' = [some th, some (.ref pf), some (.ref ps), z3, z4] ∧ Kp G G' ∧ G' pf = some (.lst (txs fs)) ∧ G' ps = some (.lst st) ∧ Stk st ∧ m' = dszs st ∧ fs.length + dszs st ≤ 1000000 ∧ ∀ x, (x ∈ fs ∨ x ∈ nmds st) ↔ x ∈ nmd th) → E.nx env' G') → r__law_named_7 K E [some th, some (.ref pf), some (.ref ps), some (.tup ds), z4] G3 := by
        intro fs' G3 E hfl hfm kp3 gf3 gs3 hE
        unfold r__law_named_7
        refine for_items ds (fun j env G' => ∃ z4, env = [some th, some (.ref pf), some (.ref ps), some (.tup ds), z4] ∧ Kp G G' ∧ G' pf = some (.lst (txs fs')) ∧ G' ps = some (.lst (st' ++ ds.take j))) (fun R h => ?_) ?_ ?_
        · walk_at "vc"
          exact h _ ⟨_, rfl, kp3, gf3, by simp; exact gs3⟩
        · rintro j d env G' Nx hd ⟨z4, rfl, kp4, gf4, gs4⟩ nxt
          have tk : ds.take (j + 1) = ds.take j ++ [d] := by rw [List.take_succ, hd]; rfl
          have hjl := (List.getElem?_eq_some_iff.mp hd).1
          walk_at "vc"
          unfold r__law_named_8
          walk_at "vc"
          refine ⟨⟨_, gs4⟩, _, gs4, ?_, fun G5 e5 => ?_⟩
          · have := dszs_len ds
            have := dszs_len st'
            rw [sizeLine_eq, List.length_append, List.length_take]
            omega
          · refine nxt _ _ ⟨_, rfl, ?_, ?_, ?_⟩
            · rw [e5]
              exact kp4.upd (by
                cases h : G ps with
                | none => rfl
                | some o => have := Kp.new (G := G) (o := .lst []) hf ps o h; rw [hs] at this; cases this)
            · rw [e5, upd_off npf]; exact gf4
            · rw [e5, upd_at, tk, List.append_assoc]
        · rintro env G' ⟨z4, rfl, kp4, gf4, gs4⟩
          rw [List.take_length] at gs4
          refine hE _ _ ⟨dszs (st' ++ ds), ?_, fs', st' ++ ds, _, _, rfl, kp4, gf4, gs4, ?_, rfl, ?_, fun x => ?_⟩
          · rw [hd1, dszs_app, hz1]; omega
          · intro d hd
            rcases List.mem_append.mp hd with hd | hd
            · exact hst' d hd
            · exact ⟨wfs hw2.2 d hd, pr_mono (hp2 d hd) (by omega)⟩
          · rw [dszs_app]; omega
          · rw [← hmem, hnm, nmds_app, List.mem_append, hfm]
            simp only [nmd, List.mem_append]
            constructor
            · rintro ((h | h) | (h | h))
              · exact .inl h
              · exact .inr (.inr (.inl h))
              · exact .inr (.inl h)
              · exact .inr (.inr (.inr h))
            · rintro (h | (h | (h | h)))
              · exact .inl (.inl h)
              · exact .inr (.inl h)
              · exact .inl (.inr h)
              · exact .inr (.inr h)
      unfold r__law_named_5
      walk_at "vc"
      refine len_tup (eq_int ?_)
      by_cases h3 : ds.length = 3
      · obtain ⟨a, b, c, rfl⟩ : ∃ a b c, ds = [a, b, c] := by
          match ds, h3 with
          | [a, b, c], _ => exact ⟨a, b, c, rfl⟩
        rw [show decide ((([a, b, c] : List D).length : Int) = 3) = true from rfl]
        refine it_tup (i := 0) rfl ?_
        cases a with
        | str s =>
          refine eq_str ?_
          by_cases hsv : s = S_var
          · subst hsv
            rw [decide_eq_true rfl]
            show r__law_named_6 K _ _ _
            have hb : ∃ x, b = .str x := by
              have := hw2.1
              cases b <;> simp [hwf] at this ⊢
            obtain ⟨x, rfl⟩ := hb
            unfold r__law_named_6
            walk_at "vc"
            refine ⟨⟨_, gf2⟩, it_tup (i := 1) rfl ⟨_, gf2, ?_, fun G3 e3 => nx ?_⟩⟩
            · rw [txs_len, sizeLine_eq]; omega
            · refine key (fs ++ [x]) G3 _ (by simp) (fun y => by simp [hdv]) ?_ ?_ ?_ (fun env' G' h => h)
              · rw [e3]; exact kp2.upd hf
              · rw [e3, upd_at, txs_app]; rfl
              · rw [e3, upd_off (Ne.symm npf)]; exact gs2
          · rw [decide_eq_false hsv]
            exact nx (key fs G2 _ (by omega) (fun y => by cases b <;> simp [hdv, hsv]) kp2 gf2 gs2 (fun env' G' h => h))
        | tup as =>
          refine eq_tup_str (pr_mono (hp2 (.tup as) (by simp)) (by omega)) (by rfl) ?_
          exact nx (key fs G2 _ (by omega) (fun y => by simp [hdv]) kp2 gf2 gs2 (fun env' G' h => h))
        | _ => exact absurd hw2.1 (by simp [hwf])
      · have e3 : ¬ ((ds.length : Nat) : Int) = 3 := by omega
        rw [decide_eq_false e3]
        refine nx (key fs G2 _ (by omega) (fun y => ?_) kp2 gf2 gs2 (fun env' G' h => h))
        have : hdv ds = [] := hdv_no h3
        rw [this]; simp
    | str s => walk_at "is"; exact leaf rfl
    | int s => walk_at "is"; exact leaf rfl
    | bl s => walk_at "is"; exact leaf rfl
    | non => walk_at "is"; exact leaf rfl
    | _ => simp [nwf] at hw1
end My

set_option Elab.async false
set_option linter.all false
set_option autoImplicit false
set_option maxRecDepth 100000
set_option maxHeartbeats 2000000
namespace My
open PySem PySem.Spec PyProof.Rows Vc
local macro_rules | `(tactic| walk_at "vc") => `(tactic| (try dsimp only [gSeq, gMake, gSFld, gAsg, gName, gRet, gRetN, gIfS, gDrop, gNext, gBreak, gCont, gVar, gC, gOp, gB, gCh, gAnd, gOr, gNot, gAndV, gOrV, gNotV, gIf, gTru, gNil, gCons, gTup, gLst, gFld, gCall, gBm, gCut, gNoPart, gPart, gIsa, gIsO, gNeg, gYes, gGSub, gIterA, gGTup, gGCons, gGNil, gRng1, gRng2, gRev, gRvR1, gRvR2, Tg.put, setAll, wipeE, List.set, List.getElem?_cons_zero, List.getElem?_cons_succ]))
local macro_rules | `(tactic| walk_at "ev") => `(tactic| (try simp [ev_add_i, ev_add_s, ev_sub, ev_mul, ev_fdiv, ev_mod, ev_pow, ev_lt, ev_le, ev_gt, ev_lts, ev_gts, ev_ge, ev_eq_i, ev_eq_s, ev_eq_b, ev_is, ev_isnt, isN, ev_it_t, ev_it_r, ev_it_k, ev_at, ev_in_t, ev_in_r, ev_in_k, sizeLine_eq, L2.atI, L2.ixN, D.fl, inD, feq, S_return, S_fail, S_jump, S_test, S_set, S_put, S_swap, S_choose, S_call, S_mark, S_cell, S_var, S_num, S_len, S_cmp, S_either, S_all, S_match, S_sorted, S_below, S_list]))
local macro_rules | `(tactic| walk_at "is") => `(tactic| (try simp only [isa_tuple_non, isa_tuple_bl, isa_tuple_int, isa_tuple_str, isa_tuple_tup, isa_tuple_rol, isa_list_non, isa_list_bl, isa_list_int, isa_list_str, isa_list_tup, isa_list_rol, isa_bool_non, isa_bool_bl, isa_bool_int, isa_bool_str, isa_bool_tup, isa_bool_rol, isa_int_non, isa_int_bl, isa_int_int, isa_int_str, isa_int_tup, isa_int_rol, isa_str_non, isa_str_bl, isa_str_int, isa_str_str, isa_str_tup, isa_str_rol, rTru, ev_eq_b, ev_eq_i, ev_eq_s, id, Bool.not_true, Bool.not_false, decide_true, decide_false, reduceCtorEq, Bool.false_eq_true, Bool.true_eq_false]))
local macro_rules | `(tactic| walk_at "ev") => `(tactic| (try simp [ev_add_i, ev_add_s, ev_sub, ev_mul, ev_fdiv, ev_mod, ev_pow, ev_lt, ev_le, ev_gt, ev_lts, ev_gts, ev_ge, ev_eq_i, ev_eq_s, ev_eq_b, ev_is, ev_isnt, isN, ev_it_t, ev_it_r, ev_it_k, ev_at, ev_in_t, ev_in_r, ev_in_k, sizeLine_eq, L2.atI, L2.ixN, D.fl, inD, feq, S_return, S_fail, S_jump, S_test, S_set, S_put, S_swap, S_choose, S_call, S_mark, S_cell, S_var, S_num, S_len, S_cmp, S_either, S_all, S_match, S_sorted, S_below, S_list]))
theorem cut_row {r : Rw} {G : Hg} {P : KD} (p : P r.rest G) : rCut r.d (some 2) none G P := by
  cases r <;> exact p
theorem vc__law_reads {K : PySem.W.Frag} (ds : List D) (G : Hg) (Q : KD) (h : sp__law_reads ds G Q) : r__law_reads K (endOf Q) (startD N__law_reads ds) G := by
  obtain ⟨u, k, r, rfl, hu, hr, hP⟩ := h
  have hw := hu.rw r (List.mem_of_getElem? hr)
  show r__law_reads K (endOf Q) [some u.dct, some (.int k), none, none] G
  unfold r__law_reads
  walk_at "vc"
  refine it_rows hr (cut_row ⟨_, rfl, hw.wf, hw.pr, hw.sz, fun ns hns => nx ?_⟩)
  unfold r__law_reads_1
  walk_at "vc"
  refine lc_items (txs u.rg) (fun Dd i acc G' => G Dd = none ∧ G' = updG G Dd (.lst acc) ∧ acc = txs ((u.rg.take i).filter fun x => decide (x ∈ ns))) (by rw [txs_len]; exact le_sz (by have := hu.ok.rsz; omega)) (fun R h => ?_) ?_ ?_
  · walk_at "vc"
    exact it_rdc rfl (h G fun Dd hd => ⟨hd, rfl, rfl⟩)
  · rintro Dd i d acc G' Yes No hd ha ⟨hn, rfl, rfl⟩ hl yes no
    unfold txs at hd
    rw [List.getElem?_map] at hd
    cases hx : u.rg[i]? with
    | none => rw [hx] at hd; cases hd
    | some x =>
      rw [hx] at hd
      cases hd
      have tk : u.rg.take (i + 1) = u.rg.take i ++ [x] := by rw [List.take_succ, hx]; rfl
      walk_at "vc"
      refine in_txs ?_
      by_cases hm : x ∈ ns
      · rw [show id (decide (x ∈ ns)) = true from decide_eq_true hm]
        refine yes _ _ ha ⟨hn, by rw [upd_upd], ?_⟩
        rw [tk, List.filter_append, txs_app]
        simp [hm, txs]
      · rw [show id (decide (x ∈ ns)) = false from decide_eq_false hm]
        refine no _ ha ⟨hn, rfl, ?_⟩
        rw [tk, List.filter_append]
        simp [hm]
  · rintro Dd acc G' ha ⟨hn, rfl, rfl⟩ hl
    refine .inl ?_
    rw [del_upd hn, txs_len, List.take_length]
    have e : srtT (u.rg.filter fun x => decide (x ∈ ns)) = rds u.rg r := canon (p := fun x => x ∈ r.ns) hu.ok.nd (hu.ok.nd.filter _) fun x => by
      rw [List.mem_filter]
      simp only [decide_eq_true_eq]
      rw [hns, hw.nm]
    refine ⟨_, .li (.li (.rol _)), ?_, ?_, ?_⟩
    · rw [txs_len]
      exact le_sz (Nat.le_trans (List.length_filter_le _ _) (by have := hu.ok.rsz; omega))
    · exact .txs fun x hx c hc => (hu.ok.wn x (List.mem_filter.mp hx).1 c hc).1
    · rw [srt_txs, e]
      exact rL_ret hP
structure Fy (u : Un) (L : List (List Tx)) : Prop where
  ok : LOk u L
  so : ∀ k x, x ∈ atL L k → Live u k x
  us : ∀ k r, u.rows[k]? = some r → ∀ x, x ∈ u.rg → x ∈ r.ns → x ∈ atL L k
def Cl (u : Un) (L : List (List Tx)) (k : Nat) (r : Rw) (t : Nat) : Prop := ∀ x ∈ atL L t, r.giv ≠ some x → x ∈ atL L k
theorem Fy.turn {u : Un} {L : List (List Tx)} {k t : Nat} {r : Rw} {x : Tx} (h : Fy u L) (hr : u.rows[k]? = some r) (ht : t ∈ stp r k) (hx : Live u t x) (hg : r.giv ≠ some x) (hn : x ∉ atL L k) : Fy u (L.set k (atL L k ++ [x])) ∧ Fx.mu u (L.set k (atL L k ++ [x])) < Fx.mu u L := by
  have hk : k < L.length := by rw [h.ok.len]; exact (List.getElem?_eq_some_iff.mp hr).1
  have a := fun j => atL_set (j := j) (l := atL L k ++ [x]) hk
  have hl : L[k]? = some (atL L k) := by unfold atL; rw [List.getElem?_eq_getElem hk]; rfl
  have hlk : Live u k x := .step hr ht hx hg
  have nd : (atL L k ++ [x]).Nodup := by
    rw [List.nodup_append]
    refine ⟨(h.ok.at_ (k := k)).1, by simp, fun y hy z hz => ?_⟩
    rw [List.mem_singleton] at hz
    subst hz
    exact fun e => hn (e ▸ hy)
  have rg : ∀ y ∈ atL L k ++ [x], y ∈ u.rg := fun y hy => by
    rcases List.mem_append.mp hy with hy | hy
    · exact (h.ok.at_ (k := k)).2 y hy
    · rw [List.mem_singleton] at hy; rw [hy]; exact hlk.rg
  refine ⟨⟨⟨by rw [List.length_set]; exact h.ok.len, fun l hl => ?_, fun l hl => ?_⟩, fun j y hy => ?_, fun j r' hr' y h1 h2 => ?_⟩, mu_set hl (by simp) (sub_len nd rg)⟩
  · rcases List.mem_or_eq_of_mem_set hl with h1 | h1
    · exact h.ok.nd l h1
    · rw [h1]; exact nd
  · rcases List.mem_or_eq_of_mem_set hl with h1 | h1
    · exact h.ok.rg l h1
    · rw [h1]; exact rg
  · rw [a] at hy
    split at hy
    · rename_i e; subst e
      rcases List.mem_append.mp hy with hy | hy
      · exact h.so _ y hy
      · rw [List.mem_singleton] at hy; rw [hy]; exact hlk
    · exact h.so j y hy
  · rw [a]
    split
    · rename_i e; subst e
      exact List.mem_append_left _ (h.us _ r' hr' y h1 h2)
    · exact h.us j r' hr' y h1 h2
theorem Fy.done {u : Un} {L : List (List Tx)} (hu : u.ok) (h : Fy u L) (hf : ∀ k r, u.rows[k]? = some r → ∀ t ∈ stp r k, Cl u L k r t) : L.map srtT = alvOf u := by
  have lv : ∀ k x, Live u k x → x ∈ atL L k := fun k x hx => by
    induction hx with
    | use hr h1 h2 => exact h.us _ _ hr _ h1 h2
    | step hr h1 h2 h3 ih => exact hf _ _ hr _ h1 _ ih h3
  classical
  refine List.ext_getElem? fun k => ?_
  unfold alvOf
  rw [List.getElem?_map, List.getElem?_map]
  by_cases hk : k < u.rows.length
  · have hk' : k < L.length := by rw [h.ok.len]; exact hk
    rw [List.getElem?_range hk]
    have hl : L[k]? = some (atL L k) := by unfold atL; rw [List.getElem?_eq_getElem hk']; rfl
    rw [hl]
    show some _ = some _
    congr 1
    exact canon (p := fun x => Live u k x) hu.nd (h.ok.at_ (k := k)).1 fun x => ⟨fun hx => ⟨(h.ok.at_ (k := k)).2 x hx, h.so k x hx⟩, fun hx => lv k x hx.2⟩
  · rw [List.getElem?_eq_none (by rw [h.ok.len]; omega), List.getElem?_eq_none (by simp; omega)]
    rfl
structure Alw (u : Un) (G G' : Hg) (pa : Addr) (as : List Addr) (L : List (List Tx)) : Prop where
  kp : Kp G G'
  al : Alv G' pa as L
  nd : as.Nodup
  fr : ∀ a ∈ as, G a = none
  fy : Fy u L
theorem Alv.app {G : Hg} {pa a : Addr} {as : List Addr} {L : List (List Tx)} {l : List Tx} {k : Nat} (h : Alv G pa as L) (nd : as.Nodup) (ha : as[k]? = some a) : Alv (updG G a (.lst (txs l))) pa as (L.set k l) := by
  have hk : k < as.length := (List.getElem?_eq_some_iff.mp ha).1
  refine ⟨by rw [upd_off (Ne.symm (h.ne ha))]; exact h.top, by rw [List.length_set]; exact h.len, fun i b l' h1 h2 => ?_⟩
  by_cases e : i = k
  · subst e
    rw [ha] at h1; cases h1
    rw [List.getElem?_set_self (by rw [← h.len]; exact hk)] at h2
    cases h2
    exact upd_at
  · rw [List.getElem?_set_ne (fun z => e z.symm)] at h2
    have hne : b ≠ a := by
      intro z
      subst z
      exact e ((List.getElem?_inj (List.getElem?_eq_some_iff.mp h1).1 nd).mp (by rw [h1, ha]))
    rw [upd_off hne]
    exact h.at_ i b l' h1 h2
theorem list_ref {a : Addr} {xs : List D} {G : Hg} {P : KD} (h : G a = some (.lst xs)) (p : P (.rol xs) G) : bList [.ref a] G P := ⟨xs, .lk (.li (.ref h)), .inl p⟩
theorem vc__law_alive {K : PySem.W.Frag} (ds : List D) (G : Hg) (Q : KD) (h : sp__law_alive ds G Q) : r__law_alive K (endOf Q) (startD N__law_alive ds) G := by
  obtain ⟨u, rfl, hu, hP⟩ := h
  let n := u.rows.length
  have hn : n ≤ 1000 := hu.ok.sz
  have wn : ∀ x ∈ u.rg, ∀ c ∈ x, c < 128 := fun x hx c hc => (hu.ok.wn x hx c hc).1
  show r__law_alive K (endOf Q) [some u.dct, none, none, none, none, none, none, none, none] G
  unfold r__law_alive
  walk_at "vc"
  refine it_rdc rfl (nx ?_)
  unfold r__law_alive_1
  walk_at "vc"
  refine lc_range 0 n (fun Dd i acc G' => G Dd = none ∧ Kp G G' ∧ ∃ as : List Addr, acc = as.map D.ref ∧ as.length = i ∧ as.Nodup ∧ (∀ a ∈ as, G a = none ∧ a ≠ Dd) ∧ ∀ (j : Nat) (a : Addr) (r : Rw), as[j]? = some a → u.rows[j]? = some r → G' a = some (.lst (txs (rds u.rg r)))) (le_sz (by omega)) (fun R h => ?_) ?_ ?_
  · walk_at "vc"
    refine len_rol ?_
    show (-(2 ^ 62) ≤ (((u.rows.map Rw.d).length : Nat) : Int) ∧ (((u.rows.map Rw.d).length : Nat) : Int) < 2 ^ 62 ∧ R (jR 0 (((u.rows.map Rw.d).length : Nat) : Int).toNat) G)
    rw [List.length_map, Int.toNat_natCast]
    exact ⟨by omega, by omega, h _ fun Dd hd => ⟨hd, .new hd, [], rfl, rfl, by simp, by simp, by simp⟩⟩
  · rintro Dd i acc G' Yes No hi ha ⟨hDd, kp, as, rfl, hl, nd, hfr, hall⟩ _ yes no
    obtain ⟨r, hr⟩ : ∃ r, u.rows[i]? = some r := ⟨_, List.getElem?_eq_getElem hi⟩
    have e0 : (0 : Int) + i = (i : Int) := by omega
    rw [e0]
    walk_at "vc"
    refine ⟨u, i, r, rfl, hu, hr, rL_ref fun a hfa => ?_⟩
    have nad : a ≠ Dd := by intro e; subst e; rw [ha] at hfa; cases hfa
    have hga : G a = none := by
      cases h : G a with
      | none => rfl
      | some o => rw [kp a o h] at hfa; cases hfa
    have naa : ∀ b ∈ as, b ≠ a := by
      intro b hb e
      subst e
      obtain ⟨j, hj⟩ := List.getElem?_of_mem hb
      have hjl : j < i := by rw [← hl]; exact (List.getElem?_eq_some_iff.mp hj).1
      obtain ⟨r', hr'⟩ : ∃ r, u.rows[j]? = some r := ⟨_, List.getElem?_eq_getElem (by omega)⟩
      rw [hall j b r' hj hr'] at hfa
      cases hfa
    refine yes _ _ (by rw [upd_off (Ne.symm nad)]; exact ha) ⟨hDd, (kp.trans (.new hfa)).upd hDd, as ++ [a], by simp, by simp [hl], ?_, fun b hb => ?_, fun j b r' hj hr' => ?_⟩
    · rw [List.nodup_append]
      refine ⟨nd, by simp, fun b hb c hc => ?_⟩
      rw [List.mem_singleton] at hc
      subst hc
      exact naa b hb
    · rcases List.mem_append.mp hb with hb | hb
      · exact hfr b hb
      · rw [List.mem_singleton] at hb
        subst hb
        exact ⟨hga, nad⟩
    · by_cases hj2 : j < as.length
      · rw [List.getElem?_append_left hj2] at hj
        have hb := List.mem_of_getElem? hj
        rw [upd_off (hfr b hb).2, upd_off (naa b hb)]
        exact hall j b r' hj hr'
      · rw [List.getElem?_append_right (by omega)] at hj
        have hj3 : j = i := by
          have := (List.getElem?_eq_some_iff.mp hj).1
          simp at this
          omega
        subst hj3
        rw [← hl] at hj
        simp at hj
        subst hj
        rw [hr] at hr'; cases hr'
        rw [upd_off nad, upd_at]
  · rintro pa acc G1 ha ⟨hna, kp, as, rfl, hl, nd, hfr, hall⟩ _
    refine .inr (nx ?_)
    unfold r__law_alive_2
    walk_at "vc"
    refine nx ?_
    unfold r__law_alive_3
    let L0 : List (List Tx) := u.rows.map (rds u.rg)
    have rdm : ∀ (r : Rw) (x : Tx), x ∈ rds u.rg r ↔ x ∈ u.rg ∧ x ∈ r.ns := fun r x => by
      show x ∈ srtT _ ↔ _
      rw [mem_srtT, List.mem_filter, decide_eq_true_iff]
    have a0 : ∀ k r, u.rows[k]? = some r → atL L0 k = rds u.rg r := fun k r hr => by
      unfold atL
      rw [List.getElem?_map, hr]; rfl
    have a1 : ∀ k x, x ∈ atL L0 k → ∃ r, u.rows[k]? = some r ∧ x ∈ rds u.rg r := fun k x hx => by
      cases hr : u.rows[k]? with
      | none =>
        unfold atL at hx
        rw [List.getElem?_map, hr] at hx
        simp at hx
      | some r => exact ⟨r, rfl, by rw [← a0 k r hr]; exact hx⟩
    have f0 : Fy u L0 := ⟨⟨by simp [L0], fun l hl => by
        obtain ⟨r, _, rfl⟩ := List.mem_map.mp hl
        exact srtT_nodup (hu.ok.nd.filter _), fun l hl x hx => by
        obtain ⟨r, _, rfl⟩ := List.mem_map.mp hl
        exact ((rdm r x).mp hx).1⟩, fun k x hx => by
        obtain ⟨r, hr, h⟩ := a1 k x hx
        exact .use hr ((rdm r x).mp h).1 ((rdm r x).mp h).2, fun k r hr x h1 h2 => by rw [a0 k r hr, rdm]; exact ⟨h1, h2⟩⟩
    have al0 : Alv G1 pa as L0 := ⟨ha, by rw [hl]; simp [L0, n], fun i a l h1 h2 => by
      rw [List.getElem?_map] at h2
      cases hr : u.rows[i]? with
      | none => rw [hr] at h2; cases h2
      | some r =>
        rw [hr] at h2; cases h2
        exact hall i a r h1 hr⟩
    dsimp only [gSeq]
    refine ⟨fun m env G' => ∃ L z3 z5 z6 z7 c, env = [some u.dct, some (.rol (u.rows.map Rw.d)), some (.ref pa), z3, some (.bl c), z5, z6, z7, none] ∧ Alw u G G' pa as L ∧ (c = false → ∀ k r, u.rows[k]? = some r → ∀ t ∈ stp r k, Cl u L k r t) ∧ m = 2 * Fx.mu u L + (if c then 1 else 0), ⟨_, L0, _, _, _, _, true, rfl, ⟨kp, al0, nd, fun a h => (hfr a h).1, f0⟩, by simp, rfl⟩, ?_⟩
    rintro m env G2 ⟨Ls, z3, z5, z6, z7, c, rfl, S, hc, rfl⟩
    walk_at "vc"
    cases c with
    | false =>
      show (∃ env2 G3, Gh _ G2 env2 G3 ∧ r__law_alive_12 K (endOf Q) env2 G3)
      refine nxl 2 (a := pa) rfl (.lst S.al.top) ?_
      unfold r__law_alive_12
      walk_at "vc"
      have e := Fy.done hu.ok S.fy (hc rfl)
      refine lc_items (as.map D.ref) (fun Dd i acc G' => delG G2 pa Dd = none ∧ G' = updG (delG G2 pa) Dd (.lst acc) ∧ acc = lls ((Ls.take i).map srtT)) (by rw [List.length_map]; exact le_sz (by omega)) (fun R h => ?_) ?_ ?_
      · walk_at "vc"
        exact h _ fun Dd hd => ⟨hd, rfl, rfl⟩
      · rintro Dd i d acc G' Yes No hd ha' ⟨hDd, rfl, rfl⟩ _ yes no
        rw [List.getElem?_map] at hd
        cases hai : as[i]? with
        | none => rw [hai] at hd; cases hd
        | some a =>
          rw [hai] at hd
          cases hd
          have hil : i < Ls.length := by rw [← S.al.len]; exact (List.getElem?_eq_some_iff.mp hai).1
          have hli := List.getElem?_eq_getElem hil
          have hga := S.al.at_ i a _ hai hli
          have tk : Ls.take (i + 1) = Ls.take i ++ [Ls[i]] := by rw [List.take_succ, hli]; rfl
          have hgd : delG G2 pa a = some (.lst (txs Ls[i])) := by rw [del_off (S.al.ne hai)]; exact hga
          have had : a ≠ Dd := ne_of_none hDd hgd
          walk_at "vc"
          have hrg : ∀ x ∈ Ls[i], x ∈ u.rg := S.fy.ok.rg _ (List.mem_of_getElem? hli)
          refine ⟨_, .li (.li (.ref (by rw [upd_off had]; exact hgd))), ?_, .txs fun x hx => wn x (hrg x hx), ?_⟩
          · rw [txs_len]
            exact le_sz (by have := sub_len (S.fy.ok.nd _ (List.mem_of_getElem? hli)) hrg; have := hu.ok.rsz; omega)
          · rw [srt_txs]
            refine rL_rol (yes _ _ ha' ⟨hDd, by rw [upd_upd], ?_⟩)
            rw [tk, List.map_append]
            simp [lls]
      · rintro Dd acc G' ha' ⟨hDd, rfl, rfl⟩ _
        refine .inl ?_
        rw [del_upd hDd, List.length_map, S.al.len, List.take_length, e]
        exact .inl (hP _ (S.kp.del hna))
    | true =>
      show r__law_alive_4 K _ _ _
      unfold r__law_alive_4
      walk_at "vc"
      refine nx ?_
      unfold r__law_alive_5
      refine for_back ((n : Int) - 1) n (fun i env G' => ∃ L z3 z5 z6 z7 c, env = [some u.dct, some (.rol (u.rows.map Rw.d)), some (.ref pa), z3, some (.bl c), z5, z6, z7, none] ∧ Alw u G G' pa as L ∧ (c = false → L = Ls ∧ ∀ k r, n - i ≤ k → u.rows[k]? = some r → ∀ t ∈ stp r k, Cl u L k r t) ∧ (c = true → Fx.mu u L < Fx.mu u Ls)) (fun R h => ?_) ?_ ?_
      · walk_at "vc"
        refine len_rol ?_
        show (-(2 ^ 62) ≤ (((u.rows.map Rw.d).length : Nat) : Int) ∧ (((u.rows.map Rw.d).length : Nat) : Int) < 2 ^ 62 ∧ R (jRv ((((u.rows.map Rw.d).length : Nat) : Int).toNat - 1) (((u.rows.map Rw.d).length : Nat) : Int).toNat) G2)
        rw [List.length_map, Int.toNat_natCast]
        refine ⟨by omega, by omega, h _ ⟨Ls, _, _, _, _, false, rfl, S, fun _ => ⟨rfl, fun k r hk hr => ?_⟩, by simp⟩⟩
        have := (List.getElem?_eq_some_iff.mp hr).1
        omega
      · rintro i env G' Nx hi ⟨L, z3, z5, z6, z7, c, rfl, S', hcf, hct⟩ nxt
        have hk : n - 1 - i < n := by omega
        obtain ⟨r, hr⟩ : ∃ r, u.rows[n - 1 - i]? = some r := ⟨_, List.getElem?_eq_getElem hk⟩
        have ei : (n : Int) - 1 - i = ((n - 1 - i : Nat) : Int) := by omega
        rw [ei]
        generalize hkk : n - 1 - i = k at hk hr
        have hrm := List.mem_of_getElem? hr
        walk_at "vc"
        unfold r__law_alive_6
        walk_at "vc"
        refine ⟨u, k, r, rfl, hu.ok, hr, nx ?_⟩
        unfold r__law_alive_7
        refine for_items (nats (aft r k)) (fun j env G' => ∃ L z6 z7 c, env = [some u.dct, some (.rol (u.rows.map Rw.d)), some (.ref pa), some (.int k), some (.bl c), some (optD r.giv), z6, z7, none] ∧ Alw u G G' pa as L ∧ (c = false → L = Ls ∧ (∀ k' r', n - i ≤ k' → u.rows[k']? = some r' → ∀ t ∈ stp r' k', Cl u L k' r' t) ∧ ∀ t ∈ (aft r k).take j, Cl u L k r t) ∧ (c = true → Fx.mu u L < Fx.mu u Ls)) (fun R h => ?_) ?_ ?_
        · walk_at "vc"
          exact ⟨u.rows, k, r, rfl, hr, h _ ⟨L, _, _, c, rfl, S', fun e => ⟨(hcf e).1, (hcf e).2, by simp⟩, hct⟩⟩
        · rintro j d env G' Nx' hd ⟨L1, z6, z7, c1, rfl, S1, hcf1, hct1⟩ nxt'
          unfold nats at hd
          rw [List.getElem?_map] at hd
          cases ht : (aft r k)[j]? with
          | none => rw [ht] at hd; cases hd
          | some t =>
            rw [ht] at hd
            cases hd
            have tk : (aft r k).take (j + 1) = (aft r k).take j ++ [t] := by rw [List.take_succ, ht]; rfl
            have hts : t ∈ stp r k := mem_aft.mp (List.mem_of_getElem? ht)
            have htl : t < L1.length := by rw [S1.fy.ok.len]; exact hu.ok.go k r hr t hts
            obtain ⟨a, ha, hga⟩ := S1.al.el htl
            walk_at "vc"
            unfold r__law_alive_8
            refine for_items (txs (atL L1 t)) (fun l env G' => ∃ L z7 c, env = [some u.dct, some (.rol (u.rows.map Rw.d)), some (.ref pa), some (.int k), some (.bl c), some (optD r.giv), some (.int t), z7, none] ∧ Alw u G G' pa as L ∧ (c = false → c1 = false ∧ L = L1 ∧ ∀ x ∈ (atL L1 t).take l, r.giv ≠ some x → x ∈ atL L k) ∧ (c = true → Fx.mu u L < Fx.mu u Ls)) (fun R h => ?_) ?_ ?_
            · walk_at "vc"
              exact it_ref S1.al.top ha (list_ref hga (h _ ⟨L1, _, c1, rfl, S1, fun e => ⟨e, rfl, by simp⟩, hct1⟩))
            · rintro l d env G' Nx'' hd ⟨L2, z7, c2, rfl, S2, hcf2, hct2⟩ nxt''
              unfold txs at hd
              rw [List.getElem?_map] at hd
              cases hx : (atL L1 t)[l]? with
              | none => rw [hx] at hd; cases hd
              | some x =>
                rw [hx] at hd
                cases hd
                have tk2 : (atL L1 t).take (l + 1) = (atL L1 t).take l ++ [x] := by rw [List.take_succ, hx]; rfl
                have hxm := List.mem_of_getElem? hx
                have hxl : Live u t x := S1.fy.so t x hxm
                have hkl : k < L2.length := by rw [S2.fy.ok.len]; exact hk
                obtain ⟨b, hb, hgb⟩ := S2.al.el hkl
                walk_at "vc"
                unfold r__law_alive_9
                walk_at "vc"
                refine ne_opt (hu.ok.wn x hxl.rg) (fun y hy => hu.ok.wn y (hu.ok.gv r hrm y hy)) ?_
                by_cases hg : r.giv ≠ some x
                · rw [decide_eq_true hg]
                  refine it_ref S2.al.top hb (in_txsR hgb ?_)
                  by_cases hm : x ∈ atL L2 k
                  · rw [decide_eq_true hm]
                    refine nxt'' _ _ ⟨L2, _, c2, rfl, S2, fun e => ?_, hct2⟩
                    obtain ⟨h1, h2, h3⟩ := hcf2 e
                    refine ⟨h1, h2, fun y hy hgy => ?_⟩
                    rw [tk2] at hy
                    rcases List.mem_append.mp hy with hy | hy
                    · exact h3 y hy hgy
                    · rw [List.mem_singleton] at hy; rw [hy]; exact hm
                  · rw [decide_eq_false hm]
                    show r__law_alive_10 K _ _ _
                    unfold r__law_alive_10
                    walk_at "vc"
                    obtain ⟨f1, f2⟩ := S2.fy.turn hr hts hxl hg hm
                    have hbb : as[k]? = some b := by
                      rw [List.getElem?_map] at hb
                      cases h : as[k]? with
                      | none => rw [h] at hb; cases hb
                      | some b' => rw [h] at hb; cases hb; rfl
                    refine it_ref S2.al.top hb ⟨⟨_, hgb⟩, _, hgb, ?_, fun G3 e3 => nx ?_⟩
                    · rw [txs_len, sizeLine_eq]
                      have := sub_len (S2.fy.ok.at_ (k := k)).1 (S2.fy.ok.at_ (k := k)).2
                      have := hu.ok.rsz
                      omega
                    unfold r__law_alive_11
                    walk_at "vc"
                    have e4 : txs (atL L2 k) ++ [D.str x] = txs (atL L2 k ++ [x]) := by rw [txs_app]; rfl
                    rw [e4] at e3
                    have alv := S2.al.app (l := atL L2 k ++ [x]) S2.nd hbb
                    rw [← e3] at alv
                    refine nxt'' _ _ ⟨_, _, true, rfl, ⟨?_, alv, S2.nd, S2.fr, f1⟩, (by intro e; cases e), fun _ => ?_⟩
                    · rw [e3]; exact S2.kp.upd (S2.fr b (List.mem_of_getElem? hbb))
                    · cases c2 with
                      | true => exact Nat.lt_trans f2 (hct2 rfl)
                      | false =>
                        obtain ⟨h1, h2, _⟩ := hcf2 rfl
                        obtain ⟨h3, _⟩ := hcf1 h1
                        rw [h2, h3] at f2
                        rw [h2, h3]
                        exact f2
                · rw [decide_eq_false hg]
                  refine nxt'' _ _ ⟨L2, _, c2, rfl, S2, fun e => ?_, hct2⟩
                  obtain ⟨h1, h2, h3⟩ := hcf2 e
                  refine ⟨h1, h2, fun y hy hgy => ?_⟩
                  rw [tk2] at hy
                  rcases List.mem_append.mp hy with hy | hy
                  · exact h3 y hy hgy
                  · rw [List.mem_singleton] at hy; subst hy; exact absurd hgy hg
            · rintro env G' ⟨L2, z7, c2, rfl, S2, hcf2, hct2⟩
              rw [txs_len, List.take_length] at hcf2
              refine nxt' _ _ ⟨L2, _, _, c2, rfl, S2, fun e => ?_, hct2⟩
              obtain ⟨h1, h2, h3⟩ := hcf2 e
              obtain ⟨h4, h5, h6⟩ := hcf1 h1
              refine ⟨h2.trans h4, by rw [h2]; exact h5, fun t' ht' => ?_⟩
              rw [tk] at ht'
              rcases List.mem_append.mp ht' with ht' | ht'
              · rw [h2]; exact h6 t' ht'
              · rw [List.mem_singleton] at ht'
                subst ht'
                intro y hy hgy
                rw [h2] at hy
                exact h3 y hy hgy
        · rintro env G' ⟨L2, z6, z7, c2, rfl, S2, hcf2, hct2⟩
          have el : (nats (aft r k)).length = (aft r k).length := by simp [nats]
          rw [el, List.take_length] at hcf2
          refine nxt _ _ ⟨L2, _, _, _, _, c2, rfl, S2, fun e => ?_, hct2⟩
          obtain ⟨h1, h2, h3⟩ := hcf2 e
          refine ⟨h1, fun k' r' hk' hr' t ht => ?_⟩
          by_cases ek : k' = k
          · subst ek
            rw [hr] at hr'; cases hr'
            exact h3 t (mem_aft.mpr ht)
          · exact h2 k' r' (by omega) hr' t ht
      · rintro env G' ⟨L2, z3, z5, z6, z7, c2, rfl, S2, hcf2, hct2⟩
        cases c2 with
        | false =>
          obtain ⟨h1, h2⟩ := hcf2 rfl
          subst h1
          exact ⟨2 * Fx.mu u L2 + 0, by simp, L2, _, _, _, _, false, rfl, S2, fun _ k r hr => h2 k r (by omega) hr, rfl⟩
        | true =>
          have := hct2 rfl
          exact ⟨2 * Fx.mu u L2 + 1, by simp; omega, L2, _, _, _, _, true, rfl, S2, (by intro e; cases e), rfl⟩
end My

set_option Elab.async false
set_option linter.all false
set_option autoImplicit false
set_option maxRecDepth 100000
set_option maxHeartbeats 2000000
namespace My
open PySem PySem.Spec PyProof.Rows Vc
local macro_rules | `(tactic| walk_at "vc") => `(tactic| (try dsimp only [gSeq, gMake, gSFld, gAsg, gName, gRet, gRetN, gIfS, gDrop, gNext, gBreak, gCont, gVar, gC, gOp, gB, gCh, gAnd, gOr, gNot, gAndV, gOrV, gNotV, gIf, gTru, gNil, gCons, gTup, gLst, gFld, gCall, gBm, gCut, gNoPart, gPart, gIsa, gIsO, gNeg, gYes, gGSub, gIterA, gGTup, gGCons, gGNil, gRng1, gRng2, gRev, gRvR1, gRvR2, Tg.put, setAll, wipeE, List.set, List.getElem?_cons_zero, List.getElem?_cons_succ]))
local macro_rules | `(tactic| walk_at "ev") => `(tactic| (try simp [ev_add_i, ev_add_s, ev_sub, ev_mul, ev_fdiv, ev_mod, ev_pow, ev_lt, ev_le, ev_gt, ev_lts, ev_gts, ev_ge, ev_eq_i, ev_eq_s, ev_eq_b, ev_is, ev_isnt, isN, ev_it_t, ev_it_r, ev_it_k, ev_at, ev_in_t, ev_in_r, ev_in_k, sizeLine_eq, L2.atI, L2.ixN, D.fl, inD, feq, S_return, S_fail, S_jump, S_test, S_set, S_put, S_swap, S_choose, S_call, S_mark, S_cell, S_var, S_num, S_len, S_cmp, S_either, S_all, S_match, S_sorted, S_below, S_list]))
local macro_rules | `(tactic| walk_at "is") => `(tactic| (try simp only [isa_tuple_non, isa_tuple_bl, isa_tuple_int, isa_tuple_str, isa_tuple_tup, isa_tuple_rol, isa_list_non, isa_list_bl, isa_list_int, isa_list_str, isa_list_tup, isa_list_rol, isa_bool_non, isa_bool_bl, isa_bool_int, isa_bool_str, isa_bool_tup, isa_bool_rol, isa_int_non, isa_int_bl, isa_int_int, isa_int_str, isa_int_tup, isa_int_rol, isa_str_non, isa_str_bl, isa_str_int, isa_str_str, isa_str_tup, isa_str_rol, rTru, ev_eq_b, ev_eq_i, ev_eq_s, id, Bool.not_true, Bool.not_false, decide_true, decide_false, reduceCtorEq, Bool.false_eq_true, Bool.true_eq_false]))
local macro_rules | `(tactic| walk_at "ev") => `(tactic| (try simp [ev_add_i, ev_add_s, ev_sub, ev_mul, ev_fdiv, ev_mod, ev_pow, ev_lt, ev_le, ev_gt, ev_lts, ev_gts, ev_ge, ev_eq_i, ev_eq_s, ev_eq_b, ev_is, ev_isnt, isN, ev_it_t, ev_it_r, ev_it_k, ev_at, ev_in_t, ev_in_r, ev_in_k, sizeLine_eq, L2.atI, L2.ixN, D.fl, inD, feq, S_return, S_fail, S_jump, S_test, S_set, S_put, S_swap, S_choose, S_call, S_mark, S_cell, S_var, S_num, S_len, S_cmp, S_either, S_all, S_match, S_sorted, S_below, S_list]))
theorem lc_filter {β : Type} {ti : TIg} {tt : TTg} {te : TEg} {vs : List Nat} {i : Nat} {env : Ev} {G : Hg} {P : KD} (bs : List β) (e f : β → D) (c : β → Bool) (hl : bs.length ≤ 1000) (hi : ∀ R : Jg → Hg → Prop, R (jP (bs.map e)) G → ti env G R)
    (ts : ∀ (b : β) (G' : Hg) (P' : Bool → Hg → Prop), b ∈ bs → P' (c b) G' → tt ((wipeE env vs).set i (some (e b))) G' P') (el : ∀ (b : β) (G' : Hg) (P' : KD), b ∈ bs → P' (f b) G' → te ((wipeE env vs).set i (some (e b))) G' P') (hP : P (.rol ((bs.filter c).map f)) G) : gLc ti (.one i) tt te vs env G P := by
  refine lc_items (bs.map e) (fun Dd j acc G' => G Dd = none ∧ G' = updG G Dd (.lst acc) ∧ acc = ((bs.take j).filter c).map f) (by rw [List.length_map]; exact le_sz (by omega)) (fun R h => hi R (h G fun Dd hd => ⟨hd, rfl, rfl⟩)) ?_ ?_
  · rintro Dd j d acc G' Yes No hd ha ⟨hn, rfl, rfl⟩ _ yes no
    rw [List.getElem?_map] at hd
    cases hw : bs[j]? with
    | none => rw [hw] at hd; cases hd
    | some w =>
      rw [hw] at hd
      cases hd
      have tk : bs.take (j + 1) = bs.take j ++ [w] := by rw [List.take_succ, hw]; rfl
      have hm := List.mem_of_getElem? hw
      refine ts w _ _ hm ?_
      cases hc : c w with
      | true => exact el w _ _ hm (yes _ _ ha ⟨hn, by rw [upd_upd], by rw [tk, List.filter_append, List.map_append]; simp [hc]⟩)
      | false => exact no _ ha ⟨hn, rfl, by rw [tk, List.filter_append]; simp [hc]⟩
  · rintro Dd acc G' ha ⟨hn, rfl, rfl⟩ _
    refine .inl ?_
    rw [del_upd hn, List.length_map, List.take_length]
    exact hP
theorem lt_or_gt {a b : Tx} (h : a ≠ b) : a < b ∨ b < a := by
  by_cases z : a < b
  · exact .inl z
  · rcases List.le_iff_lt_or_eq.mp (List.not_lt.mp z) with y | y
    · exact .inr y
    · exact absurd y.symm h
theorem upr_comm {a b : Tx} (h : a ≠ b) : upr a b = upr b a := by
  unfold upr
  rcases lt_or_gt h with z | z
  · have n : ¬ b < a := List.lt_asymm z
    simp [z, n]
  · have n : ¬ a < b := List.lt_asymm z
    simp [z, n]
theorem add_tps {xs ys : List Tp} {G : Hg} {P : KD} (hl : (xs ++ ys).length ≤ sizeLine) (p : P (.rol ((xs ++ ys).map tpD)) G) : rAdd (.rol (xs.map tpD)) (.rol (ys.map tpD)) G P :=
  add_rol (by rw [List.length_map, List.length_map, ← List.length_append]; exact hl) (by rw [← List.map_append]; exact p)
theorem ne_nil {xs : List Tx} {G : Hg} {P : KD} (w : ∀ x ∈ xs, ∀ c ∈ x, c < 128) (p : P (.bl (!decide (xs = []))) G) : rNe (.rol (txs xs)) (.rol []) G P :=
  .inl ⟨_, _, .self _, .self _, by unfold D.pr; exact prs_txs w, by rfl, by
    have e := deqv_txs xs []
    show P (.bl (!deqv (.rol (txs xs)) (.rol (txs [])))) G
    rw [e]; exact p⟩
theorem it_lls {L : List (List Tx)} {k : Nat} {G : Hg} {P : KD} (hk : k < L.length) (p : P (.rol (txs (atL L k))) G) : rItem (.rol (lls L)) (.int (k : Int)) G P := by
  refine it_rol (d := .rol (txs (atL L k))) ?_ p
  unfold lls atL
  rw [List.getElem?_map, List.getElem?_eq_getElem hk]
  rfl
def Nr (u : Un) (k : Nat) (r : Rw) (w : List Tx) (q : Tp) : Prop := (∃ g, r.giv = some g ∧ ∃ t ∈ stp r k, ∃ y ∈ atL (alvOf u) t, q = (g, y)) ∨ (∃ x ∈ r.mks, ∃ y ∈ atL (alvOf u) k, q = (x, y)) ∨ ((∃ x ∈ atL (alvOf u) k, x ∉ w) ∧ ∃ x ∈ atL (alvOf u) k, ∃ y ∈ atL (alvOf u) k, x < y ∧ q = (x, y))
theorem min_str {s t : Tx} {G : Hg} {P : KD} (p : P (.str (if t < s then t else s)) G) : bMin [.str s, .str t] G P := p
theorem max_str {s t : Tx} {G : Hg} {P : KD} (p : P (.str (if s < t then t else s)) G) : bMax [.str s, .str t] G P := p
theorem giv_made {r : Rw} {g : Tx} (h : r.giv = some g) : r.made = [g] := by
  cases r with
  | mark => cases h
  | _ => simp [Rw.giv] at h <;> simp [Rw.made, Rw.giv, h]
theorem giv_oth {u : Un} {L : List (List Tx)} {r : Rw} {k : Nat} {g y : Tx} (h : r.giv = some g) : oth u L r k y ↔ ∃ t ∈ stp r k, y ∈ atL L t := by
  cases r with
  | mark => cases h
  | _ => exact Iff.rfl
theorem lc_mapL {β : Type} {ti : TIg} {te : TEg} {vs : List Nat} {i : Nat} {env : Ev} {G : Hg} {P : KD} (bs : List β) (e f : β → D) (hl : bs.length ≤ sizeLine) (hi : ∀ R : Jg → Hg → Prop, R (jP (bs.map e)) G → ti env G R)
    (el : ∀ (b : β) (G' : Hg) (P' : KD), b ∈ bs → P' (f b) G' → te ((wipeE env vs).set i (some (e b))) G' P') (hP : P (.rol (bs.map f)) G) : gLc ti (.one i) gYes te vs env G P := by
  refine lc_items (bs.map e) (fun Dd j acc G' => G Dd = none ∧ G' = updG G Dd (.lst acc) ∧ acc = (bs.take j).map f) (by rw [List.length_map]; exact hl) (fun R h => hi R (h G fun Dd hd => ⟨hd, rfl, rfl⟩)) ?_ ?_
  · rintro Dd j d acc G' Yes No hd ha ⟨hn, rfl, rfl⟩ _ yes no
    rw [List.getElem?_map] at hd
    cases hw : bs[j]? with
    | none => rw [hw] at hd; cases hd
    | some w =>
      rw [hw] at hd
      cases hd
      have tk : bs.take (j + 1) = bs.take j ++ [w] := by rw [List.take_succ, hw]; rfl
      exact el w _ _ (List.mem_of_getElem? hw) (yes _ _ ha ⟨hn, by rw [upd_upd], by rw [tk, List.map_append]; rfl⟩)
  · rintro Dd acc G' ha ⟨hn, rfl, rfl⟩ _
    refine .inl ?_
    rw [del_upd hn, List.length_map, List.take_length]
    exact hP
theorem vc__law_foes {K : PySem.W.Frag} (ds : List D) (G : Hg) (Q : KD) (h : sp__law_foes ds G Q) : r__law_foes K (endOf Q) (startD N__law_foes ds) G := by
  obtain ⟨u, rfl, hu, hP⟩ := h
  let n := u.rows.length
  have hn : n ≤ 1000 := hu.ok.sz
  have wn : ∀ x ∈ u.rg, ∀ c ∈ x, c < 128 := fun x hx c hc => (hu.ok.wn x hx c hc).1
  show r__law_foes K (endOf Q) [some u.dct, none, none, none, none, none, none, none, none, none, none, none, none] G
  have hL : LOk u (alvOf u) := by
    classical
    refine ⟨by simp [alvOf], fun l hl => ?_, fun l hl x hx => ?_⟩
    · obtain ⟨k, _, rfl⟩ := List.mem_map.mp hl
      exact srtT_nodup (hu.ok.nd.filter _)
    · obtain ⟨k, _, rfl⟩ := List.mem_map.mp hl
      rw [mem_srtT, List.mem_filter] at hx
      exact hx.1
  have alen : ∀ k, (atL (alvOf u) k).length ≤ 1000 := fun k => Nat.le_trans (sub_len (hL.at_ (k := k)).1 (hL.at_ (k := k)).2) hu.ok.rsz
  generalize hA : alvOf u = A at hL alen
  have arg : ∀ k, ∀ x ∈ atL A k, x ∈ u.rg := fun k => (hL.at_ (k := k)).2
  unfold r__law_foes
  walk_at "vc"
  refine it_rdc rfl (nx ?_)
  unfold r__law_foes_1
  walk_at "vc"
  refine ⟨u, rfl, hu, fun G1 kp => nxw kp ?_⟩
  rw [hA]
  unfold r__law_foes_2
  walk_at "vc"
  refine .inr fun p G2 hN => ?_
  have hp := hN.fr
  rw [hN.eq]
  refine nx ?_
  unfold r__law_foes_3
  walk_at "vc"
  refine ⟨by simp, rL_rol (nx ?_)⟩
  unfold r__law_foes_4
  walk_at "vc"
  refine for_range 0 n (fun i env G' => ∃ K1 w z5 z6 z7 z8 z10 z12, env = [some u.dct, some (.rol (u.rows.map Rw.d)), some (.rol (lls A)), some (.ref p), some (.rol (txs w)), z5, z6, z7, z8, none, z10, none, z12] ∧ G' = updG G p (.dtt (pks K1)) ∧ K1.Nodup ∧ (∀ q ∈ K1, q.1 ∈ u.rg ∧ q.2 ∈ u.rg) ∧ (∀ q, q ∈ K1 ↔ ∃ k r, k < i ∧ u.rows[k]? = some r ∧ FoeAt u k r q) ∧ (w = [] ∨ ∃ k, k < i ∧ w = atL A k)) (fun R h => ?_) ?_ ?_
  · walk_at "vc"
    refine len_rol ?_
    show (-(2 ^ 62) ≤ (((u.rows.map Rw.d).length : Nat) : Int) ∧ (((u.rows.map Rw.d).length : Nat) : Int) < 2 ^ 62 ∧ R (jR 0 (((u.rows.map Rw.d).length : Nat) : Int).toNat) _)
    rw [List.length_map, Int.toNat_natCast]
    exact ⟨by omega, by omega, h _ ⟨[], [], _, _, _, _, _, _, rfl, rfl, by simp, by simp, by simp, .inl rfl⟩⟩
  · rintro k env G' Nx hk ⟨K1, w, z5, z6, z7, z8, z10, z12, rfl, rfl, nd1, in1, mem1, hw⟩ nxt
    obtain ⟨r, hr⟩ : ∃ r, u.rows[k]? = some r := ⟨_, List.getElem?_eq_getElem hk⟩
    have hrm := List.mem_of_getElem? hr
    have e0 : (0 : Int) + k = (k : Int) := by omega
    rw [e0]
    have hkl : k < A.length := by rw [hL.len]; exact hk
    have wrg : ∀ x ∈ w, x ∈ u.rg := fun x hx => by
      rcases hw with e | ⟨k', _, e⟩
      · rw [e] at hx; simp at hx
      · rw [e] at hx; exact arg k' x hx
    have wlen : w.length ≤ 1000 := by
      rcases hw with e | ⟨k', _, e⟩
      · rw [e]; simp
      · rw [e]; exact alen k'
    walk_at "vc"
    unfold r__law_foes_5
    walk_at "vc"
    refine ⟨by simp, rL_rol (nx ?_)⟩
    unfold r__law_foes_6
    walk_at "vc"
    refine ⟨u, k, r, rfl, hu.ok, hr, nx ?_⟩
    -- the last part: the pairs are put in
    have last : ∀ (nr : List Tp) (w' : List Tx) (z8 z10 : Option D), nr.length ≤ 3000000 → (∀ q, q ∈ nr ↔ Nr u k r w q) → (w' = w ∧ (∀ x ∈ atL A k, x ∈ w) ∨ w' = atL A k) → r__law_foes_17 K { (endOf Q) with nx := Nx, ct := Nx, bk := fun env1 G1 => ∃ env2 G2, Gh env1 G1 env2 G2 ∧ r__law_foes_20 K (endOf Q) env2 G2 } [some u.dct, some (.rol (u.rows.map Rw.d)), some (.rol (lls A)), some (.ref p), some (.rol (txs w')), some (.int k), some (.rol (nr.map tpD)), some (optD r.giv), z8, none, z10, none, z12] (updG G p (.dtt (pks K1))) := by
      intro nr w' z8 z10 hnl hnr hw'
      have nrg : ∀ q ∈ nr, q.1 ∈ u.rg ∧ q.2 ∈ u.rg := fun q hq => by
        rcases (hnr q).mp hq with ⟨g, h1, t, _, y, h3, rfl⟩ | ⟨x, h1, y, h2, rfl⟩ | ⟨_, x, h1, y, h2, _, rfl⟩
        · rw [hA] at h3; exact ⟨hu.ok.gv r hrm g h1, arg t y h3⟩
        · rw [hA] at h2; exact ⟨hu.ok.mks r hrm x h1, arg k y h2⟩
        · rw [hA] at h1 h2; exact ⟨arg k x h1, arg k y h2⟩
      unfold r__law_foes_17
      refine for_items (nr.map tpD) (fun j env G' => ∃ K2 z12, env = [some u.dct, some (.rol (u.rows.map Rw.d)), some (.rol (lls A)), some (.ref p), some (.rol (txs w')), some (.int k), some (.rol (nr.map tpD)), some (optD r.giv), z8, none, z10, none, z12] ∧ G' = updG G p (.dtt (pks K2)) ∧ K2.Nodup ∧ (∀ q ∈ K2, q.1 ∈ u.rg ∧ q.2 ∈ u.rg) ∧ ∀ q, q ∈ K2 ↔ q ∈ K1 ∨ ∃ s ∈ nr.take j, s.1 ≠ s.2 ∧ q = upr s.1 s.2) (fun R h => ?_) ?_ ?_
      · walk_at "vc"
        exact h _ ⟨K1, _, rfl, rfl, nd1, in1, by simp⟩
      · rintro j d env G' Nx' hd ⟨K2, z12, rfl, rfl, nd2, in2, mem2⟩ nxt'
        rw [List.getElem?_map] at hd
        cases hs : nr[j]? with
        | none => rw [hs] at hd; cases hd
        | some s =>
          rw [hs] at hd
          cases hd
          have tk : nr.take (j + 1) = nr.take j ++ [s] := by rw [List.take_succ, hs]; rfl
          have hsr := nrg s (List.mem_of_getElem? hs)
          walk_at "vc"
          unfold r__law_foes_18
          walk_at "vc"
          unfold tpD
          refine it_tup (i := 0) rfl (it_tup (i := 1) rfl (ne_str ?_))
          by_cases he : s.1 = s.2
          · rw [decide_eq_true he]
            refine nxt' _ _ ⟨K2, _, rfl, rfl, nd2, in2, fun q => ?_⟩
            rw [mem2, tk]
            constructor
            · rintro (h | ⟨s', h1, h2, h3⟩)
              · exact .inl h
              · exact .inr ⟨s', List.mem_append_left _ h1, h2, h3⟩
            · rintro (h | ⟨s', h1, h2, h3⟩)
              · exact .inl h
              · rcases List.mem_append.mp h1 with h1 | h1
                · exact .inr ⟨s', h1, h2, h3⟩
                · rw [List.mem_singleton] at h1; rw [h1] at h2; exact absurd he h2
          · rw [decide_eq_false he]
            show r__law_foes_19 K _ _ _
            unfold r__law_foes_19
            walk_at "vc"
            refine it_tup (i := 0) rfl (it_tup (i := 1) rfl ?_)
            have fin : rSet (.ref p) (tpD (upr s.1 s.2)) (.bl true) (updG G p (.dtt (pks K2))) fun G3 => Nx' [some u.dct, some (.rol (u.rows.map Rw.d)), some (.rol (lls A)), some (.ref p), some (.rol (txs w')), some (.int k), some (.rol (nr.map tpD)), some (optD r.giv), z8, none, z10, none, some (.tup [.str s.1, .str s.2])] G3 := by
              refine put_pks upd_at (pairs_len nd2 in2 hu.ok.rsz) (nxt' _ _ ⟨_, _, rfl, by rw [upd_upd], ins_nodup nd2, fun q hq => ?_, fun q => ?_⟩)
              · rcases ins_mem.mp hq with h | h
                · exact in2 q h
                · rw [h]; exact upr_in hsr.1 hsr.2
              · rw [ins_mem, mem2, tk]
                constructor
                · rintro ((h | ⟨s', h1, h2, h3⟩) | h)
                  · exact .inl h
                  · exact .inr ⟨s', List.mem_append_left _ h1, h2, h3⟩
                  · exact .inr ⟨s, by simp, he, h⟩
                · rintro (h | ⟨s', h1, h2, h3⟩)
                  · exact .inl (.inl h)
                  · rcases List.mem_append.mp h1 with h1 | h1
                    · exact .inl (.inr ⟨s', h1, h2, h3⟩)
                    · rw [List.mem_singleton] at h1; rw [h1] at h3; exact .inr h3
            have fin2 : ([D.str (upr s.1 s.2).1, D.str (upr s.1 s.2).2] : List D).length ≤ sizeLine ∧ _ := ⟨by simp [sizeLine_eq], fin⟩
            exact min_str (it_tup (i := 0) rfl (it_tup (i := 1) rfl (max_str fin2)))
      · rintro env G' ⟨K2, z12, rfl, rfl, nd2, in2, mem2⟩
        rw [List.length_map, List.take_length] at mem2
        refine nxt _ _ ⟨K2, w', _, _, _, _, _, _, rfl, rfl, nd2, in2, fun q => ?_, ?_⟩
        · rw [mem2, mem1]
          constructor
          · rintro (⟨k', r', h1, h2, h3⟩ | ⟨s, h1, h2, h3⟩)
            · exact ⟨k', r', by omega, h2, h3⟩
            · refine ⟨k, r, by omega, hr, ?_⟩
              rcases (hnr s).mp h1 with ⟨g, g1, t, g2, y, g3, rfl⟩ | ⟨x, g1, y, g2, rfl⟩ | ⟨_, x, g1, y, g2, _, rfl⟩
              · refine ⟨g, y, fun e => h2 e.symm, h3, .inr ⟨?_, ?_⟩⟩
                · rw [giv_made g1]; simp
                · exact (giv_oth (u := u) (L := alvOf u) (k := k) (y := y) g1).mpr ⟨t, g2, g3⟩
              · refine ⟨x, y, fun e => h2 e.symm, h3, .inr ⟨?_, ?_⟩⟩
                · cases r <;> first | exact g1 | simp [Rw.mks] at g1
                · cases r <;> first | exact g2 | simp [Rw.mks] at g1
              · exact ⟨x, y, fun e => h2 e.symm, h3, Or.inl ⟨g1, g2⟩⟩
          · rintro ⟨k', r', h1, h2, h3⟩
            by_cases ek : k' = k
            · subst ek
              rw [hr] at h2; cases h2
              obtain ⟨a, b, h4, h5, ⟨h6, h7⟩ | ⟨h6, h7⟩⟩ := h3
              · by_cases hc : ∃ x ∈ atL (alvOf u) k', x ∉ w
                · rcases lt_or_gt (Ne.symm h4) with z | z
                  · exact .inr ⟨(a, b), (hnr _).mpr (.inr (.inr ⟨hc, a, h6, b, h7, z, rfl⟩)), Ne.symm h4, h5⟩
                  · exact .inr ⟨(b, a), (hnr _).mpr (.inr (.inr ⟨hc, b, h7, a, h6, z, rfl⟩)), h4, by rw [h5]; exact upr_comm (Ne.symm h4)⟩
                · have sub : ∀ x ∈ atL (alvOf u) k', x ∈ w := fun x hx => by
                    by_cases z : x ∈ w
                    · exact z
                    · exact absurd ⟨x, hx, z⟩ hc
                  rcases hw with e | ⟨k2, hk2, e⟩
                  · have := sub a h6
                    rw [e] at this
                    simp at this
                  · obtain ⟨r2, hr2⟩ : ∃ r, u.rows[k2]? = some r := ⟨_, List.getElem?_eq_getElem (by omega)⟩
                    have ha := sub a h6
                    have hb := sub b h7
                    rw [e, ← hA] at ha hb
                    exact .inl ⟨k2, r2, hk2, hr2, a, b, h4, h5, .inl ⟨ha, hb⟩⟩
              · refine .inr ⟨(a, b), (hnr _).mpr ?_, Ne.symm h4, h5⟩
                cases r with
                | mark r0 prs f1 f2 ns ls => exact .inr (.inl ⟨a, h6, b, h7, rfl⟩)
                | _ =>
                  obtain ⟨t, h8, h9⟩ := h7
                  exact .inl ⟨a, by simpa [Rw.made] using h6, t, h8, b, h9, rfl⟩
            · exact .inl ⟨k', r', by omega, h2, h3⟩
        · rcases hw' with ⟨h1, h2⟩ | h1
          · rcases hw with e | ⟨k2, h3, e⟩
            · exact .inl (h1.trans e)
            · exact .inr ⟨k2, by omega, h1.trans e⟩
          · exact .inr ⟨k, by omega, h1⟩
    have rest13 : ∀ (nr : List Tp) (z8 z10 : Option D), nr.length ≤ 1100000 → (∀ q, q ∈ nr ↔ (∃ g, r.giv = some g ∧ ∃ t ∈ stp r k, ∃ y ∈ atL (alvOf u) t, q = (g, y)) ∨ (∃ x ∈ r.mks, ∃ y ∈ atL (alvOf u) k, q = (x, y))) → r__law_foes_13 K { (endOf Q) with nx := Nx, ct := Nx, bk := fun env1 G1 => ∃ env2 G2, Gh env1 G1 env2 G2 ∧ r__law_foes_20 K (endOf Q) env2 G2 } [some u.dct, some (.rol (u.rows.map Rw.d)), some (.rol (lls A)), some (.ref p), some (.rol (txs w)), some (.int k), some (.rol (nr.map tpD)), some (optD r.giv), z8, none, z10, none, z12] (updG G p (.dtt (pks K1))) := by
      intro nr z8 z10 hnl hnr
      unfold r__law_foes_13
      walk_at "vc"
      refine lc_filter (atL A k) D.str D.str (fun x => !decide (x ∈ w)) (alen k) (fun R h => ?_) (fun x G' P' hx hP' => ?_) (fun x G' P' hx hP' => ?_) ?_
      · walk_at "vc"
        exact it_lls hkl h
      · walk_at "vc"
        exact in_txs hP'
      · walk_at "vc"
        exact hP'
      refine ⟨by simp, rL_rol (ne_nil (fun x hx => wn x (arg k x (List.mem_filter.mp hx).1)) ?_)⟩
      by_cases hc : (atL A k).filter (fun x => !decide (x ∈ w)) = []
      · rw [decide_eq_true hc]
        have sub : ∀ x ∈ atL A k, x ∈ w := fun x hx => by
          by_cases z : x ∈ w
          · exact z
          · have : x ∈ (atL A k).filter (fun x => !decide (x ∈ w)) := List.mem_filter.mpr ⟨hx, by simp [z]⟩
            rw [hc] at this
            simp at this
        refine nx (last nr w z8 z10 (by omega) (fun q => ?_) (.inl ⟨rfl, sub⟩))
        rw [hnr]
        unfold Nr
        constructor
        · rintro (h | h)
          · exact .inl h
          · exact .inr (.inl h)
        · rintro (h | h | ⟨⟨x, h1, h2⟩, _⟩)
          · exact .inl h
          · exact .inr h
          · rw [hA] at h1; exact absurd (sub x h1) h2
      · rw [decide_eq_false hc]
        have ex : ∃ x ∈ atL (alvOf u) k, x ∉ w := by
          obtain ⟨x, hx⟩ := List.exists_mem_of_ne_nil _ hc
          obtain ⟨h1, h2⟩ := List.mem_filter.mp hx
          rw [hA]
          exact ⟨x, h1, by simpa using h2⟩
        show r__law_foes_14 K _ _ _
        unfold r__law_foes_14
        walk_at "vc"
        refine it_lls hkl (nx ?_)
        unfold r__law_foes_15
        refine for_items (txs (atL A k)) (fun j env G' => ∃ (nr2 : List Tp) (z10 : Option D), env = [some u.dct, some (.rol (u.rows.map Rw.d)), some (.rol (lls A)), some (.ref p), some (.rol (txs (atL A k))), some (.int k), some (.rol (nr2.map tpD)), some (optD r.giv), z8, none, z10, none, z12] ∧ G' = updG G p (.dtt (pks K1)) ∧ nr2.length ≤ 1100000 + j * 1000 ∧ ∀ q, q ∈ nr2 ↔ q ∈ nr ∨ ∃ x ∈ (atL A k).take j, ∃ y ∈ atL A k, x < y ∧ q = (x, y)) (fun R h => ?_) ?_ ?_
        · walk_at "vc"
          exact h _ ⟨nr, _, rfl, rfl, by omega, by simp⟩
        · rintro j d env G' Nx' hd ⟨nr2, z10, rfl, rfl, hl2, mem2⟩ nxt'
          unfold txs at hd
          rw [List.getElem?_map] at hd
          cases hx : (atL A k)[j]? with
          | none => rw [hx] at hd; cases hd
          | some x =>
            rw [hx] at hd
            cases hd
            have tk : (atL A k).take (j + 1) = (atL A k).take j ++ [x] := by rw [List.take_succ, hx]; rfl
            have hj := (List.getElem?_eq_some_iff.mp hx).1
            have := alen k
            have fl := List.length_filter_le (fun y => decide (x < y)) (atL A k)
            walk_at "vc"
            unfold r__law_foes_16
            walk_at "vc"
            refine lc_filter (atL A k) D.str (fun y => tpD (x, y)) (fun y => decide (x < y)) (alen k) (fun R h => ?_) (fun y G' P' hy hP' => ?_) (fun y G' P' hy hP' => ?_) ?_
            · walk_at "vc"
              exact h
            · walk_at "vc"
              exact hP'
            · walk_at "vc"
              exact ⟨by simp [sizeLine_eq], hP'⟩
            have e5 : ((atL A k).filter fun y => decide (x < y)).map (fun y => tpD (x, y)) = (((atL A k).filter fun y => decide (x < y)).map fun y => (x, y)).map tpD := by rw [List.map_map]; rfl
            rw [e5]
            refine add_tps (by rw [List.length_append, List.length_map, sizeLine_eq]; omega) (nxt' _ _ ⟨_, _, rfl, rfl, by rw [List.length_append, List.length_map]; omega, fun q => ?_⟩)
            rw [List.mem_append, mem2, tk]
            constructor
            · rintro ((h | ⟨x', h1, h2⟩) | h)
              · exact .inl h
              · exact .inr ⟨x', List.mem_append_left _ h1, h2⟩
              · obtain ⟨y, hy, rfl⟩ := List.mem_map.mp h
                obtain ⟨h1, h2⟩ := List.mem_filter.mp hy
                exact .inr ⟨x, by simp, y, h1, by simpa using h2, rfl⟩
            · rintro (h | ⟨x', h1, y, h2, h3, h4⟩)
              · exact .inl (.inl h)
              · rcases List.mem_append.mp h1 with h1 | h1
                · exact .inl (.inr ⟨x', h1, y, h2, h3, h4⟩)
                · rw [List.mem_singleton] at h1
                  subst h1
                  exact .inr (List.mem_map.mpr ⟨y, List.mem_filter.mpr ⟨h2, by simpa using h3⟩, h4.symm⟩)
        · rintro env G' ⟨nr2, z10, rfl, rfl, hl2, mem2⟩
          rw [txs_len] at hl2
          rw [txs_len, List.take_length] at mem2
          refine nx (last nr2 (atL A k) _ _ (by have := alen k; omega) (fun q => ?_) (.inr rfl))
          rw [mem2, hnr]
          unfold Nr
          rw [hA]
          constructor
          · rintro ((h | h) | ⟨x, h1, y, h2, h3, h4⟩)
            · exact .inl h
            · exact .inr (.inl h)
            · rw [hA] at ex; exact .inr (.inr ⟨ex, x, h1, y, h2, h3, h4⟩)
          · rintro (h | h | ⟨_, h⟩)
            · exact .inl (.inl h)
            · exact .inl (.inr h)
            · exact .inr h
    have mkn : r.mks.length ≤ 1000 := by
      have := hu.ok.rws r hrm
      cases r <;> first | exact this.2 | simp [Rw.mks]
    have rest10 : ∀ (nr : List Tp) (z8 : Option D), nr.length ≤ 3000 → (∀ q, q ∈ nr ↔ ∃ g, r.giv = some g ∧ ∃ t ∈ stp r k, ∃ y ∈ atL (alvOf u) t, q = (g, y)) → r__law_foes_10 K { (endOf Q) with nx := Nx, ct := Nx, bk := fun env1 G1 => ∃ env2 G2, Gh env1 G1 env2 G2 ∧ r__law_foes_20 K (endOf Q) env2 G2 } [some u.dct, some (.rol (u.rows.map Rw.d)), some (.rol (lls A)), some (.ref p), some (.rol (txs w)), some (.int k), some (.rol (nr.map tpD)), some (optD r.giv), z8, none, z10, none, z12] (updG G p (.dtt (pks K1))) := by
      intro nr z8 hnl hnr
      unfold r__law_foes_10
      walk_at "vc"
      refine it_rol (map_at hr) ?_
      have plain : r.mks = [] → ∃ env2 G2, Gh [some u.dct, some (.rol (u.rows.map Rw.d)), some (.rol (lls A)), some (.ref p), some (.rol (txs w)), some (.int k), some (.rol (nr.map tpD)), some (optD r.giv), z8, none, z10, none, z12] (updG G p (.dtt (pks K1))) env2 G2 ∧ r__law_foes_13 K { (endOf Q) with nx := Nx, ct := Nx, bk := fun env1 G1 => ∃ env2 G2, Gh env1 G1 env2 G2 ∧ r__law_foes_20 K (endOf Q) env2 G2 } env2 G2 := fun e => nx (rest13 nr z8 z10 (by omega) fun q => by rw [hnr, e]; simp)
      cases hrr : r with
      | mark r0 prs f1 f2 ns ls =>
        unfold Rw.d
        walk_at "ev"
        unfold r__law_foes_11
        rw [hrr] at hr rest13 hnr mkn
        refine for_items (txs ns) (fun j env G' => ∃ (nr2 : List Tp) (z10 : Option D), env = [some u.dct, some (.rol (u.rows.map Rw.d)), some (.rol (lls A)), some (.ref p), some (.rol (txs w)), some (.int k), some (.rol (nr2.map tpD)), some (optD (Rw.mark r0 prs f1 f2 ns ls).giv), z8, none, z10, none, z12] ∧ G' = updG G p (.dtt (pks K1)) ∧ nr2.length ≤ 3000 + j * 1000 ∧ ∀ q, q ∈ nr2 ↔ q ∈ nr ∨ ∃ x ∈ ns.take j, ∃ y ∈ atL A k, q = (x, y)) (fun R h => ?_) ?_ ?_
        · walk_at "vc"
          refine it_rol (map_at hr) ?_
          walk_at "ev"
          exact h _ ⟨nr, _, rfl, rfl, by omega, by simp⟩
        · rintro j d env G' Nx' hd ⟨nr2, z10, rfl, rfl, hl2, mem2⟩ nxt'
          unfold txs at hd
          rw [List.getElem?_map] at hd
          cases hx : ns[j]? with
          | none => rw [hx] at hd; cases hd
          | some x =>
            rw [hx] at hd
            cases hd
            have tk : ns.take (j + 1) = ns.take j ++ [x] := by rw [List.take_succ, hx]; rfl
            have hj := (List.getElem?_eq_some_iff.mp hx).1
            have hnl2 : ns.length ≤ 1000 := mkn
            have := alen k
            walk_at "vc"
            unfold r__law_foes_12
            walk_at "vc"
            refine lc_mapL (atL A k) D.str (fun y => tpD (x, y)) (le_sz (by omega)) (fun R h => ?_) (fun y G' P' hy hP' => ?_) ?_
            · walk_at "vc"
              exact it_lls hkl h
            · walk_at "vc"
              exact ⟨by simp [sizeLine_eq], hP'⟩
            have e5 : (atL A k).map (fun y => tpD (x, y)) = ((atL A k).map fun y => (x, y)).map tpD := by rw [List.map_map]; rfl
            rw [e5]
            refine add_tps (by rw [List.length_append, List.length_map, sizeLine_eq]; omega) (nxt' _ _ ⟨_, _, rfl, rfl, by rw [List.length_append, List.length_map]; omega, fun q => ?_⟩)
            rw [List.mem_append, mem2, tk]
            constructor
            · rintro ((h | ⟨x', h1, h2⟩) | h)
              · exact .inl h
              · exact .inr ⟨x', List.mem_append_left _ h1, h2⟩
              · obtain ⟨y, hy, rfl⟩ := List.mem_map.mp h
                exact .inr ⟨x, by simp, y, hy, rfl⟩
            · rintro (h | ⟨x', h1, y, h2, h4⟩)
              · exact .inl (.inl h)
              · rcases List.mem_append.mp h1 with h1 | h1
                · exact .inl (.inr ⟨x', h1, y, h2, h4⟩)
                · rw [List.mem_singleton] at h1
                  subst h1
                  exact .inr (List.mem_map.mpr ⟨y, h2, h4.symm⟩)
        · rintro env G' ⟨nr2, z10, rfl, rfl, hl2, mem2⟩
          have hnl2 : ns.length ≤ 1000 := mkn
          rw [txs_len] at hl2
          rw [txs_len, List.take_length] at mem2
          refine nx (rest13 nr2 _ _ (by omega) fun q => ?_)
          rw [mem2, hnr, hA]
          exact Iff.rfl
      | _ =>
        unfold Rw.d
        walk_at "ev"
        rw [hrr] at plain
        exact plain rfl
    unfold r__law_foes_7
    walk_at "vc"
    cases hgv : r.giv with
    | none =>
      rw [hgv] at rest10
      refine nx (rest10 [] z8 (by simp) fun q => by simp)
    | some g =>
      rw [hgv] at rest10
      show r__law_foes_8 K _ _ _
      unfold r__law_foes_8
      have al2 : (aft r k).length ≤ 2 := by
        cases r with
        | test r c a => show (if a = k + 1 then [k + 1] else [k + 1, a]).length ≤ 2; split <;> simp
        | _ => simp [aft, stp]
      refine for_items (nats (aft r k)) (fun j env G' => ∃ (nr2 : List Tp) (z8 : Option D), env = [some u.dct, some (.rol (u.rows.map Rw.d)), some (.rol (lls A)), some (.ref p), some (.rol (txs w)), some (.int k), some (.rol (nr2.map tpD)), some (.str g), z8, none, z10, none, z12] ∧ G' = updG G p (.dtt (pks K1)) ∧ nr2.length ≤ j * 1000 ∧ ∀ q, q ∈ nr2 ↔ ∃ t ∈ (aft r k).take j, ∃ y ∈ atL A t, q = (g, y)) (fun R h => ?_) ?_ ?_
      · walk_at "vc"
        exact ⟨u.rows, k, r, rfl, hr, h _ ⟨[], _, rfl, rfl, by simp, by simp⟩⟩
      · rintro j d env G' Nx' hd ⟨nr2, z8, rfl, rfl, hl2, mem2⟩ nxt'
        unfold nats at hd
        rw [List.getElem?_map] at hd
        cases ht : (aft r k)[j]? with
        | none => rw [ht] at hd; cases hd
        | some t =>
          rw [ht] at hd
          cases hd
          have tk : (aft r k).take (j + 1) = (aft r k).take j ++ [t] := by rw [List.take_succ, ht]; rfl
          have hts : t ∈ stp r k := mem_aft.mp (List.mem_of_getElem? ht)
          have htl : t < A.length := by rw [hL.len]; exact hu.ok.go k r hr t hts
          have hj := (List.getElem?_eq_some_iff.mp ht).1
          have := alen t
          walk_at "vc"
          unfold r__law_foes_9
          walk_at "vc"
          refine lc_mapL (atL A t) D.str (fun y => tpD (g, y)) (le_sz (by omega)) (fun R h => ?_) (fun y G' P' hy hP' => ?_) ?_
          · walk_at "vc"
            exact it_lls htl h
          · walk_at "vc"
            exact ⟨by simp [sizeLine_eq], hP'⟩
          have e5 : (atL A t).map (fun y => tpD (g, y)) = ((atL A t).map fun y => (g, y)).map tpD := by rw [List.map_map]; rfl
          rw [e5]
          refine add_tps (by rw [List.length_append, List.length_map, sizeLine_eq]; omega) (nxt' _ _ ⟨_, _, rfl, rfl, by rw [List.length_append, List.length_map]; omega, fun q => ?_⟩)
          rw [List.mem_append, mem2, tk]
          constructor
          · rintro (⟨t', h1, h2⟩ | h)
            · exact ⟨t', List.mem_append_left _ h1, h2⟩
            · obtain ⟨y, hy, rfl⟩ := List.mem_map.mp h
              exact ⟨t, by simp, y, hy, rfl⟩
          · rintro ⟨t', h1, y, h2, h4⟩
            rcases List.mem_append.mp h1 with h1 | h1
            · exact .inl ⟨t', h1, y, h2, h4⟩
            · rw [List.mem_singleton] at h1
              subst h1
              exact .inr (List.mem_map.mpr ⟨y, h2, h4.symm⟩)
      · rintro env G' ⟨nr2, z8, rfl, rfl, hl2, mem2⟩
        have el : (nats (aft r k)).length = (aft r k).length := by simp [nats]
        rw [el] at hl2
        rw [el, List.take_length] at mem2
        refine nx (rest10 nr2 _ (by omega) fun q => ?_)
        rw [mem2, hA]
        constructor
        · rintro ⟨t, h1, h2⟩; exact ⟨g, rfl, t, mem_aft.mp h1, h2⟩
        · rintro ⟨g', e, t, h1, h2⟩; cases e; exact ⟨t, mem_aft.mpr h1, h2⟩
  · rintro env G' ⟨K1, w, z5, z6, z7, z8, z10, z12, rfl, rfl, nd1, in1, mem1, hw⟩
    refine nxlw (G2 := G) 3 (a := p) rfl (.dtt upd_at) (by rw [del_upd hp]; exact .refl) ?_
    unfold r__law_foes_20
    walk_at "vc"
    have mem : ∀ q, q ∈ K1 ↔ Foe u q := fun q => by
      rw [mem1]
      constructor
      · rintro ⟨k, r, h1, h2, a, b, h3, h4, h5⟩; exact ⟨k, r, a, b, h2, h3, h4, h5⟩
      · rintro ⟨k, r, a, b, h2, h3, h4, h5⟩; exact ⟨k, r, (List.getElem?_eq_some_iff.mp h2).1, h2, a, b, h3, h4, h5⟩
    refine lc_mapL K1 tpD tpD (Nat.le_of_lt (pairs_len nd1 in1 hu.ok.rsz)) (fun R h => ?_) (fun y G' P' hy hP' => ?_) ?_
    · walk_at "vc"
      show R (jP ((pks K1).map fun kv => D.tup (kv.1.map kD))) G
      rw [pks_keys]
      exact h
    · walk_at "vc"
      exact hP'
    refine ⟨_, .li (.li (.rol _)), ?_, ?_, ?_⟩
    · rw [List.length_map]
      exact Nat.le_of_lt (pairs_len nd1 in1 hu.ok.rsz)
    · exact .tps fun q hq => ⟨fun c hc => (hu.ok.wn _ (in1 q hq).1 c hc).1, fun c hc => (hu.ok.wn _ (in1 q hq).2 c hc).1⟩
    · rw [srt_tp]
      exact rL_ret (hP K1 nd1 mem)
end My

set_option Elab.async false
set_option linter.all false
set_option autoImplicit false
set_option maxRecDepth 100000
set_option maxHeartbeats 2000000
namespace My
open PySem PySem.Spec PyProof.Rows Vc
local macro_rules | `(tactic| walk_at "vc") => `(tactic| (try dsimp only [gSeq, gMake, gSFld, gAsg, gName, gRet, gRetN, gIfS, gDrop, gNext, gBreak, gCont, gVar, gC, gOp, gB, gCh, gAnd, gOr, gNot, gAndV, gOrV, gNotV, gIf, gTru, gNil, gCons, gTup, gLst, gFld, gCall, gBm, gCut, gNoPart, gPart, gIsa, gIsO, gNeg, gYes, gGSub, gIterA, gGTup, gGCons, gGNil, gRng1, gRng2, gRev, gRvR1, gRvR2, Tg.put, setAll, wipeE, List.set, List.getElem?_cons_zero, List.getElem?_cons_succ]))
local macro_rules | `(tactic| walk_at "ev") => `(tactic| (try simp [ev_add_i, ev_add_s, ev_sub, ev_mul, ev_fdiv, ev_mod, ev_pow, ev_lt, ev_le, ev_gt, ev_lts, ev_gts, ev_ge, ev_eq_i, ev_eq_s, ev_eq_b, ev_is, ev_isnt, isN, ev_it_t, ev_it_r, ev_it_k, ev_at, ev_in_t, ev_in_r, ev_in_k, sizeLine_eq, L2.atI, L2.ixN, D.fl, inD, feq, S_return, S_fail, S_jump, S_test, S_set, S_put, S_swap, S_choose, S_call, S_mark, S_cell, S_var, S_num, S_len, S_cmp, S_either, S_all, S_match, S_sorted, S_below, S_list]))
local macro_rules | `(tactic| walk_at "is") => `(tactic| (try simp only [isa_tuple_non, isa_tuple_bl, isa_tuple_int, isa_tuple_str, isa_tuple_tup, isa_tuple_rol, isa_list_non, isa_list_bl, isa_list_int, isa_list_str, isa_list_tup, isa_list_rol, isa_bool_non, isa_bool_bl, isa_bool_int, isa_bool_str, isa_bool_tup, isa_bool_rol, isa_int_non, isa_int_bl, isa_int_int, isa_int_str, isa_int_tup, isa_int_rol, isa_str_non, isa_str_bl, isa_str_int, isa_str_str, isa_str_tup, isa_str_rol, rTru, ev_eq_b, ev_eq_i, ev_eq_s, id, Bool.not_true, Bool.not_false, decide_true, decide_false, reduceCtorEq, Bool.false_eq_true, Bool.true_eq_false]))
local macro_rules | `(tactic| walk_at "ev") => `(tactic| (try simp [ev_add_i, ev_add_s, ev_sub, ev_mul, ev_fdiv, ev_mod, ev_pow, ev_lt, ev_le, ev_gt, ev_lts, ev_gts, ev_ge, ev_eq_i, ev_eq_s, ev_eq_b, ev_is, ev_isnt, isN, ev_it_t, ev_it_r, ev_it_k, ev_at, ev_in_t, ev_in_r, ev_in_k, sizeLine_eq, L2.atI, L2.ixN, D.fl, inD, feq, S_return, S_fail, S_jump, S_test, S_set, S_put, S_swap, S_choose, S_call, S_mark, S_cell, S_var, S_num, S_len, S_cmp, S_either, S_all, S_match, S_sorted, S_below, S_list]))
theorem sm_txs {G : Hg} {n : Nat} {x y : D} {xs : List Tx} (h1 : IsLi G x (txs xs)) (h2 : IsLi G y (txs xs)) (hl : xs.length ≤ 1000) : Sm G (n + 2) x y :=
  .lst h1 h2 rfl (by rw [txs_len]; omega) fun i a b e1 e2 => by
    rw [e1] at e2; cases e2
    unfold txs at e1
    rw [List.getElem?_map] at e1
    cases hx : xs[i]? with
    | none => rw [hx] at e1; cases e1
    | some s => rw [hx] at e1; cases e1; exact .str _ _
theorem sm_opt {G : Hg} {n : Nat} {o : Option Tx} : Sm G (n + 1) (optD o) (optD o) := by
  cases o
  · exact .non _
  · exact .str _ _
theorem foe_rg {u : Un} (hu : u.ok) (hL : LOk u (alvOf u)) {q : Tp} (h : Foe u q) : q.1 ∈ u.rg ∧ q.2 ∈ u.rg := by
  obtain ⟨k, r, a, b, hr, _, rfl, ⟨h1, h2⟩ | ⟨h1, h2⟩⟩ := h
  · exact upr_in ((hL.at_ (k := k)).2 a h1) ((hL.at_ (k := k)).2 b h2)
  · refine upr_in (made_rg hu hr a h1) ?_
    cases r with
    | mark => exact (hL.at_ (k := k)).2 b h2
    | _ => obtain ⟨t, _, h3⟩ := h2; exact (hL.at_ (k := t)).2 b h3
theorem lok_alv {u : Un} (hu : u.ok) : LOk u (alvOf u) := by
  classical
  refine ⟨by simp [alvOf], fun l hl => ?_, fun l hl x hx => ?_⟩
  · obtain ⟨k, _, rfl⟩ := List.mem_map.mp hl
    exact srtT_nodup (hu.nd.filter _)
  · obtain ⟨k, _, rfl⟩ := List.mem_map.mp hl
    rw [mem_srtT, List.mem_filter] at hx
    exact hx.1
theorem vc__law_told_rightly {K : PySem.W.Frag} (ds : List D) (G : Hg) (Q : KD) (h : sp__law_told_rightly ds G Q) : r__law_told_rightly K (endOf Q) (startD N__law_told_rightly ds) G := by
  obtain ⟨u, rfl, hu, hP⟩ := h
  let n := u.rows.length
  have hn : n ≤ 1000 := hu.ok.sz
  have hL := lok_alv hu.ok
  show r__law_told_rightly K (endOf Q) [some u.obj, some u.dct, none, none, none, none, none, none] G
  unfold r__law_told_rightly
  walk_at "vc"
  refine it_rdc rfl (len_rol ?_)
  rw [List.length_map]
  refine nx ?_
  unfold r__law_told_rightly_1
  walk_at "vc"
  refine for_range 0 n (fun i env G' => ∃ z3 z4, env = [some u.obj, some u.dct, some (.int n), z3, z4, none, none, none]) (fun R h => ?_) ?_ ?_
  · walk_at "vc"
    show (-(2 ^ 62) ≤ ((n : Nat) : Int) ∧ ((n : Nat) : Int) < 2 ^ 62 ∧ R (jR 0 ((n : Nat) : Int).toNat) G)
    rw [Int.toNat_natCast]
    exact ⟨by omega, by omega, h _ ⟨_, _, rfl⟩⟩
  · rintro k env G' Nx hk ⟨z3, z4, rfl⟩ nxt
    obtain ⟨r, hr⟩ : ∃ r, u.rows[k]? = some r := ⟨_, List.getElem?_eq_getElem hk⟩
    have e0 : (0 : Int) + k = (k : Int) := by omega
    rw [e0]
    walk_at "vc"
    unfold r__law_told_rightly_2
    walk_at "vc"
    have rl : (rds u.rg r).length ≤ 1000 := by
      show (srtT _).length ≤ 1000
      rw [srtT_len]
      exact Nat.le_trans (List.length_filter_le _ _) hu.ok.rsz
    refine ⟨u, k, r, rfl, hu.ok, hr, rL_ref fun p hp => nx ?_⟩
    unfold r__law_told_rightly_3
    walk_at "vc"
    refine ⟨u, k, r, rfl, hu, hr, rL_rol ⟨_, _, rfl, sm_txs (n := 10) (.ref upd_at) (.rol _) rl, ?_⟩⟩
    walk_at "is"
    refine ⟨u, k, r, rfl, hu.ok, hr, u, k, r, rfl, hu.ok, hr, _, _, rfl, sm_opt (n := 11), ?_⟩
    walk_at "is"
    refine nx ?_
    unfold r__law_told_rightly_5
    walk_at "vc"
    exact ⟨⟨_, upd_at⟩, _, upd_at, by rw [txs_len, sizeLine_eq]; omega, fun G3 e3 => nxt _ _ ⟨_, _, rfl⟩⟩
  · rintro env G' ⟨z3, z4, rfl⟩
    refine nx ?_
    unfold r__law_told_rightly_6
    walk_at "vc"
    refine ⟨u, rfl, hu.ok, fun pa as G1 kp hpa hA => nx ?_⟩
    unfold r__law_told_rightly_7
    walk_at "vc"
    refine ⟨u, rfl, hu.ok, fun K1 nd1 mem1 => rL_ref fun pp hpp => nx ?_⟩
    have in1 : ∀ q ∈ K1, q.1 ∈ u.rg ∧ q.2 ∈ u.rg := fun q hq => foe_rg hu.ok hL ((mem1 q).mp hq)
    have kl : K1.length < sizeLine := pairs_len nd1 in1 hu.ok.rsz
    unfold r__law_told_rightly_8
    walk_at "vc"
    refine ⟨u, rfl, hu, fun G2 kp2 => ?_⟩
    have hA2 := hA.kp ((Kp.new (o := .lst ((srtP K1).map tpD)) hpp).trans kp2)
    have hpp2 : G2 pp = some (.lst ((srtP K1).map tpD)) := kp2 pp _ upd_at
    have nap : ∀ i a, as[i]? = some a → a ≠ pp := fun i a h e => by
      subst e
      have hi := (List.getElem?_eq_some_iff.mp h).1
      rw [hA.at_ i a _ h (List.getElem?_eq_getElem (by rw [← hA.len]; exact hi))] at hpp
      cases hpp
    have npa : pa ≠ pp := by intro e; subst e; rw [hA.top] at hpp; cases hpp
    have lal : as.length = n := by rw [hA.len, hL.len]
    have alen : ∀ k, (atL (alvOf u) k).length ≤ 1000 := fun k => Nat.le_trans (sub_len (hL.at_ (k := k)).1 (hL.at_ (k := k)).2) hu.ok.rsz
    refine ⟨_, _, rfl, .lst (n := 11) (.ref hA2.top) (.rol _) (by rw [List.length_map, hA2.len]; simp [lls]) (by unfold lls; rw [List.length_map, hL.len]; omega) (fun i x y e1 e2 => ?_), ?_⟩
    · rw [List.getElem?_map] at e1
      unfold lls at e2
      rw [List.getElem?_map] at e2
      cases ha : as[i]? with
      | none => rw [ha] at e1; cases e1
      | some a =>
        rw [ha] at e1; cases e1
        cases hl : (alvOf u)[i]? with
        | none => rw [hl] at e2; cases e2
        | some l =>
          rw [hl] at e2; cases e2
          have el : atL (alvOf u) i = l := by unfold atL; rw [hl]; rfl
          exact sm_txs (n := 9) (.ref (hA2.at_ i a l ha hl)) (.rol _) (by rw [← el]; exact alen i)
    walk_at "is"
    refine ⟨u, rfl, hu, fun K2 nd2 mem2 => rL_rol ?_⟩
    have e12 : srtP K1 = srtP K2 := by
      classical
      exact srtP_of (nodup_perm nd1 nd2 fun q => by rw [mem1, mem2])
    refine ⟨_, _, rfl, ?_, ?_⟩
    · rw [← e12]
      refine .lst (n := 11) (.ref hpp2) (.rol _) rfl (by rw [List.length_map, (srtP_perm K1).length_eq]; rw [sizeLine_eq] at kl; omega) fun i x y e1 e2 => ?_
      rw [e1] at e2; cases e2
      rw [List.getElem?_map] at e1
      cases hq : (srtP K1)[i]? with
      | none => rw [hq] at e1; cases e1
      | some q =>
        rw [hq] at e1; cases e1
        refine .tup (n := 10) rfl (by simp) fun i x y e1 e2 => ?_
        rw [e1] at e2; cases e2
        match i, e1 with
        | 0, e1 => cases e1; exact .str _ _
        | 1, e1 => cases e1; exact .str _ _
        | i + 2, e1 => simp at e1
    walk_at "is"
    refine nx ?_
    unfold r__law_told_rightly_10
    walk_at "vc"
    refine for_ref pa (as.map D.ref) (fun j env G' => ∃ z7, env = [some u.obj, some u.dct, some (.int n), z3, z4, some (.ref pa), some (.ref pp), z7] ∧ G' pa = some (.lst (as.map D.ref)) ∧ G' pp = some (.lst ((srtP K1).map tpD)) ∧ ∀ (i : Nat) (a : Addr), as[i]? = some a → ∃ xs : List D, G' a = some (.lst xs) ∧ xs.length ≤ 1000 + j) (fun j env G' ⟨z7, _, e, _⟩ => e) (fun R h => ?_) ?_ ?_
    · walk_at "vc"
      refine ⟨⟨_, hA2.top⟩, h _ ⟨_, rfl, hA2.top, hpp2, fun i a ha => ?_⟩⟩
      have hi := (List.getElem?_eq_some_iff.mp ha).1
      have hl := List.getElem?_eq_getElem (l := alvOf u) (i := i) (by rw [← hA.len]; exact hi)
      refine ⟨_, hA2.at_ i a _ ha hl, ?_⟩
      have el : atL (alvOf u) i = (alvOf u)[i]'(by rw [← hA.len]; exact hi) := by unfold atL; rw [hl]; rfl
      rw [txs_len, ← el]
      exact alen i
    · rintro j d env G' Nx hd ⟨z7, rfl, h1, h2, h3⟩ nxt
      rw [List.getElem?_map] at hd
      cases ha : as[j]? with
      | none => rw [ha] at hd; cases hd
      | some a =>
        rw [ha] at hd; cases hd
        have hj := (List.getElem?_eq_some_iff.mp ha).1
        obtain ⟨xs, hx, hl⟩ := h3 j a ha
        walk_at "vc"
        unfold r__law_told_rightly_11
        walk_at "vc"
        refine ⟨⟨_, hx⟩, _, hx, by rw [sizeLine_eq]; omega, fun G3 e3 => nxt _ _ ⟨_, rfl, ?_, ?_, fun i b hb => ?_⟩⟩
        · rw [e3, upd_off (Ne.symm (hA2.ne ha))]; exact h1
        · rw [e3, upd_off (Ne.symm (nap j a ha))]; exact h2
        · by_cases e : b = a
          · subst e
            exact ⟨_, by rw [e3, upd_at], by rw [List.length_append]; simp; omega⟩
          · obtain ⟨ys, hy, hl2⟩ := h3 i b hb
            exact ⟨ys, by rw [e3, upd_off e]; exact hy, by omega⟩
    · rintro env G' ⟨z7, rfl, h1, h2, h3⟩
      refine nx ?_
      unfold r__law_told_rightly_12
      walk_at "vc"
      refine ⟨⟨_, h1⟩, by simp, rL_rol ⟨_, h1, by rw [List.length_map, lal, sizeLine_eq]; omega, fun G3 e3 => nx ?_⟩⟩
      have h4 : G3 pp = some (.lst ((srtP K1).map tpD)) := by rw [e3, upd_off (Ne.symm npa)]; exact h2
      unfold r__law_told_rightly_13
      walk_at "vc"
      refine ⟨⟨_, h4⟩, by simp [sizeLine_eq], _, h4, ?_, by omega, by omega, fun G4 e4 => nx ?_⟩
      · rw [List.length_map, (srtP_perm K1).length_eq]; exact kl
      unfold r__law_told_rightly_14
      walk_at "vc"
      exact .inl (hP _)
end My

set_option Elab.async false
set_option linter.all false
set_option autoImplicit false
set_option maxRecDepth 100000
set_option maxHeartbeats 2000000
namespace My
open PySem PySem.Spec PyProof.Rows L2 Vc
def Bx (G : Hg) (b c : Addr) : Prop := b ≠ c ∧ ∃ (xs : List Int) (i j k : Int), G b = some (.lst [.ref c, .int i, .int j, .int k]) ∧ G c = some (.lst (xs.map .int)) ∧ xs.length ≤ 16777216
structure BT (b c : Addr) (G G' : Hg) : Prop where
  bx : Bx G' b c
  kp : ∀ a o, a ≠ b → a ≠ c → G a = some o → G' a = some o
def sp__law_box : Spg := fun ds G P => ∃ xs : List Int, ds = [.kol (xs.map .int)] ∧ xs.length ≤ 16777216 ∧ ∀ b c G', Bx G' b c → P (.ref b) G'
def sp__law_next : Spg := fun ds G P => ∃ (b c : Addr) (m : Int), ds = [.ref b, .int m] ∧ Bx G b c ∧ 0 < m ∧ m < 1000000 ∧ ∀ (n : Nat) (G' : Hg), (n : Int) < m → BT b c G G' → P (.int n) G'
def N__law_box : List Str := ["script"]
def G__law_box (K : PySem.W.Frag) : Tb := ⟨K, [], [], [], []⟩
def r__law_box (K : PySem.W.Frag) : TSg := (gRet (gLst (gCons (gCall bList (gCons (gVar 0) gNil)) (gCons (gC (.int 0)) (gCons (gC (.int 1)) (gCons (gC (.int 0)) gNil))))))
theorem rd__law_box (K : PySem.W.Frag) : body (G__law_box K) N__law_box d__law_box.scope d__law_box.body = r__law_box K := by kernel_rfl
def N__law_next : List Str := ["box", "many", "cell", "digit", "mixed"]
def G__law_next (K : PySem.W.Frag) : Tb := ⟨K, [], [], [], []⟩
def r__law_next_5 (K : PySem.W.Frag) : TSg := (gAsg (gVar 2) (gGSub (gVar 0) (gC (.int 1))))
def r__law_next_4 (K : PySem.W.Frag) : TSg := (gIfS (gB (gOp rGe (gVar 2) (gOp rPow (gC (.int 10)) (gC (.int 18))))) (r__law_next_5 K) gNext)
def r__law_next_3 (K : PySem.W.Frag) : TSg := gSeq (gAsg (gOp rMod (gCall bInt (gCons (gOp rAdd (gOp rAdd (gOp rMul (gOp rItem (gVar 0) (gC (.int 2))) (gC (.int 69621))) (gOp rMod (gCall bInt (gCons (gVar 2) gNil)) (gC (.int 2147483629)))) (gC (.int 7))) gNil)) (gC (.int 2147483629))) (gGSub (gVar 0) (gC (.int 2)))) (r__law_next_4 K)
def r__law_next_2 (K : PySem.W.Frag) : TSg := gSeq (gAsg (gBm isLst mPop (gOp rItem (gVar 0) (gC (.int 0))) (gCons (gC (.int 0)) gNil)) (gName 2)) (r__law_next_3 K)
def r__law_next_9 (K : PySem.W.Frag) : TSg := (gRet (gVar 3))
def r__law_next_8 (K : PySem.W.Frag) : TSg := gSeq (gAsg (gOp rFdiv (gOp rItem (gVar 0) (gC (.int 1))) (gVar 1)) (gGSub (gVar 0) (gC (.int 1)))) (r__law_next_9 K)
def r__law_next_7 (K : PySem.W.Frag) : TSg := gSeq (gAsg (gOp rMod (gCall bInt (gCons (gOp rItem (gVar 0) (gC (.int 1))) gNil)) (gVar 1)) (gName 3)) (r__law_next_8 K)
def r__law_next_12 (K : PySem.W.Frag) : TSg := (gRet (gOp rMod (gOp rFdiv (gVar 4) (gC (.int 8))) (gVar 1)))
def r__law_next_11 (K : PySem.W.Frag) : TSg := gSeq (gAsg (gOp rMod (gCall bInt (gCons (gOp rAdd (gOp rMul (gOp rItem (gVar 0) (gC (.int 2))) (gC (.int 69621))) (gOp rFdiv (gOp rItem (gVar 0) (gC (.int 2))) (gC (.int 4096)))) gNil)) (gC (.int 2147483629))) (gName 4)) (r__law_next_12 K)
def r__law_next_10 (K : PySem.W.Frag) : TSg := gSeq (gAsg (gOp rMod (gCall bInt (gCons (gOp rAdd (gOp rAdd (gOp rMul (gOp rItem (gVar 0) (gC (.int 2))) (gC (.int 48271))) (gOp rMul (gOp rItem (gVar 0) (gC (.int 3))) (gC (.int 131)))) (gC (.int 5))) gNil)) (gC (.int 2147483647))) (gGSub (gVar 0) (gC (.int 2)))) (r__law_next_11 K)
def r__law_next_6 (K : PySem.W.Frag) : TSg := gSeq (gIfS (gB (gOp rGt (gOp rItem (gVar 0) (gC (.int 1))) (gC (.int 0)))) (r__law_next_7 K) gNext) (r__law_next_10 K)
def r__law_next_1 (K : PySem.W.Frag) : TSg := gSeq (gIfS (gAnd (gB (gOp rEq (gOp rItem (gVar 0) (gC (.int 1))) (gC (.int 0)))) (gB (gOp rGt (gCall bLen (gCons (gOp rItem (gVar 0) (gC (.int 0))) gNil)) (gC (.int 0))))) (r__law_next_2 K) gNext) (r__law_next_6 K)
def r__law_next (K : PySem.W.Frag) : TSg := gSeq (gAsg (gOp rAdd (gOp rItem (gVar 0) (gC (.int 3))) (gC (.int 1))) (gGSub (gVar 0) (gC (.int 3)))) (r__law_next_1 K)
theorem rd__law_next (K : PySem.W.Frag) : body (G__law_next K) N__law_next d__law_next.scope d__law_next.body = r__law_next K := by kernel_rfl
end My

set_option Elab.async false
set_option linter.all false
set_option autoImplicit false
set_option maxRecDepth 100000
set_option maxHeartbeats 2000000
namespace My
open PySem PySem.Spec PyProof.Rows Vc
local macro_rules | `(tactic| walk_at "vc") => `(tactic| (try dsimp only [gSeq, gMake, gSFld, gAsg, gName, gRet, gRetN, gIfS, gDrop, gNext, gBreak, gCont, gVar, gC, gOp, gB, gCh, gAnd, gOr, gNot, gAndV, gOrV, gNotV, gIf, gTru, gNil, gCons, gTup, gLst, gFld, gCall, gBm, gCut, gNoPart, gPart, gIsa, gIsO, gNeg, gYes, gGSub, gIterA, gGTup, gGCons, gGNil, gRng1, gRng2, gRev, gRvR1, gRvR2, Tg.put, setAll, wipeE, List.set, List.getElem?_cons_zero, List.getElem?_cons_succ]))
local macro_rules | `(tactic| walk_at "ev") => `(tactic| (try simp [ev_add_i, ev_add_s, ev_sub, ev_mul, ev_fdiv, ev_mod, ev_pow, ev_lt, ev_le, ev_gt, ev_lts, ev_gts, ev_ge, ev_eq_i, ev_eq_s, ev_eq_b, ev_is, ev_isnt, isN, ev_it_t, ev_it_r, ev_it_k, ev_at, ev_in_t, ev_in_r, ev_in_k, sizeLine_eq, L2.atI, L2.ixN, D.fl, inD, feq, S_return, S_fail, S_jump, S_test, S_set, S_put, S_swap, S_choose, S_call, S_mark, S_cell, S_var, S_num, S_len, S_cmp, S_either, S_all, S_match, S_sorted, S_below, S_list]))
local macro_rules | `(tactic| walk_at "is") => `(tactic| (try simp only [isa_tuple_non, isa_tuple_bl, isa_tuple_int, isa_tuple_str, isa_tuple_tup, isa_tuple_rol, isa_list_non, isa_list_bl, isa_list_int, isa_list_str, isa_list_tup, isa_list_rol, isa_bool_non, isa_bool_bl, isa_bool_int, isa_bool_str, isa_bool_tup, isa_bool_rol, isa_int_non, isa_int_bl, isa_int_int, isa_int_str, isa_int_tup, isa_int_rol, isa_str_non, isa_str_bl, isa_str_int, isa_str_str, isa_str_tup, isa_str_rol, rTru, ev_eq_b, ev_eq_i, ev_eq_s, id, Bool.not_true, Bool.not_false, decide_true, decide_false, reduceCtorEq, Bool.false_eq_true, Bool.true_eq_false]))
local macro_rules | `(tactic| walk_at "ev") => `(tactic| (try simp [ev_add_i, ev_add_s, ev_sub, ev_mul, ev_fdiv, ev_mod, ev_pow, ev_lt, ev_le, ev_gt, ev_lts, ev_gts, ev_ge, ev_eq_i, ev_eq_s, ev_eq_b, ev_is, ev_isnt, isN, ev_it_t, ev_it_r, ev_it_k, ev_at, ev_in_t, ev_in_r, ev_in_k, sizeLine_eq, L2.atI, L2.ixN, D.fl, inD, feq, S_return, S_fail, S_jump, S_test, S_set, S_put, S_swap, S_choose, S_call, S_mark, S_cell, S_var, S_num, S_len, S_cmp, S_either, S_all, S_match, S_sorted, S_below, S_list]))
theorem BT.refl {b c : Addr} {G : Hg} (h : Bx G b c) : BT b c G G := ⟨h, fun _ _ _ _ e => e⟩
theorem BT.trans {b c : Addr} {G G1 G2 : Hg} (h : BT b c G G1) (k : BT b c G1 G2) : BT b c G G2 := ⟨k.bx, fun a o h1 h2 e => k.kp a o h1 h2 (h.kp a o h1 h2 e)⟩
theorem vc__law_box {K : PySem.W.Frag} (ds : List D) (G : Hg) (Q : KD) (h : sp__law_box ds G Q) : r__law_box K (endOf Q) (startD N__law_box ds) G := by
  obtain ⟨xs, rfl, hl, hP⟩ := h
  show r__law_box K (endOf Q) [some (.kol (xs.map .int))] G
  unfold r__law_box
  walk_at "vc"
  refine ⟨_, .lk (.kol _), rL_ref fun c hc => ⟨by simp [sizeLine_eq], rL_ref fun b hb => .inl (hP b c _ ⟨?_, xs, 0, 1, 0, upd_at, ?_, hl⟩)⟩⟩
  · intro e; subst e; rw [upd_at] at hb; cases hb
  · have : c ≠ b := by intro e; subst e; rw [upd_at] at hb; cases hb
    rw [upd_off this, upd_at]
theorem set_ref {a : Addr} {xs : List D} {i : Nat} {v : D} {G : Hg} {P : Hg → Prop} (hg : G a = some (.lst xs)) (hi : i < xs.length) (p : P (updG G a (.lst (xs.set i v)))) : rSet (.ref a) (.int (i : Int)) v G P :=
  ⟨_, hg, i, by unfold L2.ixN; rw [if_pos (by omega), if_pos (by omega)]; simp, fun G' e => by rw [e]; exact p⟩
theorem Bx.put {G : Hg} {b c : Addr} {xs : List Int} {l : List D} (hne : b ≠ c) (h2 : G c = some (.lst (xs.map .int))) : (updG G b (.lst l)) b = some (.lst l) ∧ (updG G b (.lst l)) c = some (.lst (xs.map .int)) := ⟨upd_at, by rw [upd_off (Ne.symm hne)]; exact h2⟩
theorem vc__law_next {K : PySem.W.Frag} (ds : List D) (G : Hg) (Q : KD) (h : sp__law_next ds G Q) : r__law_next K (endOf Q) (startD N__law_next ds) G := by
  obtain ⟨b, c, m, rfl, ⟨hne, xs, i, j, k, hb, hc, hl⟩, hm0, hm1, hP⟩ := h
  show r__law_next K (endOf Q) [some (.ref b), some (.int m), none, none, none] G
  -- a heap that differs at the box alone
  have bt : ∀ (G' : Hg) (xs' : List Int) (i' j' k' : Int), (∀ a, a ≠ b → a ≠ c → G' a = G a) → G' b = some (.lst [.ref c, .int i', .int j', .int k']) → G' c = some (.lst (xs'.map .int)) → xs'.length ≤ 16777216 → BT b c G G' := fun G' xs' i' j' k' h1 h2 h3 h4 => ⟨⟨hne, xs', i', j', k', h2, h3, h4⟩, fun a o e1 e2 e3 => by rw [h1 a e1 e2]; exact e3⟩
  -- the end, from any box
  have tail : ∀ (G' : Hg) (xs' : List Int) (i' j' k' : Int) (z2 z3 : Option D), (∀ a, a ≠ b → a ≠ c → G' a = G a) → G' b = some (.lst [.ref c, .int i', .int j', .int k']) → G' c = some (.lst (xs'.map .int)) → xs'.length ≤ 16777216 → r__law_next_10 K (endOf Q) [some (.ref b), some (.int m), z2, z3, none] G' := by
    intro G' xs' i' j' k' z2 z3 h1 h2 h3 h4
    unfold r__law_next_10
    walk_at "vc"
    refine it_ref (i := 2) h2 rfl (mul_i (.inr (by decide)) (it_ref (i := 3) h2 rfl (mul_i (.inr (by decide)) (add_i (add_i (int_int (mod_i (by decide) ?_)))))))
    refine set_ref (i := 2) h2 (by simp) (nx ?_)
    unfold r__law_next_11
    walk_at "vc"
    refine it_ref (i := 2) upd_at rfl (mul_i (.inr (by decide)) (it_ref (i := 2) upd_at rfl (div_i ⟨by decide, by decide⟩ (add_i (int_int (mod_i (by decide) (nx ?_)))))))
    unfold r__law_next_12
    walk_at "vc"
    refine div_i ⟨by decide, by decide⟩ (mod_i hm0 (.inl ?_))
    have e : ∀ z : Int, ∃ n : Nat, (n : Int) < m ∧ z % m = n := fun z => ⟨(z % m).toNat, by have := Int.emod_nonneg z (by omega : m ≠ 0); have := Int.emod_lt_of_pos z hm0; omega, by have := Int.emod_nonneg z (by omega : m ≠ 0); omega⟩
    obtain ⟨r, hr, er⟩ := e _
    rw [er]
    exact hP r _ hr (bt _ xs' _ _ _ (fun a e1 e2 => by rw [upd_off e1]; exact h1 a e1 e2) upd_at (by rw [upd_off (Ne.symm hne)]; exact h3) h4)
  have mid : ∀ (G' : Hg) (xs' : List Int) (i' j' k' : Int) (z2 : Option D), (∀ a, a ≠ b → a ≠ c → G' a = G a) → G' b = some (.lst [.ref c, .int i', .int j', .int k']) → G' c = some (.lst (xs'.map .int)) → xs'.length ≤ 16777216 → r__law_next_6 K (endOf Q) [some (.ref b), some (.int m), z2, none, none] G' := by
    intro G' xs' i' j' k' z2 h1 h2 h3 h4
    unfold r__law_next_6
    walk_at "vc"
    refine it_ref (i := 1) h2 rfl ?_
    rw [ev_gt]
    by_cases hi : 0 < i'
    · rw [decide_eq_true hi]
      show r__law_next_7 K _ _ _
      unfold r__law_next_7
      walk_at "vc"
      refine it_ref (i := 1) h2 rfl (int_int (mod_i hm0 (nx ?_)))
      unfold r__law_next_8
      walk_at "vc"
      refine it_ref (i := 1) h2 rfl (div_i ⟨hm0, by omega⟩ (set_ref (i := 1) h2 (by simp) (nx ?_)))
      unfold r__law_next_9
      walk_at "vc"
      have e : ∀ z : Int, ∃ n : Nat, (n : Int) < m ∧ z % m = n := fun z => ⟨(z % m).toNat, by have := Int.emod_nonneg z (by omega : m ≠ 0); have := Int.emod_lt_of_pos z hm0; omega, by have := Int.emod_nonneg z (by omega : m ≠ 0); omega⟩
      obtain ⟨r, hr, er⟩ := e i'
      rw [er]
      exact .inl (hP r _ hr (bt _ xs' _ _ _ (fun a e1 e2 => by rw [upd_off e1]; exact h1 a e1 e2) upd_at (by rw [upd_off (Ne.symm hne)]; exact h3) h4))
    · rw [decide_eq_false hi]
      exact nx (tail G' xs' i' j' k' _ _ h1 h2 h3 h4)
  unfold r__law_next
  walk_at "vc"
  refine it_ref (i := 3) hb rfl ?_
  refine set_ref (i := 3) hb (by simp) (nx ?_)
  have h1 : ∀ a, a ≠ b → a ≠ c → updG G b (.lst [.ref c, .int i, .int j, .int (k + 1)]) a = G a := fun a e1 e2 => upd_off e1
  have h3 : updG G b (.lst [.ref c, .int i, .int j, .int (k + 1)]) c = some (.lst (xs.map .int)) := by rw [upd_off (Ne.symm hne)]; exact hc
  generalize hG1 : updG G b (.lst [.ref c, .int i, .int j, .int (k + 1)]) = G1 at h1 h3
  have h2 : G1 b = some (.lst [.ref c, .int i, .int j, .int (k + 1)]) := by rw [← hG1, upd_at]
  show r__law_next_1 K (endOf Q) [some (.ref b), some (.int m), none, none, none] (updG G b (.lst [.ref c, .int i, .int j, .int (k + 1)]))
  rw [hG1]
  unfold r__law_next_1
  walk_at "vc"
  refine it_ref (i := 1) h2 rfl (eq_int ?_)
  by_cases hi : i = 0
  · rw [decide_eq_true hi]
    refine it_ref (i := 0) h2 rfl (len_li (.ref h3) ?_)
    rw [ev_gt, List.length_map]
    cases hxs : xs with
    | nil =>
      exact nx (mid G1 xs i j (k + 1) none h1 h2 h3 hl)
    | cons x xs' =>
      rw [hxs] at h3 hl
      rw [decide_eq_true (by simp)]
      show r__law_next_2 K _ _ _
      unfold r__law_next_2
      walk_at "vc"
      refine it_ref (i := 0) h2 rfl ⟨⟨_, h3⟩, _, 0, .int x, h3, by decide, by simp [seqIndex?], rfl, fun G2 e2 => nx ?_⟩
      have g1 : ∀ a, a ≠ b → a ≠ c → G2 a = G a := fun a e1 e2' => by rw [e2, upd_off e2']; exact h1 a e1 e2'
      have g2 : G2 b = some (.lst [.ref c, .int i, .int j, .int (k + 1)]) := by rw [e2, upd_off hne]; exact h2
      have g3 : G2 c = some (.lst (xs'.map .int)) := by rw [e2, upd_at]; rfl
      have g4 : xs'.length ≤ 16777216 := by simp at hl; omega
      unfold r__law_next_3
      walk_at "vc"
      refine it_ref (i := 2) g2 rfl (mul_i (.inr (by decide)) (int_int (mod_i (by decide) (add_i (add_i (int_int (mod_i (by decide) (set_ref (i := 2) g2 (by simp) (nx ?_)))))))))
      unfold r__law_next_4
      walk_at "vc"
      refine pow_i ⟨by decide, by decide, by decide⟩ (ge_i ?_)
      by_cases hx : (10 : Int) ^ (18 : Int).toNat ≤ x
      · rw [decide_eq_true hx]
        show r__law_next_5 K _ _ _
        unfold r__law_next_5
        walk_at "vc"
        refine set_ref (i := 1) upd_at (by simp) (nx ?_)
        rw [upd_upd]
        exact mid _ xs' _ _ _ _ (fun a e1 e2' => by rw [upd_off e1]; exact g1 a e1 e2') upd_at (by rw [upd_off (Ne.symm hne)]; exact g3) g4
      · rw [decide_eq_false hx]
        refine nx ?_
        exact mid _ xs' _ _ _ _ (fun a e1 e2' => by rw [upd_off e1]; exact g1 a e1 e2') upd_at (by rw [upd_off (Ne.symm hne)]; exact g3) g4
  · rw [decide_eq_false hi]
    exact nx (mid G1 xs i j (k + 1) none h1 h2 h3 hl)
end My

set_option Elab.async false
set_option linter.all false
set_option autoImplicit false
set_option maxRecDepth 100000
set_option maxHeartbeats 2000000
namespace My
open PySem PySem.Spec PyProof.Rows L2 Vc
structure IsV (G : Hg) (x : D) (N L : List Tx) (o : Bool) : Prop where
  ex : ∃ kvs, IsDi G x kvs ∧ dget kvs (sk S_numbers) = some (.rol (txs N)) ∧ dget kvs (sk S_lists) = some (.rol (txs L)) ∧ dget kvs (sk S_old) = some (.bl o)
  nl : N.length ≤ 1000
  ll : L.length ≤ 1000
def PlIn (N L : List Tx) : Pl → Prop
  | .num _ => True
  | .var x _ => x ∈ N
  | .len x _ => x ∈ L
def TmIn (N L : List Tx) : Tm → Prop
  | .pl p => PlIn N L p
  | .cell x _ i _ => x ∈ L ∧ PlIn N L i
def sgs : List Tx := [S_60, S_60_61, S_62, S_62_61, S_61_61, S_33_61]
def CmIn (N L : List Tx) (c : Cm) : Prop := c.sg ∈ sgs ∧ TmIn N L c.a ∧ TmIn N L c.b
def PrIn (N L : List Tx) : Pr → Prop
  | .cmp c => CmIn N L c
  | .either a b => CmIn N L a ∧ CmIn N L b
  | .all x _ lo hi sg q => x ∈ L ∧ PlIn N L lo ∧ PlIn N L hi ∧ sg ∈ sgs ∧ PlIn N L q
  | .mat x _ lo hi sg y _ _ => x ∈ L ∧ PlIn N L lo ∧ PlIn N L hi ∧ sg ∈ sgs ∧ y ∈ L
  | .sor x _ lo hi => x ∈ L ∧ PlIn N L lo ∧ PlIn N L hi
  | .bel x _ lo hi y _ a b => x ∈ L ∧ PlIn N L lo ∧ PlIn N L hi ∧ y ∈ L ∧ PlIn N L a ∧ PlIn N L b
def sp__law_plain_drawn : Spg := fun ds G P => ∃ (b c : Addr) (x : D) (N L : List Tx) (o : Bool), ds = [.ref b, x] ∧ Bx G b c ∧ IsV G x N L o ∧ ∀ (p : Pl) (G' : Hg), PlIn N L p → BT b c G G' → P p.d G'
def sp__law_list_drawn : Spg := fun ds G P => ∃ (b c : Addr) (x : D) (N L : List Tx) (o : Bool), ds = [.ref b, x] ∧ Bx G b c ∧ IsV G x N L o ∧ L ≠ [] ∧ ∀ (y : Tx) (q : Bool) (G' : Hg), y ∈ L → BT b c G G' → P (oneD y q) G'
def sp__law_term_drawn : Spg := fun ds G P => ∃ (b c : Addr) (x : D) (N L : List Tx) (o : Bool), ds = [.ref b, x] ∧ Bx G b c ∧ IsV G x N L o ∧ ∀ (p : Tm) (G' : Hg), TmIn N L p → BT b c G G' → P p.d G'
def sp__law_cmp_drawn : Spg := fun ds G P => ∃ (b c : Addr) (x : D) (N L : List Tx) (o : Bool), ds = [.ref b, x] ∧ Bx G b c ∧ IsV G x N L o ∧ ∀ (p : Cm) (G' : Hg), CmIn N L p → BT b c G G' → P p.d G'
def sp__law_promise_drawn : Spg := fun ds G P => ∃ (b c : Addr) (x : D) (N L : List Tx) (o : Bool), ds = [.ref b, x] ∧ Bx G b c ∧ IsV G x N L o ∧ ∀ (p : Pr) (G' : Hg), PrIn N L p → BT b c G G' → P p.d G'
def N__law_plain_drawn : List Str := ["box", "v", "kind"]
def G__law_plain_drawn (K : PySem.W.Frag) : Tb := ⟨K, [("_law_next", ⟨["box", "many"], sp__law_next⟩)], [], [], []⟩
def r__law_plain_drawn_3 (K : PySem.W.Frag) : TSg := (gRet (gTup (gCons (gC (.str S_len)) (gCons (gOp rItem (gOp rItem (gVar 1) (gC (.str S_lists))) (gCall sp__law_next (gCons (gVar 0) (gCons (gCall bLen (gCons (gOp rItem (gVar 1) (gC (.str S_lists))) gNil)) gNil)))) (gCons (gOp rSub (gCall sp__law_next (gCons (gVar 0) (gCons (gC (.int 5)) gNil))) (gC (.int 2))) gNil)))))
def r__law_plain_drawn_4 (K : PySem.W.Frag) : TSg := (gRet (gTup (gCons (gC (.str S_num)) (gCons (gOp rSub (gCall sp__law_next (gCons (gVar 0) (gCons (gC (.int 9)) gNil))) (gC (.int 4))) gNil))))
def r__law_plain_drawn_2 (K : PySem.W.Frag) : TSg := gSeq (gIfS (gAnd (gB (gOp rNe (gOp rItem (gVar 1) (gC (.str S_lists))) (gLst gNil))) (gB (gOp rGt (gVar 2) (gC (.int 2))))) (r__law_plain_drawn_3 K) gNext) (r__law_plain_drawn_4 K)
def r__law_plain_drawn_6 (K : PySem.W.Frag) : TSg := (gRet (gTup (gCons (gC (.str S_len)) (gCons (gOp rItem (gOp rItem (gVar 1) (gC (.str S_lists))) (gCall sp__law_next (gCons (gVar 0) (gCons (gCall bLen (gCons (gOp rItem (gVar 1) (gC (.str S_lists))) gNil)) gNil)))) (gCons (gOp rSub (gCall sp__law_next (gCons (gVar 0) (gCons (gC (.int 5)) gNil))) (gC (.int 2))) gNil)))))
def r__law_plain_drawn_7 (K : PySem.W.Frag) : TSg := (gRet (gTup (gCons (gC (.str S_var)) (gCons (gOp rItem (gOp rItem (gVar 1) (gC (.str S_numbers))) (gCall sp__law_next (gCons (gVar 0) (gCons (gCall bLen (gCons (gOp rItem (gVar 1) (gC (.str S_numbers))) gNil)) gNil)))) (gCons (gOp rItem (gTup (gCons (gC (.int 0)) (gCons (gC (.int 0)) (gCons (gC (.int 1)) (gCons (gNeg (gC (.int 1))) (gCons (gC (.int 2)) gNil)))))) (gCall sp__law_next (gCons (gVar 0) (gCons (gC (.int 5)) gNil)))) gNil)))))
def r__law_plain_drawn_5 (K : PySem.W.Frag) : TSg := gSeq (gIfS (gAnd (gB (gOp rEq (gVar 2) (gC (.int 1)))) (gB (gOp rNe (gOp rItem (gVar 1) (gC (.str S_lists))) (gLst gNil)))) (r__law_plain_drawn_6 K) gNext) (r__law_plain_drawn_7 K)
def r__law_plain_drawn_1 (K : PySem.W.Frag) : TSg := gSeq (gIfS (gOr (gB (gOp rEq (gVar 2) (gC (.int 0)))) (gB (gOp rEq (gOp rItem (gVar 1) (gC (.str S_numbers))) (gLst gNil)))) (r__law_plain_drawn_2 K) gNext) (r__law_plain_drawn_5 K)
def r__law_plain_drawn (K : PySem.W.Frag) : TSg := gSeq (gAsg (gCall sp__law_next (gCons (gVar 0) (gCons (gC (.int 5)) gNil))) (gName 2)) (r__law_plain_drawn_1 K)
theorem rd__law_plain_drawn (K : PySem.W.Frag) : body (G__law_plain_drawn K) N__law_plain_drawn d__law_plain_drawn.scope d__law_plain_drawn.body = r__law_plain_drawn K := by kernel_rfl
def N__law_list_drawn : List Str := ["box", "v"]
def G__law_list_drawn (K : PySem.W.Frag) : Tb := ⟨K, [("_law_next", ⟨["box", "many"], sp__law_next⟩)], [], [], []⟩
def r__law_list_drawn (K : PySem.W.Frag) : TSg := (gRet (gTup (gCons (gOp rItem (gOp rItem (gVar 1) (gC (.str S_lists))) (gCall sp__law_next (gCons (gVar 0) (gCons (gCall bLen (gCons (gOp rItem (gVar 1) (gC (.str S_lists))) gNil)) gNil)))) (gCons (gAndV (gOp rItem (gVar 1) (gC (.str S_old))) (gOp rEq (gCall sp__law_next (gCons (gVar 0) (gCons (gC (.int 3)) gNil))) (gC (.int 0)))) gNil))))
theorem rd__law_list_drawn (K : PySem.W.Frag) : body (G__law_list_drawn K) N__law_list_drawn d__law_list_drawn.scope d__law_list_drawn.body = r__law_list_drawn K := by kernel_rfl
def N__law_term_drawn : List Str := ["box", "v"]
def G__law_term_drawn (K : PySem.W.Frag) : Tb := ⟨K, [("_law_next", ⟨["box", "many"], sp__law_next⟩), ("_law_plain_drawn", ⟨["box", "v"], sp__law_plain_drawn⟩), ("_law_list_drawn", ⟨["box", "v"], sp__law_list_drawn⟩)], [], [], []⟩
def r__law_term_drawn_1 (K : PySem.W.Frag) : TSg := (gRet (gTup (gCons (gC (.str S_cell)) (gCons (gCall sp__law_list_drawn (gCons (gVar 0) (gCons (gVar 1) gNil))) (gCons (gCall sp__law_plain_drawn (gCons (gVar 0) (gCons (gVar 1) gNil))) (gCons (gOp rSub (gCall sp__law_next (gCons (gVar 0) (gCons (gC (.int 3)) gNil))) (gC (.int 1))) gNil))))))
def r__law_term_drawn_2 (K : PySem.W.Frag) : TSg := (gRet (gCall sp__law_plain_drawn (gCons (gVar 0) (gCons (gVar 1) gNil))))
def r__law_term_drawn (K : PySem.W.Frag) : TSg := gSeq (gIfS (gAnd (gB (gOp rNe (gOp rItem (gVar 1) (gC (.str S_lists))) (gLst gNil))) (gB (gOp rEq (gCall sp__law_next (gCons (gVar 0) (gCons (gC (.int 3)) gNil))) (gC (.int 0))))) (r__law_term_drawn_1 K) gNext) (r__law_term_drawn_2 K)
theorem rd__law_term_drawn (K : PySem.W.Frag) : body (G__law_term_drawn K) N__law_term_drawn d__law_term_drawn.scope d__law_term_drawn.body = r__law_term_drawn K := by kernel_rfl
def N__law_cmp_drawn : List Str := ["box", "v", "sign"]
def G__law_cmp_drawn (K : PySem.W.Frag) : Tb := ⟨K, [("_law_next", ⟨["box", "many"], sp__law_next⟩), ("_law_term_drawn", ⟨["box", "v"], sp__law_term_drawn⟩)], [], [], []⟩
def r__law_cmp_drawn_1 (K : PySem.W.Frag) : TSg := (gRet (gTup (gCons (gC (.str S_cmp)) (gCons (gVar 2) (gCons (gCall sp__law_term_drawn (gCons (gVar 0) (gCons (gVar 1) gNil))) (gCons (gCall sp__law_term_drawn (gCons (gVar 0) (gCons (gVar 1) gNil))) gNil))))))
def r__law_cmp_drawn (K : PySem.W.Frag) : TSg := gSeq (gAsg (gOp rItem (gTup (gCons (gC (.str S_60)) (gCons (gC (.str S_60_61)) (gCons (gC (.str S_62)) (gCons (gC (.str S_62_61)) (gCons (gC (.str S_61_61)) (gCons (gC (.str S_33_61)) gNil))))))) (gCall sp__law_next (gCons (gVar 0) (gCons (gC (.int 6)) gNil)))) (gName 2)) (r__law_cmp_drawn_1 K)
theorem rd__law_cmp_drawn (K : PySem.W.Frag) : body (G__law_cmp_drawn K) N__law_cmp_drawn d__law_cmp_drawn.scope d__law_cmp_drawn.body = r__law_cmp_drawn K := by kernel_rfl
def N__law_promise_drawn : List Str := ["box", "v", "kind", "one", "low", "high", "sign"]
def G__law_promise_drawn (K : PySem.W.Frag) : Tb := ⟨K, [("_law_next", ⟨["box", "many"], sp__law_next⟩), ("_law_cmp_drawn", ⟨["box", "v"], sp__law_cmp_drawn⟩), ("_law_list_drawn", ⟨["box", "v"], sp__law_list_drawn⟩), ("_law_plain_drawn", ⟨["box", "v"], sp__law_plain_drawn⟩)], [], [], []⟩
def r__law_promise_drawn_2 (K : PySem.W.Frag) : TSg := (gRet (gCall sp__law_cmp_drawn (gCons (gVar 0) (gCons (gVar 1) gNil))))
def r__law_promise_drawn_4 (K : PySem.W.Frag) : TSg := (gRet (gTup (gCons (gC (.str S_either)) (gCons (gCall sp__law_cmp_drawn (gCons (gVar 0) (gCons (gVar 1) gNil))) (gCons (gCall sp__law_cmp_drawn (gCons (gVar 0) (gCons (gVar 1) gNil))) gNil)))))
def r__law_promise_drawn_10 (K : PySem.W.Frag) : TSg := (gRet (gTup (gCons (gC (.str S_all)) (gCons (gVar 3) (gCons (gVar 4) (gCons (gVar 5) (gCons (gVar 6) (gCons (gCall sp__law_plain_drawn (gCons (gVar 0) (gCons (gVar 1) gNil))) gNil))))))))
def r__law_promise_drawn_12 (K : PySem.W.Frag) : TSg := (gRet (gTup (gCons (gC (.str S_match)) (gCons (gVar 3) (gCons (gVar 4) (gCons (gVar 5) (gCons (gVar 6) (gCons (gCall sp__law_list_drawn (gCons (gVar 0) (gCons (gVar 1) gNil))) (gCons (gOp rSub (gCall sp__law_next (gCons (gVar 0) (gCons (gC (.int 3)) gNil))) (gC (.int 1))) gNil)))))))))
def r__law_promise_drawn_14 (K : PySem.W.Frag) : TSg := (gRet (gTup (gCons (gC (.str S_sorted)) (gCons (gVar 3) (gCons (gVar 4) (gCons (gVar 5) gNil))))))
def r__law_promise_drawn_15 (K : PySem.W.Frag) : TSg := (gRet (gTup (gCons (gC (.str S_below)) (gCons (gVar 3) (gCons (gVar 4) (gCons (gVar 5) (gCons (gCall sp__law_list_drawn (gCons (gVar 0) (gCons (gVar 1) gNil))) (gCons (gCall sp__law_plain_drawn (gCons (gVar 0) (gCons (gVar 1) gNil))) (gCons (gCall sp__law_plain_drawn (gCons (gVar 0) (gCons (gVar 1) gNil))) gNil)))))))))
def r__law_promise_drawn_13 (K : PySem.W.Frag) : TSg := gSeq (gIfS (gB (gOp rEq (gVar 2) (gC (.int 4)))) (r__law_promise_drawn_14 K) gNext) (r__law_promise_drawn_15 K)
def r__law_promise_drawn_11 (K : PySem.W.Frag) : TSg := gSeq (gIfS (gB (gOp rEq (gVar 2) (gC (.int 3)))) (r__law_promise_drawn_12 K) gNext) (r__law_promise_drawn_13 K)
def r__law_promise_drawn_9 (K : PySem.W.Frag) : TSg := gSeq (gIfS (gB (gOp rEq (gVar 2) (gC (.int 2)))) (r__law_promise_drawn_10 K) gNext) (r__law_promise_drawn_11 K)
def r__law_promise_drawn_8 (K : PySem.W.Frag) : TSg := gSeq (gAsg (gOp rItem (gTup (gCons (gC (.str S_60)) (gCons (gC (.str S_60_61)) (gCons (gC (.str S_62)) (gCons (gC (.str S_62_61)) (gCons (gC (.str S_61_61)) (gCons (gC (.str S_33_61)) gNil))))))) (gCall sp__law_next (gCons (gVar 0) (gCons (gC (.int 6)) gNil)))) (gName 6)) (r__law_promise_drawn_9 K)
def r__law_promise_drawn_7 (K : PySem.W.Frag) : TSg := gSeq (gAsg (gCall sp__law_plain_drawn (gCons (gVar 0) (gCons (gVar 1) gNil))) (gName 5)) (r__law_promise_drawn_8 K)
def r__law_promise_drawn_6 (K : PySem.W.Frag) : TSg := gSeq (gAsg (gCall sp__law_plain_drawn (gCons (gVar 0) (gCons (gVar 1) gNil))) (gName 4)) (r__law_promise_drawn_7 K)
def r__law_promise_drawn_5 (K : PySem.W.Frag) : TSg := gSeq (gAsg (gCall sp__law_list_drawn (gCons (gVar 0) (gCons (gVar 1) gNil))) (gName 3)) (r__law_promise_drawn_6 K)
def r__law_promise_drawn_3 (K : PySem.W.Frag) : TSg := gSeq (gIfS (gB (gOp rEq (gVar 2) (gC (.int 1)))) (r__law_promise_drawn_4 K) gNext) (r__law_promise_drawn_5 K)
def r__law_promise_drawn_1 (K : PySem.W.Frag) : TSg := gSeq (gIfS (gOr (gB (gOp rEq (gVar 2) (gC (.int 0)))) (gB (gOp rEq (gOp rItem (gVar 1) (gC (.str S_lists))) (gLst gNil)))) (r__law_promise_drawn_2 K) gNext) (r__law_promise_drawn_3 K)
def r__law_promise_drawn (K : PySem.W.Frag) : TSg := gSeq (gAsg (gCall sp__law_next (gCons (gVar 0) (gCons (gC (.int 6)) gNil))) (gName 2)) (r__law_promise_drawn_1 K)
theorem rd__law_promise_drawn (K : PySem.W.Frag) : body (G__law_promise_drawn K) N__law_promise_drawn d__law_promise_drawn.scope d__law_promise_drawn.body = r__law_promise_drawn K := by kernel_rfl
end My

set_option Elab.async false
set_option linter.all false
set_option autoImplicit false
set_option maxRecDepth 100000
set_option maxHeartbeats 2000000
namespace My
open PySem PySem.Spec PyProof.Rows Vc
local macro_rules | `(tactic| walk_at "vc") => `(tactic| (try dsimp only [gSeq, gMake, gSFld, gAsg, gName, gRet, gRetN, gIfS, gDrop, gNext, gBreak, gCont, gVar, gC, gOp, gB, gCh, gAnd, gOr, gNot, gAndV, gOrV, gNotV, gIf, gTru, gNil, gCons, gTup, gLst, gFld, gCall, gBm, gCut, gNoPart, gPart, gIsa, gIsO, gNeg, gYes, gGSub, gIterA, gGTup, gGCons, gGNil, gRng1, gRng2, gRev, gRvR1, gRvR2, Tg.put, setAll, wipeE, List.set, List.getElem?_cons_zero, List.getElem?_cons_succ]))
local macro_rules | `(tactic| walk_at "ev") => `(tactic| (try simp [ev_add_i, ev_add_s, ev_sub, ev_mul, ev_fdiv, ev_mod, ev_pow, ev_lt, ev_le, ev_gt, ev_lts, ev_gts, ev_ge, ev_eq_i, ev_eq_s, ev_eq_b, ev_is, ev_isnt, isN, ev_it_t, ev_it_r, ev_it_k, ev_at, ev_in_t, ev_in_r, ev_in_k, sizeLine_eq, L2.atI, L2.ixN, D.fl, inD, feq, S_return, S_fail, S_jump, S_test, S_set, S_put, S_swap, S_choose, S_call, S_mark, S_cell, S_var, S_num, S_len, S_cmp, S_either, S_all, S_match, S_sorted, S_below, S_list]))
local macro_rules | `(tactic| walk_at "is") => `(tactic| (try simp only [isa_tuple_non, isa_tuple_bl, isa_tuple_int, isa_tuple_str, isa_tuple_tup, isa_tuple_rol, isa_list_non, isa_list_bl, isa_list_int, isa_list_str, isa_list_tup, isa_list_rol, isa_bool_non, isa_bool_bl, isa_bool_int, isa_bool_str, isa_bool_tup, isa_bool_rol, isa_int_non, isa_int_bl, isa_int_int, isa_int_str, isa_int_tup, isa_int_rol, isa_str_non, isa_str_bl, isa_str_int, isa_str_str, isa_str_tup, isa_str_rol, rTru, ev_eq_b, ev_eq_i, ev_eq_s, id, Bool.not_true, Bool.not_false, decide_true, decide_false, reduceCtorEq, Bool.false_eq_true, Bool.true_eq_false]))
local macro_rules | `(tactic| walk_at "ev") => `(tactic| (try simp [ev_add_i, ev_add_s, ev_sub, ev_mul, ev_fdiv, ev_mod, ev_pow, ev_lt, ev_le, ev_gt, ev_lts, ev_gts, ev_ge, ev_eq_i, ev_eq_s, ev_eq_b, ev_is, ev_isnt, isN, ev_it_t, ev_it_r, ev_it_k, ev_at, ev_in_t, ev_in_r, ev_in_k, sizeLine_eq, L2.atI, L2.ixN, D.fl, inD, feq, S_return, S_fail, S_jump, S_test, S_set, S_put, S_swap, S_choose, S_call, S_mark, S_cell, S_var, S_num, S_len, S_cmp, S_either, S_all, S_match, S_sorted, S_below, S_list]))
theorem BT.ne {b c : Addr} {G G' : Hg} (h : BT b c G G') (hb : Bx G b c) {a : Addr} {kvs : List (DK × D)} (e : G a = some (.dct kvs)) : G' a = some (.dct kvs) := by
  obtain ⟨_, xs, i, j, k, h1, h2, _⟩ := hb
  refine h.kp a _ ?_ ?_ e
  · intro z; subst z; rw [h1] at e; cases e
  · intro z; subst z; rw [h2] at e; cases e
theorem IsDi.bt {b c : Addr} {G G' : Hg} {x : D} {kvs : List (DK × D)} (h : IsDi G x kvs) (hb : Bx G b c) (t : BT b c G G') : IsDi G' x kvs := by
  cases h with
  | rdc => exact .rdc _
  | ref e => exact .ref (t.ne hb e)
theorem IsV.bt {b c : Addr} {G G' : Hg} {x : D} {N L : List Tx} {o : Bool} (h : IsV G x N L o) (hb : Bx G b c) (t : BT b c G G') : IsV G' x N L o := by
  obtain ⟨⟨kvs, h1, h2⟩, n, l⟩ := h
  exact ⟨⟨kvs, IsDi.bt h1 hb t, h2⟩, n, l⟩
theorem it_di {G : Hg} {x : D} {kvs : List (DK × D)} {k : Tx} {d : D} {P : KD} (h : IsDi G x kvs) (e : dget kvs (sk k) = some d) (p : P d G) : rItem x (.str k) G P := by
  cases h with
  | rdc => exact ⟨_, _, rfl, e, p⟩
  | ref g => exact ⟨_, g, _, _, rfl, e, p⟩
theorem IsV.num {G : Hg} {x : D} {N L : List Tx} {o : Bool} {P : KD} (h : IsV G x N L o) (p : P (.rol (txs N)) G) : rItem x (.str S_numbers) G P := by
  obtain ⟨kvs, h1, h2, h3, h4⟩ := h.ex
  exact it_di h1 h2 p
theorem IsV.lis {G : Hg} {x : D} {N L : List Tx} {o : Bool} {P : KD} (h : IsV G x N L o) (p : P (.rol (txs L)) G) : rItem x (.str S_lists) G P := by
  obtain ⟨kvs, h1, h2, h3, h4⟩ := h.ex
  exact it_di h1 h3 p
theorem IsV.old {G : Hg} {x : D} {N L : List Tx} {o : Bool} {P : KD} (h : IsV G x N L o) (p : P (.bl o) G) : rItem x (.str S_old) G P := by
  obtain ⟨kvs, h1, h2, h3, h4⟩ := h.ex
  exact it_di h1 h4 p
theorem eq_nilL {xs : List D} {G : Hg} {P : KD} (p : P (.bl xs.isEmpty) G) : rEq (.rol xs) (.rol []) G P := by
  cases xs with
  | nil => exact .inl ⟨_, _, .self _, .self _, rfl, rfl, p⟩
  | cons x xs => exact .inr ⟨_, _, .li (.rol _), .li (.rol _), by simp, p⟩
theorem ne_nilL {xs : List D} {G : Hg} {P : KD} (p : P (.bl (!xs.isEmpty)) G) : rNe (.rol xs) (.rol []) G P := by
  cases xs with
  | nil => exact .inl ⟨_, _, .self _, .self _, rfl, rfl, p⟩
  | cons x xs => exact .inr ⟨_, _, .li (.rol _), .li (.rol _), by simp, p⟩
theorem txs_emp (xs : List Tx) : (txs xs).isEmpty = xs.isEmpty := by cases xs <;> rfl
theorem nil_lst {G : Hg} {P : KD} (p : P (.rol []) G) : ([] : List D).length ≤ sizeLine ∧ rL [] G P := ⟨by simp, .inl p⟩
theorem nxt_call {b c : Addr} {m : Int} {G : Hg} {P : KD} (hb : Bx G b c) (h0 : 0 < m) (h1 : m < 1000000) (k : ∀ (n : Nat) (G' : Hg), (n : Int) < m → BT b c G G' → P (.int n) G') : sp__law_next [.ref b, .int m] G P := ⟨b, c, m, rfl, hb, h0, h1, k⟩
theorem pick {xs : List Tx} {n : Nat} {G : Hg} {P : KD} (hn : (n : Int) < ((txs xs).length : Int)) (p : ∀ x, x ∈ xs → P (.str x) G) : rItem (.rol (txs xs)) (.int (n : Int)) G P := by
  rw [txs_len] at hn
  have hl : n < xs.length := by omega
  refine it_rol (d := .str xs[n]) ?_ (p _ (List.getElem_mem hl))
  unfold txs
  rw [List.getElem?_map, List.getElem?_eq_getElem hl]
  rfl
theorem vc__law_list_drawn {K : PySem.W.Frag} (ds : List D) (G : Hg) (Q : KD) (h : sp__law_list_drawn ds G Q) : r__law_list_drawn K (endOf Q) (startD N__law_list_drawn ds) G := by
  obtain ⟨b, c, x, N, L, o, rfl, hb, hv, hne, hP⟩ := h
  have hlp : 0 < L.length := List.length_pos_iff.mpr hne
  have hll := hv.ll
  show r__law_list_drawn K (endOf Q) [some (.ref b), some x] G
  unfold r__law_list_drawn
  walk_at "vc"
  refine hv.lis (hv.lis (len_rol (nxt_call hb (by rw [txs_len]; omega) (by rw [txs_len]; omega) fun n G1 hn t1 => pick hn fun y hy => (hv.bt hb t1).old ?_)))
  cases o with
  | true =>
    refine nxt_call t1.bx (by decide) (by decide) fun n2 G2 hn2 t2 => eq_int ?_
    exact ⟨by simp [sizeLine_eq], .inl (hP y _ G2 hy (t1.trans t2))⟩
  | false => exact ⟨by simp [sizeLine_eq], .inl (hP y _ G1 hy t1)⟩
theorem vc__law_plain_drawn {K : PySem.W.Frag} (ds : List D) (G : Hg) (Q : KD) (h : sp__law_plain_drawn ds G Q) : r__law_plain_drawn K (endOf Q) (startD N__law_plain_drawn ds) G := by
  obtain ⟨b, c, x, N, L, o, rfl, hb, hv, hP⟩ := h
  have hll := hv.ll
  have hnl := hv.nl
  show r__law_plain_drawn K (endOf Q) [some (.ref b), some x, none] G
  unfold r__law_plain_drawn
  walk_at "vc"
  refine nxt_call hb (by decide) (by decide) fun k G1 hk t1 => nx ?_
  have hv1 := hv.bt hb t1
  have num : r__law_plain_drawn_4 K (endOf Q) [some (.ref b), some x, some (.int k)] G1 := by
    unfold r__law_plain_drawn_4
    walk_at "vc"
    refine nxt_call t1.bx (by decide) (by decide) fun n2 G2 hn2 t2 => sub_i ⟨by simp [sizeLine_eq], .inl (hP (.num _) G2 trivial (t1.trans t2))⟩
  have len : L ≠ [] → r__law_plain_drawn_3 K (endOf Q) [some (.ref b), some x, some (.int k)] G1 := by
    intro hne
    have hlp : 0 < L.length := List.length_pos_iff.mpr hne
    unfold r__law_plain_drawn_3
    walk_at "vc"
    refine hv1.lis (hv1.lis (len_rol (nxt_call t1.bx (by rw [txs_len]; omega) (by rw [txs_len]; omega) fun n2 G2 hn2 t2 => pick hn2 fun y hy => ?_)))
    refine nxt_call t2.bx (by decide) (by decide) fun n3 G3 hn3 t3 => sub_i ⟨by simp [sizeLine_eq], .inl (hP (.len y _) G3 hy ((t1.trans t2).trans t3))⟩
  have len2 : L ≠ [] → r__law_plain_drawn_6 K (endOf Q) [some (.ref b), some x, some (.int k)] G1 := len
  have var : N ≠ [] → r__law_plain_drawn_7 K (endOf Q) [some (.ref b), some x, some (.int k)] G1 := by
    intro hne
    have hlp : 0 < N.length := List.length_pos_iff.mpr hne
    unfold r__law_plain_drawn_7
    walk_at "vc"
    refine hv1.num (hv1.num (len_rol (nxt_call t1.bx (by rw [txs_len]; omega) (by rw [txs_len]; omega) fun n2 G2 hn2 t2 => pick hn2 fun y hy => ?_)))
    refine ⟨by simp [sizeLine_eq], nxt_call t2.bx (by decide) (by decide) fun n3 G3 hn3 t3 => ?_⟩
    have fin : ∀ z : Int, ([D.str S_var, D.str y, D.int z] : List D).length ≤ sizeLine ∧ rRet Q (.tup [.str S_var, .str y, .int z]) G3 := fun z => ⟨by simp [sizeLine_eq], .inl (hP (.var y z) G3 hy ((t1.trans t2).trans t3))⟩
    match n3, hn3 with
    | 0, _ => exact it_tup (i := 0) rfl (fin _)
    | 1, _ => exact it_tup (i := 1) rfl (fin _)
    | 2, _ => exact it_tup (i := 2) rfl (fin _)
    | 3, _ => exact it_tup (i := 3) rfl (fin _)
    | 4, _ => exact it_tup (i := 4) rfl (fin _)
    | n + 5, h => omega
  have two : r__law_plain_drawn_2 K { (endOf Q) with nx := fun env1 G1 => ∃ env2 G2, Gh env1 G1 env2 G2 ∧ r__law_plain_drawn_5 K (endOf Q) env2 G2 } [some (.ref b), some x, some (.int k)] G1 := by
    unfold r__law_plain_drawn_2
    walk_at "vc"
    refine hv1.lis (nil_lst (ne_nilL ?_))
    rw [txs_emp]
    cases hL : L with
    | nil => exact nx num
    | cons y l =>
      refine gt_i ?_
      by_cases h2 : (2 : Int) < k
      · rw [decide_eq_true h2]; exact len (by rw [hL]; simp)
      · rw [decide_eq_false h2]; exact nx num
  have five : N ≠ [] → r__law_plain_drawn_5 K (endOf Q) [some (.ref b), some x, some (.int k)] G1 := by
    intro hN
    unfold r__law_plain_drawn_5
    walk_at "vc"
    refine eq_int ?_
    by_cases h1 : (k : Int) = 1
    · rw [decide_eq_true h1]
      refine hv1.lis (nil_lst (ne_nilL ?_))
      rw [txs_emp]
      cases hL : L with
      | nil => exact nx (var hN)
      | cons y l => exact len2 (by rw [hL]; simp)
    · rw [decide_eq_false h1]
      exact nx (var hN)
  unfold r__law_plain_drawn_1
  walk_at "vc"
  refine eq_int ?_
  by_cases h0 : (k : Int) = 0
  · rw [decide_eq_true h0]
    exact two
  · rw [decide_eq_false h0]
    refine hv1.num (nil_lst (eq_nilL ?_))
    rw [txs_emp]
    cases hN : N with
    | nil => exact two
    | cons y l => exact nx (five (by rw [hN]; simp))
end My

set_option Elab.async false
set_option linter.all false
set_option autoImplicit false
set_option maxRecDepth 100000
set_option maxHeartbeats 2000000
namespace My
open PySem PySem.Spec PyProof.Rows Vc
local macro_rules | `(tactic| walk_at "vc") => `(tactic| (try dsimp only [gSeq, gMake, gSFld, gAsg, gName, gRet, gRetN, gIfS, gDrop, gNext, gBreak, gCont, gVar, gC, gOp, gB, gCh, gAnd, gOr, gNot, gAndV, gOrV, gNotV, gIf, gTru, gNil, gCons, gTup, gLst, gFld, gCall, gBm, gCut, gNoPart, gPart, gIsa, gIsO, gNeg, gYes, gGSub, gIterA, gGTup, gGCons, gGNil, gRng1, gRng2, gRev, gRvR1, gRvR2, Tg.put, setAll, wipeE, List.set, List.getElem?_cons_zero, List.getElem?_cons_succ]))
theorem pl_call {b c : Addr} {x : D} {N L : List Tx} {o : Bool} {G : Hg} {P : KD} (hb : Bx G b c) (hv : IsV G x N L o) (k : ∀ (p : Pl) (G' : Hg), PlIn N L p → BT b c G G' → P p.d G') : sp__law_plain_drawn [.ref b, x] G P := ⟨b, c, x, N, L, o, rfl, hb, hv, k⟩
theorem li_call {b c : Addr} {x : D} {N L : List Tx} {o : Bool} {G : Hg} {P : KD} (hb : Bx G b c) (hv : IsV G x N L o) (hl : L ≠ []) (k : ∀ (y : Tx) (q : Bool) (G' : Hg), y ∈ L → BT b c G G' → P (oneD y q) G') : sp__law_list_drawn [.ref b, x] G P := ⟨b, c, x, N, L, o, rfl, hb, hv, hl, k⟩
theorem tm_call {b c : Addr} {x : D} {N L : List Tx} {o : Bool} {G : Hg} {P : KD} (hb : Bx G b c) (hv : IsV G x N L o) (k : ∀ (p : Tm) (G' : Hg), TmIn N L p → BT b c G G' → P p.d G') : sp__law_term_drawn [.ref b, x] G P := ⟨b, c, x, N, L, o, rfl, hb, hv, k⟩
theorem cm_call {b c : Addr} {x : D} {N L : List Tx} {o : Bool} {G : Hg} {P : KD} (hb : Bx G b c) (hv : IsV G x N L o) (k : ∀ (p : Cm) (G' : Hg), CmIn N L p → BT b c G G' → P p.d G') : sp__law_cmp_drawn [.ref b, x] G P := ⟨b, c, x, N, L, o, rfl, hb, hv, k⟩
theorem pr_call {b c : Addr} {x : D} {N L : List Tx} {o : Bool} {G : Hg} {P : KD} (hb : Bx G b c) (hv : IsV G x N L o) (k : ∀ (p : Pr) (G' : Hg), PrIn N L p → BT b c G G' → P p.d G') : sp__law_promise_drawn [.ref b, x] G P := ⟨b, c, x, N, L, o, rfl, hb, hv, k⟩
theorem vc__law_term_drawn {K : PySem.W.Frag} (ds : List D) (G : Hg) (Q : KD) (h : sp__law_term_drawn ds G Q) : r__law_term_drawn K (endOf Q) (startD N__law_term_drawn ds) G := by
  obtain ⟨b, c, x, N, L, o, rfl, hb, hv, hP⟩ := h
  show r__law_term_drawn K (endOf Q) [some (.ref b), some x] G
  have two : ∀ G1, BT b c G G1 → r__law_term_drawn_2 K (endOf Q) [some (.ref b), some x] G1 := by
    intro G1 t1
    unfold r__law_term_drawn_2
    walk_at "vc"
    exact pl_call t1.bx (hv.bt hb t1) fun p G2 hp t2 => .inl (hP (.pl p) G2 hp (t1.trans t2))
  unfold r__law_term_drawn
  walk_at "vc"
  refine hv.lis (nil_lst (ne_nilL ?_))
  rw [txs_emp]
  cases hL : L with
  | nil => exact nx (two G (.refl hb))
  | cons y l =>
    have hne : L ≠ [] := by rw [hL]; simp
    refine nxt_call hb (by decide) (by decide) fun n G1 hn t1 => eq_int ?_
    by_cases h0 : (n : Int) = 0
    · rw [decide_eq_true h0]
      show r__law_term_drawn_1 K _ _ _
      unfold r__law_term_drawn_1
      walk_at "vc"
      refine li_call t1.bx (hv.bt hb t1) hne fun y q G2 hy t2 => ?_
      refine pl_call t2.bx (hv.bt hb (t1.trans t2)) fun p G3 hp t3 => ?_
      refine nxt_call t3.bx (by decide) (by decide) fun n2 G4 hn2 t4 => sub_i ?_
      exact ⟨by simp [sizeLine_eq], .inl (hP (.cell y q p _) G4 ⟨hy, hp⟩ (((t1.trans t2).trans t3).trans t4))⟩
    · rw [decide_eq_false h0]
      exact nx (two G1 t1)
theorem sgn {n : Nat} {G : Hg} {P : KD} (hn : (n : Int) < 6) (p : ∀ s, s ∈ sgs → P (.str s) G) : ([D.str S_60, D.str S_60_61, D.str S_62, D.str S_62_61, D.str S_61_61, D.str S_33_61] : List D).length ≤ sizeLine ∧ rItem (.tup [.str S_60, .str S_60_61, .str S_62, .str S_62_61, .str S_61_61, .str S_33_61]) (.int (n : Int)) G P := by
  refine ⟨by simp [sizeLine_eq], ?_⟩
  match n, hn with
  | 0, _ => exact it_tup (i := 0) rfl (p _ (by simp [sgs]))
  | 1, _ => exact it_tup (i := 1) rfl (p _ (by simp [sgs]))
  | 2, _ => exact it_tup (i := 2) rfl (p _ (by simp [sgs]))
  | 3, _ => exact it_tup (i := 3) rfl (p _ (by simp [sgs]))
  | 4, _ => exact it_tup (i := 4) rfl (p _ (by simp [sgs]))
  | 5, _ => exact it_tup (i := 5) rfl (p _ (by simp [sgs]))
  | n + 6, h => omega
theorem vc__law_cmp_drawn {K : PySem.W.Frag} (ds : List D) (G : Hg) (Q : KD) (h : sp__law_cmp_drawn ds G Q) : r__law_cmp_drawn K (endOf Q) (startD N__law_cmp_drawn ds) G := by
  obtain ⟨b, c, x, N, L, o, rfl, hb, hv, hP⟩ := h
  show r__law_cmp_drawn K (endOf Q) [some (.ref b), some x, none] G
  unfold r__law_cmp_drawn
  walk_at "vc"
  have fin : ∀ s G1, s ∈ sgs → BT b c G G1 → r__law_cmp_drawn_1 K (endOf Q) [some (.ref b), some x, some (.str s)] G1 := by
    intro s G1 hs t1
    unfold r__law_cmp_drawn_1
    walk_at "vc"
    refine tm_call t1.bx (hv.bt hb t1) fun p G2 hp t2 => ?_
    refine tm_call t2.bx (hv.bt hb (t1.trans t2)) fun q G3 hq t3 => ?_
    exact ⟨by simp [sizeLine_eq], .inl (hP ⟨s, p, q⟩ G3 ⟨hs, hp, hq⟩ ((t1.trans t2).trans t3))⟩
  have := fun (n : Nat) (G1 : Hg) (hn : (n : Int) < 6) (t1 : BT b c G G1) => sgn (G := G1) (P := fun d G2 => ∃ env2 G3, Gh [some (.ref b), some x, some d] G2 env2 G3 ∧ r__law_cmp_drawn_1 K (endOf Q) env2 G3) hn fun s hs => nx (fin s G1 hs t1)
  refine ⟨by simp [sizeLine_eq], nxt_call hb (by decide) (by decide) fun n G1 hn t1 => (this n G1 hn t1).2⟩
theorem vc__law_promise_drawn {K : PySem.W.Frag} (ds : List D) (G : Hg) (Q : KD) (h : sp__law_promise_drawn ds G Q) : r__law_promise_drawn K (endOf Q) (startD N__law_promise_drawn ds) G := by
  obtain ⟨b, c, x, N, L, o, rfl, hb, hv, hP⟩ := h
  show r__law_promise_drawn K (endOf Q) [some (.ref b), some x, none, none, none, none, none] G
  unfold r__law_promise_drawn
  walk_at "vc"
  refine nxt_call hb (by decide) (by decide) fun k G1 hk t1 => nx ?_
  have hv1 := hv.bt hb t1
  have two : r__law_promise_drawn_2 K (endOf Q) [some (.ref b), some x, some (.int k), none, none, none, none] G1 := by
    unfold r__law_promise_drawn_2
    walk_at "vc"
    exact cm_call t1.bx hv1 fun p G2 hp t2 => .inl (hP (.cmp p) G2 hp (t1.trans t2))
  have rest : L ≠ [] → r__law_promise_drawn_3 K (endOf Q) [some (.ref b), some x, some (.int k), none, none, none, none] G1 := by
    intro hne
    unfold r__law_promise_drawn_3
    walk_at "vc"
    refine eq_int ?_
    by_cases h1 : (k : Int) = 1
    · rw [decide_eq_true h1]
      show r__law_promise_drawn_4 K _ _ _
      unfold r__law_promise_drawn_4
      walk_at "vc"
      refine cm_call t1.bx hv1 fun p G2 hp t2 => ?_
      refine cm_call t2.bx (hv1.bt t1.bx t2) fun q G3 hq t3 => ?_
      exact ⟨by simp [sizeLine_eq], .inl (hP (.either p q) G3 ⟨hp, hq⟩ ((t1.trans t2).trans t3))⟩
    · rw [decide_eq_false h1]
      refine nx ?_
      unfold r__law_promise_drawn_5
      walk_at "vc"
      refine li_call t1.bx hv1 hne fun y q G2 hy t2 => nx ?_
      have hv2 := hv1.bt t1.bx t2
      unfold r__law_promise_drawn_6
      walk_at "vc"
      refine pl_call t2.bx hv2 fun lo G3 hlo t3 => nx ?_
      have hv3 := hv2.bt t2.bx t3
      unfold r__law_promise_drawn_7
      walk_at "vc"
      refine pl_call t3.bx hv3 fun hi G4 hhi t4 => nx ?_
      have hv4 := hv3.bt t3.bx t4
      have t14 := ((t1.trans t2).trans t3).trans t4
      have fin : ∀ s G5, s ∈ sgs → BT b c G4 G5 → r__law_promise_drawn_9 K (endOf Q) [some (.ref b), some x, some (.int k), some (oneD y q), some lo.d, some hi.d, some (.str s)] G5 := by
        intro s G5 hs t5
        have hv5 := hv4.bt t4.bx t5
        have t15 := t14.trans t5
        unfold r__law_promise_drawn_9
        walk_at "vc"
        refine eq_int ?_
        by_cases h2 : (k : Int) = 2
        · rw [decide_eq_true h2]
          show r__law_promise_drawn_10 K _ _ _
          unfold r__law_promise_drawn_10
          walk_at "vc"
          refine pl_call t5.bx hv5 fun p G6 hp t6 => ?_
          exact ⟨by simp [sizeLine_eq], .inl (hP (.all y q lo hi s p) G6 ⟨hy, hlo, hhi, hs, hp⟩ (t15.trans t6))⟩
        · rw [decide_eq_false h2]
          refine nx ?_
          unfold r__law_promise_drawn_11
          walk_at "vc"
          refine eq_int ?_
          by_cases h3 : (k : Int) = 3
          · rw [decide_eq_true h3]
            show r__law_promise_drawn_12 K _ _ _
            unfold r__law_promise_drawn_12
            walk_at "vc"
            refine li_call t5.bx hv5 hne fun y2 q2 G6 hy2 t6 => ?_
            refine nxt_call t6.bx (by decide) (by decide) fun n2 G7 hn2 t7 => sub_i ?_
            exact ⟨by simp [sizeLine_eq], .inl (hP (.mat y q lo hi s y2 q2 _) G7 ⟨hy, hlo, hhi, hs, hy2⟩ ((t15.trans t6).trans t7))⟩
          · rw [decide_eq_false h3]
            refine nx ?_
            unfold r__law_promise_drawn_13
            walk_at "vc"
            refine eq_int ?_
            by_cases h4 : (k : Int) = 4
            · rw [decide_eq_true h4]
              show r__law_promise_drawn_14 K _ _ _
              unfold r__law_promise_drawn_14
              walk_at "vc"
              exact ⟨by simp [sizeLine_eq], .inl (hP (.sor y q lo hi) G5 ⟨hy, hlo, hhi⟩ t15)⟩
            · rw [decide_eq_false h4]
              refine nx ?_
              unfold r__law_promise_drawn_15
              walk_at "vc"
              refine li_call t5.bx hv5 hne fun y2 q2 G6 hy2 t6 => ?_
              have hv6 := hv5.bt t5.bx t6
              refine pl_call t6.bx hv6 fun p2 G7 hp2 t7 => ?_
              refine pl_call t7.bx (hv6.bt t6.bx t7) fun p3 G8 hp3 t8 => ?_
              exact ⟨by simp [sizeLine_eq], .inl (hP (.bel y q lo hi y2 q2 p2 p3) G8 ⟨hy, hlo, hhi, hy2, hp2, hp3⟩ (((t15.trans t6).trans t7).trans t8))⟩
      unfold r__law_promise_drawn_8
      walk_at "vc"
      have := fun (n : Nat) (G5 : Hg) (hn : (n : Int) < 6) (t5 : BT b c G4 G5) => sgn (G := G5) (P := fun d G2 => ∃ env2 G3, Gh [some (.ref b), some x, some (.int k), some (oneD y q), some lo.d, some hi.d, some d] G2 env2 G3 ∧ r__law_promise_drawn_9 K (endOf Q) env2 G3) hn fun s hs => nx (fin s G5 hs t5)
      exact ⟨by simp [sizeLine_eq], nxt_call t4.bx (by decide) (by decide) fun n G5 hn t5 => (this n G5 hn t5).2⟩
  unfold r__law_promise_drawn_1
  walk_at "vc"
  refine eq_int ?_
  by_cases h0 : (k : Int) = 0
  · rw [decide_eq_true h0]
    exact two
  · rw [decide_eq_false h0]
    refine hv1.lis (nil_lst (eq_nilL ?_))
    rw [txs_emp]
    cases hL : L with
    | nil => exact two
    | cons y l => exact nx (rest (by rw [hL]; simp))
end My

set_option Elab.async false
set_option linter.all false
set_option autoImplicit false
set_option maxRecDepth 100000
set_option maxHeartbeats 2000000
namespace My
open PySem PySem.Spec PyProof.Rows L2 Vc
def sp__law_names : Spg := fun ds G P => ∃ (b c : Addr), ds = [.ref b, .int 16] ∧ Bx G b c ∧ ∀ (ns : List Tx) (G' : Hg), ns.length = 16 → ns.Nodup → (∀ x ∈ ns, Wn x) → BT b c G G' → P (.rol (txs ns)) G'
abbrev Lps := List (Nat × Nat)
def lpD (ls : Lps) : List D := ls.map fun p => .tup [.int p.1, .int p.2]
def sp__law_free : Spg := fun ds G P => ∃ (ls : Lps) (a t : Nat), ds = [.rol (lpD ls), .int a, .int t] ∧ ls.length ≤ 2 ∧ ∀ q : Bool, (t = a + 1 → q = true) → P (.bl q) G
def LpIn (base many : Nat) (ls : Lps) : Prop := ls.length ≤ 2 ∧ ∀ p ∈ ls, base ≤ p.1 ∧ p.1 < p.2 ∧ p.2 < base + many
def sp__law_loops : Spg := fun ds G P => ∃ (b c : Addr) (base many : Nat), ds = [.ref b, .int base, .int many] ∧ Bx G b c ∧ base ≤ 100 ∧ 2 ≤ many ∧ many ≤ 100 ∧ ∀ (ls : Lps) (G' : Hg), LpIn base many ls → BT b c G G' → P (.rol (lpD ls)) G'
structure Hd.sz (h : Hd) : Prop where
  ps : Sz h.ps.length
  ne : Sz h.ne.length
  gi : Sz h.gi.length
  ch : Sz h.ch.length
def sp__law_mixed_head : Spg := fun ds G P => ∃ (b c : Addr) (x0 x1 x2 x3 : Tx), ds = [.ref b, .rol (txs [x0, x1, x2, x3])] ∧ Bx G b c ∧ ∀ (h : Hd) (G' : Hg), h.sz → h.nm = x3 → BT b c G G' → P h.dct G'
def N__law_names : List Str := ["box", "many", "names", "k", "size", "first", "step", "name", "j"]
def G__law_names (K : PySem.W.Frag) : Tb := ⟨K, [("_law_next", ⟨["box", "many"], sp__law_next⟩)], [], [], []⟩
def r__law_names_6 (K : PySem.W.Frag) : TSg := (gDrop (gBm isLst mAppend (gVar 2) (gCons (gOp rAdd (gOp rAdd (gVar 7) (gOp rItem (gC (.str S_qzjx)) (gOp rMod (gVar 3) (gC (.int 4))))) (gOp rItem (gC (.str S_abcdefgh)) (gOp rFdiv (gVar 3) (gC (.int 4))))) gNil)))
def r__law_names_5 (K : PySem.W.Frag) : TSg := gSeq (gAsg (gBm isStr mJoin (gC (.str S_empty)) (gCons (gLc (gRng1 (gCons (gVar 4) gNil)) (.one 8) gYes (gOp rItem (gC (.str S_abcdefghijklmnopqstuvwxyz)) (gOp rMod (gOp rAdd (gVar 5) (gOp rMul (gVar 8) (gVar 6))) (gC (.int 25)))) [8]) gNil)) (gName 7)) (r__law_names_6 K)
def r__law_names_4 (K : PySem.W.Frag) : TSg := gSeq (gAsg (gCall sp__law_next (gCons (gVar 0) (gCons (gC (.int 25)) gNil))) (gName 6)) (r__law_names_5 K)
def r__law_names_3 (K : PySem.W.Frag) : TSg := gSeq (gAsg (gCall sp__law_next (gCons (gVar 0) (gCons (gC (.int 25)) gNil))) (gName 5)) (r__law_names_4 K)
def r__law_names_2 (K : PySem.W.Frag) : TSg := gSeq (gAsg (gOp rItem (gTup (gCons (gC (.int 0)) (gCons (gC (.int 1)) (gCons (gC (.int 2)) (gCons (gC (.int 3)) (gCons (gC (.int 10)) gNil)))))) (gCall sp__law_next (gCons (gVar 0) (gCons (gC (.int 5)) gNil)))) (gName 4)) (r__law_names_3 K)
def r__law_names_7 (K : PySem.W.Frag) : TSg := (gRet (gVar 2))
def r__law_names_1 (K : PySem.W.Frag) : TSg := gSeq (gFor (gRng1 (gCons (gVar 1) gNil)) (gName 3) (r__law_names_2 K)) (r__law_names_7 K)
def r__law_names (K : PySem.W.Frag) : TSg := gSeq (gAsg (gLst gNil) (gName 2)) (r__law_names_1 K)
theorem rd__law_names (K : PySem.W.Frag) : body (G__law_names K) N__law_names d__law_names.scope d__law_names.body = r__law_names K := by kernel_rfl
def N__law_free : List Str := ["loops", "at", "t", "one"]
def G__law_free (K : PySem.W.Frag) : Tb := ⟨K, [], [], [], []⟩
def r__law_free (K : PySem.W.Frag) : TSg := (gRet (gOp rEq (gCall bLen (gCons (gLc (gIterA (gVar 0)) (.one 3) (gAnd (gB (gCh rLt rLe (gOp rItem (gVar 3) (gC (.int 0))) (gVar 2) (gOp rItem (gVar 3) (gC (.int 1))))) (gNot (gB (gCh rLe rLe (gOp rItem (gVar 3) (gC (.int 0))) (gVar 1) (gOp rItem (gVar 3) (gC (.int 1))))))) (gVar 3) [3]) gNil)) (gC (.int 0))))
theorem rd__law_free (K : PySem.W.Frag) : body (G__law_free K) N__law_free d__law_free.scope d__law_free.body = r__law_free K := by kernel_rfl
def N__law_loops : List Str := ["box", "base", "many", "loops", "turn", "mark", "close", "good", "one"]
def G__law_loops (K : PySem.W.Frag) : Tb := ⟨K, [("_law_next", ⟨["box", "many"], sp__law_next⟩)], [], [], []⟩
def r__law_loops_6 (K : PySem.W.Frag) : TSg := (gAsg (gAndV (gVar 7) (gOrV (gOp rGt (gVar 5) (gOp rItem (gVar 8) (gC (.int 1)))) (gOrV (gOp rLt (gVar 6) (gOp rItem (gVar 8) (gC (.int 0)))) (gAndV (gOp rLt (gOp rItem (gVar 8) (gC (.int 0))) (gVar 5)) (gOp rLt (gVar 6) (gOp rItem (gVar 8) (gC (.int 1)))))))) (gName 7))
def r__law_loops_8 (K : PySem.W.Frag) : TSg := (gDrop (gBm isLst mAppend (gVar 3) (gCons (gTup (gCons (gVar 5) (gCons (gVar 6) gNil))) gNil)))
def r__law_loops_7 (K : PySem.W.Frag) : TSg := (gIfS (gTru (gVar 7)) (r__law_loops_8 K) gNext)
def r__law_loops_5 (K : PySem.W.Frag) : TSg := gSeq (gFor (gIterA (gVar 3)) (gName 8) (r__law_loops_6 K)) (r__law_loops_7 K)
def r__law_loops_4 (K : PySem.W.Frag) : TSg := gSeq (gAsg (gC (.bl true)) (gName 7)) (r__law_loops_5 K)
def r__law_loops_3 (K : PySem.W.Frag) : TSg := gSeq (gAsg (gOp rAdd (gOp rAdd (gVar 5) (gC (.int 1))) (gCall sp__law_next (gCons (gVar 0) (gCons (gOp rSub (gOp rSub (gOp rAdd (gVar 1) (gVar 2)) (gC (.int 1))) (gVar 5)) gNil)))) (gName 6)) (r__law_loops_4 K)
def r__law_loops_2 (K : PySem.W.Frag) : TSg := gSeq (gAsg (gOp rAdd (gVar 1) (gCall sp__law_next (gCons (gVar 0) (gCons (gOp rSub (gVar 2) (gC (.int 1))) gNil)))) (gName 5)) (r__law_loops_3 K)
def r__law_loops_9 (K : PySem.W.Frag) : TSg := (gRet (gVar 3))
def r__law_loops_1 (K : PySem.W.Frag) : TSg := gSeq (gFor (gRng1 (gCons (gCall sp__law_next (gCons (gVar 0) (gCons (gC (.int 3)) gNil))) gNil)) (gName 4) (r__law_loops_2 K)) (r__law_loops_9 K)
def r__law_loops (K : PySem.W.Frag) : TSg := gSeq (gAsg (gLst gNil) (gName 3)) (r__law_loops_1 K)
theorem rd__law_loops (K : PySem.W.Frag) : body (G__law_loops K) N__law_loops d__law_loops.scope d__law_loops.body = r__law_loops K := by kernel_rfl
def N__law_mixed_head : List Str := ["box", "names", "lists", "v", "h", "name", "k", "ends"]
def G__law_mixed_head (K : PySem.W.Frag) : Tb := ⟨K, [("_law_next", ⟨["box", "many"], sp__law_next⟩), ("_law_promise_drawn", ⟨["box", "v"], sp__law_promise_drawn⟩)], [], [], []⟩
def r__law_mixed_head_7 (K : PySem.W.Frag) : TSg := (gRet (gVar 4))
def r__law_mixed_head_6 (K : PySem.W.Frag) : TSg := gSeq (gAsg (gLc (gIterA (gVar 2)) (.one 5) (gB (gOp rEq (gCall sp__law_next (gCons (gVar 0) (gCons (gC (.int 2)) gNil))) (gC (.int 0)))) (gVar 5) [5]) (gGSub (gVar 4) (gC (.str S_changes)))) (r__law_mixed_head_7 K)
def r__law_mixed_head_5 (K : PySem.W.Frag) : TSg := gSeq (gAsg (gLc (gRng1 (gCons (gCall sp__law_next (gCons (gVar 0) (gCons (gC (.int 2)) gNil))) gNil)) (.one 6) gYes (gCall sp__law_promise_drawn (gCons (gVar 0) (gCons (gVar 7) gNil))) [6]) (gGSub (gVar 4) (gC (.str S_gives)))) (r__law_mixed_head_6 K)
def r__law_mixed_head_4 (K : PySem.W.Frag) : TSg := gSeq (gAsg (gDisp [((gC (.str S_numbers)), (gLst (gCons (gOp rItem (gVar 1) (gC (.int 2))) (gCons (gC (.str S_result)) gNil)))), ((gC (.str S_lists)), (gVar 2)), ((gC (.str S_old)), (gC (.bl true)))]) (gName 7)) (r__law_mixed_head_5 K)
def r__law_mixed_head_3 (K : PySem.W.Frag) : TSg := gSeq (gAsg (gLc (gRng1 (gCons (gCall sp__law_next (gCons (gVar 0) (gCons (gC (.int 2)) gNil))) gNil)) (.one 6) gYes (gCall sp__law_promise_drawn (gCons (gVar 0) (gCons (gVar 3) gNil))) [6]) (gGSub (gVar 4) (gC (.str S_needs)))) (r__law_mixed_head_4 K)
def r__law_mixed_head_2 (K : PySem.W.Frag) : TSg := gSeq (gAsg (gDisp [((gC (.str S_name)), (gOp rItem (gVar 1) (gC (.int 3)))), ((gC (.str S_parameters)), (gOp rAdd (gLc (gIterA (gVar 2)) (.one 5) gYes (gTup (gCons (gVar 5) (gCons (gC (.bl true)) gNil))) [5]) (gLst (gCons (gTup (gCons (gOp rItem (gVar 1) (gC (.int 2))) (gCons (gC (.bl false)) gNil))) gNil)))), ((gC (.str S_falls)), (gC .non))]) (gName 4)) (r__law_mixed_head_3 K)
def r__law_mixed_head_1 (K : PySem.W.Frag) : TSg := gSeq (gAsg (gDisp [((gC (.str S_numbers)), (gLst (gCons (gOp rItem (gVar 1) (gC (.int 2))) gNil))), ((gC (.str S_lists)), (gVar 2)), ((gC (.str S_old)), (gC (.bl false)))]) (gName 3)) (r__law_mixed_head_2 K)
def r__law_mixed_head (K : PySem.W.Frag) : TSg := gSeq (gAsg (gCut (gVar 1) (gPart (gC (.int 0))) (gPart (gCall sp__law_next (gCons (gVar 0) (gCons (gC (.int 3)) gNil))))) (gName 2)) (r__law_mixed_head_1 K)
theorem rd__law_mixed_head (K : PySem.W.Frag) : body (G__law_mixed_head K) N__law_mixed_head d__law_mixed_head.scope d__law_mixed_head.body = r__law_mixed_head K := by kernel_rfl
end My

set_option Elab.async false
set_option linter.all false
set_option autoImplicit false
set_option maxRecDepth 100000
set_option maxHeartbeats 2000000
namespace My
open PySem PySem.Spec PyProof.Rows Vc
local macro_rules | `(tactic| walk_at "vc") => `(tactic| (try dsimp only [gSeq, gMake, gSFld, gAsg, gName, gRet, gRetN, gIfS, gDrop, gNext, gBreak, gCont, gVar, gC, gOp, gB, gCh, gAnd, gOr, gNot, gAndV, gOrV, gNotV, gIf, gTru, gNil, gCons, gTup, gLst, gFld, gCall, gBm, gCut, gNoPart, gPart, gIsa, gIsO, gNeg, gYes, gGSub, gIterA, gGTup, gGCons, gGNil, gRng1, gRng2, gRev, gRvR1, gRvR2, Tg.put, setAll, wipeE, List.set, List.getElem?_cons_zero, List.getElem?_cons_succ]))
theorem Bx.ne {G : Hg} {b c a : Addr} (hb : Bx G b c) (hn : G a = none) : a ≠ b ∧ a ≠ c := by
  obtain ⟨_, xs, i, j, k, h1, h2, _⟩ := hb
  constructor
  · intro e; subst e; rw [h1] at hn; cases hn
  · intro e; subst e; rw [h2] at hn; cases hn
theorem Bx.upd {G : Hg} {b c a : Addr} {o : GO} (hb : Bx G b c) (h1 : a ≠ b) (h2 : a ≠ c) : Bx (updG G a o) b c := by
  obtain ⟨e, xs, i, j, k, e1, e2, e3⟩ := hb
  exact ⟨e, xs, i, j, k, by rw [upd_off (Ne.symm h1)]; exact e1, by rw [upd_off (Ne.symm h2)]; exact e2, e3⟩
theorem Bx.del {G : Hg} {b c a : Addr} (hb : Bx G b c) (h1 : a ≠ b) (h2 : a ≠ c) : Bx (delG G a) b c := by
  obtain ⟨e, xs, i, j, k, e1, e2, e3⟩ := hb
  exact ⟨e, xs, i, j, k, by rw [del_off (Ne.symm h1)]; exact e1, by rw [del_off (Ne.symm h2)]; exact e2, e3⟩
theorem BT.upd {G G' : Hg} {b c a : Addr} {o : GO} (h : BT b c G G') (hb : Bx G b c) (hn : G a = none) : BT b c G (updG G' a o) :=
  ⟨h.bx.upd (hb.ne hn).1 (hb.ne hn).2, fun z u e1 e2 e3 => by rw [upd_off (ne_of_none hn e3)]; exact h.kp z u e1 e2 e3⟩
theorem BT.del {G G' : Hg} {b c a : Addr} (h : BT b c G G') (hb : Bx G b c) (hn : G a = none) : BT b c G (delG G' a) :=
  ⟨h.bx.del (hb.ne hn).1 (hb.ne hn).2, fun z u e1 e2 e3 => by rw [del_off (ne_of_none hn e3)]; exact h.kp z u e1 e2 e3⟩
theorem lcr_bt {γ : Type} {b c : Addr} {g : Tg} {te : TEg} {vs : List Nat} {env : Ev} {G : Hg} {P : KD} (n : Nat) (f : γ → D) (R : γ → Prop) (hn : n ≤ 1000) (hb : Bx G b c)
    (el : ∀ (i : Nat) (G1 : Hg) (P' : KD), BT b c G G1 → (∀ z G2, R z → BT b c G1 G2 → P' (f z) G2) → g.put (wipeE env vs) (.int i) fun env2 => te env2 G1 P')
    (hP : ∀ (zs : List γ) (G1 : Hg), zs.length ≤ n → (∀ z ∈ zs, R z) → BT b c G G1 → P (.rol (zs.map f)) G1) : gLc (fun env G R => R (jR 0 n) G) g gYes te vs env G P := by
  refine lc_range 0 n (fun Dd i acc G' => G Dd = none ∧ BT b c G G' ∧ ∃ zs : List γ, acc = zs.map f ∧ zs.length = i ∧ ∀ z ∈ zs, R z) (le_sz (by omega)) (fun R' h => h G fun Dd hd => ⟨hd, (BT.refl hb).upd hb hd, [], rfl, rfl, by simp⟩) ?_ ?_
  · rintro Dd i acc G' Yes No hi ha ⟨hd, bt, zs, rfl, hl, hr⟩ _ yes no
    have e0 : (0 : Int) + i = (i : Int) := by omega
    rw [e0]
    refine el i G' _ bt fun z G2 hz t2 => ?_
    refine yes _ _ (t2.kp Dd _ (hb.ne hd).1 (hb.ne hd).2 ha) ⟨hd, (bt.trans t2).upd hb hd, zs ++ [z], by simp, by simp [hl], fun w hw => ?_⟩
    rcases List.mem_append.mp hw with hw | hw
    · exact hr w hw
    · rw [List.mem_singleton] at hw
      subst hw
      exact hz
  · rintro Dd acc G' ha ⟨hd, bt, zs, rfl, hl, hr⟩ _
    exact .inl (hP zs _ (by omega) hr (bt.del hb hd))
theorem lci_bt {β γ : Type} {b c : Addr} {g : Tg} {tt : TTg} {te : TEg} {vs : List Nat} {env : Ev} {G : Hg} {P : KD} (bs : List β) (e : β → D) (f : γ → D) (R : γ → Prop) (hn : bs.length ≤ 1000) (hb : Bx G b c)
    (el : ∀ (x : β) (G1 : Hg) (Y : KD) (N : Hg → Prop), x ∈ bs → BT b c G G1 → (∀ z G2, R z → BT b c G1 G2 → Y (f z) G2) → (∀ G2, BT b c G1 G2 → N G2) → g.put (wipeE env vs) (e x) fun env2 => tt env2 G1 fun q G4 => match q with
        | true => te env2 G4 Y
        | false => N G4)
    (hP : ∀ (zs : List γ) (G1 : Hg), zs.length ≤ bs.length → (∀ z ∈ zs, R z) → BT b c G G1 → P (.rol (zs.map f)) G1) : gLc (fun env G R => R (jP (bs.map e)) G) g tt te vs env G P := by
  refine lc_items (bs.map e) (fun Dd i acc G' => G Dd = none ∧ BT b c G G' ∧ ∃ zs : List γ, acc = zs.map f ∧ zs.length ≤ i ∧ ∀ z ∈ zs, R z) (by rw [List.length_map]; exact le_sz (by omega)) (fun R' h => h G fun Dd hd => ⟨hd, (BT.refl hb).upd hb hd, [], rfl, by simp, by simp⟩) ?_ ?_
  · rintro Dd i d acc G' Yes No hi ha ⟨hd, bt, zs, rfl, hl, hr⟩ _ yes no
    rw [List.getElem?_map] at hi
    cases hw : bs[i]? with
    | none => rw [hw] at hi; cases hi
    | some w =>
      rw [hw] at hi
      cases hi
      refine el w G' _ _ (List.mem_of_getElem? hw) bt (fun z G2 hz t2 => ?_) fun G2 t2 => ?_
      · refine yes _ _ (t2.kp Dd _ (hb.ne hd).1 (hb.ne hd).2 ha) ⟨hd, (bt.trans t2).upd hb hd, zs ++ [z], by simp, by simp; omega, fun w hw => ?_⟩
        rcases List.mem_append.mp hw with hw | hw
        · exact hr w hw
        · rw [List.mem_singleton] at hw
          subst hw
          exact hz
      · exact no _ (t2.kp Dd _ (hb.ne hd).1 (hb.ne hd).2 ha) ⟨hd, bt.trans t2, zs, rfl, by omega, hr⟩
  · rintro Dd acc G' ha ⟨hd, bt, zs, rfl, hl, hr⟩ _
    rw [List.length_map] at hl
    exact .inl (hP zs _ hl hr (bt.del hb hd))
theorem vc__law_free {K : PySem.W.Frag} (ds : List D) (G : Hg) (Q : KD) (h : sp__law_free ds G Q) : r__law_free K (endOf Q) (startD N__law_free ds) G := by
  obtain ⟨ls, a, t, rfl, hl, hP⟩ := h
  show r__law_free K (endOf Q) [some (.rol (lpD ls)), some (.int a), some (.int t), none] G
  unfold r__law_free
  walk_at "vc"
  refine lc_filter ls (fun p => .tup [.int p.1, .int p.2]) (fun p => .tup [.int p.1, .int p.2]) (fun p => (decide ((p.1 : Int) < t) && decide ((t : Int) ≤ p.2)) && !(decide ((p.1 : Int) ≤ a) && decide ((a : Int) ≤ p.2))) (by omega) (fun R h => h) (fun p G' P' hp k => ?_) (fun p G' P' hp k => k) ?_
  · walk_at "vc"
    refine it_tup (i := 0) rfl (lt_i ?_)
    by_cases h1 : (p.1 : Int) < t
    · rw [decide_eq_true h1] at k ⊢
      refine it_tup (i := 1) rfl (le_i ?_)
      by_cases h2 : (t : Int) ≤ p.2
      · rw [decide_eq_true h2] at k ⊢
        refine it_tup (i := 0) rfl (le_i ?_)
        by_cases h3 : (p.1 : Int) ≤ a
        · rw [decide_eq_true h3] at k ⊢
          refine it_tup (i := 1) rfl (le_i ?_)
          exact k
        · rw [decide_eq_false h3] at k ⊢
          exact k
      · rw [decide_eq_false h2] at k ⊢
        exact k
    · rw [decide_eq_false h1] at k ⊢
      exact k
  · refine len_rol (eq_int (.inl (hP _ fun e => ?_)))
    subst e
    rw [decide_eq_true_iff, List.length_map]
    have : (ls.filter fun p => (decide ((p.1 : Int) < ((a + 1 : Nat) : Int)) && decide (((a + 1 : Nat) : Int) ≤ p.2)) && !(decide ((p.1 : Int) ≤ a) && decide ((a : Int) ≤ p.2))) = [] := by
      rw [List.filter_eq_nil_iff]
      intro p hp
      simp
      omega
    rw [this]
    rfl
end My

set_option Elab.async false
set_option linter.all false
set_option autoImplicit false
set_option maxRecDepth 100000
set_option maxHeartbeats 2000000
namespace My
open PySem PySem.Spec PyProof.Rows Vc
local macro_rules | `(tactic| walk_at "vc") => `(tactic| (try dsimp only [gSeq, gMake, gSFld, gAsg, gName, gRet, gRetN, gIfS, gDrop, gNext, gBreak, gCont, gVar, gC, gOp, gB, gCh, gAnd, gOr, gNot, gAndV, gOrV, gNotV, gIf, gTru, gNil, gCons, gTup, gLst, gFld, gCall, gBm, gCut, gNoPart, gPart, gIsa, gIsO, gNeg, gYes, gGSub, gIterA, gGTup, gGCons, gGNil, gRng1, gRng2, gRev, gRvR1, gRvR2, Tg.put, setAll, wipeE, List.set, List.getElem?_cons_zero, List.getElem?_cons_succ]))
theorem BT.updP {G G' : Hg} {b c a : Addr} {o : GO} (h : BT b c G G') (n1 : a ≠ b) (n2 : a ≠ c) (hn : G a = none) : BT b c G (updG G' a o) :=
  ⟨h.bx.upd n1 n2, fun z u e1 e2 e3 => by rw [upd_off (ne_of_none hn e3)]; exact h.kp z u e1 e2 e3⟩
theorem app_ref {a : Addr} {xs : List D} {d : D} {G : Hg} {P : KD} (h : G a = some (.lst xs)) (hl : xs.length ≤ 1000) (p : P .non (updG G a (.lst (xs ++ [d])))) : mAppend (.ref a) [d] G P := ⟨xs, h, by rw [sizeLine_eq]; omega, fun G' e => by rw [e]; exact p⟩
theorem for_bt {ti : TIg} {g : TGg} {tb : TSg} {E : Eg} {env : Ev} {G : Hg} (h : ti env G fun j G1 => gFor (fun _ G R => R j G) g tb E env G1) : gFor ti g tb E env G := h
theorem lc_bt {ti : TIg} {g : Tg} {tt : TTg} {te : TEg} {vs : List Nat} {env : Ev} {G : Hg} {P : KD} (h : ti env G fun j G1 => gLc (fun _ G R => R j G) g tt te vs env G1 P) : gLc ti g tt te vs env G P := h
theorem vc__law_loops {K : PySem.W.Frag} (ds : List D) (G : Hg) (Q : KD) (h : sp__law_loops ds G Q) : r__law_loops K (endOf Q) (startD N__law_loops ds) G := by
  obtain ⟨b, c, base, many, rfl, hb, h1, h2, h3, hP⟩ := h
  show r__law_loops K (endOf Q) [some (.ref b), some (.int base), some (.int many), none, none, none, none, none, none] G
  unfold r__law_loops
  walk_at "vc"
  refine ⟨by simp, rL_ref fun p hp => nx ?_⟩
  have np := hb.ne hp
  unfold r__law_loops_1
  walk_at "vc"
  refine for_bt ?_
  walk_at "vc"
  have t0 : BT b c G (updG G p (.lst [])) := (BT.refl hb).upd hb hp
  refine nxt_call (m := 3) t0.bx (by decide) (by decide) fun n G1 hn t1 => ?_
  have t01 := t0.trans t1
  have hp1 : G1 p = some (.lst []) := t1.kp p _ np.1 np.2 upd_at
  refine ⟨by omega, by omega, ?_⟩
  rw [Int.toNat_natCast]
  refine for_range 0 n (fun i env G' => ∃ z4 z5 z6 z7 z8 ls, env = [some (.ref b), some (.int base), some (.int many), some (.ref p), z4, z5, z6, z7, z8] ∧ BT b c G G' ∧ G' p = some (.lst (lpD ls)) ∧ ls.length ≤ i ∧ ∀ q ∈ ls, base ≤ q.1 ∧ q.1 < q.2 ∧ q.2 < base + many) (fun R h => h _ ⟨_, _, _, _, _, [], rfl, t01, hp1, by simp, by simp⟩) ?_ ?_
  · rintro i env G2 Nx hi ⟨z4, z5, z6, z7, z8, ls, rfl, t2, hp2, hl, hin⟩ nxt
    walk_at "vc"
    unfold r__law_loops_2
    walk_at "vc"
    refine sub_i (nxt_call t2.bx (by omega) (by omega) fun m G3 hm t3 => add_i (nx ?_))
    unfold r__law_loops_3
    walk_at "vc"
    refine add_i (add_i (sub_i (sub_i (nxt_call t3.bx (by omega) (by omega) fun cl G4 hcl t4 => add_i (nx ?_)))))
    unfold r__law_loops_4
    walk_at "vc"
    refine nx ?_
    unfold r__law_loops_5
    walk_at "vc"
    have t24 := (t2.trans t3).trans t4
    have hp4 : G4 p = some (.lst (lpD ls)) := (t3.trans t4).kp p _ np.1 np.2 hp2
    refine for_ref p (lpD ls) (fun j env G' => G' = G4 ∧ ∃ q z8, env = [some (.ref b), some (.int base), some (.int many), some (.ref p), some (.int (0 + i)), some (.int (base + m)), some (.int (base + m + 1 + cl)), some (.bl q), z8]) (fun j env G' e => by rw [e.1]; exact hp4) (fun R h => ⟨⟨_, hp4⟩, h G4 ⟨rfl, _, _, rfl⟩⟩) ?_ ?_
    · rintro j d env G' Nx2 hd ⟨rfl, q, z8, rfl⟩ nxt2
      unfold lpD at hd
      rw [List.getElem?_map] at hd
      cases hw : ls[j]? with
      | none => rw [hw] at hd; cases hd
      | some w =>
        rw [hw] at hd
        cases hd
        walk_at "vc"
        unfold r__law_loops_6
        walk_at "vc"
        cases q with
        | false => exact nxt2 _ _ ⟨rfl, _, _, rfl⟩
        | true =>
          refine it_tup (i := 1) rfl (gt_i ?_)
          cases decide ((w.2 : Int) < (base : Int) + m) with
          | true => exact nxt2 _ _ ⟨rfl, _, _, rfl⟩
          | false =>
            refine it_tup (i := 0) rfl (lt_i ?_)
            cases decide ((base : Int) + m + 1 + cl < w.1) with
            | true => exact nxt2 _ _ ⟨rfl, _, _, rfl⟩
            | false =>
              refine it_tup (i := 0) rfl (lt_i ?_)
              cases decide ((w.1 : Int) < (base : Int) + m) with
              | true => exact it_tup (i := 1) rfl (lt_i (nxt2 _ _ ⟨rfl, _, _, rfl⟩))
              | false => exact nxt2 _ _ ⟨rfl, _, _, rfl⟩
    · rintro env G' ⟨rfl, q, z8, rfl⟩
      refine nx ?_
      unfold r__law_loops_7
      walk_at "vc"
      cases q with
      | false => exact nxt _ _ ⟨_, _, _, _, _, ls, rfl, t24, hp4, by omega, hin⟩
      | true =>
        show r__law_loops_8 K _ _ _
        unfold r__law_loops_8
        walk_at "vc"
        refine ⟨⟨_, hp4⟩, by simp [sizeLine_eq], app_ref hp4 (by unfold lpD; rw [List.length_map]; omega) (nxt _ _ ⟨_, _, _, _, _, ls ++ [(base + m, base + m + 1 + cl)], rfl, t24.upd hb hp, ?_, by simp; omega, fun q hq => ?_⟩)⟩
        · rw [upd_at]
          simp [lpD]
        · rcases List.mem_append.mp hq with hq | hq
          · exact hin q hq
          · rw [List.mem_singleton] at hq
            subst hq
            exact ⟨by simp, by simp; omega, by simp; omega⟩
  · rintro env G2 ⟨z4, z5, z6, z7, z8, ls, rfl, t2, hp2, hl, hin⟩
    refine nx ?_
    unfold r__law_loops_9
    walk_at "vc"
    exact ret_lst hp2 (hP ls _ ⟨by omega, hin⟩ (t2.del hb hp))
end My

set_option Elab.async false
set_option linter.all false
set_option autoImplicit false
set_option maxRecDepth 100000
set_option maxHeartbeats 2000000
namespace My
open PySem PySem.Spec PyProof.Rows Vc
local macro_rules | `(tactic| walk_at "vc") => `(tactic| (try dsimp only [gSeq, gMake, gSFld, gAsg, gName, gRet, gRetN, gIfS, gDrop, gNext, gBreak, gCont, gVar, gC, gOp, gB, gCh, gAnd, gOr, gNot, gAndV, gOrV, gNotV, gIf, gTru, gNil, gCons, gTup, gLst, gFld, gCall, gBm, gCut, gNoPart, gPart, gIsa, gIsO, gNeg, gYes, gGSub, gIterA, gGTup, gGCons, gGNil, gRng1, gRng2, gRev, gRvR1, gRvR2, Tg.put, setAll, wipeE, List.set, List.getElem?_cons_zero, List.getElem?_cons_succ]))
def tl (k : Nat) : Tx := [(S_qzjx[k % 4]?).getD 0, (S_abcdefgh[k / 4]?).getD 0]
theorem tl_inj : ∀ i, i < 16 → ∀ j, j < 16 → tl i = tl j → i = j := by decide
theorem tl_wn : ∀ i, i < 16 → ∀ c ∈ tl i, c < 128 ∧ c ≠ 114 := by decide
theorem ab_wn : ∀ c ∈ S_abcdefghijklmnopqstuvwxyz, c < 128 ∧ c ≠ 114 := by decide
structure Nms (ns : List Tx) : Prop where
  at_ : ∀ (k : Nat) (x : Tx), ns[k]? = some x → ∃ w, x = w ++ tl k ∧ Wn w
theorem Nms.wn {ns : List Tx} (h : Nms ns) (hl : ns.length ≤ 16) : ∀ x ∈ ns, Wn x := by
  intro x hx
  obtain ⟨k, hk⟩ := List.getElem?_of_mem hx
  obtain ⟨w, rfl, hw⟩ := h.at_ k x hk
  intro c hc
  rcases List.mem_append.mp hc with hc | hc
  · exact hw c hc
  · exact tl_wn k (by have := (List.getElem?_eq_some_iff.mp hk).1; omega) c hc
theorem Nms.nd {ns : List Tx} (h : Nms ns) (hl : ns.length ≤ 16) : ns.Nodup := by
  unfold List.Nodup
  rw [List.pairwise_iff_getElem]
  intro i j hi hj hij e
  obtain ⟨w, e1, _⟩ := h.at_ i _ (List.getElem?_eq_getElem hi)
  obtain ⟨w', e2, _⟩ := h.at_ j _ (List.getElem?_eq_getElem hj)
  rw [e1, e2] at e
  have := (List.append_inj' e (by simp [tl])).2
  have := tl_inj i (by omega) j (by omega) this
  omega
theorem Nms.add {ns : List Tx} (h : Nms ns) {w : Tx} (hw : Wn w) : Nms (ns ++ [w ++ tl ns.length]) := ⟨fun k x hk => by
  by_cases z : k < ns.length
  · rw [List.getElem?_append_left z] at hk
    exact h.at_ k x hk
  · rw [List.getElem?_append_right (by omega)] at hk
    have := (List.getElem?_eq_some_iff.mp hk).1
    simp at this
    have : k = ns.length := by omega
    subst this
    simp at hk
    subst hk
    exact ⟨w, rfl, hw⟩⟩
theorem it_str {s : List Nat} {i : Nat} {c : Nat} {G : Hg} {P : KD} (h : s[i]? = some c) (hl : s.length ≤ sizeLine) (p : P (.str [c]) G) : rItem (.str s) (.int (i : Int)) G P := ⟨c, atI_nat h, hl, p⟩
theorem joinN_one : ∀ ws : List Nat, joinN [] (ws.map fun a => [a]) = ws
  | [] => rfl
  | [a] => rfl
  | a :: b :: ws => by
    have := joinN_one (b :: ws)
    simp only [List.map_cons] at this ⊢
    unfold joinN
    rw [this]
    rfl
theorem sum_one (ws : List Nat) : ((ws.map fun a => [a]).map (·.length)).sum = ws.length := by
  induction ws with
  | nil => rfl
  | cons a ws ih => simp only [List.map_cons, List.sum_cons, List.length_cons, List.length_nil] at ih ⊢; omega
theorem join_call {ws : List Nat} {G : Hg} {P : KD} (hl : ws.length ≤ 1000) (p : P (.str ws) G) : mJoin (.str S_empty) [.rol (ws.map fun a => D.str [a])] G P :=
  ⟨ws.map fun a => [a], by rw [List.map_map]; exact .lk (.li (.rol _)), by rw [sum_one, List.length_map]; simp [S_empty]; omega, by
    show P (.str (joinN [] _)) G
    rw [joinN_one]; exact p⟩
theorem vc__law_names {K : PySem.W.Frag} (ds : List D) (G : Hg) (Q : KD) (h : sp__law_names ds G Q) : r__law_names K (endOf Q) (startD N__law_names ds) G := by
  obtain ⟨b, c, rfl, hb, hP⟩ := h
  show r__law_names K (endOf Q) [some (.ref b), some (.int 16), none, none, none, none, none, none, none] G
  unfold r__law_names
  walk_at "vc"
  refine ⟨by simp, rL_ref fun p hp => nx ?_⟩
  have np := hb.ne hp
  unfold r__law_names_1
  walk_at "vc"
  refine for_range 0 16 (fun i env G' => ∃ z3 z4 z5 z6 z7 ns, env = [some (.ref b), some (.int 16), some (.ref p), z3, z4, z5, z6, z7, none] ∧ BT b c G G' ∧ G' p = some (.lst (txs ns)) ∧ ns.length = i ∧ Nms ns) (fun R h => ⟨by decide, by decide, h _ ⟨_, _, _, _, _, [], rfl, (BT.refl hb).upd hb hp, upd_at, rfl, ⟨by simp⟩⟩⟩) ?_ ?_
  · rintro i env G2 Nx hi ⟨z3, z4, z5, z6, z7, ns, rfl, t2, hp2, hl, hns⟩ nxt
    have e0 : (0 : Int) + i = (i : Int) := by omega
    rw [e0]
    walk_at "vc"
    unfold r__law_names_2
    walk_at "vc"
    have rest : ∀ (sz : Nat) (G3 : Hg), sz ≤ 10 → BT b c G2 G3 → ∃ env2 G4, Gh [some (.ref b), some (.int 16), some (.ref p), some (.int i), some (.int sz), z5, z6, z7, none] G3 env2 G4 ∧ r__law_names_3 K { nx := Nx, rt := Q, bk := fun env1 G1 => ∃ env2 G2, Gh env1 G1 env2 G2 ∧ r__law_names_7 K (endOf Q) env2 G2, ct := Nx } env2 G4 := by
      intro sz G3 hsz t3
      refine nx ?_
      unfold r__law_names_3
      walk_at "vc"
      refine nxt_call t3.bx (by decide) (by decide) fun fi G4 hfi t4 => nx ?_
      unfold r__law_names_4
      walk_at "vc"
      refine nxt_call t4.bx (by decide) (by decide) fun st G5 hst t5 => nx ?_
      unfold r__law_names_5
      walk_at "vc"
      have np5 : ∀ {G'' : Hg}, BT b c G2 G'' → G'' p = some (.lst (txs ns)) := fun t => t.kp p _ np.1 np.2 hp2
      have t25 := (t3.trans t4).trans t5
      refine ⟨trivial, ?_⟩
      refine lc_range 0 sz (fun Dd j acc G' => G5 Dd = none ∧ G' = updG G5 Dd (.lst acc) ∧ ∃ ws : List Nat, acc = ws.map (fun a => D.str [a]) ∧ ws.length = j ∧ ∀ a ∈ ws, a < 128 ∧ a ≠ 114) (le_sz (by omega)) (fun R h => ?_) ?_ ?_
      · walk_at "vc"
        refine ⟨by omega, by omega, ?_⟩
        rw [Int.toNat_natCast]
        exact h _ fun Dd hd => ⟨hd, rfl, [], rfl, rfl, by simp⟩
      · rintro Dd j acc G' Yes No hj ha ⟨hd, rfl, ws, rfl, hwl, hw⟩ _ yes no
        have e0 : (0 : Int) + j = (j : Int) := by omega
        rw [e0]
        walk_at "vc"
        refine mul_i (.inr ⟨by omega, by omega⟩) (add_i (mod_i (by decide) ?_))
        obtain ⟨m, hm, em⟩ : ∃ m : Nat, m < 25 ∧ ((fi : Int) + j * st) % 25 = m := ⟨(((fi : Int) + j * st) % 25).toNat, by omega, by omega⟩
        rw [em]
        obtain ⟨ch, hc⟩ : ∃ ch, S_abcdefghijklmnopqstuvwxyz[m]? = some ch := ⟨_, List.getElem?_eq_getElem (by simpa [S_abcdefghijklmnopqstuvwxyz] using hm)⟩
        refine it_str hc (by simp [S_abcdefghijklmnopqstuvwxyz, sizeLine_eq]) (yes _ _ ha ⟨hd, by rw [upd_upd], ws ++ [ch], by simp, by simp [hwl], fun a haa => ?_⟩)
        rcases List.mem_append.mp haa with haa | haa
        · exact hw a haa
        · rw [List.mem_singleton] at haa
          subst haa
          exact ab_wn _ (List.mem_of_getElem? hc)
      · rintro Dd acc G' ha ⟨hd, rfl, ws, rfl, hwl, hw⟩ _
        refine .inl ?_
        rw [del_upd hd]
        have hwn : Wn ws := hw
        refine join_call (by omega) (nx ?_)
        unfold r__law_names_6
        walk_at "vc"
        have hp5 := np5 t25
        refine ⟨⟨_, hp5⟩, ?_⟩
        have hm : ((i : Int) % 4) = ((i % 4 : Nat) : Int) := by omega
        have hd4 : ((i : Int) / 4) = ((i / 4 : Nat) : Int) := by omega
        refine mod_i (by decide) ?_
        rw [hm]
        obtain ⟨c1, hc1⟩ : ∃ ch, S_qzjx[i % 4]? = some ch := ⟨_, List.getElem?_eq_getElem (by simp [S_qzjx]; omega)⟩
        obtain ⟨c2, hc2⟩ : ∃ ch, S_abcdefgh[i / 4]? = some ch := ⟨_, List.getElem?_eq_getElem (by simp [S_abcdefgh]; omega)⟩
        refine it_str hc1 (by simp [S_qzjx, sizeLine_eq]) ?_
        rw [ev_add_s]
        refine ⟨by simp [sizeLine_eq]; omega, div_i ⟨by decide, by decide⟩ ?_⟩
        rw [hd4]
        refine it_str hc2 (by simp [S_abcdefgh, sizeLine_eq]) ?_
        rw [ev_add_s]
        refine ⟨by simp [sizeLine_eq]; omega, app_ref hp5 (by rw [txs_len]; omega) (nxt _ _ ⟨_, _, _, _, _, ns ++ [ws ++ tl ns.length], rfl, (t2.trans t25).upd hb hp, ?_, by simp [hl], hns.add hwn⟩)⟩
        rw [upd_at, hl]
        unfold tl
        rw [hc1, hc2]
        simp [txs]
    refine ⟨by simp [sizeLine_eq], nxt_call t2.bx (by decide) (by decide) fun k G3 hk t3 => ?_⟩
    match k, hk with
    | 0, _ => exact it_tup (i := 0) rfl (rest 0 G3 (by omega) t3)
    | 1, _ => exact it_tup (i := 1) rfl (rest 1 G3 (by omega) t3)
    | 2, _ => exact it_tup (i := 2) rfl (rest 2 G3 (by omega) t3)
    | 3, _ => exact it_tup (i := 3) rfl (rest 3 G3 (by omega) t3)
    | 4, _ => exact it_tup (i := 4) rfl (rest 10 G3 (by omega) t3)
    | k + 5, h => omega
  · rintro env G2 ⟨z3, z4, z5, z6, z7, ns, rfl, t2, hp2, hl, hns⟩
    refine nx ?_
    unfold r__law_names_7
    walk_at "vc"
    exact ret_lst hp2 (hP ns _ hl (hns.nd (by omega)) (hns.wn (by omega)) (t2.del hb hp))
end My

set_option Elab.async false
set_option linter.all false
set_option autoImplicit false
set_option maxRecDepth 100000
set_option maxHeartbeats 2000000
namespace My
open PySem PySem.Spec PyProof.Rows Vc
local macro_rules | `(tactic| walk_at "vc") => `(tactic| (try dsimp only [gSeq, gMake, gSFld, gAsg, gName, gRet, gRetN, gIfS, gDrop, gNext, gBreak, gCont, gVar, gC, gOp, gB, gCh, gAnd, gOr, gNot, gAndV, gOrV, gNotV, gIf, gTru, gNil, gCons, gTup, gLst, gFld, gCall, gBm, gCut, gNoPart, gPart, gIsa, gIsO, gNeg, gYes, gGSub, gIterA, gGTup, gGCons, gGNil, gRng1, gRng2, gRev, gRvR1, gRvR2, Tg.put, setAll, wipeE, List.set, List.getElem?_cons_zero, List.getElem?_cons_succ]))
theorem disp_ref {trs : List (TEg × TEg)} {env : Ev} {G : Hg} {P : KD} (h : ∀ p, G p = none → gPairs trs env (updG G p (.dct [])) fun ps G2 => G2 p = some (.dct []) ∧ match asKs ps with
  | some kvs => kvs.length ≤ 15 ∧ P (.ref p) (updG G2 p (.dct (mergeD [] kvs)))
  | none => False) : gDisp trs env G P := by
  intro p G1 n
  rw [n.eq]
  have mono : ∀ (trs : List (TEg × TEg)) (P P' : List (D × D) → Hg → Prop), P = P' → gPairs trs env (updG G p (.dct [])) P → gPairs trs env (updG G p (.dct [])) P' := fun _ _ _ e h => e ▸ h
  refine mono _ _ _ ?_ (h p n.fr)
  funext ps G2
  cases asKs ps with
  | none => rfl
  | some kvs => exact propext ⟨fun ⟨a, b, q⟩ => ⟨a, b, fun G3 e => by rw [e]; exact q⟩, fun ⟨a, b, q⟩ => ⟨a, b, q _ rfl⟩⟩
theorem cut_nat (xs : List D) (i j : Nat) (hi : i ≤ xs.length) (hj : j ≤ xs.length) : Vc.cutD xs (some (i : Int)) (some (j : Int)) = (xs.drop i).take (j - i) := by
  unfold Vc.cutD
  rw [HT.sIx_nat, HT.sIx_nat, Nat.min_eq_left hi, Nat.min_eq_left hj]
theorem cut_txs (xs : List Tx) (i j : Nat) (hi : i ≤ xs.length) (hj : j ≤ xs.length) : Vc.cutD (txs xs) (some (i : Int)) (some (j : Int)) = txs ((xs.drop i).take (j - i)) := by
  rw [cut_nat _ _ _ (by rw [txs_len]; exact hi) (by rw [txs_len]; exact hj)]
  unfold txs
  rw [← List.map_drop, ← List.map_take]
theorem cut_rol {xs : List Tx} {i j : Nat} {G : Hg} {P : KD} (hi : i ≤ xs.length) (hj : j ≤ xs.length) (p : rL (txs ((xs.drop i).take (j - i))) G P) : rCut (.rol (txs xs)) (some (i : Int)) (some (j : Int)) G P := by
  rw [← cut_txs xs i j hi hj] at p
  exact p
theorem lc_all {β : Type} {ti : TIg} {te : TEg} {vs : List Nat} {i : Nat} {env : Ev} {G : Hg} {P : KD} (bs : List β) (e f : β → D) (hl : bs.length ≤ 1000) (hi : ∀ R : Jg → Hg → Prop, R (jP (bs.map e)) G → ti env G R)
    (el : ∀ (b : β) (G' : Hg) (P' : KD), b ∈ bs → P' (f b) G' → te ((wipeE env vs).set i (some (e b))) G' P') (hP : P (.rol (bs.map f)) G) : gLc ti (.one i) gYes te vs env G P :=
  lc_filter bs e f (fun _ => true) hl hi (fun b G' P' _ p => p) el (by rw [List.filter_eq_self.mpr (fun _ _ => rfl)]; exact hP)
theorem BT.none {b c a : Addr} {G G' : Hg} (h : BT b c G G') (hn : G' a = none) : G a = none := by
  cases e : G a with
  | none => rfl
  | some o => rw [h.kp a o (h.bx.ne hn).1 (h.bx.ne hn).2 e] at hn; cases hn
theorem set_dct {a : Addr} {kvs : List (DK × D)} {k : Tx} {v : D} {G : Hg} {P : Hg → Prop} (hg : G a = some (.dct kvs)) (hl : kvs.length ≤ 1000) (p : P (updG G a (.dct (dput kvs (sk k) v)))) : rSet (.ref a) (.str k) v G P :=
  ⟨_, hg, sk k, rfl, by rw [sizeLine_eq]; omega, fun G' e => by rw [e]; exact p⟩
theorem set_new {a : Addr} {kvs : List (DK × D)} {k : Tx} {v : D} {G : Hg} {P : Hg → Prop} (hg : G a = some (.dct kvs)) (hk : (kvs.any fun kv => decide (kv.1 = sk k)) = false) (hl : kvs.length ≤ 1000) (p : P (updG G a (.dct (kvs ++ [(sk k, v)])))) : rSet (.ref a) (.str k) v G P :=
  set_dct hg hl (by rw [show dput kvs (sk k) v = kvs ++ [(sk k, v)] from by unfold dput; rw [hk]; rfl]; exact p)
theorem walk_rol {xs : List D} {G : Hg} {R : Jg → Hg → Prop} (h : R (jP xs) G) : rWalkA (.rol xs) G R := h
theorem vc__law_mixed_head {K : PySem.W.Frag} (ds : List D) (G : Hg) (Q : KD) (h : sp__law_mixed_head ds G Q) : r__law_mixed_head K (endOf Q) (startD N__law_mixed_head ds) G := by
  obtain ⟨b, c, x0, x1, x2, x3, rfl, hb, hP⟩ := h
  show r__law_mixed_head K (endOf Q) [some (.ref b), some (.rol (txs [x0, x1, x2, x3])), none, none, none, none, none, none] G
  unfold r__law_mixed_head
  walk_at "vc"
  refine nxt_call hb (by decide) (by decide) fun n G1 hn t1 => ?_
  refine cut_rol (i := 0) (j := n) (by simp) (by simp; omega) (.inl (nx ?_))
  generalize hL : List.take (n - 0) (List.drop 0 [x0, x1, x2, x3]) = L
  have hLl : L.length ≤ 2 := by rw [← hL]; simp; omega
  unfold r__law_mixed_head_1
  walk_at "vc"
  refine disp_ref fun p hp => ?_
  simp only [gPairs]
  walk_at "vc"
  refine it_rol (i := 2) rfl ⟨by simp [sizeLine_eq], .inl ⟨upd_at, ?_⟩⟩
  refine ⟨(by decide : (3 : Nat) ≤ 15), ?_⟩
  rw [upd_upd]
  refine nxl 3 rfl (.dct upd_at) ?_
  rw [del_upd hp]
  show r__law_mixed_head_2 K (endOf Q) [some (.ref b), some (.rol (txs [x0, x1, x2, x3])), some (.rol (txs L)), some (.rdc [(sk S_numbers, .rol (txs [x2])), (sk S_lists, .rol (txs L)), (sk S_old, .bl false)]), none, none, none, none] G1
  have hv : ∀ G', IsV G' (.rdc [(sk S_numbers, .rol (txs [x2])), (sk S_lists, .rol (txs L)), (sk S_old, .bl false)]) [x2] L false := fun G' => ⟨⟨_, .rdc _, rfl, rfl, rfl⟩, by simp, by omega⟩
  unfold r__law_mixed_head_2
  walk_at "vc"
  refine disp_ref fun q hq => ?_
  simp only [gPairs]
  walk_at "vc"
  refine it_rol (i := 3) rfl ?_
  refine lc_all L .str (fun x => oneD x true) (by omega) (fun R h => h) (fun x G' P' hx k => ⟨by simp [sizeLine_eq], k⟩) ?_
  refine it_rol (i := 2) rfl ⟨by simp [sizeLine_eq], by simp [sizeLine_eq], .inl (add_rol (by simp [sizeLine_eq]; omega) ⟨upd_at, ?_⟩)⟩
  refine ⟨(by decide : (3 : Nat) ≤ 15), ?_⟩
  rw [upd_upd]
  refine nx ?_
  let ps : List (Tx × Bool) := L.map (fun x => (x, true)) ++ [(x2, false)]
  have eps : List.map (fun x => oneD x true) L ++ [D.tup [D.str x2, D.bl false]] = parD ps := by simp [ps, parD, oneD]
  rw [eps]
  have hps : Sz ps.length := by simp [ps, Sz]; omega
  show r__law_mixed_head_3 K (endOf Q) _ (updG G1 q (.dct [(sk S_name, .str x3), (sk S_parameters, .rol (parD ps)), (sk S_falls, .non)]))
  have hq0 := t1.none hq
  have nq := hb.ne hq0
  have t2 := t1.upd hb (o := .dct [(sk S_name, .str x3), (sk S_parameters, .rol (parD ps)), (sk S_falls, .non)]) hq0
  unfold r__law_mixed_head_3
  walk_at "vc"
  refine lc_bt ?_
  walk_at "vc"
  refine nxt_call (m := 2) t2.bx (by decide) (by decide) fun n2 G2 hn2 t3 => ⟨by omega, by omega, ?_⟩
  rw [Int.toNat_natCast]
  refine lcr_bt n2 Pr.d (fun _ => True) (by omega) t3.bx (fun i G3 P' t4 k => ?_) fun zs G3 hzs _ t4 => ?_
  · walk_at "vc"
    exact pr_call t4.bx (hv _) fun z G4 _ t5 => k z G4 trivial t5
  have gq3 := (t3.trans t4).kp q _ nq.1 nq.2 upd_at
  refine set_new gq3 rfl (by simp) (nx ?_)
  simp only [List.cons_append, List.nil_append]
  have t5 := ((t2.trans t3).trans t4).upd hb (o := .dct [(sk S_name, .str x3), (sk S_parameters, .rol (parD ps)), (sk S_falls, .non), (sk S_needs, .rol (zs.map Pr.d))]) hq0
  unfold r__law_mixed_head_4
  walk_at "vc"
  refine disp_ref fun p2 hp2 => ?_
  simp only [gPairs]
  walk_at "vc"
  refine it_rol (i := 2) rfl ⟨by simp [sizeLine_eq], .inl ⟨upd_at, ?_⟩⟩
  refine ⟨(by decide : (3 : Nat) ≤ 15), ?_⟩
  rw [upd_upd]
  refine nxl 7 rfl (.dct upd_at) ?_
  rw [del_upd hp2]
  show r__law_mixed_head_5 K (endOf Q) [some (.ref b), some (.rol (txs [x0, x1, x2, x3])), some (.rol (txs L)), _, some (.ref q), none, none, some (.rdc [(sk S_numbers, .rol (txs [x2, S_result])), (sk S_lists, .rol (txs L)), (sk S_old, .bl true)])] _
  have hv2 : ∀ G', IsV G' (.rdc [(sk S_numbers, .rol (txs [x2, S_result])), (sk S_lists, .rol (txs L)), (sk S_old, .bl true)]) [x2, S_result] L true := fun G' => ⟨⟨_, .rdc _, rfl, rfl, rfl⟩, by simp, by omega⟩
  unfold r__law_mixed_head_5
  walk_at "vc"
  refine lc_bt ?_
  walk_at "vc"
  refine nxt_call (m := 2) t5.bx (by decide) (by decide) fun n3 G4 hn3 t6 => ⟨by omega, by omega, ?_⟩
  rw [Int.toNat_natCast]
  refine lcr_bt n3 Pr.d (fun _ => True) (by omega) t6.bx (fun i G3 P' t4 k => ?_) fun ws G5 hws _ t7 => ?_
  · walk_at "vc"
    exact pr_call t4.bx (hv2 _) fun z G4 _ t5 => k z G4 trivial t5
  have gq5 := (t6.trans t7).kp q _ nq.1 nq.2 upd_at
  refine set_new gq5 rfl (by simp) (nx ?_)
  simp only [List.cons_append, List.nil_append]
  have t8 := ((t5.trans t6).trans t7).upd hb (o := .dct [(sk S_name, .str x3), (sk S_parameters, .rol (parD ps)), (sk S_falls, .non), (sk S_needs, .rol (zs.map Pr.d)), (sk S_gives, .rol (ws.map Pr.d))]) hq0
  unfold r__law_mixed_head_6
  walk_at "vc"
  refine lc_bt ?_
  walk_at "vc"
  refine walk_rol ?_
  refine lci_bt L .str .str (fun _ => True) (by omega) t8.bx (fun x G3 Y N hx t4 y no => ?_) fun cs G6 hcs _ t9 => ?_
  · walk_at "vc"
    refine nxt_call t4.bx (by decide) (by decide) fun n4 G7 hn4 t10 => eq_int ?_
    cases decide ((n4 : Int) = 0) with
    | true => exact y x _ trivial t10
    | false => exact no _ t10
  have gq6 := t9.kp q _ nq.1 nq.2 upd_at
  refine set_new gq6 rfl (by simp) (nx ?_)
  simp only [List.cons_append, List.nil_append]
  unfold r__law_mixed_head_7
  walk_at "vc"
  refine ret_dct upd_at ?_
  exact hP ⟨x3, ps, zs, ws, cs⟩ _ ⟨hps, by show zs.length ≤ 1000; omega, by show ws.length ≤ 1000; omega, by show cs.length ≤ 1000; omega⟩ rfl (((t8.trans t9).upd hb hq0).del hb hq0)
end My
set_option Elab.async false
set_option linter.all false
set_option autoImplicit false
set_option maxRecDepth 100000
set_option maxHeartbeats 2000000
namespace My
open PySem PySem.Spec PyProof.Rows L2 Vc
def AgIn (N L : List Tx) : Ag → Prop
  | .lst x => x ∈ L
  | .pl p => PlIn N L p
def CallOk (u : Un) (n : Tx) (k : Nat) : Prop := (n = u.nm ∧ k ≤ u.ps.length) ∨ ∃ h ∈ u.us, n = h.nm ∧ k ≤ h.ps.length
def RwIn (u : Un) (N L : List Tx) (m : Nat) : Rw → Prop
  | .set _ x t => x ∈ u.rg ∧ TmIn N L t
  | .put _ c p t => c ∈ L ∧ PlIn N L p ∧ TmIn N L t
  | .swap _ c p q => c ∈ L ∧ PlIn N L p ∧ PlIn N L q
  | .choose _ x p q => x ∈ u.rg ∧ PlIn N L p ∧ PlIn N L q
  | .call _ x n as => x ∈ u.rg ∧ CallOk u n as.length ∧ ∀ a ∈ as, AgIn N L a
  | .ret _ t => TmIn N L t
  | .test _ c a => CmIn N L c ∧ a < m
  | .jump _ a => a < m
  | .fail _ => True
  | .mark _ prs f1 f2 ns ls => prs.length ≤ 2 ∧ (∀ p ∈ prs, PrIn N L p) ∧ PlIn N L f1 ∧ PlIn N L f2 ∧ (∀ x ∈ ns, x ∈ u.rg) ∧ (∀ x ∈ ls, x ∈ L) ∧ ns.length ≤ 1000 ∧ ls.length ≤ 1000
def Un.kv0 (u : Un) : List (DK × D) := [(sk S_name, .str u.nm), (sk S_parameters, .rol (parD u.ps)), (sk S_registers, .rol (txs u.rg)), (sk S_needs, .rol (u.ne.map Pr.d)), (sk S_falls, faD u.fa), (sk S_changes, .rol (txs u.ch)), (sk S_uses, .rol (u.us.map Hd.dct)), (sk S_gives, .rol (u.gi.map Pr.d))]
structure UOk (u : Un) (L : List Tx) : Prop where
  us : u.us.length ≤ 1
  dif : ∀ h ∈ u.us, h.nm ≠ u.nm
  hs : ∀ h ∈ u.us, h.sz
  ps : Sz u.ps.length
  ch : Sz u.ch.length
  psL : ∀ p ∈ u.ps, p.2 = true → p.1 ∈ L
  chL : ∀ x ∈ u.ch, x ∈ L
  rg0 : u.rg ≠ []
  rg : Sz u.rg.length
def orw : Option Rw → D
  | none => .tup [.str S_mark]
  | some r => r.d
def Rw.isM : Rw → Bool
  | .mark .. => true
  | _ => false
def sp__law_mixed_call : Spg := fun ds G P => ∃ (b c pu : Addr) (u : Un) (r : Int) (y : Tx) (x : D) (N L : List Tx) (o : Bool), ds = [.ref b, .ref pu, .int r, .str y, x] ∧ Bx G b c ∧ G pu = some (.dct u.kv0) ∧ UOk u L ∧ u.us ≠ [] ∧ IsV G x N L o ∧
  (∀ G', BT b c G G' → P .non G') ∧ ∀ (n : Tx) (as : List Ag) (G' : Hg), CallOk u n as.length → (∀ a ∈ as, AgIn N L a) → BT b c G G' → P (Rw.call r y n as).d G'
def sp__law_mixed_row : Spg := fun ds G P => ∃ (b c pu pt : Addr) (u : Un) (k : Nat) (al : List Nat) (x : D) (N L : List Tx) (o : Bool) (ts : List D) (m : Nat), ds = [.ref b, .ref pu, .int k, .rol (nats al), x, .ref pt] ∧ Bx G b c ∧ pt ≠ b ∧ pt ≠ c ∧ G pu = some (.dct u.kv0) ∧ G pt = some (.lst ts) ∧ ts.length ≤ 4 ∧ UOk u L ∧ IsV G x N L o ∧ al ≠ [] ∧ al.length ≤ 1000 ∧ (∀ a ∈ al, a < m) ∧
  ∀ (r : Rw) (ts' : List D) (G' : Hg), ts'.length ≤ 4 → RwIn u N L m r → r.isM = false → BT b c (updG G pt (.lst ts')) G' → P r.d G'
def sp__law_changed : Spg := fun ds G P => ∃ (pu : Addr) (u : Un) (L N : List Tx) (m : Nat) (r : Rw), ds = [.ref pu, r.d] ∧ G pu = some (.dct u.kv0) ∧ UOk u L ∧ RwIn u N L m r ∧ ∀ ys : List D, ys.all D.fl = true → ys.length ≤ 1000 → P (.rol ys) G
def sp__law_marked : Spg := fun ds G P => ∃ (b c pu pr : Addr) (u : Un) (x : D) (N L : List Tx) (o : Bool) (rows : List (Option Rw)) (mk cl m : Nat), ds = [.ref b, .ref pu, x, .ref pr, .int mk, .int cl] ∧ Bx G b c ∧ G pu = some (.dct u.kv0) ∧ UOk u L ∧ IsV G x N L o ∧ G pr = some (.lst (rows.map orw)) ∧ rows.length ≤ 1000 ∧ mk < cl ∧ cl < rows.length ∧
  (∀ (k : Nat) (e : Option Rw), mk < k → k ≤ cl → rows[k]? = some e → ∃ r, e = some r ∧ RwIn u N L m r) ∧ ∀ (r : Rw) (G' : Hg), RwIn u N L m r → BT b c G G' → P r.d G'
structure Un.gd (u : Un) : Prop where
  wk : u.wk
  szs : u.szs
  us : Sz u.us.length
def sp__law_mixed : Spg := fun ds G P => ∃ b c : Addr, ds = [.ref b] ∧ Bx G b c ∧ ∀ (u : Un) (G' : Hg), u.gd → BT b c G G' → P u.dct G'
def N__law_mixed_call : List Str := ["box", "u", "row", "name", "v", "parts", "one", "head", "free", "may", "x"]
def G__law_mixed_call (K : PySem.W.Frag) : Tb := ⟨K, [("_law_next", ⟨["box", "many"], sp__law_next⟩), ("_law_plain_drawn", ⟨["box", "v"], sp__law_plain_drawn⟩)], [], [], []⟩
def r__law_mixed_call_2 (K : PySem.W.Frag) : TSg := (gRet (gTup (gCons (gC (.str S_call)) (gCons (gVar 2) (gCons (gVar 3) (gCons (gOp rItem (gVar 1) (gC (.str S_name))) (gCons (gCall bTuple (gCons (gVar 5) gNil)) gNil)))))))
def r__law_mixed_call_1 (K : PySem.W.Frag) : TSg := gSeq (gAsg (gLc (gIterA (gOp rItem (gVar 1) (gC (.str S_parameters)))) (.one 6) gYes (gIf (gTru (gOp rItem (gVar 6) (gC (.int 1)))) (gTup (gCons (gC (.str S_list)) (gCons (gOp rItem (gVar 6) (gC (.int 0))) gNil))) (gCall sp__law_plain_drawn (gCons (gVar 0) (gCons (gVar 4) gNil)))) [6]) (gName 5)) (r__law_mixed_call_2 K)
def r__law_mixed_call_9 (K : PySem.W.Frag) : TSg := (gRet (gC .non))
def r__law_mixed_call_12 (K : PySem.W.Frag) : TSg := (gDrop (gBm isLst mRemove (gVar 8) (gCons (gOp rItem (gOp rItem (gVar 5) (gNeg (gC (.int 1)))) (gC (.int 1))) gNil)))
def r__law_mixed_call_11 (K : PySem.W.Frag) : TSg := gSeq (gDrop (gBm isLst mAppend (gVar 5) (gCons (gTup (gCons (gC (.str S_list)) (gCons (gOp rItem (gVar 9) (gCall sp__law_next (gCons (gVar 0) (gCons (gCall bLen (gCons (gVar 9) gNil)) gNil)))) gNil))) gNil))) (r__law_mixed_call_12 K)
def r__law_mixed_call_13 (K : PySem.W.Frag) : TSg := (gDrop (gBm isLst mAppend (gVar 5) (gCons (gCall sp__law_plain_drawn (gCons (gVar 0) (gCons (gVar 4) gNil))) gNil)))
def r__law_mixed_call_10 (K : PySem.W.Frag) : TSg := (gIfS (gTru (gOp rItem (gVar 6) (gC (.int 1)))) (r__law_mixed_call_11 K) (r__law_mixed_call_13 K))
def r__law_mixed_call_8 (K : PySem.W.Frag) : TSg := gSeq (gIfS (gAnd (gTru (gOp rItem (gVar 6) (gC (.int 1)))) (gB (gOp rEq (gVar 9) (gLst gNil)))) (r__law_mixed_call_9 K) gNext) (r__law_mixed_call_10 K)
def r__law_mixed_call_7 (K : PySem.W.Frag) : TSg := gSeq (gAsg (gLc (gIterA (gVar 8)) (.one 10) (gOr (gB (gOp rIn (gVar 10) (gOp rItem (gVar 1) (gC (.str S_changes))))) (gB (gOp rNin (gOp rItem (gVar 6) (gC (.int 0))) (gOp rItem (gVar 7) (gC (.str S_changes)))))) (gVar 10) [10]) (gName 9)) (r__law_mixed_call_8 K)
def r__law_mixed_call_14 (K : PySem.W.Frag) : TSg := (gRet (gTup (gCons (gC (.str S_call)) (gCons (gVar 2) (gCons (gVar 3) (gCons (gOp rItem (gVar 7) (gC (.str S_name))) (gCons (gCall bTuple (gCons (gVar 5) gNil)) gNil)))))))
def r__law_mixed_call_6 (K : PySem.W.Frag) : TSg := gSeq (gFor (gIterA (gOp rItem (gVar 7) (gC (.str S_parameters)))) (gName 6) (r__law_mixed_call_7 K)) (r__law_mixed_call_14 K)
def r__law_mixed_call_5 (K : PySem.W.Frag) : TSg := gSeq (gAsg (gLst gNil) (gName 5)) (r__law_mixed_call_6 K)
def r__law_mixed_call_4 (K : PySem.W.Frag) : TSg := gSeq (gAsg (gCall bList (gCons (gOp rItem (gVar 4) (gC (.str S_lists))) gNil)) (gName 8)) (r__law_mixed_call_5 K)
def r__law_mixed_call_3 (K : PySem.W.Frag) : TSg := gSeq (gAsg (gOp rItem (gOp rItem (gVar 1) (gC (.str S_uses))) (gC (.int 0))) (gName 7)) (r__law_mixed_call_4 K)
def r__law_mixed_call (K : PySem.W.Frag) : TSg := gSeq (gIfS (gAnd (gB (gOp rIsnt (gOp rItem (gVar 1) (gC (.str S_falls))) (gC .non))) (gB (gOp rEq (gCall sp__law_next (gCons (gVar 0) (gCons (gC (.int 3)) gNil))) (gC (.int 0))))) (r__law_mixed_call_1 K) gNext) (r__law_mixed_call_3 K)
theorem rd__law_mixed_call (K : PySem.W.Frag) : body (G__law_mixed_call K) N__law_mixed_call d__law_mixed_call.scope d__law_mixed_call.body = r__law_mixed_call K := by kernel_rfl
def N__law_mixed_row : List Str := ["box", "u", "at", "allowed", "v", "tests", "row", "kind", "name", "aim", "low", "cells", "told"]
def G__law_mixed_row (K : PySem.W.Frag) : Tb := ⟨K, [("_law_next", ⟨["box", "many"], sp__law_next⟩), ("_law_cmp_drawn", ⟨["box", "v"], sp__law_cmp_drawn⟩), ("_law_plain_drawn", ⟨["box", "v"], sp__law_plain_drawn⟩), ("_law_term_drawn", ⟨["box", "v"], sp__law_term_drawn⟩), ("_law_mixed_call", ⟨["box", "u", "row", "name", "v"], sp__law_mixed_call⟩)], [], [], []⟩
def r__law_mixed_row_6 (K : PySem.W.Frag) : TSg := (gRet (gTup (gCons (gC (.str S_test)) (gCons (gVar 6) (gCons (gCall sp__law_cmp_drawn (gCons (gVar 0) (gCons (gVar 4) gNil))) (gCons (gVar 9) gNil))))))
def r__law_mixed_row_5 (K : PySem.W.Frag) : TSg := gSeq (gDrop (gBm isLst mAppend (gVar 5) (gCons (gVar 2) gNil))) (r__law_mixed_row_6 K)
def r__law_mixed_row_8 (K : PySem.W.Frag) : TSg := (gRet (gTup (gCons (gC (.str S_jump)) (gCons (gVar 6) (gCons (gVar 9) gNil)))))
def r__law_mixed_row_11 (K : PySem.W.Frag) : TSg := (gRet (gTup (gCons (gC (.str S_choose)) (gCons (gVar 6) (gCons (gVar 8) (gCons (gVar 10) (gCons (gOp rAdd (gCut (gVar 10) (gPart (gC (.int 0))) (gPart (gNeg (gC (.int 1))))) (gTup (gCons (gOp rAdd (gOp rAdd (gOp rItem (gVar 10) (gNeg (gC (.int 1)))) (gC (.int 1))) (gCall sp__law_next (gCons (gVar 0) (gCons (gC (.int 3)) gNil)))) gNil))) gNil)))))))
def r__law_mixed_row_10 (K : PySem.W.Frag) : TSg := gSeq (gAsg (gCall sp__law_plain_drawn (gCons (gVar 0) (gCons (gVar 4) gNil))) (gName 10)) (r__law_mixed_row_11 K)
def r__law_mixed_row_13 (K : PySem.W.Frag) : TSg := (gRet (gOp rItem (gTup (gCons (gTup (gCons (gC (.str S_fail)) (gCons (gVar 6) gNil))) (gCons (gTup (gCons (gC (.str S_return)) (gCons (gVar 6) (gCons (gCall sp__law_term_drawn (gCons (gVar 0) (gCons (gVar 4) gNil))) gNil)))) gNil))) (gCall sp__law_next (gCons (gVar 0) (gCons (gC (.int 2)) gNil)))))
def r__law_mixed_row_17 (K : PySem.W.Frag) : TSg := (gRet (gTup (gCons (gC (.str S_swap)) (gCons (gVar 6) (gCons (gVar 11) (gCons (gCall sp__law_plain_drawn (gCons (gVar 0) (gCons (gVar 4) gNil))) (gCons (gCall sp__law_plain_drawn (gCons (gVar 0) (gCons (gVar 4) gNil))) gNil)))))))
def r__law_mixed_row_18 (K : PySem.W.Frag) : TSg := (gRet (gTup (gCons (gC (.str S_put)) (gCons (gVar 6) (gCons (gVar 11) (gCons (gCall sp__law_plain_drawn (gCons (gVar 0) (gCons (gVar 4) gNil))) (gCons (gCall sp__law_term_drawn (gCons (gVar 0) (gCons (gVar 4) gNil))) gNil)))))))
def r__law_mixed_row_16 (K : PySem.W.Frag) : TSg := gSeq (gIfS (gB (gOp rEq (gVar 7) (gC (.int 6)))) (r__law_mixed_row_17 K) gNext) (r__law_mixed_row_18 K)
def r__law_mixed_row_15 (K : PySem.W.Frag) : TSg := gSeq (gAsg (gOp rItem (gOp rItem (gVar 1) (gC (.str S_changes))) (gCall sp__law_next (gCons (gVar 0) (gCons (gCall bLen (gCons (gOp rItem (gVar 1) (gC (.str S_changes))) gNil)) gNil)))) (gName 11)) (r__law_mixed_row_16 K)
def r__law_mixed_row_22 (K : PySem.W.Frag) : TSg := (gRet (gVar 12))
def r__law_mixed_row_21 (K : PySem.W.Frag) : TSg := (gIfS (gB (gOp rIsnt (gVar 12) (gC .non))) (r__law_mixed_row_22 K) gNext)
def r__law_mixed_row_20 (K : PySem.W.Frag) : TSg := gSeq (gAsg (gCall sp__law_mixed_call (gCons (gVar 0) (gCons (gVar 1) (gCons (gVar 6) (gCons (gVar 8) (gCons (gVar 4) gNil)))))) (gName 12)) (r__law_mixed_row_21 K)
def r__law_mixed_row_23 (K : PySem.W.Frag) : TSg := (gRet (gTup (gCons (gC (.str S_set)) (gCons (gVar 6) (gCons (gVar 8) (gCons (gCall sp__law_term_drawn (gCons (gVar 0) (gCons (gVar 4) gNil))) gNil))))))
def r__law_mixed_row_19 (K : PySem.W.Frag) : TSg := gSeq (gIfS (gAnd (gB (gOp rEq (gVar 7) (gC (.int 8)))) (gB (gOp rNe (gOp rItem (gVar 1) (gC (.str S_uses))) (gLst gNil)))) (r__law_mixed_row_20 K) gNext) (r__law_mixed_row_23 K)
def r__law_mixed_row_14 (K : PySem.W.Frag) : TSg := gSeq (gIfS (gAnd (gB (gOp rLt (gVar 7) (gC (.int 8)))) (gB (gOp rNe (gOp rItem (gVar 1) (gC (.str S_changes))) (gLst gNil)))) (r__law_mixed_row_15 K) gNext) (r__law_mixed_row_19 K)
def r__law_mixed_row_12 (K : PySem.W.Frag) : TSg := gSeq (gIfS (gAnd (gB (gOp rEq (gVar 7) (gC (.int 5)))) (gB (gOp rEq (gCall sp__law_next (gCons (gVar 0) (gCons (gC (.int 3)) gNil))) (gC (.int 0))))) (r__law_mixed_row_13 K) gNext) (r__law_mixed_row_14 K)
def r__law_mixed_row_9 (K : PySem.W.Frag) : TSg := gSeq (gIfS (gB (gOp rEq (gVar 7) (gC (.int 4)))) (r__law_mixed_row_10 K) gNext) (r__law_mixed_row_12 K)
def r__law_mixed_row_7 (K : PySem.W.Frag) : TSg := gSeq (gIfS (gB (gOp rEq (gVar 7) (gC (.int 3)))) (r__law_mixed_row_8 K) gNext) (r__law_mixed_row_9 K)
def r__law_mixed_row_4 (K : PySem.W.Frag) : TSg := gSeq (gIfS (gAnd (gB (gOp rLt (gVar 7) (gC (.int 3)))) (gB (gOp rLt (gCall bLen (gCons (gVar 5) gNil)) (gC (.int 4))))) (r__law_mixed_row_5 K) gNext) (r__law_mixed_row_7 K)
def r__law_mixed_row_3 (K : PySem.W.Frag) : TSg := gSeq (gAsg (gOp rItem (gVar 3) (gCall sp__law_next (gCons (gVar 0) (gCons (gCall bLen (gCons (gVar 3) gNil)) gNil)))) (gName 9)) (r__law_mixed_row_4 K)
def r__law_mixed_row_2 (K : PySem.W.Frag) : TSg := gSeq (gAsg (gOp rItem (gOp rItem (gVar 1) (gC (.str S_registers))) (gCall sp__law_next (gCons (gVar 0) (gCons (gCall bLen (gCons (gOp rItem (gVar 1) (gC (.str S_registers))) gNil)) gNil)))) (gName 8)) (r__law_mixed_row_3 K)
def r__law_mixed_row_1 (K : PySem.W.Frag) : TSg := gSeq (gAsg (gCall sp__law_next (gCons (gVar 0) (gCons (gC (.int 12)) gNil))) (gName 7)) (r__law_mixed_row_2 K)
def r__law_mixed_row (K : PySem.W.Frag) : TSg := gSeq (gAsg (gOp rAdd (gC (.int 1)) (gCall sp__law_next (gCons (gVar 0) (gCons (gC (.int 60)) gNil)))) (gName 6)) (r__law_mixed_row_1 K)
theorem rd__law_mixed_row (K : PySem.W.Frag) : body (G__law_mixed_row K) N__law_mixed_row d__law_mixed_row.scope d__law_mixed_row.body = r__law_mixed_row K := by kernel_rfl
def N__law_changed : List Str := ["u", "row", "head", "one", "k"]
def G__law_changed (K : PySem.W.Frag) : Tb := ⟨K, [], [], [], []⟩
def r__law_changed_1 (K : PySem.W.Frag) : TSg := (gRet (gLst (gCons (gOp rItem (gVar 1) (gC (.int 2))) gNil)))
def r__law_changed_3 (K : PySem.W.Frag) : TSg := (gRet (gLst gNil))
def r__law_changed_7 (K : PySem.W.Frag) : TSg := (gAsg (gVar 3) (gName 2))
def r__law_changed_6 (K : PySem.W.Frag) : TSg := (gIfS (gB (gOp rEq (gOp rItem (gVar 3) (gC (.str S_name))) (gOp rItem (gVar 1) (gC (.int 3))))) (r__law_changed_7 K) gNext)
def r__law_changed_8 (K : PySem.W.Frag) : TSg := (gRet (gLc (gRng1 (gCons (gCall bLen (gCons (gOp rItem (gVar 1) (gC (.int 4))) gNil)) gNil)) (.one 4) (gB (gOp rIn (gOp rItem (gOp rItem (gOp rItem (gVar 2) (gC (.str S_parameters))) (gVar 4)) (gC (.int 0))) (gOp rItem (gVar 2) (gC (.str S_changes))))) (gOp rItem (gOp rItem (gOp rItem (gVar 1) (gC (.int 4))) (gVar 4)) (gC (.int 1))) [4]))
def r__law_changed_5 (K : PySem.W.Frag) : TSg := gSeq (gFor (gIterA (gOp rItem (gVar 0) (gC (.str S_uses)))) (gName 3) (r__law_changed_6 K)) (r__law_changed_8 K)
def r__law_changed_4 (K : PySem.W.Frag) : TSg := gSeq (gAsg (gVar 0) (gName 2)) (r__law_changed_5 K)
def r__law_changed_2 (K : PySem.W.Frag) : TSg := gSeq (gIfS (gB (gOp rNe (gOp rItem (gVar 1) (gC (.int 0))) (gC (.str S_call)))) (r__law_changed_3 K) gNext) (r__law_changed_4 K)
def r__law_changed (K : PySem.W.Frag) : TSg := gSeq (gIfS (gB (gOp rIn (gOp rItem (gVar 1) (gC (.int 0))) (gTup (gCons (gC (.str S_put)) (gCons (gC (.str S_swap)) gNil))))) (r__law_changed_1 K) gNext) (r__law_changed_2 K)
theorem rd__law_changed (K : PySem.W.Frag) : body (G__law_changed K) N__law_changed d__law_changed.scope d__law_changed.body = r__law_changed K := by kernel_rfl
def N__law_marked : List Str := ["box", "u", "v", "rows", "mark", "close", "given", "changed", "row", "keeps", "k", "names", "name", "lists", "falls"]
def G__law_marked (K : PySem.W.Frag) : Tb := ⟨K, [("_law_changed", ⟨["u", "row"], sp__law_changed⟩), ("_law_next", ⟨["box", "many"], sp__law_next⟩), ("_law_promise_drawn", ⟨["box", "v"], sp__law_promise_drawn⟩), ("_law_plain_drawn", ⟨["box", "v"], sp__law_plain_drawn⟩)], [], [], []⟩
def r__law_marked_5 (K : PySem.W.Frag) : TSg := (gAsg (gOp rAdd (gVar 7) (gCall bList (gCons (gOp rItem (gVar 8) (gC (.int 5))) gNil))) (gName 7))
def r__law_marked_4 (K : PySem.W.Frag) : TSg := gSeq (gAsg (gOp rAdd (gVar 6) (gCall bList (gCons (gOp rItem (gVar 8) (gC (.int 4))) gNil))) (gName 6)) (r__law_marked_5 K)
def r__law_marked_7 (K : PySem.W.Frag) : TSg := (gDrop (gBm isLst mAppend (gVar 6) (gCons (gOp rItem (gVar 8) (gC (.int 2))) gNil)))
def r__law_marked_8 (K : PySem.W.Frag) : TSg := (gAsg (gOp rAdd (gVar 7) (gCall sp__law_changed (gCons (gVar 1) (gCons (gVar 8) gNil)))) (gName 7))
def r__law_marked_6 (K : PySem.W.Frag) : TSg := gSeq (gIfS (gB (gOp rIn (gOp rItem (gVar 8) (gC (.int 0))) (gTup (gCons (gC (.str S_set)) (gCons (gC (.str S_choose)) (gCons (gC (.str S_call)) gNil)))))) (r__law_marked_7 K) gNext) (r__law_marked_8 K)
def r__law_marked_3 (K : PySem.W.Frag) : TSg := gSeq (gIfS (gB (gOp rEq (gOp rItem (gVar 8) (gC (.int 0))) (gC (.str S_mark)))) (r__law_marked_4 K) gNext) (r__law_marked_6 K)
def r__law_marked_13 (K : PySem.W.Frag) : TSg := (gRet (gTup (gCons (gC (.str S_mark)) (gCons (gOp rAdd (gC (.int 1)) (gCall sp__law_next (gCons (gVar 0) (gCons (gC (.int 60)) gNil)))) (gCons (gVar 9) (gCons (gVar 14) (gCons (gVar 11) (gCons (gVar 13) gNil))))))))
def r__law_marked_12 (K : PySem.W.Frag) : TSg := gSeq (gAsg (gTup (gCons (gCall sp__law_plain_drawn (gCons (gVar 0) (gCons (gVar 2) gNil))) (gCons (gCall sp__law_plain_drawn (gCons (gVar 0) (gCons (gVar 2) gNil))) gNil))) (gName 14)) (r__law_marked_13 K)
def r__law_marked_11 (K : PySem.W.Frag) : TSg := gSeq (gAsg (gCall bTuple (gCons (gLc (gIterA (gOp rItem (gVar 2) (gC (.str S_lists)))) (.one 12) (gOr (gB (gOp rIn (gVar 12) (gVar 7))) (gB (gOp rEq (gCall sp__law_next (gCons (gVar 0) (gCons (gC (.int 8)) gNil))) (gC (.int 0))))) (gVar 12) [12]) gNil)) (gName 13)) (r__law_marked_12 K)
def r__law_marked_10 (K : PySem.W.Frag) : TSg := gSeq (gAsg (gCall bTuple (gCons (gLc (gIterA (gOp rItem (gVar 1) (gC (.str S_registers)))) (.one 12) (gOr (gB (gOp rIn (gVar 12) (gVar 6))) (gB (gOp rEq (gCall sp__law_next (gCons (gVar 0) (gCons (gC (.int 8)) gNil))) (gC (.int 0))))) (gVar 12) [12]) gNil)) (gName 11)) (r__law_marked_11 K)
def r__law_marked_9 (K : PySem.W.Frag) : TSg := gSeq (gAsg (gCall bTuple (gCons (gLc (gRng1 (gCons (gCall sp__law_next (gCons (gVar 0) (gCons (gC (.int 3)) gNil))) gNil)) (.one 10) gYes (gCall sp__law_promise_drawn (gCons (gVar 0) (gCons (gVar 2) gNil))) [10]) gNil)) (gName 9)) (r__law_marked_10 K)
def r__law_marked_2 (K : PySem.W.Frag) : TSg := gSeq (gFor (gIterA (gCut (gVar 3) (gPart (gOp rAdd (gVar 4) (gC (.int 1)))) (gPart (gOp rAdd (gVar 5) (gC (.int 1)))))) (gName 8) (r__law_marked_3 K)) (r__law_marked_9 K)
def r__law_marked_1 (K : PySem.W.Frag) : TSg := gSeq (gAsg (gLst gNil) (gName 7)) (r__law_marked_2 K)
def r__law_marked (K : PySem.W.Frag) : TSg := gSeq (gAsg (gLst gNil) (gName 6)) (r__law_marked_1 K)
theorem rd__law_marked (K : PySem.W.Frag) : body (G__law_marked K) N__law_marked d__law_marked.scope d__law_marked.body = r__law_marked K := by kernel_rfl
def N__law_mixed : List Str := ["box", "names", "lists", "inputs", "own", "v", "u", "x", "k", "name", "ends", "rows", "base", "many", "loops", "tests", "at", "starts", "one", "ends_here", "within", "allowed", "t"]
def G__law_mixed (K : PySem.W.Frag) : Tb := ⟨K, [("_law_names", ⟨["box", "many"], sp__law_names⟩), ("_law_next", ⟨["box", "many"], sp__law_next⟩), ("_law_promise_drawn", ⟨["box", "v"], sp__law_promise_drawn⟩), ("_law_plain_drawn", ⟨["box", "v"], sp__law_plain_drawn⟩), ("_law_mixed_head", ⟨["box", "names"], sp__law_mixed_head⟩), ("_law_term_drawn", ⟨["box", "v"], sp__law_term_drawn⟩), ("_law_loops", ⟨["box", "base", "many"], sp__law_loops⟩), ("_law_free", ⟨["loops", "at", "t"], sp__law_free⟩), ("_law_cmp_drawn", ⟨["box", "v"], sp__law_cmp_drawn⟩), ("_law_mixed_row", ⟨["box", "u", "at", "allowed", "v", "tests"], sp__law_mixed_row⟩), ("_law_marked", ⟨["box", "u", "v", "rows", "mark", "close"], sp__law_marked⟩)], [], [], []⟩
def r__law_mixed_15 (K : PySem.W.Frag) : TSg := (gAsg (gDisp [((gC (.str S_numbers)), (gOp rAdd (gOp rItem (gVar 5) (gC (.str S_numbers))) (gLst (gCons (gVar 9) gNil)))), ((gC (.str S_lists)), (gVar 2)), ((gC (.str S_old)), (gC (.bl false)))]) (gName 5))
def r__law_mixed_14 (K : PySem.W.Frag) : TSg := gSeq (gDrop (gBm isLst mAppend (gVar 11) (gCons (gTup (gCons (gC (.str S_set)) (gCons (gOp rAdd (gC (.int 1)) (gCall sp__law_next (gCons (gVar 0) (gCons (gC (.int 60)) gNil)))) (gCons (gVar 9) (gCons (gCall sp__law_term_drawn (gCons (gVar 0) (gCons (gVar 5) gNil))) gNil))))) gNil))) (r__law_mixed_15 K)
def r__law_mixed_26 (K : PySem.W.Frag) : TSg := (gDrop (gBm isLst mAppend (gVar 11) (gCons (gTup (gCons (gC (.str S_mark)) gNil)) gNil)))
def r__law_mixed_29 (K : PySem.W.Frag) : TSg := (gDrop (gBm isLst mAppend (gVar 11) (gCons (gTup (gCons (gC (.str S_test)) (gCons (gOp rAdd (gC (.int 1)) (gCall sp__law_next (gCons (gVar 0) (gCons (gC (.int 60)) gNil)))) (gCons (gCall sp__law_cmp_drawn (gCons (gVar 0) (gCons (gVar 5) gNil))) (gCons (gOp rItem (gOp rItem (gVar 19) (gC (.int 0))) (gC (.int 0))) gNil))))) gNil)))
def r__law_mixed_28 (K : PySem.W.Frag) : TSg := gSeq (gDrop (gBm isLst mAppend (gVar 15) (gCons (gVar 16) gNil))) (r__law_mixed_29 K)
def r__law_mixed_31 (K : PySem.W.Frag) : TSg := (gDrop (gBm isLst mAppend (gVar 11) (gCons (gTup (gCons (gC (.str S_jump)) (gCons (gOp rAdd (gC (.int 1)) (gCall sp__law_next (gCons (gVar 0) (gCons (gC (.int 60)) gNil)))) (gCons (gOp rItem (gOp rItem (gVar 19) (gC (.int 0))) (gC (.int 0))) gNil)))) gNil)))
def r__law_mixed_32 (K : PySem.W.Frag) : TSg := (gDrop (gBm isLst mAppend (gVar 11) (gCons (gCall sp__law_mixed_row (gCons (gVar 0) (gCons (gVar 6) (gCons (gVar 16) (gCons (gOp rAdd (gVar 21) (gVar 20)) (gCons (gVar 5) (gCons (gVar 15) gNil))))))) gNil)))
def r__law_mixed_30 (K : PySem.W.Frag) : TSg := (gIfS (gB (gOp rNe (gVar 19) (gLst gNil))) (r__law_mixed_31 K) (r__law_mixed_32 K))
def r__law_mixed_27 (K : PySem.W.Frag) : TSg := (gIfS (gAnd (gB (gOp rNe (gVar 19) (gLst gNil))) (gAnd (gB (gOp rEq (gCall sp__law_next (gCons (gVar 0) (gCons (gC (.int 4)) gNil))) (gC (.int 0)))) (gB (gOp rLt (gCall bLen (gCons (gVar 15) gNil)) (gC (.int 4)))))) (r__law_mixed_28 K) (r__law_mixed_30 K))
def r__law_mixed_25 (K : PySem.W.Frag) : TSg := (gIfS (gB (gOp rNe (gVar 17) (gLst gNil))) (r__law_mixed_26 K) (r__law_mixed_27 K))
def r__law_mixed_24 (K : PySem.W.Frag) : TSg := gSeq (gAsg (gLc (gRng2 (gCons (gOp rAdd (gVar 16) (gC (.int 1))) (gCons (gOp rAdd (gOp rAdd (gVar 12) (gVar 13)) (gC (.int 1))) gNil))) (.one 22) (gTru (gCall sp__law_free (gCons (gVar 14) (gCons (gVar 16) (gCons (gVar 22) gNil))))) (gVar 22) [22]) (gName 21)) (r__law_mixed_25 K)
def r__law_mixed_23 (K : PySem.W.Frag) : TSg := gSeq (gAsg (gLc (gIterA (gVar 14)) (.one 18) (gB (gCh rLt rLe (gOp rItem (gVar 18) (gC (.int 0))) (gVar 16) (gOp rItem (gVar 18) (gC (.int 1))))) (gOp rItem (gVar 18) (gC (.int 0))) [18]) (gName 20)) (r__law_mixed_24 K)
def r__law_mixed_22 (K : PySem.W.Frag) : TSg := gSeq (gAsg (gLc (gIterA (gVar 14)) (.one 18) (gB (gOp rEq (gOp rItem (gVar 18) (gC (.int 1))) (gVar 16))) (gVar 18) [18]) (gName 19)) (r__law_mixed_23 K)
def r__law_mixed_21 (K : PySem.W.Frag) : TSg := gSeq (gAsg (gLc (gIterA (gVar 14)) (.one 18) (gB (gOp rEq (gOp rItem (gVar 18) (gC (.int 0))) (gVar 16))) (gVar 18) [18]) (gName 17)) (r__law_mixed_22 K)
def r__law_mixed_36 (K : PySem.W.Frag) : TSg := (gAsg (gCall sp__law_marked (gCons (gVar 0) (gCons (gVar 6) (gCons (gVar 5) (gCons (gVar 11) (gCons (gOp rItem (gVar 18) (gC (.int 0))) (gCons (gOp rItem (gVar 18) (gC (.int 1))) gNil))))))) (gGSub (gVar 11) (gOp rItem (gVar 18) (gC (.int 0)))))
def r__law_mixed_38 (K : PySem.W.Frag) : TSg := (gRet (gVar 6))
def r__law_mixed_37 (K : PySem.W.Frag) : TSg := gSeq (gAsg (gVar 11) (gGSub (gVar 6) (gC (.str S_rows)))) (r__law_mixed_38 K)
def r__law_mixed_35 (K : PySem.W.Frag) : TSg := gSeq (gFor (gRev (gCons (gCall bSorted (gCons (gVar 14) gNil)) gNil)) (gName 18) (r__law_mixed_36 K)) (r__law_mixed_37 K)
def r__law_mixed_34 (K : PySem.W.Frag) : TSg := gSeq (gAsg (gC (.bl true)) (gGSub (gVar 5) (gC (.str S_old)))) (r__law_mixed_35 K)
def r__law_mixed_33 (K : PySem.W.Frag) : TSg := gSeq (gDrop (gBm isLst mAppend (gVar 11) (gCons (gTup (gCons (gC (.str S_return)) (gCons (gOp rAdd (gC (.int 1)) (gCall sp__law_next (gCons (gVar 0) (gCons (gC (.int 60)) gNil)))) (gCons (gCall sp__law_term_drawn (gCons (gVar 0) (gCons (gVar 5) gNil))) gNil)))) gNil))) (r__law_mixed_34 K)
def r__law_mixed_20 (K : PySem.W.Frag) : TSg := gSeq (gFor (gRng2 (gCons (gVar 12) (gCons (gOp rAdd (gVar 12) (gVar 13)) gNil))) (gName 16) (r__law_mixed_21 K)) (r__law_mixed_33 K)
def r__law_mixed_19 (K : PySem.W.Frag) : TSg := gSeq (gAsg (gLst gNil) (gName 15)) (r__law_mixed_20 K)
def r__law_mixed_18 (K : PySem.W.Frag) : TSg := gSeq (gAsg (gCall sp__law_loops (gCons (gVar 0) (gCons (gVar 12) (gCons (gVar 13) gNil)))) (gName 14)) (r__law_mixed_19 K)
def r__law_mixed_17 (K : PySem.W.Frag) : TSg := gSeq (gAsg (gOp rAdd (gC (.int 2)) (gCall sp__law_next (gCons (gVar 0) (gCons (gC (.int 8)) gNil)))) (gName 13)) (r__law_mixed_18 K)
def r__law_mixed_16 (K : PySem.W.Frag) : TSg := gSeq (gAsg (gCall bLen (gCons (gVar 4) gNil)) (gName 12)) (r__law_mixed_17 K)
def r__law_mixed_13 (K : PySem.W.Frag) : TSg := gSeq (gFor (gIterA (gVar 4)) (gName 9) (r__law_mixed_14 K)) (r__law_mixed_16 K)
def r__law_mixed_12 (K : PySem.W.Frag) : TSg := gSeq (gAsg (gLst gNil) (gName 11)) (r__law_mixed_13 K)
def r__law_mixed_11 (K : PySem.W.Frag) : TSg := gSeq (gAsg (gLc (gRng1 (gCons (gCall sp__law_next (gCons (gVar 0) (gCons (gC (.int 2)) gNil))) gNil)) (.one 8) gYes (gCall sp__law_promise_drawn (gCons (gVar 0) (gCons (gVar 10) gNil))) [8]) (gGSub (gVar 6) (gC (.str S_gives)))) (r__law_mixed_12 K)
def r__law_mixed_10 (K : PySem.W.Frag) : TSg := gSeq (gAsg (gDisp [((gC (.str S_numbers)), (gOp rAdd (gVar 3) (gLst (gCons (gC (.str S_result)) gNil)))), ((gC (.str S_lists)), (gVar 2)), ((gC (.str S_old)), (gC (.bl true)))]) (gName 10)) (r__law_mixed_11 K)
def r__law_mixed_9 (K : PySem.W.Frag) : TSg := gSeq (gAsg (gLc (gRng1 (gCons (gCall sp__law_next (gCons (gVar 0) (gCons (gC (.int 2)) gNil))) gNil)) (.one 8) gYes (gCall sp__law_mixed_head (gCons (gVar 0) (gCons (gLst (gCons (gOp rItem (gVar 1) (gC (.int 1))) (gCons (gOp rItem (gVar 1) (gC (.int 5))) (gCons (gOp rItem (gVar 1) (gC (.int 7))) (gCons (gOp rItem (gVar 1) (gC (.int 13))) gNil))))) gNil))) [8]) (gGSub (gVar 6) (gC (.str S_uses)))) (r__law_mixed_10 K)
def r__law_mixed_8 (K : PySem.W.Frag) : TSg := gSeq (gAsg (gLc (gIterA (gVar 2)) (.one 9) (gB (gOp rGt (gCall sp__law_next (gCons (gVar 0) (gCons (gC (.int 4)) gNil))) (gC (.int 0)))) (gVar 9) [9]) (gGSub (gVar 6) (gC (.str S_changes)))) (r__law_mixed_9 K)
def r__law_mixed_7 (K : PySem.W.Frag) : TSg := gSeq (gAsg (gIf (gB (gOp rEq (gCall sp__law_next (gCons (gVar 0) (gCons (gC (.int 3)) gNil))) (gC (.int 0)))) (gTup (gCons (gCall sp__law_plain_drawn (gCons (gVar 0) (gCons (gVar 5) gNil))) (gCons (gCall sp__law_plain_drawn (gCons (gVar 0) (gCons (gVar 5) gNil))) gNil))) (gC .non)) (gGSub (gVar 6) (gC (.str S_falls)))) (r__law_mixed_8 K)
def r__law_mixed_6 (K : PySem.W.Frag) : TSg := gSeq (gAsg (gLc (gRng1 (gCons (gCall sp__law_next (gCons (gVar 0) (gCons (gC (.int 2)) gNil))) gNil)) (.one 8) gYes (gCall sp__law_promise_drawn (gCons (gVar 0) (gCons (gVar 5) gNil))) [8]) (gGSub (gVar 6) (gC (.str S_needs)))) (r__law_mixed_7 K)
def r__law_mixed_5 (K : PySem.W.Frag) : TSg := gSeq (gAsg (gDisp [((gC (.str S_name)), (gOp rItem (gVar 1) (gC (.int 12)))), ((gC (.str S_parameters)), (gOp rAdd (gLc (gIterA (gVar 2)) (.one 7) gYes (gTup (gCons (gVar 7) (gCons (gC (.bl true)) gNil))) [7]) (gLc (gIterA (gVar 3)) (.one 7) gYes (gTup (gCons (gVar 7) (gCons (gC (.bl false)) gNil))) [7]))), ((gC (.str S_registers)), (gVar 4))]) (gName 6)) (r__law_mixed_6 K)
def r__law_mixed_4 (K : PySem.W.Frag) : TSg := gSeq (gAsg (gDisp [((gC (.str S_numbers)), (gVar 3)), ((gC (.str S_lists)), (gVar 2)), ((gC (.str S_old)), (gC (.bl false)))]) (gName 5)) (r__law_mixed_5 K)
def r__law_mixed_3 (K : PySem.W.Frag) : TSg := gSeq (gAsg (gCut (gVar 1) (gPart (gC (.int 6))) (gPart (gOp rAdd (gC (.int 7)) (gCall sp__law_next (gCons (gVar 0) (gCons (gC (.int 5)) gNil)))))) (gName 4)) (r__law_mixed_4 K)
def r__law_mixed_2 (K : PySem.W.Frag) : TSg := gSeq (gAsg (gCut (gVar 1) (gPart (gC (.int 3))) (gPart (gOp rAdd (gC (.int 3)) (gCall sp__law_next (gCons (gVar 0) (gCons (gC (.int 3)) gNil)))))) (gName 3)) (r__law_mixed_3 K)
def r__law_mixed_1 (K : PySem.W.Frag) : TSg := gSeq (gAsg (gCut (gVar 1) (gPart (gC (.int 0))) (gPart (gCall sp__law_next (gCons (gVar 0) (gCons (gC (.int 4)) gNil))))) (gName 2)) (r__law_mixed_2 K)
def r__law_mixed (K : PySem.W.Frag) : TSg := gSeq (gAsg (gCall sp__law_names (gCons (gVar 0) (gCons (gC (.int 16)) gNil))) (gName 1)) (r__law_mixed_1 K)
theorem rd__law_mixed (K : PySem.W.Frag) : body (G__law_mixed K) N__law_mixed d__law_mixed.scope d__law_mixed.body = r__law_mixed K := by kernel_rfl
end My

set_option Elab.async false
set_option linter.all false
set_option autoImplicit false
set_option maxRecDepth 100000
set_option maxHeartbeats 2000000
namespace My
open PySem PySem.Spec PyProof.Rows Vc
local macro_rules | `(tactic| walk_at "vc") => `(tactic| (try dsimp only [gSeq, gMake, gSFld, gAsg, gName, gRet, gRetN, gIfS, gDrop, gNext, gBreak, gCont, gVar, gC, gOp, gB, gCh, gAnd, gOr, gNot, gAndV, gOrV, gNotV, gIf, gTru, gNil, gCons, gTup, gLst, gFld, gCall, gBm, gCut, gNoPart, gPart, gIsa, gIsO, gNeg, gYes, gGSub, gIterA, gGTup, gGCons, gGNil, gRng1, gRng2, gRev, gRvR1, gRvR2, Tg.put, setAll, wipeE, List.set, List.getElem?_cons_zero, List.getElem?_cons_succ]))
theorem lc_jL {a : Addr} {ds : List D} {env : Ev} {g : Tg} {tt : TTg} {te : TEg} {vs : List Nat} {P : KD} {Dd : Addr} {G2 : Hg} (v : Nat → List D → Hg → Prop) (hv : ∀ i acc G, v i acc G → G a = some (.lst ds)) (hD : G2 Dd = some (.lst [])) (h0 : v 0 [] G2)
    (step : ∀ (i : Nat) (d : D) (acc : List D) (G : Hg) (Yes : D → Hg → Prop) (No : Hg → Prop), ds[i]? = some d → G Dd = some (.lst acc) → v i acc G → acc.length ≤ i →
      (∀ y G', G' Dd = some (.lst acc) → v (i + 1) (acc ++ [y]) (updG G' Dd (.lst (acc ++ [y]))) → Yes y G') → (∀ G', G' Dd = some (.lst acc) → v (i + 1) acc G' → No G') → g.put (wipeE env vs) d fun env2 => tt env2 G fun b G4 => match b with
        | true => te env2 G4 Yes
        | false => No G4)
    (hz : ds.length ≤ sizeLine) (done : ∀ acc G, G Dd = some (.lst acc) → v ds.length acc G → acc.length ≤ ds.length → P (.rol acc) (delG G Dd) ∨ P (.ref Dd) G) : ∃ W : Nat → Nat → Hg → Prop, (∃ m, W 0 m G2) ∧ ∀ i m G, W i m G →
      ((jL a).stop i G ∧ ∃ acc, G Dd = some (.lst acc) ∧ (P (.rol acc) (delG G Dd) ∨ P (.ref Dd) G)) ∨ ((jL a).go i G ∧ ∀ d G', (jL a).yld i G d G' → g.put (wipeE env vs) d fun env2 => tt env2 G' fun b G4 => match b with
        | true => te env2 G4 fun y G5 => ∃ acc, G5 Dd = some (.lst acc) ∧ acc.length < sizeLine ∧ ∀ G6, G6 = updG G5 Dd (.lst (acc ++ [y])) → ∃ m', m' < m ∧ W (i + 1) m' G6
        | false => ∃ m', m' < m ∧ W (i + 1) m' G4) := by
  refine ⟨fun i m G => m = ds.length - i ∧ i ≤ ds.length ∧ ∃ acc, G Dd = some (.lst acc) ∧ v i acc G ∧ acc.length ≤ i, ⟨ds.length, by simp, Nat.zero_le _, [], hD, h0, Nat.le_refl _⟩, ?_⟩
  rintro i m G ⟨rfl, hi, acc, ha, p, hl⟩
  have hg := hv _ _ _ p
  by_cases hlt : i < ds.length
  · refine .inr ⟨⟨ds, ds[i], hg, List.getElem?_eq_getElem hlt⟩, fun d G' y => ?_⟩
    obtain ⟨rfl, hd⟩ := y
    refine step i d acc _ _ _ (hd ds hg) ha p hl (fun y G' e q => ⟨acc, e, by omega, fun G6 e6 => ⟨ds.length - (i + 1), by omega, rfl, hlt, acc ++ [y], by rw [e6, upd_at], by rw [e6]; exact q, by simp; omega⟩⟩) fun G' e q => ⟨ds.length - (i + 1), by omega, rfl, hlt, acc, e, q, by omega⟩
  · have e : i = ds.length := by omega
    subst e
    exact .inl ⟨⟨ds, hg, Nat.le_refl _⟩, acc, ha, done acc G ha p hl⟩
theorem lc_filterR {β : Type} {ti : TIg} {tt : TTg} {te : TEg} {vs : List Nat} {i : Nat} {env : Ev} {G : Hg} {P : KD} (a : Addr) (bs : List β) (e f : β → D) (c : β → Bool) (hl : bs.length ≤ 1000) (hG : G a = some (.lst (bs.map e))) (hi : ∀ R : Jg → Hg → Prop, R (jL a) G → ti env G R)
    (ts : ∀ (b : β) (G' : Hg) (P' : Bool → Hg → Prop), b ∈ bs → Kp G G' → P' (c b) G' → tt ((wipeE env vs).set i (some (e b))) G' P') (el : ∀ (b : β) (G' : Hg) (P' : KD), b ∈ bs → P' (f b) G' → te ((wipeE env vs).set i (some (e b))) G' P') (hP : P (.rol ((bs.filter c).map f)) G) : gLc ti (.one i) tt te vs env G P := by
  refine hi _ fun Dd G2 n => ?_
  rw [n.eq]
  have hd := n.fr
  have hne : a ≠ Dd := ne_of_none hd hG
  refine lc_jL (ds := bs.map e) (fun j acc G' => G' = updG G Dd (.lst acc) ∧ acc = ((bs.take j).filter c).map f) (fun j acc G' h => by rw [h.1, upd_off hne]; exact hG) upd_at ⟨rfl, rfl⟩ ?_ (by rw [List.length_map]; exact le_sz (by omega)) ?_
  · rintro j d acc G' Yes No hj ha ⟨rfl, rfl⟩ _ yes no
    rw [List.getElem?_map] at hj
    cases hw : bs[j]? with
    | none => rw [hw] at hj; cases hj
    | some w =>
      rw [hw] at hj
      cases hj
      have hm := List.mem_of_getElem? hw
      have htk : bs.take (j + 1) = bs.take j ++ [w] := by rw [List.take_succ, hw]; rfl
      refine ts w _ _ hm (Kp.new hd) ?_
      cases hc : c w with
      | true => exact el w _ _ hm (yes _ _ ha ⟨by rw [upd_upd], by rw [htk, List.filter_append, List.map_append, List.filter_cons_of_pos hc]; rfl⟩)
      | false => exact no _ ha ⟨rfl, by rw [htk, List.filter_append, List.map_append, List.filter_cons_of_neg (by rw [hc]; simp)]; simp⟩
  · rintro acc G' ha ⟨rfl, rfl⟩ _
    refine .inl ?_
    rw [del_upd hd, List.length_map, List.take_length]
    exact hP
theorem it_dct {a : Addr} {kvs : List (DK × D)} {k : Tx} {d : D} {G : Hg} {P : KD} (h : G a = some (.dct kvs)) (e : dget kvs (sk k) = some d) (p : P d G) : rItem (.ref a) (.str k) G P := it_di (.ref h) e p
theorem isnt_non {x : D} {b : Bool} {G : Hg} {P : KD} (h : isN x = b) (p : P (.bl (!b)) G) : rIsnt x .non G P := by subst h; exact p
theorem tru_bl {b : Bool} {G : Hg} {P : Bool → Hg → Prop} (p : P b G) : rTru (.bl b) G P := p
theorem tup_ref {a : Addr} {xs : List D} {G : Hg} {P : KD} (h : G a = some (.lst xs)) (p : P (.tup xs) G) : bTuple [.ref a] G P := ⟨xs, .lk (.li (.ref h)), p⟩
theorem it_last {a : Addr} {xs : List D} {d : D} {G : Hg} {P : KD} (h : G a = some (.lst (xs ++ [d]))) (p : P d G) : rItem (.ref a) (.int (-1)) G P := by
  refine ⟨_, h, d, ?_, p⟩
  unfold L2.atI L2.ixN
  rw [if_neg (by decide), if_pos (by simp; omega)]
  simp only [List.length_append, List.length_cons, List.length_nil, Option.bind_some]
  rw [show ((-1 : Int) + ((xs.length + (0 + 1) : Nat) : Int)).toNat = xs.length from by omega]
  simp
theorem fst_at : ∀ {fr : List Tx} {w : Tx}, w ∈ fr → ∃ j : Nat, fr[j]? = some w ∧ ∀ m : Nat, m < j → fr[m]? ≠ some w
  | [], _, h => by cases h
  | z :: fr, w, h => by
    by_cases e : z = w
    · exact ⟨0, by rw [e]; rfl, fun m hm => by omega⟩
    · obtain ⟨j, h1, h2⟩ := fst_at (fr := fr) (w := w) ((List.mem_cons.mp h).resolve_left (Ne.symm e))
      refine ⟨j + 1, by simpa using h1, fun m hm => ?_⟩
      cases m with
      | zero => simpa using e
      | succ m => simpa using h2 m (by omega)
theorem er_map : ∀ (fr : List Tx) (j : Nat), (txs fr).eraseIdx j = txs (fr.eraseIdx j)
  | [], _ => rfl
  | _ :: _, 0 => rfl
  | z :: fr, j + 1 => congrArg (D.str z :: ·) (er_map fr j)
theorem rem_txs {a : Addr} {fr : List Tx} {w : Tx} {G : Hg} {P : KD} (h : G a = some (.lst (txs fr))) (hw : w ∈ fr) (p : ∀ fr', fr'.length ≤ fr.length → (∀ z ∈ fr', z ∈ fr) → P .non (updG G a (.lst (txs fr')))) : mRemove (.ref a) [.str w] G P := by
  obtain ⟨j, h1, h2⟩ := fst_at hw
  refine ⟨txs fr, j, .str w, h, rfl, fl_txs fr, by unfold txs; rw [List.getElem?_map, h1]; rfl, by simp [feq], fun m e' hm he => ?_, fun G' eG => ?_⟩
  · unfold txs at he
    rw [List.getElem?_map] at he
    cases hx : fr[m]? with
    | none => rw [hx] at he; cases he
    | some z =>
      rw [hx] at he
      cases he
      have : z ≠ w := fun ez => h2 m hm (by rw [hx, ez])
      simp [feq, this]
  · rw [eG, show (txs fr).eraseIdx j = txs (fr.eraseIdx j) from by exact er_map fr j]
    exact p _ (List.length_eraseIdx_le _ _) fun z hz => List.mem_of_mem_eraseIdx hz
theorem par_at {ps : List (Tx × Bool)} {i : Nat} {d : D} (h : (parD ps)[i]? = some d) : ∃ z q, ps[i]? = some (z, q) ∧ d = oneD z q := by
  unfold parD at h
  rw [List.getElem?_map] at h
  cases e : ps[i]? with
  | none => rw [e] at h; cases h
  | some p => rw [e] at h; cases h; exact ⟨p.1, p.2, rfl, rfl⟩
theorem par_len {ps : List (Tx × Bool)} : (parD ps).length = ps.length := List.length_map ..
theorem vc__law_mixed_call {K : PySem.W.Frag} (ds : List D) (G : Hg) (Q : KD) (h : sp__law_mixed_call ds G Q) : r__law_mixed_call K (endOf Q) (startD N__law_mixed_call ds) G := by
  obtain ⟨b, c, pu, u, r, y, x, N, L, o, rfl, hb, hu, ok, hus, hv, hN, hP⟩ := h
  show r__law_mixed_call K (endOf Q) [some (.ref b), some (.ref pu), some (.int r), some (.str y), some x, none, none, none, none, none, none] G
  have hll := hv.ll
  have two : ∀ G1, BT b c G G1 → r__law_mixed_call_3 K (endOf Q) [some (.ref b), some (.ref pu), some (.int r), some (.str y), some x, none, none, none, none, none, none] G1 := by
    intro G1 t1
    have hu1 := t1.ne hb hu
    obtain ⟨h0, hs, eus⟩ : ∃ h0 hs, u.us = h0 :: hs := by
      cases e : u.us with
      | nil => exact absurd e hus
      | cons a l => exact ⟨a, l, rfl⟩
    have hm0 : h0 ∈ u.us := by rw [eus]; simp
    have hsz := ok.hs h0 hm0
    unfold r__law_mixed_call_3
    walk_at "vc"
    refine it_dct hu1 (d := .rol (u.us.map Hd.dct)) rfl ?_
    rw [eus]
    refine it_rol (i := 0) (d := h0.dct) rfl (nx ?_)
    unfold r__law_mixed_call_4
    walk_at "vc"
    refine (hv.bt hb t1).lis ⟨_, .lk (.li (.rol _)), rL_ref fun pf hpf => nx ?_⟩
    unfold r__law_mixed_call_5
    walk_at "vc"
    refine ⟨by simp, rL_ref fun pp hpp => nx ?_⟩
    have nfp : pf ≠ pp := ne_of_none hpp upd_at
    have hpp1 : G1 pp = none := by rw [upd_off (Ne.symm nfp)] at hpp; exact hpp
    have hf0 := t1.none hpf
    have hp0 := t1.none hpp1
    have nf := hb.ne hf0
    have np := hb.ne hp0
    unfold r__law_mixed_call_6
    walk_at "vc"
    refine for_bt ?_
    walk_at "vc"
    refine it_rdc (d := .rol (parD h0.ps)) rfl (walk_rol ?_)
    refine for_items (parD h0.ps) (fun i env G' => ∃ z6 z9 as fr, env = [some (.ref b), some (.ref pu), some (.int r), some (.str y), some x, some (.ref pp), z6, some h0.dct, some (.ref pf), z9, none] ∧ BT b c G G' ∧ G' pp = some (.lst (as.map Ag.d)) ∧ G' pf = some (.lst (txs fr)) ∧ as.length = i ∧ (∀ a ∈ as, AgIn N L a) ∧ fr.length ≤ 1000 ∧ ∀ z ∈ fr, z ∈ L) (fun R h => h _ ⟨none, none, [], L, rfl, (t1.upd hb hf0).upd hb hp0, upd_at, by rw [upd_off nfp]; exact upd_at, rfl, by simp, hll, fun z hz => hz⟩) ?_ ?_
    · rintro i d env G2 Nx hd ⟨z6, z9, as, fr, rfl, t2, hpp2, hpf2, hl, hall, hfl, hfr⟩ nxt
      obtain ⟨z, q, hz, rfl⟩ := par_at hd
      have hil : i < h0.ps.length := (List.getElem?_eq_some_iff.mp hz).1
      have hips := hsz.ps
      have hu2 := t2.ne hb hu
      walk_at "vc"
      unfold r__law_mixed_call_7
      walk_at "vc"
      refine lc_filterR pf fr .str .str (fun w => decide (w ∈ u.ch) || !decide (z ∈ h0.ch)) hfl hpf2 (fun R h => ⟨⟨_, hpf2⟩, h⟩) (fun w G' P' hw kp k => ?_) (fun w G' P' hw k => k) (nx ?_)
      · walk_at "vc"
        refine it_dct (kp _ _ hu2) (d := .rol (txs u.ch)) rfl (in_txs ?_)
        by_cases hw2 : w ∈ u.ch
        · rw [decide_eq_true hw2] at k ⊢
          exact k
        · rw [decide_eq_false hw2] at k ⊢
          refine it_tup (i := 0) rfl (it_rdc (d := .rol (txs h0.ch)) rfl (in_txs ?_))
          exact k
      generalize hmay : List.filter (fun w => decide (w ∈ u.ch) || !decide (z ∈ h0.ch)) fr = may
      have hmf : ∀ w ∈ may, w ∈ fr := fun w hw => by rw [← hmay] at hw; exact (List.mem_filter.mp hw).1
      have hml : may.length ≤ fr.length := by rw [← hmay]; exact List.length_filter_le _ _
      unfold r__law_mixed_call_8
      walk_at "vc"
      refine it_tup (i := 1) rfl ?_
      cases q with
      | false =>
        refine nx ?_
        unfold r__law_mixed_call_10
        walk_at "vc"
        refine it_tup (i := 1) rfl ?_
        show r__law_mixed_call_13 K _ _ _
        unfold r__law_mixed_call_13
        walk_at "vc"
        refine ⟨⟨_, hpp2⟩, pl_call t2.bx (hv.bt hb t2) fun pl G3 hpl t3 => ?_⟩
        have hpp3 := t3.kp pp _ np.1 np.2 hpp2
        have hpf3 := t3.kp pf _ nf.1 nf.2 hpf2
        refine app_ref hpp3 (by rw [List.length_map]; omega) (nxt _ _ ⟨_, _, as ++ [.pl pl], fr, rfl, (t2.trans t3).upd hb hp0, by rw [upd_at]; simp [Ag.d], by rw [upd_off nfp]; exact hpf3, by simp [hl], fun a ha => ?_, hfl, hfr⟩)
        rcases List.mem_append.mp ha with ha | ha
        · exact hall a ha
        · rw [List.mem_singleton] at ha
          subst ha
          exact hpl
      | true =>
        refine nil_lst (eq_nilL ?_)
        rw [show (List.map D.str may).isEmpty = may.isEmpty from by cases may <;> rfl]
        cases hmm : may.isEmpty with
        | true =>
          show r__law_mixed_call_9 K _ _ _
          unfold r__law_mixed_call_9
          walk_at "vc"
          exact .inl (hN G2 t2)
        | false =>
          have hmp : 0 < may.length := by
            cases may with
            | nil => simp at hmm
            | cons => simp
          refine nx ?_
          unfold r__law_mixed_call_10
          walk_at "vc"
          refine it_tup (i := 1) rfl ?_
          show r__law_mixed_call_11 K _ _ _
          unfold r__law_mixed_call_11
          walk_at "vc"
          refine ⟨⟨_, hpp2⟩, len_rol (nxt_call t2.bx (by rw [List.length_map]; omega) (by rw [List.length_map]; omega) fun n G3 hn t3 => ?_)⟩
          refine pick hn fun w hw => ⟨by simp [sizeLine_eq], ?_⟩
          have hpp3 := t3.kp pp _ np.1 np.2 hpp2
          have hpf3 := t3.kp pf _ nf.1 nf.2 hpf2
          refine app_ref hpp3 (by rw [List.length_map]; omega) (nx ?_)
          unfold r__law_mixed_call_12
          walk_at "vc"
          have hpf4 : (updG G3 pp (.lst (as.map Ag.d ++ [.tup [.str S_list, .str w]]))) pf = some (.lst (txs fr)) := by rw [upd_off nfp]; exact hpf3
          refine ⟨⟨_, hpf4⟩, it_last upd_at (it_tup (i := 1) rfl (rem_txs hpf4 (hmf w hw) fun fr' hl' hm' => ?_))⟩
          refine nxt _ _ ⟨_, _, as ++ [.lst w], fr', rfl, ((t2.trans t3).upd hb hp0).upd hb hf0, by rw [upd_off (Ne.symm nfp), upd_at]; simp [Ag.d], upd_at, by simp [hl], fun a ha => ?_, by omega, fun z hz => hfr z (hm' z hz)⟩
          rcases List.mem_append.mp ha with ha | ha
          · exact hall a ha
          · rw [List.mem_singleton] at ha
            subst ha
            exact hfr w (hmf w hw)
    · rintro env G2 ⟨z6, z9, as, fr, rfl, t2, hpp2, hpf2, hl, hall, hfl, hfr⟩
      refine nx ?_
      unfold r__law_mixed_call_14
      walk_at "vc"
      rw [par_len] at hl
      refine it_rdc (d := .str h0.nm) rfl (tup_ref hpp2 ⟨by simp [sizeLine_eq], .inl (hP h0.nm as G2 (.inr ⟨h0, hm0, rfl, by omega⟩) hall t2)⟩)
  unfold r__law_mixed_call
  walk_at "vc"
  refine it_dct hu (d := faD u.fa) rfl ?_
  cases hf : u.fa with
  | none => exact isnt_non (b := true) rfl (nx (two G (.refl hb)))
  | some f =>
    obtain ⟨f1, f2⟩ := f
    refine isnt_non (b := false) rfl ?_
    refine nxt_call hb (by decide) (by decide) fun n G1 hn t1 => eq_int ?_
    by_cases h0 : (n : Int) = 0
    · rw [decide_eq_true h0]
      show r__law_mixed_call_1 K _ _ _
      have hu1 := t1.ne hb hu
      unfold r__law_mixed_call_1
      walk_at "vc"
      refine lc_bt ?_
      walk_at "vc"
      refine it_dct hu1 (d := .rol (parD u.ps)) rfl (walk_rol ?_)
      refine lci_bt u.ps (fun p => oneD p.1 p.2) Ag.d (AgIn N L) ok.ps t1.bx (fun p G2 Y No hp t2 yes no => ?_) fun as G2 has hall t2 => ?_
      · obtain ⟨z, q⟩ := p
        walk_at "vc"
        refine it_tup (i := 1) rfl ?_
        cases q with
        | true =>
          refine tru_bl ?_
          refine it_tup (i := 0) rfl ?_
          exact ⟨by simp [sizeLine_eq], yes (.lst z) _ (ok.psL _ hp rfl) (.refl t2.bx)⟩
        | false =>
          refine tru_bl ?_
          exact pl_call t2.bx (hv.bt hb (t1.trans t2)) fun pl G3 hpl t3 => yes (.pl pl) G3 hpl t3
      · refine nx ?_
        unfold r__law_mixed_call_2
        walk_at "vc"
        refine it_dct (t2.ne t1.bx hu1) (d := .str u.nm) rfl (tup_rol ⟨by simp [sizeLine_eq], .inl (hP u.nm as G2 (.inl ⟨rfl, has⟩) hall (t1.trans t2))⟩)
    · rw [decide_eq_false h0]
      exact nx (two G1 t1)
end My

set_option Elab.async false
set_option linter.all false
set_option autoImplicit false
set_option maxRecDepth 100000
set_option maxHeartbeats 2000000
namespace My
open PySem PySem.Spec PyProof.Rows Vc
local macro_rules | `(tactic| walk_at "vc") => `(tactic| (try dsimp only [gSeq, gMake, gSFld, gAsg, gName, gRet, gRetN, gIfS, gDrop, gNext, gBreak, gCont, gVar, gC, gOp, gB, gCh, gAnd, gOr, gNot, gAndV, gOrV, gNotV, gIf, gTru, gNil, gCons, gTup, gLst, gFld, gCall, gBm, gCut, gNoPart, gPart, gIsa, gIsO, gNeg, gYes, gGSub, gIterA, gGTup, gGCons, gGNil, gRng1, gRng2, gRev, gRvR1, gRvR2, Tg.put, setAll, wipeE, List.set, List.getElem?_cons_zero, List.getElem?_cons_succ]))
def Rw.hd : Rw → Tx
  | .set .. => S_set
  | .put .. => S_put
  | .swap .. => S_swap
  | .choose .. => S_choose
  | .call .. => S_call
  | .ret .. => S_return
  | .test .. => S_test
  | .mark .. => S_mark
  | .jump .. => S_jump
  | .fail .. => S_fail
theorem Rw.it0 (r : Rw) {G : Hg} {P : KD} (p : P (.str r.hd) G) : rItem r.d (.int 0) G P := by
  cases r <;> exact it_tup (i := 0) rfl p
theorem Ag.it1 (a : Ag) {G : Hg} {P : KD} (p : ∀ d, D.fl d = true → P d G) : rItem a.d (.int 1) G P := by
  cases a with
  | lst x => exact it_tup (i := 1) rfl (p _ rfl)
  | pl q => cases q <;> exact it_tup (i := 1) rfl (p _ rfl)
theorem in_tup {x : Tx} {xs : List Tx} {q : Bool} {G : Hg} {P : KD} (h : decide (x ∈ xs) = q) (p : P (.bl q) G) : rIn (.str x) (.tup (txs xs)) G P := in_txsT (by rw [h]; exact p)
theorem isDi_kp {G G' : Hg} {x : D} {kvs : List (DK × D)} (h : IsDi G x kvs) (k : Kp G G') : IsDi G' x kvs := by
  cases h with
  | rdc => exact .rdc _
  | ref e => exact .ref (k _ _ e)
theorem vc__law_changed {K : PySem.W.Frag} (ds : List D) (G : Hg) (Q : KD) (h : sp__law_changed ds G Q) : r__law_changed K (endOf Q) (startD N__law_changed ds) G := by
  obtain ⟨pu, u, L, N, m, r, rfl, hu, ok, hr, hP⟩ := h
  show r__law_changed K (endOf Q) [some (.ref pu), some r.d, none, none, none] G
  have nil : r__law_changed_3 K (endOf Q) [some (.ref pu), some r.d, none, none, none] G := by
    unfold r__law_changed_3
    walk_at "vc"
    exact ⟨by simp, .inl (.inl (hP [] rfl (by simp)))⟩
  have one : ∀ x : Tx, (∀ P : KD, P (.str x) G → rItem r.d (.int 2) G P) → r__law_changed_1 K (endOf Q) [some (.ref pu), some r.d, none, none, none] G := by
    intro x hx
    unfold r__law_changed_1
    walk_at "vc"
    refine hx _ ?_
    exact ⟨by simp [sizeLine_eq], .inl (.inl (hP [.str x] rfl (by simp)))⟩
  have other : r.hd ≠ S_put → r.hd ≠ S_swap → r.hd ≠ S_call → r__law_changed K (endOf Q) [some (.ref pu), some r.d, none, none, none] G := by
    intro h1 h2 h3
    unfold r__law_changed
    walk_at "vc"
    refine r.it0 ⟨by simp [sizeLine_eq], in_tup (xs := [S_put, S_swap]) (decide_eq_false (by simp [h1, h2])) (nx ?_)⟩
    unfold r__law_changed_2
    walk_at "vc"
    refine r.it0 (ne_str ?_)
    rw [decide_eq_false h3]
    exact nil
  have cells : r.hd = S_put ∨ r.hd = S_swap → (∃ x : Tx, (∀ P : KD, P (.str x) G → rItem r.d (.int 2) G P)) → r__law_changed K (endOf Q) [some (.ref pu), some r.d, none, none, none] G := by
    rintro h1 ⟨x, hx⟩
    unfold r__law_changed
    walk_at "vc"
    refine r.it0 ⟨by simp [sizeLine_eq], in_tup (xs := [S_put, S_swap]) (decide_eq_true (by simpa using h1)) ?_⟩
    exact one x hx
  cases r with
  | set r x t => exact other (show S_set ≠ S_put by decide) (show S_set ≠ S_swap by decide) (show S_set ≠ S_call by decide)
  | put r c p t => exact cells (.inl rfl) ⟨c, fun P p => it_tup (i := 2) rfl p⟩
  | swap r c p q => exact cells (.inr rfl) ⟨c, fun P p => it_tup (i := 2) rfl p⟩
  | choose r x p q => exact other (show S_choose ≠ S_put by decide) (show S_choose ≠ S_swap by decide) (show S_choose ≠ S_call by decide)
  | ret r t => exact other (show S_return ≠ S_put by decide) (show S_return ≠ S_swap by decide) (show S_return ≠ S_call by decide)
  | test r c a => exact other (show S_test ≠ S_put by decide) (show S_test ≠ S_swap by decide) (show S_test ≠ S_call by decide)
  | mark r prs f1 f2 ns ls => exact other (show S_mark ≠ S_put by decide) (show S_mark ≠ S_swap by decide) (show S_mark ≠ S_call by decide)
  | jump r a => exact other (show S_jump ≠ S_put by decide) (show S_jump ≠ S_swap by decide) (show S_jump ≠ S_call by decide)
  | fail r => exact other (show S_fail ≠ S_put by decide) (show S_fail ≠ S_swap by decide) (show S_fail ≠ S_call by decide)
  | call r x n as =>
    obtain ⟨hx, hc, has⟩ := hr
    generalize hrd : (Rw.call r x n as).d = rd
    have it0 : ∀ P : KD, P (.str S_call) G → rItem rd (.int 0) G P := fun P p => by rw [← hrd]; exact it_tup (i := 0) rfl p
    have it3 : ∀ P : KD, P (.str n) G → rItem rd (.int 3) G P := fun P p => by rw [← hrd]; exact it_tup (i := 3) rfl p
    have it4 : ∀ (G' : Hg) (P : KD), P (.tup (as.map Ag.d)) G' → rItem rd (.int 4) G' P := fun G' P p => by rw [← hrd]; exact it_tup (i := 4) rfl p
    unfold r__law_changed
    walk_at "vc"
    refine it0 _ ⟨by simp [sizeLine_eq], in_tup (xs := [S_put, S_swap]) (q := false) (by decide) (nx ?_)⟩
    unfold r__law_changed_2
    walk_at "vc"
    refine it0 _ (ne_str ?_)
    rw [decide_eq_true rfl]
    refine nx ?_
    unfold r__law_changed_4
    walk_at "vc"
    refine nx ?_
    unfold r__law_changed_5
    walk_at "vc"
    refine for_bt ?_
    walk_at "vc"
    refine it_dct hu (d := .rol (u.us.map Hd.dct)) rfl (walk_rol ?_)
    refine for_items (u.us.map Hd.dct) (fun i env G' => ∃ hd z3, env = [some (.ref pu), some rd, some hd, z3, none] ∧ G' = G ∧ ((hd = .ref pu ∧ ∀ h ∈ u.us.take i, h.nm ≠ n) ∨ ∃ h ∈ u.us, h.nm = n ∧ hd = h.dct)) (fun R h => h _ ⟨_, _, rfl, rfl, .inl ⟨rfl, by simp⟩⟩) ?_ ?_
    · rintro i d env G2 Nx hd ⟨hh, z3, rfl, rfl, hc⟩ nxt
      rw [List.getElem?_map] at hd
      cases hi : u.us[i]? with
      | none => rw [hi] at hd; cases hd
      | some h =>
        rw [hi] at hd
        cases hd
        have hm := List.mem_of_getElem? hi
        walk_at "vc"
        unfold r__law_changed_6
        walk_at "vc"
        refine it_rdc (d := .str h.nm) rfl (it3 _ (eq_str ?_))
        by_cases hn : h.nm = n
        · rw [decide_eq_true hn]
          show r__law_changed_7 K _ _ _
          unfold r__law_changed_7
          walk_at "vc"
          exact nxt _ _ ⟨_, _, rfl, rfl, .inr ⟨h, hm, hn, rfl⟩⟩
        · rw [decide_eq_false hn]
          refine nxt _ _ ⟨_, _, rfl, rfl, ?_⟩
          rcases hc with ⟨h1, h2⟩ | hc
          · refine .inl ⟨h1, fun h' hh' => ?_⟩
            rw [List.take_succ, hi] at hh'
            rcases List.mem_append.mp hh' with hh' | hh'
            · exact h2 h' hh'
            · simp at hh'; subst hh'; exact hn
          · exact .inr hc
    · rintro env G2 ⟨hd, z3, rfl, rfl, hc2⟩
      have key : ∃ kvs ps ch, IsDi G2 hd kvs ∧ dget kvs (sk S_parameters) = some (.rol (parD ps)) ∧ dget kvs (sk S_changes) = some (.rol (txs ch)) ∧ as.length ≤ ps.length ∧ ps.length ≤ 1000 := by
        rcases hc with ⟨e, hl⟩ | ⟨h, hm, e, hl⟩
        · rcases hc2 with ⟨rfl, _⟩ | ⟨h, hm, e2, _⟩
          · exact ⟨u.kv0, u.ps, u.ch, .ref hu, rfl, rfl, hl, ok.ps⟩
          · exact absurd (e2.trans e) (ok.dif h hm)
        · rcases hc2 with ⟨_, h2⟩ | ⟨h', hm', e2, rfl⟩
          · rw [List.length_map, List.take_length] at h2
            exact absurd e.symm (h2 h hm)
          · have : h' = h := by
              have := ok.us
              match hus : u.us, this with
              | [], _ => rw [hus] at hm; cases hm
              | [a], _ => rw [hus] at hm hm'; simp at hm hm'; rw [hm, hm']
              | _ :: _ :: _, z => simp at z
            subst this
            exact ⟨_, h'.ps, h'.ch, .rdc _, rfl, rfl, hl, (ok.hs h' hm).ps⟩
      obtain ⟨kvs, ps, ch, hdi, hp1, hp2, hl, hl2⟩ := key
      refine nx ?_
      unfold r__law_changed_8
      walk_at "vc"
      refine lc_range 0 as.length (fun Dd i acc G' => G2 Dd = none ∧ G' = updG G2 Dd (.lst acc) ∧ acc.all D.fl = true) (le_sz (by omega)) (fun R h => ?_) ?_ ?_
      · walk_at "vc"
        refine it4 _ _ (len_tup ⟨by omega, by rw [List.length_map]; omega, ?_⟩)
        rw [Int.toNat_natCast, List.length_map]
        exact h _ fun Dd hd' => ⟨hd', rfl, rfl⟩
      · rintro Dd i acc G' Yes No hi ha ⟨hd', rfl, hfl⟩ _ yes no
        have e0 : (0 : Int) + i = (i : Int) := by omega
        rw [e0]
        walk_at "vc"
        have hdi' := isDi_kp hdi (Kp.new (o := .lst acc) hd')
        obtain ⟨⟨z, q⟩, hz⟩ : ∃ p, ps[i]? = some p := ⟨_, List.getElem?_eq_getElem (by omega)⟩
        refine it_di hdi' hp1 (it_rol (i := i) (d := oneD z q) (by unfold parD; rw [List.getElem?_map, hz]; rfl) (it_tup (i := 0) rfl (it_di hdi' hp2 (in_txs ?_))))
        by_cases hzc : z ∈ ch
        · rw [decide_eq_true hzc]
          obtain ⟨a, haa⟩ : ∃ a, as[i]? = some a := ⟨_, List.getElem?_eq_getElem hi⟩
          refine it4 _ _ (it_tup (i := i) (d := a.d) (by rw [List.getElem?_map, haa]; rfl) (a.it1 fun d hd2 => yes _ _ ha ⟨hd', by rw [upd_upd], by simp [hfl, hd2]⟩))
        · rw [decide_eq_false hzc]
          exact no _ ha ⟨hd', rfl, hfl⟩
      · rintro Dd acc G' ha ⟨hd', rfl, hfl⟩ hal
        refine .inl ?_
        rw [del_upd hd']
        exact .inl (hP acc hfl (by omega))
end My

set_option Elab.async false
set_option linter.all false
set_option autoImplicit false
set_option maxRecDepth 100000
set_option maxHeartbeats 2000000
namespace My
open PySem PySem.Spec PyProof.Rows Vc
local macro_rules | `(tactic| walk_at "vc") => `(tactic| (try dsimp only [gSeq, gMake, gSFld, gAsg, gName, gRet, gRetN, gIfS, gDrop, gNext, gBreak, gCont, gVar, gC, gOp, gB, gCh, gAnd, gOr, gNot, gAndV, gOrV, gNotV, gIf, gTru, gNil, gCons, gTup, gLst, gFld, gCall, gBm, gCut, gNoPart, gPart, gIsa, gIsO, gNeg, gYes, gGSub, gIterA, gGTup, gGCons, gGNil, gRng1, gRng2, gRev, gRvR1, gRvR2, Tg.put, setAll, wipeE, List.set, List.getElem?_cons_zero, List.getElem?_cons_succ]))
theorem upd_self {G : Hg} {a : Addr} {o : GO} (h : G a = some o) : updG G a o = G := by
  funext z
  by_cases e : z = a
  · subst e; rw [upd_at, h]
  · rw [upd_off e]
theorem BT.upd2 {G G' : Hg} {b c a : Addr} {o : GO} (h : BT b c G G') (n1 : a ≠ b) (n2 : a ≠ c) : BT b c (updG G a o) (updG G' a o) :=
  ⟨h.bx.upd n1 n2, fun z u e1 e2 e3 => by
    by_cases e : z = a
    · subst e; rw [upd_at] at e3 ⊢; exact e3
    · rw [upd_off e] at e3 ⊢; exact h.kp z u e1 e2 e3⟩
theorem pickN {xs : List Nat} {n : Nat} {G : Hg} {P : KD} (hn : (n : Int) < ((nats xs).length : Int)) (p : ∀ x, x ∈ xs → P (.int (x : Nat)) G) : rItem (.rol (nats xs)) (.int (n : Int)) G P := by
  have hl : n < xs.length := by unfold nats at hn; rw [List.length_map] at hn; omega
  refine it_rol (d := .int xs[n]) ?_ (p _ (List.getElem_mem hl))
  unfold nats
  rw [List.getElem?_map, List.getElem?_eq_getElem hl]
  rfl
def Pl.at_ (p : Pl) (m : Int) : Pl := match p with
  | .num _ => .num m
  | .var x _ => .var x m
  | .len x _ => .len x m
theorem PlIn.at_ {N L : List Tx} {p : Pl} (h : PlIn N L p) (m : Int) : PlIn N L (p.at_ m) := by cases p <;> exact h
theorem Pl.cut (p : Pl) {G : Hg} {P : KD} (k : ∀ ds : List D, (∀ m : Int, ds ++ [.int m] = (match (p.at_ m).d with | .tup xs => xs | _ => [])) → ds.length ≤ 2 → P (.tup ds) G) : rCut p.d (some 0) (some (-1)) G P := by
  cases p with
  | num n => exact k [.str S_num] (fun m => rfl) (by simp)
  | var x n => exact k [.str S_var, .str x] (fun m => rfl) (by simp)
  | len x n => exact k [.str S_len, .str x] (fun m => rfl) (by simp)
theorem Pl.d_tup (p : Pl) : p.d = .tup (match p.d with | .tup xs => xs | _ => []) := by cases p <;> rfl
theorem Pl.last (p : Pl) {G : Hg} {P : KD} (k : ∀ n : Int, P (.int n) G) : rItem p.d (.int (-1)) G P := by
  cases p with
  | num n => exact ⟨_, rfl, k n⟩
  | var x n => exact ⟨_, rfl, k n⟩
  | len x n => exact ⟨_, rfl, k n⟩
theorem add_tup {xs ys : List D} {G : Hg} {P : KD} (hl : xs.length + ys.length ≤ sizeLine) (p : P (.tup (xs ++ ys)) G) : rAdd (.tup xs) (.tup ys) G P := ⟨hl, p⟩
theorem len_lst {a : Addr} {xs : List D} {G : Hg} {P : KD} (h : G a = some (.lst xs)) (p : P (.int xs.length) G) : bLen [.ref a] G P := ⟨_, h, p⟩
theorem mc_call {b c pu : Addr} {u : Un} {r : Int} {y : Tx} {x : D} {N L : List Tx} {o : Bool} {G : Hg} {P : KD} (hb : Bx G b c) (hu : G pu = some (.dct u.kv0)) (ok : UOk u L) (hus : u.us ≠ []) (hv : IsV G x N L o) (hN : ∀ G', BT b c G G' → P .non G') (hP : ∀ (n : Tx) (as : List Ag) (G' : Hg), CallOk u n as.length → (∀ a ∈ as, AgIn N L a) → BT b c G G' → P (Rw.call r y n as).d G') : sp__law_mixed_call [.ref b, .ref pu, .int r, .str y, x] G P :=
  ⟨b, c, pu, u, r, y, x, N, L, o, rfl, hb, hu, ok, hus, hv, hN, hP⟩
theorem vc__law_mixed_row {K : PySem.W.Frag} (ds : List D) (G : Hg) (Q : KD) (h : sp__law_mixed_row ds G Q) : r__law_mixed_row K (endOf Q) (startD N__law_mixed_row ds) G := by
  obtain ⟨b, c, pu, pt, u, at_, al, x, N, L, o, ts, m, rfl, hb, ntb, ntc, hu, ht, htl, ok, hv, hal, hall, ham, hP⟩ := h
  show r__law_mixed_row K (endOf Q) [some (.ref b), some (.ref pu), some (.int at_), some (.rol (nats al)), some x, some (.ref pt), none, none, none, none, none, none, none] G
  have fin : ∀ (r : Rw) (G' : Hg), RwIn u N L m r → r.isM = false → BT b c G G' → Q r.d G' := fun r G' h1 h2 h3 => hP r ts G' htl h1 h2 (by rw [upd_self ht]; exact h3)
  have hrg := ok.rg
  have hrp : 0 < u.rg.length := List.length_pos_iff.mpr ok.rg0
  have hap : 0 < al.length := List.length_pos_iff.mpr hal
  have hcl := ok.ch
  unfold r__law_mixed_row
  walk_at "vc"
  refine nxt_call hb (by decide) (by decide) fun n1 G1 hn1 t1 => add_i (nx ?_)
  generalize (1 : Int) + n1 = row
  unfold r__law_mixed_row_1
  walk_at "vc"
  refine nxt_call t1.bx (by decide) (by decide) fun kind G2 hk t2 => nx ?_
  have t02 := t1.trans t2
  unfold r__law_mixed_row_2
  walk_at "vc"
  have hu2 := t02.ne hb hu
  refine it_dct hu2 (d := .rol (txs u.rg)) rfl (it_dct hu2 (d := .rol (txs u.rg)) rfl (len_rol (nxt_call t2.bx (by rw [txs_len]; omega) (by rw [txs_len]; omega) fun n3 G3 hn3 t3 => pick hn3 fun y hy => nx ?_)))
  have t03 := t02.trans t3
  unfold r__law_mixed_row_3
  walk_at "vc"
  have hnl : (nats al).length = al.length := List.length_map ..
  refine len_rol (nxt_call t3.bx (by rw [hnl]; omega) (by rw [hnl]; omega) fun n4 G4 hn4 t4 => pickN hn4 fun aim haim => nx ?_)
  have t04 := t03.trans t4
  have hu4 := t04.ne hb hu
  have hv4 := hv.bt hb t04
  have ht4 := t04.kp pt _ ntb ntc ht
  have ham := ham aim haim
  -- the set at the end
  have set_ : ∀ (z z2 z3 : Option D) (G5 : Hg), BT b c G G5 → r__law_mixed_row_23 K (endOf Q) [some (.ref b), some (.ref pu), some (.int at_), some (.rol (nats al)), some x, some (.ref pt), some (.int row), some (.int kind), some (.str y), some (.int aim), z, z2, z3] G5 := by
    intro z z2 z3 G5 t5
    unfold r__law_mixed_row_23
    walk_at "vc"
    exact tm_call t5.bx (hv.bt hb t5) fun t G6 htm t6 => ⟨by simp [sizeLine_eq], .inl (fin (.set row y t) G6 ⟨hy, htm⟩ rfl (t5.trans t6))⟩
  have e19 : ∀ (G5 : Hg), BT b c G G5 → r__law_mixed_row_19 K (endOf Q) [some (.ref b), some (.ref pu), some (.int at_), some (.rol (nats al)), some x, some (.ref pt), some (.int row), some (.int kind), some (.str y), some (.int aim), none, none, none] G5 := by
    intro G5 t5
    have hu5 := t5.ne hb hu
    unfold r__law_mixed_row_19
    walk_at "vc"
    refine eq_int ?_
    by_cases h8 : (kind : Int) = 8
    · rw [decide_eq_true h8]
      refine it_dct hu5 (d := .rol (u.us.map Hd.dct)) rfl (nil_lst (ne_nilL ?_))
      rw [show (List.map Hd.dct u.us).isEmpty = u.us.isEmpty from by cases u.us <;> rfl]
      cases hus : u.us.isEmpty with
      | true => exact nx (set_ none none none G5 t5)
      | false =>
        have hne : u.us ≠ [] := fun e => by rw [e] at hus; cases hus
        show r__law_mixed_row_20 K _ _ _
        unfold r__law_mixed_row_20
        walk_at "vc"
        refine mc_call t5.bx hu5 ok hne (hv.bt hb t5) (fun G6 t6 => nx ?_) fun n as G6 hc has t6 => nx ?_
        · unfold r__law_mixed_row_21
          walk_at "vc"
          refine isnt_non (b := true) rfl ?_
          exact nx (set_ none none _ G6 (t5.trans t6))
        · unfold r__law_mixed_row_21
          walk_at "vc"
          refine isnt_non (b := false) rfl ?_
          show r__law_mixed_row_22 K _ _ _
          unfold r__law_mixed_row_22
          walk_at "vc"
          exact .inl (fin (.call row y n as) G6 ⟨hy, hc, has⟩ rfl (t5.trans t6))
    · rw [decide_eq_false h8]
      exact nx (set_ none none none G5 t5)
  have e14 : ∀ (G5 : Hg), BT b c G G5 → r__law_mixed_row_14 K (endOf Q) [some (.ref b), some (.ref pu), some (.int at_), some (.rol (nats al)), some x, some (.ref pt), some (.int row), some (.int kind), some (.str y), some (.int aim), none, none, none] G5 := by
    intro G5 t5
    have hu5 := t5.ne hb hu
    unfold r__law_mixed_row_14
    walk_at "vc"
    refine lt_i ?_
    by_cases h8 : (kind : Int) < 8
    · rw [decide_eq_true h8]
      refine it_dct hu5 (d := .rol (txs u.ch)) rfl (nil_lst (ne_nilL ?_))
      rw [txs_emp]
      cases hch : u.ch.isEmpty with
      | true => exact nx (e19 G5 t5)
      | false =>
        have hcp : 0 < u.ch.length := List.length_pos_iff.mpr fun e => by rw [e] at hch; cases hch
        show r__law_mixed_row_15 K _ _ _
        unfold r__law_mixed_row_15
        walk_at "vc"
        refine it_dct hu5 (d := .rol (txs u.ch)) rfl (it_dct hu5 (d := .rol (txs u.ch)) rfl (len_rol (nxt_call t5.bx (by rw [txs_len]; omega) (by rw [txs_len]; omega) fun n6 G6 hn6 t6 => pick hn6 fun cl hcl => nx ?_)))
        have hclL := ok.chL cl hcl
        have t06 := t5.trans t6
        unfold r__law_mixed_row_16
        walk_at "vc"
        refine eq_int ?_
        by_cases h6 : (kind : Int) = 6
        · rw [decide_eq_true h6]
          show r__law_mixed_row_17 K _ _ _
          unfold r__law_mixed_row_17
          walk_at "vc"
          refine pl_call t06.bx (hv.bt hb t06) fun p G7 hp t7 => ?_
          have t07 := t06.trans t7
          refine pl_call t07.bx (hv.bt hb t07) fun q G8 hq t8 => ?_
          exact ⟨by simp [sizeLine_eq], .inl (fin (.swap row cl p q) G8 ⟨hclL, hp, hq⟩ rfl (t07.trans t8))⟩
        · rw [decide_eq_false h6]
          refine nx ?_
          unfold r__law_mixed_row_18
          walk_at "vc"
          refine pl_call t06.bx (hv.bt hb t06) fun p G7 hp t7 => ?_
          have t07 := t06.trans t7
          refine tm_call t07.bx (hv.bt hb t07) fun q G8 hq t8 => ?_
          exact ⟨by simp [sizeLine_eq], .inl (fin (.put row cl p q) G8 ⟨hclL, hp, hq⟩ rfl (t07.trans t8))⟩
    · rw [decide_eq_false h8]
      exact nx (e19 G5 t5)
  have e12 : r__law_mixed_row_12 K (endOf Q) [some (.ref b), some (.ref pu), some (.int at_), some (.rol (nats al)), some x, some (.ref pt), some (.int row), some (.int kind), some (.str y), some (.int aim), none, none, none] G4 := by
    unfold r__law_mixed_row_12
    walk_at "vc"
    refine eq_int ?_
    by_cases h5 : (kind : Int) = 5
    · rw [decide_eq_true h5]
      refine nxt_call t4.bx (by decide) (by decide) fun n5 G5 hn5 t5 => eq_int ?_
      have t05 := t04.trans t5
      by_cases h0 : (n5 : Int) = 0
      · rw [decide_eq_true h0]
        show r__law_mixed_row_13 K _ _ _
        unfold r__law_mixed_row_13
        walk_at "vc"
        refine ⟨by simp [sizeLine_eq], tm_call t05.bx (hv.bt hb t05) fun t G6 htm t6 => ⟨by simp [sizeLine_eq], by simp [sizeLine_eq], nxt_call t6.bx (by decide) (by decide) fun n7 G7 hn7 t7 => ?_⟩⟩
        have t07 := (t05.trans t6).trans t7
        match n7, hn7 with
        | 0, _ => exact it_tup (i := 0) rfl (.inl (fin (.fail row) G7 trivial rfl t07))
        | 1, _ => exact it_tup (i := 1) rfl (.inl (fin (.ret row t) G7 htm rfl t07))
        | n + 2, h => omega
      · rw [decide_eq_false h0]
        exact nx (e14 G5 t05)
    · rw [decide_eq_false h5]
      exact nx (e14 G4 t04)
  have e7 : r__law_mixed_row_7 K (endOf Q) [some (.ref b), some (.ref pu), some (.int at_), some (.rol (nats al)), some x, some (.ref pt), some (.int row), some (.int kind), some (.str y), some (.int aim), none, none, none] G4 := by
    unfold r__law_mixed_row_7
    walk_at "vc"
    refine eq_int ?_
    by_cases h3 : (kind : Int) = 3
    · rw [decide_eq_true h3]
      show r__law_mixed_row_8 K _ _ _
      unfold r__law_mixed_row_8
      walk_at "vc"
      exact ⟨by simp [sizeLine_eq], .inl (fin (.jump row aim) G4 ham rfl t04)⟩
    · rw [decide_eq_false h3]
      refine nx ?_
      unfold r__law_mixed_row_9
      walk_at "vc"
      refine eq_int ?_
      by_cases h4 : (kind : Int) = 4
      · rw [decide_eq_true h4]
        show r__law_mixed_row_10 K _ _ _
        unfold r__law_mixed_row_10
        walk_at "vc"
        refine pl_call t4.bx hv4 fun low G5 hlow t5 => nx ?_
        unfold r__law_mixed_row_11
        walk_at "vc"
        refine Pl.cut low fun ds hds hdl => ?_
        refine Pl.last low fun nn => add_i ?_
        refine nxt_call t5.bx (by decide) (by decide) fun n6 G6 hn6 t6 => add_i ⟨by simp [sizeLine_eq], add_tup (by simp [sizeLine_eq]; omega) ?_⟩
        refine ⟨by simp [sizeLine_eq], .inl ?_⟩
        have := fin (.choose row y low (low.at_ (nn + 1 + n6))) G6 ⟨hy, hlow, hlow.at_ _⟩ rfl ((t04.trans t5).trans t6)
        have this : Q (.tup [.str S_choose, .int row, .str y, low.d, (low.at_ (nn + 1 + n6)).d]) G6 := this
        rw [Pl.d_tup (low.at_ _), ← hds] at this
        exact this
      · rw [decide_eq_false h4]
        exact nx e12
  unfold r__law_mixed_row_4
  walk_at "vc"
  refine lt_i ?_
  by_cases h3 : (kind : Int) < 3
  · rw [decide_eq_true h3]
    refine len_lst ht4 (lt_i ?_)
    by_cases ht5 : (ts.length : Int) < 4
    · rw [decide_eq_true ht5]
      show r__law_mixed_row_5 K _ _ _
      unfold r__law_mixed_row_5
      walk_at "vc"
      refine ⟨⟨_, ht4⟩, app_ref ht4 (by omega) (nx ?_)⟩
      have t05 : BT b c (updG G pt (.lst (ts ++ [.int at_]))) (updG G4 pt (.lst (ts ++ [.int at_]))) := t04.upd2 ntb ntc
      have hv5 : IsV (updG G4 pt (.lst (ts ++ [.int at_]))) x N L o := by
        obtain ⟨⟨kvs, h1, h2⟩, n, l⟩ := hv4
        refine ⟨⟨kvs, ?_, h2⟩, n, l⟩
        cases h1 with
        | rdc => exact .rdc _
        | @ref a _ e =>
          refine .ref ?_
          rw [upd_off (fun e2 => by rw [e2, ht4] at e; cases e)]
          exact e
      unfold r__law_mixed_row_6
      walk_at "vc"
      refine cm_call t05.bx hv5 fun cm G6 hcm t6 => ⟨by simp [sizeLine_eq], .inl (hP (.test row cm aim) (ts ++ [.int at_]) G6 (by simp; omega) ⟨hcm, ham⟩ rfl (t05.trans t6))⟩
    · rw [decide_eq_false ht5]
      exact nx e7
  · rw [decide_eq_false h3]
    exact nx e7
end My

set_option Elab.async false
set_option linter.all false
set_option autoImplicit false
set_option maxRecDepth 100000
set_option maxHeartbeats 2000000
namespace My
open PySem PySem.Spec PyProof.Rows Vc
local macro_rules | `(tactic| walk_at "vc") => `(tactic| (try dsimp only [gSeq, gMake, gSFld, gAsg, gName, gRet, gRetN, gIfS, gDrop, gNext, gBreak, gCont, gVar, gC, gOp, gB, gCh, gAnd, gOr, gNot, gAndV, gOrV, gNotV, gIf, gTru, gNil, gCons, gTup, gLst, gFld, gCall, gBm, gCut, gNoPart, gPart, gIsa, gIsO, gNeg, gYes, gGSub, gIterA, gGTup, gGCons, gGNil, gRng1, gRng2, gRev, gRvR1, gRvR2, Tg.put, setAll, wipeE, List.set, List.getElem?_cons_zero, List.getElem?_cons_succ]))
theorem all_rows {C : Rw → Prop} : ∀ sl : List (Option Rw), (∀ e ∈ sl, ∃ r, e = some r ∧ C r) → ∃ rs : List Rw, sl.map orw = rs.map Rw.d ∧ (∀ r ∈ rs, C r) ∧ rs.length = sl.length
  | [], _ => ⟨[], rfl, by simp, rfl⟩
  | e :: sl, h => by
    obtain ⟨r, rfl, hr⟩ := h e (by simp)
    obtain ⟨rs, h1, h2, h3⟩ := all_rows sl fun e he => h e (by simp [he])
    refine ⟨r :: rs, by rw [List.map_cons, List.map_cons, h1]; rfl, fun z hz => ?_, by simp [h3]⟩
    rcases List.mem_cons.mp hz with rfl | hz
    · exact hr
    · exact h2 z hz
theorem cut_rows {C : Rw → Prop} {rows : List (Option Rw)} {mk cl : Nat} (h : ∀ (k : Nat) (e : Option Rw), mk < k → k ≤ cl → rows[k]? = some e → ∃ r, e = some r ∧ C r) (hmc : mk < cl) (hcl : cl < rows.length) :
    ∃ rs : List Rw, Vc.cutD (rows.map orw) (some (mk + 1 : Int)) (some (cl + 1 : Int)) = rs.map Rw.d ∧ (∀ r ∈ rs, C r) ∧ rs.length ≤ rows.length := by
  obtain ⟨rs, h1, h2, h3⟩ := all_rows ((rows.drop (mk + 1)).take (cl - mk)) (C := C) fun e he => by
    obtain ⟨j, hj⟩ := List.getElem?_of_mem he
    have hjl := (List.getElem?_eq_some_iff.mp hj).1
    rw [List.length_take] at hjl
    rw [List.getElem?_take_of_lt (by omega), List.getElem?_drop] at hj
    exact h _ e (by omega) (by omega) hj
  refine ⟨rs, ?_, h2, by rw [h3, List.length_take, List.length_drop]; omega⟩
  rw [show (mk + 1 : Int) = ((mk + 1 : Nat) : Int) from by omega, show (cl + 1 : Int) = ((cl + 1 : Nat) : Int) from by omega, cut_nat _ _ _ (by rw [List.length_map]; omega) (by rw [List.length_map]; omega), ← h1, List.map_take, List.map_drop, show cl + 1 - (mk + 1) = cl - mk from by omega]
theorem app_refB {a : Addr} {xs : List D} {d : D} {G : Hg} {P : KD} (h : G a = some (.lst xs)) (hl : xs.length ≤ 10000000) (p : P .non (updG G a (.lst (xs ++ [d])))) : mAppend (.ref a) [d] G P := ⟨xs, h, by rw [sizeLine_eq]; omega, fun G' e => by rw [e]; exact p⟩
theorem in_fl {x : Tx} {xs : List D} {G : Hg} {P : KD} (h : xs.all D.fl = true) (p : ∀ q : Bool, P (.bl q) G) : rIn (.str x) (.rol xs) G P := ⟨rfl, h, p _⟩
theorem in_flR {a : Addr} {x : Tx} {xs : List D} {G : Hg} {P : KD} (ha : G a = some (.lst xs)) (h : xs.all D.fl = true) (p : ∀ q : Bool, P (.bl q) G) : rIn (.str x) (.ref a) G P := ⟨_, ha, rfl, h, p _⟩
theorem ch_call {pu : Addr} {u : Un} {L N : List Tx} {m : Nat} {r : Rw} {G : Hg} {P : KD} (hu : G pu = some (.dct u.kv0)) (ok : UOk u L) (hr : RwIn u N L m r) (k : ∀ ys : List D, ys.all D.fl = true → ys.length ≤ 1000 → P (.rol ys) G) : sp__law_changed [.ref pu, r.d] G P := ⟨pu, u, L, N, m, r, rfl, hu, ok, hr, k⟩
theorem vc__law_marked {K : PySem.W.Frag} (ds : List D) (G : Hg) (Q : KD) (h : sp__law_marked ds G Q) : r__law_marked K (endOf Q) (startD N__law_marked ds) G := by
  obtain ⟨b, c, pu, pr, u, x, N, L, o, rows, mk, cl, m, rfl, hb, hu, ok, hv, hrw, hrl, hmc, hcl, hrs, hP⟩ := h
  show r__law_marked K (endOf Q) [some (.ref b), some (.ref pu), some x, some (.ref pr), some (.int mk), some (.int cl), none, none, none, none, none, none, none, none, none] G
  have hll := hv.ll
  obtain ⟨rs, hcut, hin, hrsl⟩ := cut_rows hrs hmc hcl
  unfold r__law_marked
  walk_at "vc"
  refine ⟨by simp, rL_ref fun pg hpg => nx ?_⟩
  have ng := hb.ne hpg
  have t1 : BT b c G (updG G pg (.lst [])) := (BT.refl hb).upd hb hpg
  have hrw1 : (updG G pg (.lst [])) pr = some (.lst (rows.map orw)) := by rw [upd_off (ne_of_none hpg hrw)]; exact hrw
  unfold r__law_marked_1
  walk_at "vc"
  refine ⟨by simp, .inl (nx ?_)⟩
  unfold r__law_marked_2
  walk_at "vc"
  refine for_bt ?_
  walk_at "vc"
  refine add_i (add_i ⟨_, hrw1, .inl ?_⟩)
  rw [hcut]
  refine walk_rol ?_
  refine for_items (rs.map Rw.d) (fun i env G' => ∃ pg z8 gs cs, env = [some (.ref b), some (.ref pu), some x, some (.ref pr), some (.int mk), some (.int cl), some (.ref pg), some (.rol cs), z8, none, none, none, none, none, none] ∧ G pg = none ∧ BT b c G G' ∧ G' pg = some (.lst gs) ∧ gs.all D.fl = true ∧ cs.all D.fl = true ∧ gs.length ≤ 2000 * i ∧ cs.length ≤ 2000 * i) (fun R h => h _ ⟨pg, _, [], [], rfl, hpg, t1, upd_at, rfl, rfl, by simp, by simp⟩) ?_ ?_
  · rintro i d env G2 Nx hd ⟨pg, z8, gs, cs, rfl, hpg, t2, hpg2, hgf, hcf, hgl, hcl2⟩ nxt
    rw [List.getElem?_map] at hd
    cases hri : rs[i]? with
    | none => rw [hri] at hd; cases hd
    | some r =>
      rw [hri] at hd
      cases hd
      have hm := List.mem_of_getElem? hri
      have hil : i < rs.length := (List.getElem?_eq_some_iff.mp hri).1
      have hr := hin r hm
      have hu2 := t2.ne hb hu
      have hgd : (∃ y : Tx, ∀ (G : Hg) (P : KD), P (.str y) G → rItem r.d (.int 2) G P) ∧ decide (r.hd ∈ [S_set, S_choose, S_call]) = true ∨ decide (r.hd ∈ [S_set, S_choose, S_call]) = false := by
        cases r with
        | mark => exact .inr (show decide (S_mark ∈ [S_set, S_choose, S_call]) = false by decide)
        | set r x t => exact .inl ⟨⟨x, fun G P p => it_tup (i := 2) rfl p⟩, show decide (S_set ∈ [S_set, S_choose, S_call]) = true by decide⟩
        | choose r x p q => exact .inl ⟨⟨x, fun G P p => it_tup (i := 2) rfl p⟩, show decide (S_choose ∈ [S_set, S_choose, S_call]) = true by decide⟩
        | call r x n as => exact .inl ⟨⟨x, fun G P p => it_tup (i := 2) rfl p⟩, show decide (S_call ∈ [S_set, S_choose, S_call]) = true by decide⟩
        | put => exact .inr (show decide (S_put ∈ [S_set, S_choose, S_call]) = false by decide)
        | swap => exact .inr (show decide (S_swap ∈ [S_set, S_choose, S_call]) = false by decide)
        | ret => exact .inr (show decide (S_return ∈ [S_set, S_choose, S_call]) = false by decide)
        | test => exact .inr (show decide (S_test ∈ [S_set, S_choose, S_call]) = false by decide)
        | jump => exact .inr (show decide (S_jump ∈ [S_set, S_choose, S_call]) = false by decide)
        | fail => exact .inr (show decide (S_fail ∈ [S_set, S_choose, S_call]) = false by decide)
      have six : ∀ (E : Eg) (G3 : Hg) (pg : Addr) (gs cs : List D), E.nx = Nx → BT b c G G3 → G pg = none → G3 pg = some (.lst gs) → gs.all D.fl = true → cs.all D.fl = true → gs.length ≤ 2000 * i + 1000 → cs.length ≤ 2000 * i + 1000 → r__law_marked_6 K E [some (.ref b), some (.ref pu), some x, some (.ref pr), some (.int mk), some (.int cl), some (.ref pg), some (.rol cs), some r.d, none, none, none, none, none, none] G3 := by
        intro E G3 pg gs cs hE t3 hpg hg3 hgf hcf hgl hcl
        have last : ∀ (G4 : Hg) (gs' : List D), BT b c G G4 → G4 pg = some (.lst gs') → gs'.all D.fl = true → gs'.length ≤ 2000 * i + 1001 → r__law_marked_8 K E [some (.ref b), some (.ref pu), some x, some (.ref pr), some (.int mk), some (.int cl), some (.ref pg), some (.rol cs), some r.d, none, none, none, none, none, none] G4 := by
          intro G4 gs' t4 hg4 hf4 hl4
          unfold r__law_marked_8
          walk_at "vc"
          rw [hE]
          refine ch_call (t4.ne hb hu) ok hr fun ys hyf hyl => ?_
          refine add_rol (by rw [sizeLine_eq]; omega) (nxt _ _ ⟨pg, _, gs', _, rfl, hpg, t4, hg4, hf4, ?_, by omega, ?_⟩)
          · rw [List.all_append, hcf, hyf]; rfl
          · rw [List.length_append]; omega
        unfold r__law_marked_6
        walk_at "vc"
        refine r.it0 ⟨by simp [sizeLine_eq], in_tup (xs := [S_set, S_choose, S_call]) rfl ?_⟩
        rcases hgd with ⟨⟨y, hy⟩, hd⟩ | hd
        · rw [hd]
          show r__law_marked_7 K _ _ _
          unfold r__law_marked_7
          walk_at "vc"
          refine ⟨⟨_, hg3⟩, hy _ _ (app_refB hg3 (by omega) (nx (last _ _ (t3.upd hb hpg) upd_at ?_ ?_)))⟩
          · rw [List.all_append, hgf]; rfl
          · rw [List.length_append]; simp; omega
        · rw [hd]
          exact nx (last G3 gs t3 hg3 hgf (by omega))
      walk_at "vc"
      unfold r__law_marked_3
      walk_at "vc"
      refine r.it0 (eq_str ?_)
      cases hM : r.isM with
      | true =>
        cases r with
        | mark r0 prs f1 f2 ns ls =>
          obtain ⟨_, _, _, _, hns, hls, hnsl, hlsl⟩ := hr
          rw [show decide ((Rw.mark r0 prs f1 f2 ns ls).hd = S_mark) = true from decide_eq_true rfl]
          show r__law_marked_4 K _ _ _
          unfold r__law_marked_4
          walk_at "vc"
          refine it_tup (i := 4) rfl ?_
          refine ⟨txs ns, .tup _, .inl ?_⟩
          refine ⟨gs, txs ns, .ref hpg2, .rol _, by rw [txs_len, sizeLine_eq]; omega, rL_ref fun pg3 hpg3 => nx ?_⟩
          unfold r__law_marked_5
          walk_at "vc"
          refine it_tup (i := 5) rfl ?_
          refine ⟨txs ls, .tup _, .inl ?_⟩
          have h0 := t2.none hpg3
          refine add_rol (by rw [txs_len, sizeLine_eq]; omega) (nx (six _ _ pg3 _ _ rfl (t2.upd hb h0) h0 upd_at ?_ ?_ ?_ ?_))
          · rw [List.all_append, hgf, fl_txs]; rfl
          · rw [List.all_append, hcf, fl_txs]; rfl
          · rw [List.length_append, txs_len]; omega
          · rw [List.length_append, txs_len]; omega
        | _ => cases hM
      | false =>
        have hne : r.hd ≠ S_mark := by
          cases r with
          | mark => cases hM
          | set => exact show S_set ≠ S_mark by decide
          | put => exact show S_put ≠ S_mark by decide
          | swap => exact show S_swap ≠ S_mark by decide
          | choose => exact show S_choose ≠ S_mark by decide
          | call => exact show S_call ≠ S_mark by decide
          | ret => exact show S_return ≠ S_mark by decide
          | test => exact show S_test ≠ S_mark by decide
          | jump => exact show S_jump ≠ S_mark by decide
          | fail => exact show S_fail ≠ S_mark by decide
        rw [decide_eq_false hne]
        exact nx (six _ _ pg gs cs rfl t2 hpg hpg2 hgf hcf (by omega) (by omega))
  · rintro env G2 ⟨pg, z8, gs, cs, rfl, hpg, t2, hpg2, hgf, hcf, hgl, hcl2⟩
    have ng := hb.ne hpg
    refine nx ?_
    unfold r__law_marked_9
    walk_at "vc"
    refine lc_bt ?_
    walk_at "vc"
    refine nxt_call (m := 3) t2.bx (by decide) (by decide) fun n3 G3 hn3 t3 => ⟨by omega, by omega, ?_⟩
    rw [Int.toNat_natCast]
    have t03 := t2.trans t3
    refine lcr_bt n3 Pr.d (PrIn N L) (by omega) t3.bx (fun i G4 P' t4 k => ?_) fun prs G4 hprl hprs t4 => ?_
    · walk_at "vc"
      exact pr_call t4.bx (hv.bt hb (t03.trans t4)) fun z G5 hz t5 => k z G5 hz t5
    have t04 := t03.trans t4
    refine tup_rol (nx ?_)
    unfold r__law_marked_10
    walk_at "vc"
    refine lc_bt ?_
    walk_at "vc"
    refine it_dct (t04.ne hb hu) (d := .rol (txs u.rg)) rfl (walk_rol ?_)
    refine lci_bt u.rg .str .str (fun z => z ∈ u.rg) ok.rg t04.bx (fun y G5 Y No hy t5 yes no => ?_) fun ns G5 hnl hns t5 => ?_
    · walk_at "vc"
      refine in_flR ((t3.trans (t4.trans t5)).kp pg _ ng.1 ng.2 hpg2) hgf fun q => ?_
      cases q with
      | true => exact yes y _ hy (.refl t5.bx)
      | false =>
        refine nxt_call t5.bx (by decide) (by decide) fun n6 G6 hn6 t6 => eq_int ?_
        cases decide ((n6 : Int) = 0) with
        | true => exact yes y _ hy t6
        | false => exact no _ t6
    have t05 := t04.trans t5
    refine tup_rol (nx ?_)
    unfold r__law_marked_11
    walk_at "vc"
    refine lc_bt ?_
    walk_at "vc"
    refine (hv.bt hb t05).lis (walk_rol ?_)
    refine lci_bt L .str .str (fun z => z ∈ L) hll t05.bx (fun y G6 Y No hy t6 yes no => ?_) fun ls G6 hlsl hls t6 => ?_
    · walk_at "vc"
      refine in_fl hcf fun q => ?_
      cases q with
      | true => exact yes y _ hy (.refl t6.bx)
      | false =>
        refine nxt_call t6.bx (by decide) (by decide) fun n7 G7 hn7 t7 => eq_int ?_
        cases decide ((n7 : Int) = 0) with
        | true => exact yes y _ hy t7
        | false => exact no _ t7
    have t06 := t05.trans t6
    refine tup_rol (nx ?_)
    unfold r__law_marked_12
    walk_at "vc"
    refine pl_call t06.bx (hv.bt hb t06) fun f1 G7 hf1 t7 => ?_
    have t07 := t06.trans t7
    refine pl_call t07.bx (hv.bt hb t07) fun f2 G8 hf2 t8 => ⟨by simp [sizeLine_eq], nx ?_⟩
    have t08 := t07.trans t8
    unfold r__law_marked_13
    walk_at "vc"
    refine nxt_call t08.bx (by decide) (by decide) fun n9 G9 hn9 t9 => add_i ⟨by simp [sizeLine_eq], .inl ?_⟩
    have hrgl := ok.rg
    exact hP (.mark (1 + n9) prs f1 f2 ns ls) G9 ⟨by omega, hprs, hf1, hf2, hns, hls, by omega, by omega⟩ (t08.trans t9)
end My

set_option Elab.async false
set_option linter.all false
set_option autoImplicit false
set_option maxRecDepth 100000
set_option maxHeartbeats 2000000
namespace My
open PySem PySem.Spec PyProof.Rows Vc
structure Okd (n s : Nat) (d : D) (ns : List Tx) : Prop where
  wf : nwf d = true
  pr : D.pr n d = true
  sz : dsz d ≤ s
  nm : ∀ x, x ∈ nmd d ↔ x ∈ ns
structure OkA (n s : Nat) (ds : List D) (ns : List Tx) : Prop where
  wf : nwfs ds = true
  pr : D.prs n ds = true
  sz : dszs ds ≤ s
  nm : ∀ x, x ∈ nmds ds ↔ x ∈ ns
theorem Okd.mono {n s m t : Nat} {d : D} {ns : List Tx} (h : Okd n s d ns) (h1 : n ≤ m) (h2 : s ≤ t) : Okd m t d ns := ⟨h.wf, pr_mono h.pr h1, Nat.le_trans h.sz h2, h.nm⟩
theorem OkA.nil {n : Nat} : OkA n 0 [] [] := ⟨rfl, by unfold D.prs; rfl, by simp [dszs], by simp [nmds]⟩
theorem OkA.cons {n s t : Nat} {d : D} {ds : List D} {ns ms : List Tx} (h : Okd n s d ns) (k : OkA n t ds ms) : OkA n (s + t) (d :: ds) (ns ++ ms) :=
  ⟨by unfold nwfs; rw [h.wf, k.wf]; rfl, by unfold D.prs; rw [h.pr, k.pr]; rfl, by unfold dszs; have := h.sz; have := k.sz; omega, fun x => by unfold nmds; rw [List.mem_append, List.mem_append, h.nm, k.nm]⟩
theorem Okd.tup {n s : Nat} {ds : List D} {ns : List Tx} (h1 : hdv ds = []) (h2 : hwf ds = true) (k : OkA n s ds ns) : Okd (n + 1) (1 + s) (.tup ds) ns :=
  ⟨by unfold nwf; rw [h2, k.wf]; rfl, by unfold D.pr; exact k.pr, by unfold dsz; have := k.sz; omega, fun x => by unfold nmd; rw [h1, List.nil_append]; exact k.nm x⟩
abbrev Cp (s : Tx) : Prop := s.all (· < 0x110000) = true
theorem Wn.cp {s : Tx} (h : Wn s) : Cp s := by
  show s.all _ = true
  rw [List.all_eq_true]
  intro c hc
  have := (h c hc).1
  simp; omega
theorem Okd.str {n : Nat} {s : Tx} (h : Cp s) : Okd n 1 (.str s) [] := ⟨by simp [nwf], by unfold D.pr; exact h, by simp [dsz], by simp [nmd]⟩
theorem Okd.int {n : Nat} {i : Int} : Okd n 1 (.int i) [] := ⟨by simp [nwf], by unfold D.pr; rfl, by simp [dsz], by simp [nmd]⟩
theorem Okd.bl {n : Nat} {b : Bool} : Okd n 1 (.bl b) [] := ⟨by simp [nwf], by unfold D.pr; rfl, by simp [dsz], by simp [nmd]⟩
theorem Okd.nms {n s : Nat} {d : D} {ns ms : List Tx} (h : Okd n s d ns) (e : ∀ x, x ∈ ns ↔ x ∈ ms) : Okd n s d ms := ⟨h.wf, h.pr, h.sz, fun x => (h.nm x).trans (e x)⟩
theorem OkA.map {α : Type} {n s : Nat} {f : α → D} {g : α → List Tx} : ∀ {xs : List α}, (∀ a ∈ xs, Okd n s (f a) (g a)) → OkA n (s * xs.length) (xs.map f) (xs.flatMap g)
  | [], _ => by simpa using OkA.nil
  | a :: xs, h => by
    have := OkA.cons (h a (by simp)) (OkA.map (xs := xs) fun b hb => h b (by simp [hb]))
    rw [List.map_cons, List.flatMap_cons, List.length_cons, Nat.mul_succ, Nat.add_comm]
    exact this
structure Wns (N L : List Tx) : Prop where
  n : ∀ x ∈ N, Wn x
  l : ∀ x ∈ L, Wn x
section
variable {N L : List Tx}
theorem one_ok {x : Tx} {o : Bool} (h : Wn x) : Okd 1 3 (oneD x o) [] := (Okd.tup (n := 0) rfl rfl (.cons (.str h.cp) (.cons .bl .nil))).mono (by omega) (by omega)
theorem pl_ok (W : Wns N L) {p : Pl} (h : PlIn N L p) : Okd 1 4 p.d p.ns := by
  cases p with
  | num n => exact (Okd.tup (n := 0) rfl rfl (.cons (.str (by decide)) (.cons .int .nil))).mono (by omega) (by omega)
  | var x n =>
    have c := (W.n x h).cp
    refine ⟨by simp [Pl.d, nwf, nwfs, hwf], ?_, by simp [Pl.d, dsz, dszs], fun z => by simp [Pl.d, nmd, nmds, hdv, Pl.ns]⟩
    unfold Pl.d D.pr
    simp only [D.prs, D.pr, Bool.and_eq_true, Bool.and_true, and_true, true_and]
    exact ⟨by decide, c⟩
  | len x n => exact (Okd.tup (n := 0) (by simp [hdv, S_len, S_var]) (by simp [hwf]) (.cons (.str (by decide)) (.cons (.str (W.l x h).cp) (.cons .int .nil)))).mono (by omega) (by omega)
theorem tm_ok (W : Wns N L) {p : Tm} (h : TmIn N L p) : Okd 2 11 p.d p.ns := by
  cases p with
  | pl p => exact (pl_ok W h).mono (by omega) (by omega)
  | cell x o i n =>
    obtain ⟨h1, h2⟩ := h
    exact ((Okd.tup rfl rfl (.cons (.str (by decide)) (.cons (one_ok (W.l x h1)) (.cons (pl_ok W h2) (.cons .int .nil))))).mono (by omega) (by omega)).nms (by simp [Tm.ns])
theorem sg_cp {s : Tx} (h : s ∈ sgs) : Cp s := by
  simp only [sgs, List.mem_cons, List.not_mem_nil, or_false] at h
  rcases h with rfl | rfl | rfl | rfl | rfl | rfl <;> decide
theorem cm_ok (W : Wns N L) {c : Cm} (h : CmIn N L c) : Okd 3 25 c.d c.ns := by
  obtain ⟨h1, h2, h3⟩ := h
  exact ((Okd.tup rfl rfl (.cons (.str (by decide)) (.cons (.str (sg_cp h1)) (.cons (tm_ok W h2) (.cons (tm_ok W h3) .nil))))).mono (by omega) (by omega)).nms (by simp [Cm.ns])
theorem pr_ok (W : Wns N L) {p : Pr} (h : PrIn N L p) : Okd 4 60 p.d p.ns := by
  cases p with
  | cmp c => exact (cm_ok W h).mono (by omega) (by omega)
  | either a b =>
    obtain ⟨h1, h2⟩ := h
    exact ((Okd.tup (by simp [hdv, Cm.d]) (by simp [hwf, S_either, S_var]) (.cons (.str (by decide)) (.cons (cm_ok W h1) (.cons (cm_ok W h2) .nil)))).mono (by omega) (by omega)).nms (by simp [Pr.ns])
  | all x o lo hi sg q =>
    obtain ⟨h1, h2, h3, h4, h5⟩ := h
    exact ((Okd.tup rfl rfl (.cons (.str (by decide)) (.cons (one_ok (W.l x h1)) (.cons (pl_ok W h2) (.cons (pl_ok W h3) (.cons (.str (sg_cp h4)) (.cons (pl_ok W h5) .nil))))))).mono (by omega) (by omega)).nms (by simp [Pr.ns])
  | mat x o lo hi sg y p n =>
    obtain ⟨h1, h2, h3, h4, h5⟩ := h
    exact ((Okd.tup rfl rfl (.cons (.str (by decide)) (.cons (one_ok (W.l x h1)) (.cons (pl_ok W h2) (.cons (pl_ok W h3) (.cons (.str (sg_cp h4)) (.cons (one_ok (W.l y h5)) (.cons .int .nil)))))))).mono (by omega) (by omega)).nms (by simp [Pr.ns])
  | sor x o lo hi =>
    obtain ⟨h1, h2, h3⟩ := h
    exact ((Okd.tup rfl rfl (.cons (.str (by decide)) (.cons (one_ok (W.l x h1)) (.cons (pl_ok W h2) (.cons (pl_ok W h3) .nil))))).mono (by omega) (by omega)).nms (by simp [Pr.ns])
  | bel x o lo hi y p a b =>
    obtain ⟨h1, h2, h3, h4, h5, h6⟩ := h
    exact ((Okd.tup rfl rfl (.cons (.str (by decide)) (.cons (one_ok (W.l x h1)) (.cons (pl_ok W h2) (.cons (pl_ok W h3) (.cons (one_ok (W.l y h4)) (.cons (pl_ok W h5) (.cons (pl_ok W h6) .nil)))))))).mono (by omega) (by omega)).nms (by simp [Pr.ns])
theorem ag_ok (W : Wns N L) {a : Ag} (h : AgIn N L a) : Okd 1 4 a.d a.ns := by
  cases a with
  | lst x => exact ((Okd.tup (n := 0) rfl rfl (.cons (.str (by decide)) (.cons (.str (W.l x h).cp) .nil))).mono (by omega) (by omega)).nms (by simp [Ag.ns])
  | pl p => exact pl_ok W h
theorem txs_ok {n : Nat} {xs : List Tx} (h : ∀ x ∈ xs, Wn x) : Okd (n + 1) (1 + xs.length) (.tup (txs xs)) [] := by
  have k : OkA n (1 * xs.length) (xs.map D.str) (xs.flatMap fun _ => []) := OkA.map fun a ha => .str (h a ha).cp
  rw [Nat.one_mul] at k
  have e : (xs.flatMap fun _ => ([] : List Tx)) = [] := by simp
  rw [e] at k
  refine Okd.tup ?_ ?_ k
  · unfold hdv
    match xs, h with
    | [], _ => rfl
    | [_], _ => rfl
    | [_, _], _ => rfl
    | [a, b, c], h => simp [txs, if_neg (h a (by simp)).var]
    | _ :: _ :: _ :: _ :: _, _ => rfl
  · match xs with
    | [] => rfl
    | [_] => rfl
    | [_, _] => rfl
    | [a, b, c] => simp [txs, hwf]
    | _ :: _ :: _ :: _ :: _ => rfl
theorem foldl_ns (ps : List Pr) : ∀ acc : List Tx, ps.foldl (fun acc p => acc ++ p.ns) acc = acc ++ ps.flatMap Pr.ns := by
  induction ps with
  | nil => intro acc; simp
  | cons p ps ih => intro acc; rw [List.foldl_cons, ih]; simp
theorem Pl.not_str (p : Pl) : ∃ ds, p.d = .tup ds := by cases p <;> exact ⟨_, rfl⟩
theorem Tm.not_str (p : Tm) : ∃ ds, p.d = .tup ds := by
  cases p with
  | pl p => exact p.not_str
  | cell => exact ⟨_, rfl⟩
theorem hd3 {x : Tx} {a b : D} (h : ∃ ds, a = .tup ds) (hx : x ≠ S_var) : hdv [.str x, a, b] = [] ∧ hwf [.str x, a, b] = true := by
  obtain ⟨ds, rfl⟩ := h
  exact ⟨rfl, by simp [hwf, hx]⟩
theorem rest_ok {u : Un} {m : Nat} {r : Rw} (W : Wns N L) (hrg : ∀ x ∈ u.rg, Wn x) (hn : Wn u.nm) (hh : ∀ h ∈ u.us, Wn h.nm) (ok : UOk u L) (h : RwIn u N L m r) : Okd 10 1000000 r.rest r.ns := by
  cases r with
  | set r x t =>
    obtain ⟨h1, h2⟩ := h
    exact (Okd.mono (Okd.tup (ds := [.str x, t.d]) (by simp [hdv]) (by simp [hwf]) (.cons (.str (hrg x h1).cp) (.cons (tm_ok W h2) .nil))) (by omega) (by omega)).nms (by simp [Rw.ns])
  | put r c p t =>
    obtain ⟨h1, h2, h3⟩ := h
    have k := hd3 (b := t.d) p.not_str (W.l c h1).var
    exact (Okd.mono (Okd.tup (ds := [.str c, p.d, t.d]) k.1 k.2 (.cons (.str (W.l c h1).cp) (.cons ((pl_ok W h2).mono (by omega) (Nat.le_refl _)) (.cons (tm_ok W h3) .nil)))) (by omega) (by omega)).nms (by simp [Rw.ns])
  | swap r c p q =>
    obtain ⟨h1, h2, h3⟩ := h
    have k := hd3 (b := q.d) p.not_str (W.l c h1).var
    exact (Okd.mono (Okd.tup (ds := [.str c, p.d, q.d]) k.1 k.2 (.cons (.str (W.l c h1).cp) (.cons (pl_ok W h2) (.cons (pl_ok W h3) .nil)))) (by omega) (by omega)).nms (by simp [Rw.ns])
  | choose r x p q =>
    obtain ⟨h1, h2, h3⟩ := h
    have k := hd3 (b := q.d) p.not_str (hrg x h1).var
    exact (Okd.mono (Okd.tup (ds := [.str x, p.d, q.d]) k.1 k.2 (.cons (.str (hrg x h1).cp) (.cons (pl_ok W h2) (.cons (pl_ok W h3) .nil)))) (by omega) (by omega)).nms (by simp [Rw.ns])
  | call r x n as =>
    obtain ⟨h1, h2, h3⟩ := h
    have hnw : Wn n ∧ as.length ≤ 1000 := by
      rcases h2 with ⟨rfl, h⟩ | ⟨hd, hm, rfl, h⟩
      · exact ⟨hn, Nat.le_trans h ok.ps⟩
      · exact ⟨hh hd hm, Nat.le_trans h (ok.hs hd hm).ps⟩
    have ka : Okd 2 (1 + 4 * as.length) (.tup (as.map Ag.d)) (as.flatMap Ag.ns) := by
      refine Okd.tup ?_ ?_ (OkA.map fun a ha => ag_ok W (h3 a ha))
      · match as with
        | [] => simp [hdv]
        | [_] => simp [hdv]
        | [_, _] => simp [hdv]
        | [a, b, c] => cases a with
          | lst => simp [hdv, Ag.d]
          | pl p => cases p <;> simp [hdv, Ag.d, Pl.d]
        | _ :: _ :: _ :: _ :: _ => simp [hdv]
      · match as with
        | [] => simp [hwf]
        | [_] => simp [hwf]
        | [_, _] => simp [hwf]
        | [a, b, c] => cases a with
          | lst => simp [hwf, Ag.d]
          | pl p => cases p <;> simp [hwf, Ag.d, Pl.d]
        | _ :: _ :: _ :: _ :: _ => simp [hwf]
    have hx := (hrg x h1).var
    exact (Okd.mono (Okd.tup (ds := [.str x, .str n, .tup (as.map Ag.d)]) (by simp [hdv, hx]) (by simp [hwf]) (.cons (.str (hrg x h1).cp) (.cons (.str hnw.1.cp) (.cons ka .nil)))) (by omega) (by omega)).nms (by simp [Rw.ns])
  | ret r t => exact (Okd.mono (Okd.tup (ds := [t.d]) (by simp [hdv]) (by simp [hwf]) (.cons (tm_ok W h) .nil)) (by omega) (by omega)).nms (by simp [Rw.ns])
  | test r c a => exact (Okd.mono (Okd.tup (ds := [c.d, .int a]) rfl rfl (.cons (cm_ok W h.1) (.cons .int .nil))) (by omega) (by omega)).nms (by simp [Rw.ns])
  | jump r a => exact (Okd.mono (Okd.tup (n := 0) (ds := [.int a]) rfl rfl (.cons .int .nil)) (by omega) (by omega)).nms (by simp [Rw.ns])
  | fail r => exact (Okd.mono (Okd.tup (n := 0) (ds := []) rfl rfl .nil) (by omega) (by omega)).nms (by simp [Rw.ns])
  | mark r prs f1 f2 ns ls =>
    obtain ⟨h1, h2, h3, h4, h5, h6, h7, h8⟩ := h
    have kp : Okd 5 (1 + 60 * prs.length) (.tup (prs.map Pr.d)) (prs.flatMap Pr.ns) := by
      refine Okd.tup ?_ ?_ (OkA.map fun p hp => pr_ok W (h2 p hp))
      · match prs, h1 with
        | [], _ => simp [hdv]
        | [_], _ => simp [hdv]
        | [_, _], _ => simp [hdv]
        | _ :: _ :: _ :: _, h => simp at h
      · match prs, h1 with
        | [], _ => simp [hwf]
        | [_], _ => simp [hwf]
        | [_, _], _ => simp [hwf]
        | _ :: _ :: _ :: _, h => simp at h
    have kf : Okd 2 9 (.tup [f1.d, f2.d]) (f1.ns ++ (f2.ns ++ [])) := (Okd.tup (by simp [hdv]) (by simp [hwf]) (.cons (pl_ok W h3) (.cons (pl_ok W h4) .nil))).mono (by omega) (by omega)
    have kn : Okd 5 (1 + ns.length) (.tup (txs ns)) [] := txs_ok fun x hx => hrg x (h5 x hx)
    have kl : Okd 5 (1 + ls.length) (.tup (txs ls)) [] := txs_ok fun x hx => W.l x (h6 x hx)
    refine (Okd.mono (Okd.tup (ds := [.tup (prs.map Pr.d), .tup [f1.d, f2.d], .tup (txs ns), .tup (txs ls)]) rfl rfl (.cons kp (.cons (kf.mono (by omega) (Nat.le_refl _)) (.cons kn (.cons kl .nil))))) (by omega) (by omega)).nms fun x => ?_
    simp only [Rw.ns, foldl_ns, List.mem_append, List.not_mem_nil, or_false]
    constructor
    · rintro (h | h | h)
      · exact .inr h
      · exact .inl (.inl h)
      · exact .inl (.inr h)
    · rintro ((h | h) | h)
      · exact .inr (.inl h)
      · exact .inr (.inr h)
      · exact .inl h
theorem rw_wn {u : Un} {m : Nat} {r : Rw} (W : Wns N L) (hrg : ∀ x ∈ u.rg, Wn x) (hn : Wn u.nm) (hh : ∀ h ∈ u.us, Wn h.nm) (ok : UOk u L) (h : RwIn u N L m r) : r.wn :=
  have k := rest_ok W hrg hn hh ok h
  ⟨k.wf, pr_mono k.pr (by omega), k.sz, k.nm⟩
end
end My

set_option Elab.async false
set_option linter.all false
set_option autoImplicit false
set_option maxRecDepth 100000
set_option maxHeartbeats 2000000
namespace My
open PySem PySem.Spec PyProof.Rows Vc
local macro_rules | `(tactic| walk_at "vc") => `(tactic| (try dsimp only [gSeq, gMake, gSFld, gAsg, gName, gRet, gRetN, gIfS, gDrop, gNext, gBreak, gCont, gVar, gC, gOp, gB, gCh, gAnd, gOr, gNot, gAndV, gOrV, gNotV, gIf, gTru, gNil, gCons, gTup, gLst, gFld, gCall, gBm, gCut, gNoPart, gPart, gIsa, gIsO, gNeg, gYes, gGSub, gIterA, gGTup, gGCons, gGNil, gRng1, gRng2, gRev, gRvR1, gRvR2, Tg.put, setAll, wipeE, List.set, List.getElem?_cons_zero, List.getElem?_cons_succ]))
def lpd (p : Nat × Nat) : D := .tup [.int p.1, .int p.2]
def lle (p q : Nat × Nat) : Bool := decide (p.1 < q.1 ∨ (p.1 = q.1 ∧ p.2 ≤ q.2))
theorem dle_lp (p q : Nat × Nat) : dle (lpd p) (lpd q) = lle p q := by
  have h : dle (lpd p) (lpd q) = !PySem.W.dataLt (lpd q).py (lpd p).py := rfl
  rw [h]
  show (!PySem.W.dataLt (.tuple [.int q.1, .int q.2]) (.tuple [.int p.1, .int p.2])) = _
  rw [PySem.W.dataLt_ii]
  unfold lle
  rw [← decide_not]
  refine decide_eq_decide.mpr ?_
  constructor <;> intro h <;> omega
def srtL (xs : Lps) : Lps := xs.mergeSort lle
theorem srt_lp (xs : Lps) : srt (lpD xs) = lpD (srtL xs) := by
  show srt (xs.map lpd) = (srtL xs).map lpd
  unfold srt srtL
  exact (List.map_mergeSort (fun a _ b _ => by rw [dle_lp])).symm
theorem srtL_perm (xs : Lps) : (srtL xs).Perm xs := List.mergeSort_perm ..
theorem srtL_sorted (xs : Lps) : (srtL xs).Pairwise fun p q => p.1 ≤ q.1 := by
  have : (srtL xs).Pairwise fun p q => lle p q = true := by
    refine List.pairwise_mergeSort (fun a b c h1 h2 => ?_) (fun a b => ?_) xs
    · simp only [lle, decide_eq_true_eq] at h1 h2 ⊢; omega
    · simp only [lle, Bool.or_eq_true, decide_eq_true_eq]; omega
  exact this.imp fun h => by simp only [lle, decide_eq_true_eq] at h; omega
theorem Srt.lps (xs : Lps) : Srt (lpD xs) := by
  refine ⟨?_, ?_, fun d hd => ?_⟩
  · unfold lpD
    rw [List.map_map]
    exact PySem.W.AllAlike.of fun b b' => rfl
  · unfold lpD
    rw [List.map_map]
    exact PySem.W.Sortable.tuples fun b => ⟨_, _, rfl⟩
  · obtain ⟨q, hq, rfl⟩ := List.mem_map.mp hd
    unfold D.pr D.prs D.prs D.prs D.pr
    rfl
end My

set_option Elab.async false
set_option linter.all false
set_option autoImplicit false
set_option maxRecDepth 100000
set_option maxHeartbeats 2000000
namespace My
open PySem PySem.Spec PyProof.Rows Vc
local macro_rules | `(tactic| walk_at "vc") => `(tactic| (try dsimp only [gSeq, gMake, gSFld, gAsg, gName, gRet, gRetN, gIfS, gDrop, gNext, gBreak, gCont, gVar, gC, gOp, gB, gCh, gAnd, gOr, gNot, gAndV, gOrV, gNotV, gIf, gTru, gNil, gCons, gTup, gLst, gFld, gCall, gBm, gCut, gNoPart, gPart, gIsa, gIsO, gNeg, gYes, gGSub, gIterA, gGTup, gGCons, gGNil, gRng1, gRng2, gRev, gRvR1, gRvR2, Tg.put, setAll, wipeE, List.set, List.getElem?_cons_zero, List.getElem?_cons_succ]))
theorem set_lst {a : Addr} {xs : List D} {j : Nat} {v : D} {G : Hg} {P : Hg → Prop} (hg : G a = some (.lst xs)) (hj : j < xs.length) (p : P (updG G a (.lst (xs.set j v)))) : rSet (.ref a) (.int (j : Int)) v G P :=
  ⟨_, hg, j, by unfold L2.ixN; rw [if_pos (by omega), if_pos (by omega)]; simp, fun G' e => by rw [e]; exact p⟩
def vkv (N L : List Tx) (o : Bool) : List (DK × D) := [(sk S_numbers, .rol (txs N)), (sk S_lists, .rol (txs L)), (sk S_old, .bl o)]
structure Ms (u : Un) (I L : List Tx) : Prop where
  ok : UOk u L
  wI : ∀ x ∈ I, Wn x
  wL : ∀ x ∈ L, Wn x
  wR : ∀ x ∈ u.rg, Wn x
  wn : Wn u.nm
  wu : ∀ h ∈ u.us, Wn h.nm
  nd : u.rg.Nodup
  ne : Sz u.ne.length
  gi : Sz u.gi.length
  il : I.length ≤ 2
  ll : L.length ≤ 3
  rl : u.rg.length ≤ 5
structure Mx (b c : Addr) (G0 G : Hg) (pv pu : Addr) (u : Un) (N L : List Tx) (o : Bool) : Prop where
  hb : Bx G0 b c
  bt : BT b c G0 G
  fv : G0 pv = none
  fu : G0 pu = none
  hv : G pv = some (.dct (vkv N L o))
  hu : G pu = some (.dct u.kv0)
  ne : pv ≠ pu
  nl : N.length ≤ 1000
  ll : L.length ≤ 1000
section
variable {b c : Addr} {G0 G G' : Hg} {pv pu pr : Addr} {u : Un} {N L : List Tx} {o : Bool}
theorem Mx.bx (h : Mx b c G0 G pv pu u N L o) : Bx G b c := h.bt.bx
theorem Mx.step (h : Mx b c G0 G pv pu u N L o) (t : BT b c G G') : Mx b c G0 G' pv pu u N L o :=
  ⟨h.hb, h.bt.trans t, h.fv, h.fu, t.ne h.bx h.hv, t.ne h.bx h.hu, h.ne, h.nl, h.ll⟩
theorem Mx.isv (h : Mx b c G0 G pv pu u N L o) : IsV G (.ref pv) N L o := ⟨⟨_, .ref h.hv, rfl, rfl, rfl⟩, h.nl, h.ll⟩
theorem Mx.upd {q : Addr} {g : GO} (h : Mx b c G0 G pv pu u N L o) (hq : G0 q = none) (h1 : q ≠ pv) (h2 : q ≠ pu) : Mx b c G0 (updG G q g) pv pu u N L o :=
  ⟨h.hb, h.bt.upd h.hb hq, h.fv, h.fu, by rw [upd_off (Ne.symm h1)]; exact h.hv, by rw [upd_off (Ne.symm h2)]; exact h.hu, h.ne, h.nl, h.ll⟩
theorem Mx.new {q : Addr} {g : GO} (h : Mx b c G0 G pv pu u N L o) (hq : G q = none) : Mx b c G0 (updG G q g) pv pu u N L o :=
  h.upd (h.bt.none hq) (fun e => by rw [e, h.hv] at hq; cases hq) (fun e => by rw [e, h.hu] at hq; cases hq)
theorem Mx.lstv {q : Addr} {xs : List D} (h : Mx b c G0 G pv pu u N L o) (hq : G q = some (.lst xs)) : q ≠ pv ∧ q ≠ pu :=
  ⟨fun e => by { rw [e, h.hv] at hq; cases hq }, fun e => by { rw [e, h.hu] at hq; cases hq }⟩
end
def RowsOk (u : Un) (N L : List Tx) (m : Nat) (ls : Lps) (rows : List (Option Rw)) : Prop := ∀ (k : Nat) (e : Option Rw), rows[k]? = some e → (e = none ∧ ∃ p ∈ ls, p.1 = k) ∨ ∃ r, e = some r ∧ RwIn u N L m r
theorem all_some {C : Rw → Prop} : ∀ sl : List (Option Rw), (∀ e ∈ sl, ∃ r, e = some r ∧ C r) → ∃ rs : List Rw, sl = rs.map some ∧ ∀ r ∈ rs, C r
  | [], _ => ⟨[], rfl, by simp⟩
  | e :: sl, h => by
    obtain ⟨r, rfl, hr⟩ := h e (by simp)
    obtain ⟨rs, h1, h2⟩ := all_some sl fun e he => h e (by simp [he])
    refine ⟨r :: rs, by rw [List.map_cons, h1], fun z hz => ?_⟩
    rcases List.mem_cons.mp hz with rfl | hz
    · exact hr
    · exact h2 z hz
theorem orw_len {rows : List (Option Rw)} : (rows.map orw).length = rows.length := List.length_map ..
theorem Ms.gd {u : Un} {I L N : List Tx} (h : Ms u I L) (hN : ∀ x ∈ N, Wn x) {rs : List Rw} {m : Nat} (hm : rs.length = m) (hl : m ≤ 1000) (h0 : 0 < m) (hr : ∀ r ∈ rs, RwIn u N L m r) (hend : ∃ r t, rs[m - 1]? = some (.ret r t)) : Un.gd { u with rows := rs } := by
  have W : Wns N L := ⟨hN, h.wL⟩
  have hok := h.ok
  refine ⟨⟨⟨by show rs.length ≤ 1000; omega, hok.rg, h.nd, h.wR, ?_, ?_, ?_, ?_⟩, fun r hm' => rw_wn W h.wR h.wn h.wu hok (hr r hm')⟩, ⟨hok.ps, h.ne, h.gi, hok.ch, by show u.us.length ≤ 1000; have := hok.us; omega, fun hd hm' => ?_, ?_⟩, by show u.us.length ≤ 1000; have := hok.us; omega⟩
  · intro r hm'
    have k := hr r hm'
    cases r with
    | call r x n as =>
      rcases k.2.1 with ⟨_, h⟩ | ⟨hd, hm2, _, h⟩
      · exact Nat.le_trans h hok.ps
      · exact Nat.le_trans h (hok.hs hd hm2).ps
    | mark r prs f1 f2 ns ls => exact ⟨by have := k.1; show prs.length ≤ 1000; omega, k.2.2.2.2.2.2.1⟩
    | _ => trivial
  · intro r hm' x hx
    have k := hr r hm'
    cases r with
    | set r y t => cases hx; exact k.1
    | choose r y p q => cases hx; exact k.1
    | call r y n as => cases hx; exact k.1
    | _ => cases hx
  · intro r hm' x hx
    have k := hr r hm'
    cases r with
    | mark r prs f1 f2 ns ls => exact k.2.2.2.2.1 x hx
    | _ => cases hx
  · intro k r hk t ht
    have hk : rs[k]? = some r := hk
    have hkl : k < rs.length := (List.getElem?_eq_some_iff.mp hk).1
    have kr := hr r (List.mem_of_getElem? hk)
    show t < rs.length
    obtain ⟨r0, t0, he⟩ := hend
    have last : (∃ a b, r = .ret a b) ∨ k + 1 < rs.length := by
      by_cases e : k = m - 1
      · subst e
        rw [hk] at he
        cases he
        exact .inl ⟨_, _, rfl⟩
      · exact .inr (by omega)
    cases r with
    | ret => cases ht
    | fail => cases ht
    | jump r a => simp only [stp, List.mem_singleton] at ht; subst ht; have : t < m := kr; omega
    | test r c a =>
      simp only [stp, List.mem_cons, List.not_mem_nil, or_false] at ht
      have := kr.2
      rcases last with ⟨_, _, e⟩ | hl
      · cases e
      · rcases ht with rfl | rfl <;> omega
    | _ =>
      simp only [stp, List.mem_singleton] at ht
      subst ht
      rcases last with ⟨_, _, e⟩ | hl
      · cases e
      · exact hl
  · have k := hok.hs hd hm'
    exact ⟨k.ps, k.ne, k.gi, k.ch⟩
  · intro r hm' r0 prs f1 f2 ns ls e
    subst e
    have k := hr _ hm'
    exact k.2.2.2.2.2.2.2
theorem mk_call {b c pu pr : Addr} {u : Un} {x : D} {N L : List Tx} {o : Bool} {rows : List (Option Rw)} {mk cl m : Nat} {G : Hg} {P : KD} (hb : Bx G b c) (hu : G pu = some (.dct u.kv0)) (ok : UOk u L) (hv : IsV G x N L o) (hr : G pr = some (.lst (rows.map orw))) (hl : rows.length ≤ 1000) (h1 : mk < cl) (h2 : cl < rows.length)
    (hrs : ∀ (k : Nat) (e : Option Rw), mk < k → k ≤ cl → rows[k]? = some e → ∃ r, e = some r ∧ RwIn u N L m r) (k : ∀ (r : Rw) (G' : Hg), RwIn u N L m r → BT b c G G' → P r.d G') : sp__law_marked [.ref b, .ref pu, x, .ref pr, .int mk, .int cl] G P := ⟨b, c, pu, pr, u, x, N, L, o, rows, mk, cl, m, rfl, hb, hu, ok, hv, hr, hl, h1, h2, hrs, k⟩
theorem vm35 {K : PySem.W.Frag} {Q : KD} {b c pv pu pr : Addr} {G0 G : Hg} {u : Un} {I L N : List Tx} {rows : List (Option Rw)} {ls : Lps} {m : Nat} {z1 z2 z3 z4 z7 z8 z9 z10 z12 z13 z15 z16 z17 z18 z19 z20 z21 z22 : Option D}
    (ms : Ms u I L) (mx : Mx b c G0 G pv pu u N L true) (hN : ∀ x ∈ N, Wn x) (fr : G0 pr = none) (hr : G pr = some (.lst (rows.map orw))) (hl : rows.length = m) (hm : m ≤ 1000) (h0 : 0 < m) (hrs : RowsOk u N L m ls rows) (hls : ∀ p ∈ ls, p.1 < p.2 ∧ p.2 < m - 1) (hlsl : ls.length ≤ 2) (hend : ∃ r t, rows[m - 1]? = some (some (.ret r t)))
    (hP : ∀ (u : Un) (G' : Hg), u.gd → BT b c G0 G' → Q u.dct G') : r__law_mixed_35 K (endOf Q) [some (.ref b), z1, z2, z3, z4, some (.ref pv), some (.ref pu), z7, z8, z9, z10, some (.ref pr), z12, z13, some (.rol (lpD ls)), z15, z16, z17, z18, z19, z20, z21, z22] G := by
  unfold r__law_mixed_35
  walk_at "vc"
  refine for_bt ?_
  walk_at "vc"
  refine ⟨lpD ls, .li (.li (.rol _)), by unfold lpD; rw [List.length_map]; exact le_sz (by omega), Srt.lps ls, .inl ?_⟩
  rw [srt_lp]
  show gFor (fun _ G R => R (jP (lpD (srtL ls)).reverse) G) _ _ _ _ _
  have erev : (lpD (srtL ls)).reverse = lpD (srtL ls).reverse := by unfold lpD; rw [List.map_reverse]
  rw [erev]
  generalize hds : (srtL ls).reverse = ds
  have hdesc : ds.Pairwise fun p q => q.1 ≤ p.1 := by
    rw [← hds, List.pairwise_reverse]
    exact srtL_sorted ls
  have hmem : ∀ p, p ∈ ds ↔ p ∈ ls := fun p => by rw [← hds, List.mem_reverse]; exact (srtL_perm ls).mem_iff
  refine for_items (lpD ds) (fun i env G' => ∃ z18 rows', env = [some (.ref b), z1, z2, z3, z4, some (.ref pv), some (.ref pu), z7, z8, z9, z10, some (.ref pr), z12, z13, some (.rol (lpD ls)), z15, z16, z17, z18, z19, z20, z21, z22] ∧ Mx b c G0 G' pv pu u N L true ∧ G' pr = some (.lst (rows'.map orw)) ∧ rows'.length = m ∧ RowsOk u N L m (ds.drop i) rows' ∧ ∃ r t, rows'[m - 1]? = some (some (.ret r t))) (fun R h => h _ ⟨_, rows, rfl, mx, hr, hl, fun k e he => (hrs k e he).imp (fun ⟨e1, p, hp, e2⟩ => ⟨e1, p, (hmem p).mpr hp, e2⟩) id, hend⟩) ?_ ?_
  · rintro i d env G2 Nx hd ⟨z18, rows', rfl, mx, hr, hl, hrs, hend⟩ nxt
    have hi : ∃ p, ds[i]? = some p ∧ d = .tup [.int p.1, .int p.2] := by
      unfold lpD at hd
      rw [List.getElem?_map] at hd
      cases e : ds[i]? with
      | none => rw [e] at hd; cases hd
      | some p => rw [e] at hd; cases hd; exact ⟨p, rfl, rfl⟩
    obtain ⟨p, hp, rfl⟩ := hi
    have hpm := (hmem p).mp (List.mem_of_getElem? hp)
    obtain ⟨hp1, hp2⟩ := hls p hpm
    have hil : i < ds.length := (List.getElem?_eq_some_iff.mp hp).1
    have hdrop : ds.drop i = p :: ds.drop (i + 1) := by
      rw [List.drop_eq_getElem_cons hil]
      congr 1
      rw [List.getElem?_eq_getElem hil] at hp
      cases hp
      rfl
    have hrest : ∀ q ∈ ds.drop (i + 1), q.1 ≤ p.1 := by
      have := hdesc.drop (i := i)
      rw [hdrop] at this
      exact fun q hq => (List.pairwise_cons.mp this).1 q hq
    walk_at "vc"
    unfold r__law_mixed_36
    walk_at "vc"
    refine it_tup (i := 0) rfl (it_tup (i := 1) rfl ?_)
    refine mk_call (m := m) mx.bx mx.hu ms.ok mx.isv hr (by omega) hp1 (by omega) (fun k e h1 h2 he => ?_) fun r G3 hrr t3 => it_tup (i := 0) rfl ?_
    · rcases hrs k e he with ⟨e1, q, hq, e2⟩ | h
      · rw [hdrop] at hq
        rcases List.mem_cons.mp hq with rfl | hq
        · omega
        · have := hrest q hq; omega
      · exact h
    have nr := mx.hb.ne fr
    have hr3 := t3.kp pr _ nr.1 nr.2 hr
    have hv3 := (mx.step t3).lstv hr3
    refine set_lst hr3 (by rw [orw_len]; omega) (nxt _ _ ⟨_, rows'.set p.1 (some r), rfl, (mx.step t3).upd fr hv3.1 hv3.2, ?_, by rw [List.length_set]; exact hl, fun k e he => ?_, ?_⟩)
    · rw [upd_at, List.map_set]; rfl
    · by_cases ek : p.1 = k
      · subst ek
        rw [List.getElem?_set_self (by omega)] at he
        cases he
        exact .inr ⟨r, rfl, hrr⟩
      · rw [List.getElem?_set_ne ek] at he
        rcases hrs k e he with ⟨e1, q, hq, e2⟩ | h
        · rw [hdrop] at hq
          rcases List.mem_cons.mp hq with rfl | hq
          · exact absurd e2 ek
          · exact .inl ⟨e1, q, hq, e2⟩
        · exact .inr h
    · obtain ⟨r0, t0, he⟩ := hend
      exact ⟨r0, t0, by rw [List.getElem?_set_ne (by omega)]; exact he⟩
  · rintro env G2 ⟨z18, rows', rfl, mx, hr, hl, hrs, hend⟩
    have hlen : (lpD ds).length = ds.length := by unfold lpD; rw [List.length_map]
    rw [hlen, List.drop_length] at hrs
    obtain ⟨rs, rfl, h2⟩ := all_some rows' (C := RwIn u N L m) fun e he => by
      obtain ⟨j, hj⟩ := List.getElem?_of_mem he
      rcases hrs j e hj with ⟨_, q, hq, _⟩ | h
      · cases hq
      · exact h
    have h1 : (rs.map some).map orw = rs.map Rw.d := by rw [List.map_map]; rfl
    rw [List.length_map] at hl
    have nr := mx.hb.ne fr
    have hnv := mx.lstv hr
    refine nxl 11 rfl (.lst hr) ?_
    show r__law_mixed_37 K (endOf Q) _ _
    unfold r__law_mixed_37
    walk_at "vc"
    have hu2 : delG G2 pr pu = some (.dct u.kv0) := by rw [del_off (Ne.symm hnv.2)]; exact mx.hu
    refine set_new hu2 rfl (by simp [Un.kv0]) (nx ?_)
    unfold r__law_mixed_38
    walk_at "vc"
    refine ret_dct upd_at ?_
    rw [h1]
    refine hP { u with rows := rs } _ (ms.gd hN (by omega) hm h0 h2 ?_) ?_
    · obtain ⟨r0, t0, he⟩ := hend
      refine ⟨r0, t0, ?_⟩
      rw [List.getElem?_map] at he
      cases e : rs[m - 1]? with
      | none => rw [e] at he; cases he
      | some r => rw [e] at he; cases he; rfl
    · exact ((mx.bt.del mx.hb fr).upd mx.hb mx.fu).del mx.hb mx.fu
end My

set_option Elab.async false
set_option linter.all false
set_option autoImplicit false
set_option maxRecDepth 100000
set_option maxHeartbeats 2000000
namespace My
open PySem PySem.Spec PyProof.Rows Vc
local macro_rules | `(tactic| walk_at "vc") => `(tactic| (try dsimp only [gSeq, gMake, gSFld, gAsg, gName, gRet, gRetN, gIfS, gDrop, gNext, gBreak, gCont, gVar, gC, gOp, gB, gCh, gAnd, gOr, gNot, gAndV, gOrV, gNotV, gIf, gTru, gNil, gCons, gTup, gLst, gFld, gCall, gBm, gCut, gNoPart, gPart, gIsa, gIsO, gNeg, gYes, gGSub, gIterA, gGTup, gGCons, gGNil, gRng1, gRng2, gRev, gRvR1, gRvR2, Tg.put, setAll, wipeE, List.set, List.getElem?_cons_zero, List.getElem?_cons_succ]))
theorem vm33 {K : PySem.W.Frag} {Q : KD} {b c pv pu pr : Addr} {G0 G : Hg} {u : Un} {I L N : List Tx} {rows : List (Option Rw)} {ls : Lps} {m : Nat} {z1 z2 z3 z4 z7 z8 z9 z10 z12 z13 z15 z16 z17 z18 z19 z20 z21 z22 : Option D}
    (ms : Ms u I L) (mx : Mx b c G0 G pv pu u N L false) (hN : ∀ x ∈ N, Wn x) (fr : G0 pr = none) (hr : G pr = some (.lst (rows.map orw))) (hl : rows.length + 1 = m) (hm : m ≤ 1000) (hrs : RowsOk u N L m ls rows) (hls : ∀ p ∈ ls, p.1 < p.2 ∧ p.2 < m - 1) (hlsl : ls.length ≤ 2)
    (hP : ∀ (u : Un) (G' : Hg), u.gd → BT b c G0 G' → Q u.dct G') : r__law_mixed_33 K (endOf Q) [some (.ref b), z1, z2, z3, z4, some (.ref pv), some (.ref pu), z7, z8, z9, z10, some (.ref pr), z12, z13, some (.rol (lpD ls)), z15, z16, z17, z18, z19, z20, z21, z22] G := by
  have nr := mx.hb.ne fr
  unfold r__law_mixed_33
  walk_at "vc"
  refine ⟨⟨_, hr⟩, nxt_call mx.bx (by decide) (by decide) fun n1 G1 hn1 t1 => add_i (tm_call t1.bx (mx.step t1).isv fun t G2 ht t2 => ⟨by simp [sizeLine_eq], ?_⟩)⟩
  have t02 := t1.trans t2
  have hr2 := t02.kp pr _ nr.1 nr.2 hr
  have mx2 := mx.step t02
  have nv := mx2.lstv hr2
  refine app_ref hr2 (by rw [orw_len]; omega) (nx ?_)
  unfold r__law_mixed_34
  walk_at "vc"
  have mx3 := mx2.upd (g := .lst (rows.map orw ++ [.tup [.str S_return, .int (1 + n1), t.d]])) fr nv.1 nv.2
  refine set_dct mx3.hv (by simp [vkv]) (nx ?_)
  have ed : dput (vkv N L false) (sk S_old) (.bl true) = vkv N L true := rfl
  rw [ed]
  have mx4 : Mx b c G0 (updG (updG G2 pr (.lst (rows.map orw ++ [.tup [.str S_return, .int (1 + n1), t.d]]))) pv (.dct (vkv N L true))) pv pu u N L true :=
    ⟨mx.hb, mx3.bt.upd mx.hb mx.fv, mx.fv, mx.fu, upd_at, by rw [upd_off (Ne.symm mx.ne)]; exact mx3.hu, mx.ne, mx.nl, mx.ll⟩
  refine vm35 (rows := rows ++ [some (.ret (1 + n1) t)]) (m := m) ms mx4 hN fr ?_ (by simp; omega) hm (by omega) (fun k e he => ?_) hls hlsl ⟨1 + n1, t, ?_⟩ hP
  · rw [upd_off nv.1, upd_at, List.map_append]; rfl
  · by_cases hk : k < rows.length
    · rw [List.getElem?_append_left hk] at he
      exact hrs k e he
    · rw [List.getElem?_append_right (by omega)] at he
      have := (List.getElem?_eq_some_iff.mp he).1
      simp at this
      have : k = rows.length := by omega
      subst this
      simp at he
      subst he
      exact .inr ⟨_, rfl, ht⟩
  · rw [List.getElem?_append_right (by omega), show m - 1 - rows.length = 0 from by omega]
    rfl
theorem fr_call {ls : Lps} {a t : Nat} {G : Hg} {P : KD} (hl : ls.length ≤ 2) (k : ∀ q : Bool, (t = a + 1 → q = true) → P (.bl q) G) : sp__law_free [.rol (lpD ls), .int a, .int t] G P := ⟨ls, a, t, rfl, hl, k⟩
theorem mr_call {b c pu pt : Addr} {u : Un} {a : Nat} {al : List Nat} {x : D} {N L : List Tx} {o : Bool} {ts : List D} {m : Nat} {G : Hg} {P : KD} (hb : Bx G b c) (h1 : pt ≠ b) (h2 : pt ≠ c) (hu : G pu = some (.dct u.kv0)) (ht : G pt = some (.lst ts)) (hl : ts.length ≤ 4) (ok : UOk u L) (hv : IsV G x N L o) (h3 : al ≠ []) (h4 : al.length ≤ 1000) (h5 : ∀ a ∈ al, a < m)
    (k : ∀ (r : Rw) (ts' : List D) (G' : Hg), ts'.length ≤ 4 → RwIn u N L m r → r.isM = false → BT b c (updG G pt (.lst ts')) G' → P r.d G') : sp__law_mixed_row [.ref b, .ref pu, .int a, .rol (nats al), x, .ref pt] G P := ⟨b, c, pu, pt, u, a, al, x, N, L, o, ts, m, rfl, hb, h1, h2, hu, ht, hl, ok, hv, h3, h4, h5, k⟩
theorem RowsOk.add {u : Un} {N L : List Tx} {m : Nat} {ls : Lps} {rows : List (Option Rw)} {e : Option Rw} (h : RowsOk u N L m ls rows) (k : (e = none ∧ ∃ p ∈ ls, p.1 = rows.length) ∨ ∃ r, e = some r ∧ RwIn u N L m r) : RowsOk u N L m ls (rows ++ [e]) := fun j e' he => by
  by_cases hk : j < rows.length
  · rw [List.getElem?_append_left hk] at he
    exact h j e' he
  · rw [List.getElem?_append_right (by omega)] at he
    have := (List.getElem?_eq_some_iff.mp he).1
    simp at this
    have : j = rows.length := by omega
    subst this
    simp at he
    subst he
    exact k
theorem mapE {α β : Type} (f : α → β) (xs : List α) : (xs.map f).isEmpty = xs.isEmpty := by cases xs <;> rfl
theorem vm20 {K : PySem.W.Frag} {Q : KD} {b c pv pu pr pt : Addr} {G0 G : Hg} {u : Un} {I L N : List Tx} {rows : List (Option Rw)} {ls : Lps} {base many : Nat} {z1 z2 z3 z4 z7 z8 z9 z10 : Option D}
    (ms : Ms u I L) (mx : Mx b c G0 G pv pu u N L false) (hN : ∀ x ∈ N, Wn x) (fr : G0 pr = none) (ft : G0 pt = none) (nrt : pr ≠ pt) (hr : G pr = some (.lst (rows.map orw))) (ht : G pt = some (.lst [])) (hl : rows.length = base) (hbm : base ≤ 100 ∧ many ≤ 100) (hrs : RowsOk u N L (base + many + 1) ls rows) (hls : LpIn base many ls)
    (hP : ∀ (u : Un) (G' : Hg), u.gd → BT b c G0 G' → Q u.dct G') : r__law_mixed_20 K (endOf Q) [some (.ref b), z1, z2, z3, z4, some (.ref pv), some (.ref pu), z7, z8, z9, z10, some (.ref pr), some (.int base), some (.int many), some (.rol (lpD ls)), some (.ref pt), none, none, none, none, none, none, none] G := by
  have nr := mx.hb.ne fr
  have nt := mx.hb.ne ft
  have hlsl := hls.1
  unfold r__law_mixed_20
  walk_at "vc"
  refine for_range (base : Int) many (fun i env G' => ∃ z16 z17 z19 z20 z21 rows ts, env = [some (.ref b), z1, z2, z3, z4, some (.ref pv), some (.ref pu), z7, z8, z9, z10, some (.ref pr), some (.int base), some (.int many), some (.rol (lpD ls)), some (.ref pt), z16, z17, none, z19, z20, z21, none] ∧ Mx b c G0 G' pv pu u N L false ∧ G' pr = some (.lst (rows.map orw)) ∧ G' pt = some (.lst ts) ∧ ts.length ≤ 4 ∧ rows.length = base + i ∧ RowsOk u N L (base + many + 1) ls rows) (fun R h => ?_) ?_ ?_
  · walk_at "vc"
    refine add_i ⟨⟨by omega, by omega, by omega, by omega⟩, ?_⟩
    rw [show ((base : Int) + (many : Int) - (base : Int)).toNat = many from by omega]
    exact h _ ⟨_, _, _, _, _, rows, [], rfl, mx, hr, ht, by simp, hl, hrs⟩
  · rintro i env G2 Nx hi ⟨z16, z17, z19, z20, z21, rows, ts, rfl, mx, hr, ht, htl, hl, hrs⟩ nxt
    have e0 : (base : Int) + i = ((base + i : Nat) : Int) := by omega
    rw [e0]
    generalize ha : base + i = a
    rw [ha] at hl
    walk_at "vc"
    unfold r__law_mixed_21
    walk_at "vc"
    refine lc_filter ls lpd lpd (fun p => decide ((p.1 : Int) = (a : Int))) (by omega) (fun R h => h) (fun p G' P' hp k => ?_) (fun p G' P' hp k => k) (nx ?_)
    · walk_at "vc"
      exact it_tup (i := 0) rfl (eq_int k)
    generalize hS : List.filter (fun p : Nat × Nat => decide ((p.1 : Int) = (a : Int))) ls = S
    unfold r__law_mixed_22
    walk_at "vc"
    refine lc_filter ls lpd lpd (fun p => decide ((p.2 : Int) = (a : Int))) (by omega) (fun R h => h) (fun p G' P' hp k => ?_) (fun p G' P' hp k => k) (nx ?_)
    · walk_at "vc"
      exact it_tup (i := 1) rfl (eq_int k)
    generalize hE : List.filter (fun p : Nat × Nat => decide ((p.2 : Int) = (a : Int))) ls = E
    unfold r__law_mixed_23
    walk_at "vc"
    refine lc_filter ls lpd (fun p => .int p.1) (fun p => decide ((p.1 : Int) < (a : Int)) && decide ((a : Int) ≤ p.2)) (by omega) (fun R h => h) (fun p G' P' hp k => ?_) (fun p G' P' hp k => it_tup (i := 0) rfl k) (nx ?_)
    · walk_at "vc"
      refine it_tup (i := 0) rfl (lt_i ?_)
      by_cases h1 : (p.1 : Int) < a
      · rw [decide_eq_true h1] at k ⊢
        exact it_tup (i := 1) rfl (le_i k)
      · rw [decide_eq_false h1] at k ⊢
        exact k
    generalize hW : List.filter (fun p : Nat × Nat => decide ((p.1 : Int) < (a : Int)) && decide ((a : Int) ≤ p.2)) ls = Wl
    have hWl : Wl.length ≤ 2 := by rw [← hW]; exact Nat.le_trans (List.length_filter_le _ _) hlsl
    have hWm : ∀ p ∈ Wl, p ∈ ls := fun p hp => by rw [← hW] at hp; exact (List.mem_filter.mp hp).1
    have hEm : ∀ p ∈ E, p ∈ ls := fun p hp => by rw [← hE] at hp; exact (List.mem_filter.mp hp).1
    have hSm : ∀ p ∈ S, p ∈ ls ∧ p.1 = a := fun p hp => by
      rw [← hS] at hp
      obtain ⟨h1, h2⟩ := List.mem_filter.mp hp
      exact ⟨h1, by simp at h2; omega⟩
    unfold r__law_mixed_24
    walk_at "vc"
    refine lc_range ((a : Int) + 1) (base + many - a) (fun Dd j acc G' => G2 Dd = none ∧ G' = updG G2 Dd (.lst acc) ∧ ∃ xs : List Nat, acc = nats xs ∧ (∀ x ∈ xs, x < base + many + 1) ∧ (1 ≤ j → xs ≠ [])) (le_sz (by omega)) (fun R h => ?_) ?_ ?_
    · walk_at "vc"
      refine add_i (add_i (add_i ⟨⟨by omega, by omega, by omega, by omega⟩, ?_⟩))
      rw [show ((base : Int) + (many : Int) + 1 - ((a : Int) + 1)).toNat = base + many - a from by omega]
      exact h _ fun Dd hd => ⟨hd, rfl, [], rfl, by simp, by omega⟩
    · rintro Dd j acc G' Yes No hj hac ⟨hd, rfl, xs, rfl, hx1, hx2⟩ _ yes no
      rw [show (a : Int) + 1 + j = ((a + 1 + j : Nat) : Int) from by omega]
      walk_at "vc"
      refine fr_call hlsl fun q hq => tru_bl ?_
      cases q with
      | true =>
        refine yes _ _ hac ⟨hd, by rw [upd_upd], xs ++ [a + 1 + j], by simp [nats], fun x hx => ?_, by simp⟩
        rcases List.mem_append.mp hx with hx | hx
        · exact hx1 x hx
        · rw [List.mem_singleton] at hx
          omega
      | false =>
        refine no _ hac ⟨hd, rfl, xs, rfl, hx1, fun hj1 => ?_⟩
        by_cases hj0 : j = 0
        · subst hj0
          have := hq rfl
          cases this
        · exact hx2 (by omega)
    · rintro Dd acc G' hac ⟨hd, rfl, xs, rfl, hx1, hx2⟩ hxl
      refine .inl ?_
      rw [del_upd hd]
      have hxl : xs.length ≤ 200 := by unfold nats at hxl; rw [List.length_map] at hxl; omega
      have hxne := hx2 (by omega)
      refine nx ?_
      unfold r__law_mixed_25
      walk_at "vc"
      refine nil_lst (ne_nilL ?_)
      rw [mapE]
      have mnr : ∀ {G3 : Hg}, BT b c G2 G3 → G3 pr = some (.lst (rows.map orw)) := fun t => t.kp pr _ nr.1 nr.2 hr
      have mnt : ∀ {G3 : Hg}, BT b c G2 G3 → G3 pt = some (.lst ts) := fun t => t.kp pt _ nt.1 nt.2 ht
      have hrl : (rows.map orw).length ≤ 1000 := by rw [orw_len]; omega
      -- a row is put behind
      have put : ∀ (G3 : Hg) (e : Option Rw) (ts' : List D) (z17 z19 z20 z21 : Option D), Mx b c G0 G3 pv pu u N L false → G3 pr = some (.lst (rows.map orw)) → G3 pt = some (.lst ts') → ts'.length ≤ 4 → ((e = none ∧ ∃ p ∈ ls, p.1 = a) ∨ ∃ r, e = some r ∧ RwIn u N L (base + many + 1) r) → Nx [some (.ref b), z1, z2, z3, z4, some (.ref pv), some (.ref pu), z7, z8, z9, z10, some (.ref pr), some (.int base), some (.int many), some (.rol (lpD ls)), some (.ref pt), some (.int a), z17, none, z19, z20, z21, none] (updG G3 pr (.lst (rows.map orw ++ [orw e]))) := by
        intro G3 e ts' z17 z19 z20 z21 mx3 hr3 ht3 htl3 he
        have nv := mx3.lstv hr3
        exact nxt _ _ ⟨_, _, _, _, _, rows ++ [e], ts', rfl, mx3.upd fr nv.1 nv.2, by rw [upd_at, List.map_append]; rfl, by rw [upd_off (Ne.symm nrt)]; exact ht3, htl3, by simp; omega, hrs.add (by rw [hl]; exact he)⟩
      cases hSe : S.isEmpty with
      | false =>
        obtain ⟨p0, S', hS0⟩ : ∃ p0 S', S = p0 :: S' := by
          cases S with
          | nil => cases hSe
          | cons p S => exact ⟨p, S, rfl⟩
        show r__law_mixed_26 K _ _ _
        unfold r__law_mixed_26
        walk_at "vc"
        have hp0 := hSm p0 (by rw [hS0]; simp)
        exact ⟨⟨_, hr⟩, by simp [sizeLine_eq], app_ref hr hrl (put G2 none ts _ _ _ _ mx hr ht htl (.inl ⟨rfl, p0, hp0.1, hp0.2⟩))⟩
      | true =>
        show r__law_mixed_27 K _ _ _
        unfold r__law_mixed_27
        walk_at "vc"
        refine nil_lst (ne_nilL ?_)
        rw [mapE]
        cases hEe : E.isEmpty with
        | true =>
          show r__law_mixed_30 K _ _ _
          unfold r__law_mixed_30
          walk_at "vc"
          refine nil_lst (ne_nilL ?_)
          rw [mapE, hEe]
          show r__law_mixed_32 K _ _ _
          unfold r__law_mixed_32
          walk_at "vc"
          have hnats : nats xs ++ Wl.map (fun p => D.int p.1) = nats (xs ++ Wl.map (·.1)) := by
            unfold nats
            rw [List.map_append, List.map_map]
            rfl
          refine ⟨⟨_, hr⟩, add_rol (by rw [List.length_map, nats, List.length_map, sizeLine_eq]; omega) ?_⟩
          rw [hnats]
          refine mr_call (m := base + many + 1) mx.bx nt.1 nt.2 mx.hu ht htl ms.ok mx.isv (by simp [hxne]) (by simp; omega) (fun x hx => ?_) fun r ts' G3 htl3 hr3 hM3 t3 => ?_
          · rcases List.mem_append.mp hx with hx | hx
            · exact hx1 x hx
            · obtain ⟨p, hp, rfl⟩ := List.mem_map.mp hx
              have := hls.2 p (hWm p hp)
              omega
          · have nv := mx.lstv ht
            have mx3 := (mx.upd (g := .lst ts') ft nv.1 nv.2).step t3
            have hr3' : G3 pr = some (.lst (rows.map orw)) := t3.kp pr _ nr.1 nr.2 (by rw [upd_off nrt]; exact hr)
            have ht3' : G3 pt = some (.lst ts') := t3.kp pt _ nt.1 nt.2 upd_at
            exact app_ref hr3' hrl (put G3 (some r) ts' _ _ _ _ mx3 hr3' ht3' htl3 (.inr ⟨r, rfl, hr3⟩))
        | false =>
          obtain ⟨p0, E', hE0⟩ : ∃ p0 E', E = p0 :: E' := by
            cases E with
            | nil => cases hEe
            | cons p E => exact ⟨p, E, rfl⟩
          have hp0 := hls.2 p0 (hEm p0 (by rw [hE0]; simp))
          have aim : ∀ (G3 : Hg) (P : KD), P (.int p0.1) G3 → rItem (.rol (E.map lpd)) (.int 0) G3 fun x G4 => rItem x (.int 0) G4 P := fun G3 P p => by
            rw [hE0]
            exact it_rol (i := 0) (d := lpd p0) rfl (it_tup (i := 0) rfl p)
          have jmp : ∀ G3, BT b c G2 G3 → r__law_mixed_30 K { nx := Nx, rt := Q, bk := fun env1 G1 => ∃ env2 G2, Gh env1 G1 env2 G2 ∧ r__law_mixed_33 K (endOf Q) env2 G2, ct := Nx } [some (.ref b), z1, z2, z3, z4, some (.ref pv), some (.ref pu), z7, z8, z9, z10, some (.ref pr), some (.int base), some (.int many), some (.rol (lpD ls)), some (.ref pt), some (.int a), some (.rol (S.map lpd)), none, some (.rol (E.map lpd)), some (.rol (Wl.map fun p => D.int p.1)), some (.rol (nats xs)), none] G3 := by
            intro G3 t3
            unfold r__law_mixed_30
            walk_at "vc"
            refine nil_lst (ne_nilL ?_)
            rw [mapE, hEe]
            show r__law_mixed_31 K _ _ _
            unfold r__law_mixed_31
            walk_at "vc"
            refine ⟨⟨_, mnr t3⟩, nxt_call t3.bx (by decide) (by decide) fun n4 G4 hn4 t4 => add_i (aim _ _ ⟨by simp [sizeLine_eq], ?_⟩)⟩
            have t24 := t3.trans t4
            exact app_ref (mnr t24) hrl (put G4 (some (.jump (1 + n4) p0.1)) ts _ _ _ _ (mx.step t24) (mnr t24) (mnt t24) htl (.inr ⟨_, rfl, by show p0.1 < base + many + 1; omega⟩))
          refine nxt_call mx.bx (by decide) (by decide) fun n3 G3 hn3 t3 => eq_int ?_
          by_cases h0 : (n3 : Int) = 0
          · rw [decide_eq_true h0]
            refine len_lst (mnt t3) (lt_i ?_)
            by_cases ht4 : (ts.length : Int) < 4
            · rw [decide_eq_true ht4]
              show r__law_mixed_28 K _ _ _
              unfold r__law_mixed_28
              walk_at "vc"
              have mx3 := mx.step t3
              have nv := mx3.lstv (mnt t3)
              refine ⟨⟨_, mnt t3⟩, app_ref (mnt t3) (by omega) (nx ?_)⟩
              have mx4 := mx3.upd (g := .lst (ts ++ [.int a])) ft nv.1 nv.2
              have hr4 : (updG G3 pt (.lst (ts ++ [.int a]))) pr = some (.lst (rows.map orw)) := by rw [upd_off nrt]; exact mnr t3
              unfold r__law_mixed_29
              walk_at "vc"
              refine ⟨⟨_, hr4⟩, nxt_call mx4.bx (by decide) (by decide) fun n5 G5 hn5 t5 => add_i (cm_call t5.bx (mx4.step t5).isv fun cm G6 hcm t6 => aim _ _ ⟨by simp [sizeLine_eq], ?_⟩)⟩
              have t46 := t5.trans t6
              have hr6 := t46.kp pr _ nr.1 nr.2 hr4
              have ht6 := t46.kp pt _ nt.1 nt.2 upd_at
              exact app_ref hr6 hrl (put G6 (some (.test (1 + n5) cm p0.1)) (ts ++ [.int a]) _ _ _ _ (mx4.step t46) hr6 ht6 (by simp; omega) (.inr ⟨_, rfl, hcm, by omega⟩))
            · rw [decide_eq_false ht4]
              exact jmp G3 t3
          · rw [decide_eq_false h0]
            exact jmp G3 t3
  · rintro env G2 ⟨z16, z17, z19, z20, z21, rows, ts, rfl, mx, hr, ht, htl, hl, hrs⟩
    exact nx (vm33 ms mx hN fr hr (m := base + many + 1) (by omega) (by omega) hrs (fun p hp => by have := hls.2 p hp; omega) hlsl hP)
end My

set_option Elab.async false
set_option linter.all false
set_option autoImplicit false
set_option maxRecDepth 100000
set_option maxHeartbeats 2000000
namespace My
open PySem PySem.Spec PyProof.Rows Vc
local macro_rules | `(tactic| walk_at "vc") => `(tactic| (try dsimp only [gSeq, gMake, gSFld, gAsg, gName, gRet, gRetN, gIfS, gDrop, gNext, gBreak, gCont, gVar, gC, gOp, gB, gCh, gAnd, gOr, gNot, gAndV, gOrV, gNotV, gIf, gTru, gNil, gCons, gTup, gLst, gFld, gCall, gBm, gCut, gNoPart, gPart, gIsa, gIsO, gNeg, gYes, gGSub, gIterA, gGTup, gGCons, gGNil, gRng1, gRng2, gRev, gRvR1, gRvR2, Tg.put, setAll, wipeE, List.set, List.getElem?_cons_zero, List.getElem?_cons_succ]))
theorem PlIn.mono {N M L : List Tx} (h : ∀ x ∈ N, x ∈ M) {p : Pl} (k : PlIn N L p) : PlIn M L p := by
  cases p with
  | num => trivial
  | var x n => exact h x k
  | len x n => exact k
theorem TmIn.mono {N M L : List Tx} (h : ∀ x ∈ N, x ∈ M) {p : Tm} (k : TmIn N L p) : TmIn M L p := by
  cases p with
  | pl p => exact PlIn.mono h k
  | cell x o i n => exact ⟨k.1, PlIn.mono h k.2⟩
theorem nm_call {b c : Addr} {G : Hg} {P : KD} (hb : Bx G b c) (k : ∀ (ns : List Tx) (G' : Hg), ns.length = 16 → ns.Nodup → (∀ x ∈ ns, Wn x) → BT b c G G' → P (.rol (txs ns)) G') : sp__law_names [.ref b, .int 16] G P := ⟨b, c, rfl, hb, k⟩
theorem mh_call {b c : Addr} {x0 x1 x2 x3 : Tx} {G : Hg} {P : KD} (hb : Bx G b c) (k : ∀ (h : Hd) (G' : Hg), h.sz → h.nm = x3 → BT b c G G' → P h.dct G') : sp__law_mixed_head [.ref b, .rol (txs [x0, x1, x2, x3])] G P := ⟨b, c, x0, x1, x2, x3, rfl, hb, k⟩
theorem lp_call {b c : Addr} {base many : Nat} {G : Hg} {P : KD} (hb : Bx G b c) (h1 : base ≤ 100) (h2 : 2 ≤ many) (h3 : many ≤ 100) (k : ∀ (ls : Lps) (G' : Hg), LpIn base many ls → BT b c G G' → P (.rol (lpD ls)) G') : sp__law_loops [.ref b, .int base, .int many] G P := ⟨b, c, base, many, rfl, hb, h1, h2, h3, k⟩
structure Mu (b c : Addr) (G0 G : Hg) (pv pu : Addr) (kvs : List (DK × D)) (N L : List Tx) : Prop where
  hb : Bx G0 b c
  bt : BT b c G0 G
  fv : G0 pv = none
  fu : G0 pu = none
  hv : G pv = some (.dct (vkv N L false))
  hu : G pu = some (.dct kvs)
  ne : pv ≠ pu
  nl : N.length ≤ 1000
  ll : L.length ≤ 1000
section
variable {b c : Addr} {G0 G G' : Hg} {pv pu : Addr} {kvs kvs' : List (DK × D)} {N L : List Tx}
theorem Mu.step (h : Mu b c G0 G pv pu kvs N L) (t : BT b c G G') : Mu b c G0 G' pv pu kvs N L :=
  ⟨h.hb, h.bt.trans t, h.fv, h.fu, t.ne h.bt.bx h.hv, t.ne h.bt.bx h.hu, h.ne, h.nl, h.ll⟩
theorem Mu.set (h : Mu b c G0 G pv pu kvs N L) : Mu b c G0 (updG G pu (.dct kvs')) pv pu kvs' N L :=
  ⟨h.hb, h.bt.upd h.hb h.fu, h.fv, h.fu, by rw [upd_off h.ne]; exact h.hv, upd_at, h.ne, h.nl, h.ll⟩
theorem Mu.isv (h : Mu b c G0 G pv pu kvs N L) : IsV G (.ref pv) N L false := ⟨⟨_, .ref h.hv, rfl, rfl, rfl⟩, h.nl, h.ll⟩
end
theorem vm12 {K : PySem.W.Frag} {Q : KD} {b c pv pu : Addr} {G0 G : Hg} {u : Un} {I L : List Tx} {z1 z3 z10 : Option D}
    (ms : Ms u I L) (mx : Mx b c G0 G pv pu u I L false) (hP : ∀ (u : Un) (G' : Hg), u.gd → BT b c G0 G' → Q u.dct G') :
    r__law_mixed_12 K (endOf Q) [some (.ref b), z1, some (.rol (txs L)), z3, some (.rol (txs u.rg)), some (.ref pv), some (.ref pu), none, none, none, z10, none, none, none, none, none, none, none, none, none, none, none, none] G := by
  have hrl := ms.rl
  have hil := ms.il
  unfold r__law_mixed_12
  walk_at "vc"
  refine ⟨by simp, rL_ref fun pr hpr => nx ?_⟩
  have fr := mx.bt.none hpr
  have nr := mx.hb.ne fr
  unfold r__law_mixed_13
  walk_at "vc"
  refine for_items (txs u.rg) (fun i env G' => ∃ pv z9 rows, env = [some (.ref b), z1, some (.rol (txs L)), z3, some (.rol (txs u.rg)), some (.ref pv), some (.ref pu), none, none, z9, z10, some (.ref pr), none, none, none, none, none, none, none, none, none, none, none] ∧ Mx b c G0 G' pv pu u (I ++ u.rg.take i) L false ∧ G' pr = some (.lst (rows.map orw)) ∧ rows.length = i ∧ ∀ m ls, RowsOk u (I ++ u.rg) L m ls rows) (fun R h => h _ ⟨pv, _, [], rfl, by rw [List.take_zero, List.append_nil]; exact mx.new hpr, upd_at, rfl, fun m ls k e he => by cases he⟩) ?_ ?_
  · rintro i d env G2 Nx hd ⟨pv, z9, rows, rfl, mx, hr, hl, hrs⟩ nxt
    unfold txs at hd
    rw [List.getElem?_map] at hd
    cases hi : u.rg[i]? with
    | none => rw [hi] at hd; cases hd
    | some y =>
      rw [hi] at hd
      cases hd
      have hy := List.mem_of_getElem? hi
      have hil2 : i < u.rg.length := (List.getElem?_eq_some_iff.mp hi).1
      walk_at "vc"
      unfold r__law_mixed_14
      walk_at "vc"
      refine ⟨⟨_, hr⟩, nxt_call mx.bx (by decide) (by decide) fun n1 G3 hn1 t3 => add_i (tm_call t3.bx (mx.step t3).isv fun t G4 htm t4 => ⟨by simp [sizeLine_eq], ?_⟩)⟩
      have t24 := t3.trans t4
      have hr4 := t24.kp pr _ nr.1 nr.2 hr
      have mx4 := mx.step t24
      have nv := mx4.lstv hr4
      refine app_ref hr4 (by rw [orw_len]; omega) (nx ?_)
      have mx5 := mx4.upd (g := .lst (rows.map orw ++ [.tup [.str S_set, .int (1 + n1), .str y, t.d]])) fr nv.1 nv.2
      unfold r__law_mixed_15
      walk_at "vc"
      refine disp_ref fun p hp => ?_
      simp only [gPairs]
      walk_at "vc"
      have mx6 := mx5.new (g := .dct []) hp
      have htk : u.rg.take (i + 1) = u.rg.take i ++ [y] := by rw [List.take_succ, hi]; rfl
      have hlen : (txs (I ++ u.rg.take i)).length ≤ 1000 := by rw [txs_len]; simp; omega
      refine it_dct mx6.hv (d := .rol (txs (I ++ u.rg.take i))) rfl ⟨by simp [sizeLine_eq], .inl (add_rol (by simp only [List.length_cons, List.length_nil]; rw [sizeLine_eq]; omega) ⟨upd_at, ?_⟩)⟩
      refine ⟨(by decide : (3 : Nat) ≤ 15), ?_⟩
      rw [upd_upd]
      have hp0 := mx5.bt.none hp
      have npv : p ≠ pv := fun e => by rw [e, mx5.hv] at hp; cases hp
      have npu : p ≠ pu := fun e => by rw [e, mx5.hu] at hp; cases hp
      have npr : p ≠ pr := fun e => by rw [e, upd_at] at hp; cases hp
      have etx : txs (I ++ u.rg.take i) ++ [D.str y] = txs (I ++ u.rg.take (i + 1)) := by rw [htk]; simp [txs]
      rw [etx]
      refine nxt _ _ ⟨p, _, rows ++ [some (.set (1 + n1) y t)], rfl, ⟨mx.hb, mx5.bt.upd mx.hb hp0, hp0, mx.fu, upd_at, ?_, npu, ?_, mx.ll⟩, ?_, by simp [hl], fun m ls => (hrs m ls).add (.inr ⟨.set (1 + n1) y t, rfl, hy, htm.mono fun x hx => ?_⟩)⟩
      · rw [upd_off (Ne.symm npu)]; exact mx5.hu
      · simp; omega
      · rw [upd_off (Ne.symm npr), upd_at, List.map_append]; rfl
      · rcases List.mem_append.mp hx with hx | hx
        · exact List.mem_append.mpr (.inl hx)
        · exact List.mem_append.mpr (.inr (List.mem_of_mem_take hx))
  · rintro env G2 ⟨pv, z9, rows, rfl, mx, hr, hl, hrs⟩
    rw [txs_len] at hl mx
    rw [List.take_length] at mx
    have hN : ∀ x ∈ I ++ u.rg, Wn x := fun x hx => by
      rcases List.mem_append.mp hx with hx | hx
      · exact ms.wI x hx
      · exact ms.wR x hx
    refine nx ?_
    unfold r__law_mixed_16
    walk_at "vc"
    refine len_rol (nx ?_)
    rw [txs_len]
    unfold r__law_mixed_17
    walk_at "vc"
    refine nxt_call mx.bx (by decide) (by decide) fun n3 G3 hn3 t3 => add_i (nx ?_)
    rw [show (2 : Int) + n3 = ((2 + n3 : Nat) : Int) from by omega]
    unfold r__law_mixed_18
    walk_at "vc"
    refine lp_call t3.bx (by omega) (by omega) (by omega) fun ls G4 hls t4 => nx ?_
    have t24 := t3.trans t4
    have hr4 := t24.kp pr _ nr.1 nr.2 hr
    unfold r__law_mixed_19
    walk_at "vc"
    refine ⟨by simp, rL_ref fun pt hpt => nx ?_⟩
    have ft := (mx.step t24).bt.none hpt
    have nrt : pr ≠ pt := ne_of_none hpt hr4
    exact vm20 ms ((mx.step t24).new hpt) hN fr ft nrt (by rw [upd_off nrt]; exact hr4) upd_at hl ⟨by omega, by omega⟩ (hrs _ _) hls hP
theorem vc__law_mixed {K : PySem.W.Frag} (ds : List D) (G : Hg) (Q : KD) (h : sp__law_mixed ds G Q) : r__law_mixed K (endOf Q) (startD N__law_mixed ds) G := by
  obtain ⟨b, c, rfl, hb, hP⟩ := h
  show r__law_mixed K (endOf Q) [some (.ref b), none, none, none, none, none, none, none, none, none, none, none, none, none, none, none, none, none, none, none, none, none, none] G
  unfold r__law_mixed
  walk_at "vc"
  refine nm_call hb fun ns G1 h16 hnd hwn t1 => nx ?_
  unfold r__law_mixed_1
  walk_at "vc"
  refine nxt_call t1.bx (by decide) (by decide) fun n2 G2 hn2 t2 => ?_
  refine cut_rol (i := 0) (j := n2) (by omega) (by omega) (.inl (nx ?_))
  generalize hL : List.take (n2 - 0) (List.drop 0 ns) = L
  have hLl : L.length ≤ 3 := by rw [← hL, List.length_take]; omega
  have hLm : ∀ x ∈ L, x ∈ ns := fun x hx => by rw [← hL] at hx; exact List.mem_of_mem_drop (List.mem_of_mem_take hx)
  unfold r__law_mixed_2
  walk_at "vc"
  refine nxt_call t2.bx (by decide) (by decide) fun n3 G3 hn3 t3 => add_i ?_
  rw [show (3 : Int) + n3 = ((3 + n3 : Nat) : Int) from by omega]
  refine cut_rol (i := 3) (j := 3 + n3) (by omega) (by omega) (.inl (nx ?_))
  generalize hI : List.take (3 + n3 - 3) (List.drop 3 ns) = I
  have hIl : I.length ≤ 2 := by rw [← hI, List.length_take]; omega
  have hIm : ∀ x ∈ I, x ∈ ns := fun x hx => by rw [← hI] at hx; exact List.mem_of_mem_drop (List.mem_of_mem_take hx)
  unfold r__law_mixed_3
  walk_at "vc"
  refine nxt_call t3.bx (by decide) (by decide) fun n4 G4 hn4 t4 => add_i ?_
  rw [show (7 : Int) + n4 = ((7 + n4 : Nat) : Int) from by omega]
  refine cut_rol (i := 6) (j := 7 + n4) (by omega) (by omega) (.inl (nx ?_))
  generalize hR : List.take (7 + n4 - 6) (List.drop 6 ns) = R
  have hRl : R.length ≤ 5 ∧ R ≠ [] := by
    have e : R.length = min (7 + n4 - 6) (ns.length - 6) := by rw [← hR, List.length_take, List.length_drop]
    refine ⟨by omega, fun z => by rw [z] at e; simp at e; omega⟩
  have hRm : ∀ x ∈ R, x ∈ ns := fun x hx => by rw [← hR] at hx; exact List.mem_of_mem_drop (List.mem_of_mem_take hx)
  have hRn : R.Nodup := by rw [← hR]; exact (List.take_sublist _ _).nodup ((List.drop_sublist _ _).nodup hnd)
  obtain ⟨x1, h1⟩ : ∃ x, ns[1]? = some x := ⟨_, List.getElem?_eq_getElem (by omega)⟩
  obtain ⟨x5, h5⟩ : ∃ x, ns[5]? = some x := ⟨_, List.getElem?_eq_getElem (by omega)⟩
  obtain ⟨x7, h7⟩ : ∃ x, ns[7]? = some x := ⟨_, List.getElem?_eq_getElem (by omega)⟩
  obtain ⟨x12, h12⟩ : ∃ x, ns[12]? = some x := ⟨_, List.getElem?_eq_getElem (by omega)⟩
  obtain ⟨x13, h13⟩ : ∃ x, ns[13]? = some x := ⟨_, List.getElem?_eq_getElem (by omega)⟩
  have hne : x13 ≠ x12 := fun e => by
    subst e
    have hp := hnd
    unfold List.Nodup at hp
    rw [List.pairwise_iff_getElem] at hp
    refine hp 12 13 (by omega) (by omega) (by omega) ?_
    rw [(List.getElem?_eq_some_iff.mp h12).2, (List.getElem?_eq_some_iff.mp h13).2]
  have at_ : ∀ (k : Nat) (x : Tx), ns[k]? = some x → (txs ns)[k]? = some (.str x) := fun k x h => by unfold txs; rw [List.getElem?_map, h]; rfl
  have t14 := ((t1.trans t2).trans t3).trans t4
  unfold r__law_mixed_4
  walk_at "vc"
  refine disp_ref fun pv hpv => ?_
  simp only [gPairs]
  walk_at "vc"
  refine ⟨upd_at, (by decide : (3 : Nat) ≤ 15), ?_⟩
  rw [upd_upd]
  refine nx ?_
  show r__law_mixed_5 K (endOf Q) _ (updG G4 pv (.dct (vkv I L false)))
  have fv := t14.none hpv
  have t5 := t14.upd hb (o := .dct (vkv I L false)) fv
  unfold r__law_mixed_5
  walk_at "vc"
  refine disp_ref fun pu hpu => ?_
  simp only [gPairs]
  walk_at "vc"
  refine it_rol (i := 12) (at_ 12 x12 h12) ?_
  refine lc_all L .str (fun x => oneD x true) (by omega) (fun R h => h) (fun x G' P' hx k => ⟨by simp [sizeLine_eq], k⟩) ?_
  refine lc_all I .str (fun x => oneD x false) (by omega) (fun R h => h) (fun x G' P' hx k => ⟨by simp [sizeLine_eq], k⟩) ?_
  refine add_rol (by rw [List.length_map, List.length_map, sizeLine_eq]; omega) ⟨upd_at, (by decide : (3 : Nat) ≤ 15), ?_⟩
  rw [upd_upd]
  refine nx ?_
  let ps : List (Tx × Bool) := L.map (fun x => (x, true)) ++ I.map (fun x => (x, false))
  have eps : List.map (fun x => oneD x true) L ++ List.map (fun x => oneD x false) I = parD ps := by simp [ps, parD, Function.comp_def]
  rw [eps]
  have fu := t5.none hpu
  have nvu : pv ≠ pu := ne_of_none hpu upd_at
  show r__law_mixed_6 K (endOf Q) _ (updG (updG G4 pv (.dct (vkv I L false))) pu (.dct [(sk S_name, .str x12), (sk S_parameters, .rol (parD ps)), (sk S_registers, .rol (txs R))]))
  have mu : Mu b c G (updG (updG G4 pv (.dct (vkv I L false))) pu (.dct [(sk S_name, .str x12), (sk S_parameters, .rol (parD ps)), (sk S_registers, .rol (txs R))])) pv pu [(sk S_name, .str x12), (sk S_parameters, .rol (parD ps)), (sk S_registers, .rol (txs R))] I L :=
    ⟨hb, t5.upd hb fu, fv, fu, by rw [upd_off nvu, upd_at], upd_at, nvu, by omega, by omega⟩
  generalize (updG (updG G4 pv (.dct (vkv I L false))) pu (.dct [(sk S_name, .str x12), (sk S_parameters, .rol (parD ps)), (sk S_registers, .rol (txs R))])) = G5 at mu ⊢
  unfold r__law_mixed_6
  walk_at "vc"
  refine lc_bt ?_
  walk_at "vc"
  refine nxt_call (m := 2) mu.bt.bx (by decide) (by decide) fun n6 G6 hn6 t6 => ⟨by omega, by omega, ?_⟩
  rw [Int.toNat_natCast]
  have mu := mu.step t6
  refine lcr_bt n6 Pr.d (fun _ => True) (by omega) mu.bt.bx (fun i G7 P' t k => ?_) fun ne G7 hne' _ t7 => ?_
  · walk_at "vc"
    exact pr_call t.bx (mu.step t).isv fun z G8 _ t8 => k z G8 trivial t8
  have mu := mu.step t7
  refine set_new mu.hu rfl (by simp) (nx ?_)
  simp only [List.cons_append, List.nil_append]
  have mu := mu.set (kvs' := [(sk S_name, .str x12), (sk S_parameters, .rol (parD ps)), (sk S_registers, .rol (txs R)), (sk S_needs, .rol (ne.map Pr.d))])
  have rest : ∀ (fa : Option (Pl × Pl)) (G8 : Hg), Mu b c G G8 pv pu [(sk S_name, .str x12), (sk S_parameters, .rol (parD ps)), (sk S_registers, .rol (txs R)), (sk S_needs, .rol (ne.map Pr.d)), (sk S_falls, faD fa)] I L → r__law_mixed_8 K (endOf Q) [some (.ref b), some (.rol (txs ns)), some (.rol (txs L)), some (.rol (txs I)), some (.rol (txs R)), some (.ref pv), some (.ref pu), none, none, none, none, none, none, none, none, none, none, none, none, none, none, none, none] G8 := by
    intro fa G8 mu
    unfold r__law_mixed_8
    walk_at "vc"
    refine lc_bt ?_
    walk_at "vc"
    refine walk_rol ?_
    refine lci_bt L .str .str (fun x => x ∈ L) (by omega) mu.bt.bx (fun x G9 Y N hx t y no => ?_) fun cs G9 hcs hcm t9 => ?_
    · walk_at "vc"
      refine nxt_call t.bx (by decide) (by decide) fun n9 G10 hn9 t10 => gt_i ?_
      cases decide ((0 : Int) < n9) with
      | true => exact y x _ hx t10
      | false => exact no _ t10
    have mu := mu.step t9
    refine set_new mu.hu rfl (by simp) (nx ?_)
    simp only [List.cons_append, List.nil_append]
    have mu := mu.set (kvs' := [(sk S_name, .str x12), (sk S_parameters, .rol (parD ps)), (sk S_registers, .rol (txs R)), (sk S_needs, .rol (ne.map Pr.d)), (sk S_falls, faD fa), (sk S_changes, .rol (txs cs))])
    unfold r__law_mixed_9
    walk_at "vc"
    refine lc_bt ?_
    walk_at "vc"
    refine nxt_call (m := 2) mu.bt.bx (by decide) (by decide) fun n10 G10 hn10 t10 => ⟨by omega, by omega, ?_⟩
    rw [Int.toNat_natCast]
    have mu := mu.step t10
    refine lcr_bt n10 Hd.dct (fun h => h.sz ∧ h.nm = x13) (by omega) mu.bt.bx (fun i G11 P' t k => ?_) fun us G11 husl hus t11 => ?_
    · walk_at "vc"
      refine it_rol (i := 1) (at_ 1 x1 h1) (it_rol (i := 5) (at_ 5 x5 h5) (it_rol (i := 7) (at_ 7 x7 h7) (it_rol (i := 13) (at_ 13 x13 h13) ⟨by simp [sizeLine_eq], .inl ?_⟩)))
      exact mh_call (x0 := x1) (x1 := x5) (x2 := x7) (x3 := x13) t.bx fun h G12 hs hn t12 => k h G12 ⟨hs, hn⟩ t12
    have mu := mu.step t11
    refine set_new mu.hu rfl (by simp) (nx ?_)
    simp only [List.cons_append, List.nil_append]
    have mu := mu.set (kvs' := [(sk S_name, .str x12), (sk S_parameters, .rol (parD ps)), (sk S_registers, .rol (txs R)), (sk S_needs, .rol (ne.map Pr.d)), (sk S_falls, faD fa), (sk S_changes, .rol (txs cs)), (sk S_uses, .rol (us.map Hd.dct))])
    unfold r__law_mixed_10
    walk_at "vc"
    refine disp_ref fun pe hpe => ?_
    simp only [gPairs]
    walk_at "vc"
    refine ⟨by simp [sizeLine_eq], .inl (add_rol (by rw [txs_len]; simp [sizeLine_eq]; omega) ⟨upd_at, (by decide : (3 : Nat) ≤ 15), ?_⟩)⟩
    rw [upd_upd]
    refine nxl 10 rfl (.dct upd_at) ?_
    rw [del_upd hpe]
    have ee : txs I ++ [D.str S_result] = txs (I ++ [S_result]) := by simp [txs]
    rw [ee]
    show r__law_mixed_11 K (endOf Q) [some (.ref b), some (.rol (txs ns)), some (.rol (txs L)), some (.rol (txs I)), some (.rol (txs R)), some (.ref pv), some (.ref pu), none, none, none, some (.rdc (vkv (I ++ [S_result]) L true)), none, none, none, none, none, none, none, none, none, none, none, none] _
    have hv2 : ∀ G', IsV G' (.rdc (vkv (I ++ [S_result]) L true)) (I ++ [S_result]) L true := fun G' => ⟨⟨_, .rdc _, rfl, rfl, rfl⟩, by simp; omega, by omega⟩
    unfold r__law_mixed_11
    walk_at "vc"
    refine lc_bt ?_
    walk_at "vc"
    refine nxt_call (m := 2) mu.bt.bx (by decide) (by decide) fun n12 G12 hn12 t12 => ⟨by omega, by omega, ?_⟩
    rw [Int.toNat_natCast]
    have mu := mu.step t12
    refine lcr_bt n12 Pr.d (fun _ => True) (by omega) mu.bt.bx (fun i G7 P' t k => ?_) fun gi G13 hgi _ t13 => ?_
    · walk_at "vc"
      exact pr_call t.bx (hv2 _) fun z G8 _ t8 => k z G8 trivial t8
    have mu := mu.step t13
    refine set_new mu.hu rfl (by simp) (nx ?_)
    simp only [List.cons_append, List.nil_append]
    have ms : Ms ⟨x12, ps, ne, gi, fa, cs, us, R, []⟩ I L :=
      { ok := { us := by show us.length ≤ 1; omega, dif := fun h hh => by rw [(hus h hh).2]; exact hne, hs := fun h hh => (hus h hh).1, ps := by show ps.length ≤ 1000; simp [ps]; omega, ch := by show cs.length ≤ 1000; omega, psL := fun p hp hp2 => ?_, chL := hcm, rg0 := hRl.2, rg := by show R.length ≤ 1000; omega }
        wI := fun x hx => hwn x (hIm x hx), wL := fun x hx => hwn x (hLm x hx), wR := fun x hx => hwn x (hRm x hx), wn := hwn _ (List.mem_of_getElem? h12), wu := fun h hh => by rw [(hus h hh).2]; exact hwn _ (List.mem_of_getElem? h13)
        nd := hRn, ne := by show ne.length ≤ 1000; omega, gi := by show gi.length ≤ 1000; omega, il := hIl, ll := hLl, rl := hRl.1 }
    · have mu := mu.set (kvs' := (Un.mk x12 ps ne gi fa cs us R []).kv0)
      exact vm12 ms ⟨mu.hb, mu.bt, mu.fv, mu.fu, mu.hv, mu.hu, mu.ne, mu.nl, mu.ll⟩ hP
    · rcases List.mem_append.mp hp with hp | hp
      · obtain ⟨x, hx, rfl⟩ := List.mem_map.mp hp
        exact hx
      · obtain ⟨x, hx, rfl⟩ := List.mem_map.mp hp
        cases hp2
  unfold r__law_mixed_7
  walk_at "vc"
  refine nxt_call mu.bt.bx (by decide) (by decide) fun n8 G8 hn8 t8 => eq_int ?_
  have mu := mu.step t8
  cases decide ((n8 : Int) = 0) with
  | true =>
    refine pl_call mu.bt.bx mu.isv fun f1 G9 hf1 t9 => ?_
    have mu := mu.step t9
    refine pl_call mu.bt.bx mu.isv fun f2 G10 hf2 t10 => ⟨by simp [sizeLine_eq], ?_⟩
    have mu := mu.step t10
    refine set_new mu.hu rfl (by simp) (nx ?_)
    simp only [List.cons_append, List.nil_append]
    exact rest (some (f1, f2)) _ mu.set
  | false =>
    refine set_new mu.hu rfl (by simp) (nx ?_)
    simp only [List.cons_append, List.nil_append]
    exact rest none _ mu.set
end My

set_option Elab.async false
set_option linter.all false
set_option autoImplicit false
set_option maxRecDepth 100000
set_option maxHeartbeats 2000000
namespace My
open PySem PySem.Spec PyProof.Rows Vc
local macro_rules | `(tactic| walk_at "vc") => `(tactic| (try dsimp only [gSeq, gMake, gSFld, gAsg, gName, gRet, gRetN, gIfS, gDrop, gNext, gBreak, gCont, gVar, gC, gOp, gB, gCh, gAnd, gOr, gNot, gAndV, gOrV, gNotV, gIf, gTru, gNil, gCons, gTup, gLst, gFld, gCall, gBm, gCut, gNoPart, gPart, gIsa, gIsO, gNeg, gYes, gGSub, gIterA, gGTup, gGCons, gGNil, gRng1, gRng2, gRev, gRvR1, gRvR2, Tg.put, setAll, wipeE, List.set, List.getElem?_cons_zero, List.getElem?_cons_succ]))
def sp_law : Spg := fun ds G P => ∃ xs : List Int, ds = [.kol (xs.map .int)] ∧ xs.length ≤ 16777216 ∧ ∀ G', P (.bl true) G'
def N_law : List Str := ["script", "box", "u", "v", "unit", "other"]
def G_law (K : PySem.W.Frag) : Tb := ⟨K, [("_law_box", ⟨["script"], sp__law_box⟩), ("_law_mixed", ⟨["box"], sp__law_mixed⟩), ("_law_made", ⟨["u"], sp__law_made⟩), ("_law_told_rightly", ⟨["unit", "u"], sp__law_told_rightly⟩), ("_law_is", ⟨["unit", "u"], sp__law_is⟩)], [], [], []⟩
def r_law_5 (K : PySem.W.Frag) : TSg := (gRet (gAndV (gCall sp__law_told_rightly (gCons (gVar 4) (gCons (gVar 2) gNil))) (gAndV (gCall sp__law_told_rightly (gCons (gVar 5) (gCons (gVar 3) gNil))) (gAndV (gCall sp__law_told_rightly (gCons (gVar 4) (gCons (gVar 2) gNil))) (gAndV (gCall sp__law_is (gCons (gVar 4) (gCons (gVar 2) gNil))) (gCall sp__law_is (gCons (gVar 5) (gCons (gVar 3) gNil))))))))
def r_law_4 (K : PySem.W.Frag) : TSg := gSeq (gAsg (gCall sp__law_made (gCons (gVar 3) gNil)) (gName 5)) (r_law_5 K)
def r_law_3 (K : PySem.W.Frag) : TSg := gSeq (gAsg (gCall sp__law_made (gCons (gVar 2) gNil)) (gName 4)) (r_law_4 K)
def r_law_2 (K : PySem.W.Frag) : TSg := gSeq (gAsg (gCall sp__law_mixed (gCons (gVar 1) gNil)) (gName 3)) (r_law_3 K)
def r_law_1 (K : PySem.W.Frag) : TSg := gSeq (gAsg (gCall sp__law_mixed (gCons (gVar 1) gNil)) (gName 2)) (r_law_2 K)
def r_law (K : PySem.W.Frag) : TSg := gSeq (gAsg (gCall sp__law_box (gCons (gVar 0) gNil)) (gName 1)) (r_law_1 K)
theorem rd_law (K : PySem.W.Frag) : body (G_law K) N_law d_law.scope d_law.body = r_law K := by kernel_rfl
theorem no__law_same {ds : List D} {G : Hg} {Q : KD} (h : sp__law_same 0 ds G Q) : False := by
  obtain ⟨x, y, rfl, h, _⟩ := h
  cases h
theorem vc_law {K : PySem.W.Frag} (ds : List D) (G : Hg) (Q : KD) (h : sp_law ds G Q) : r_law K (endOf Q) (startD N_law ds) G := by
  obtain ⟨xs, rfl, hl, hP⟩ := h
  show r_law K (endOf Q) [some (.kol (xs.map .int)), none, none, none, none, none] G
  unfold r_law
  walk_at "vc"
  refine ⟨xs, rfl, hl, fun b c G1 hb => nx ?_⟩
  unfold r_law_1
  walk_at "vc"
  refine ⟨b, c, rfl, hb, fun u G2 hu t2 => nx ?_⟩
  unfold r_law_2
  walk_at "vc"
  refine ⟨b, c, rfl, t2.bx, fun v G3 hv t3 => nx ?_⟩
  unfold r_law_3
  walk_at "vc"
  refine ⟨u, rfl, hu.us, nx ?_⟩
  unfold r_law_4
  walk_at "vc"
  refine ⟨v, rfl, hv.us, nx ?_⟩
  unfold r_law_5
  walk_at "vc"
  refine ⟨u, rfl, hu.wk, fun G4 => ?_⟩
  refine ⟨v, rfl, hv.wk, fun G5 => ?_⟩
  refine ⟨u, rfl, hu.wk, fun G6 => ?_⟩
  refine ⟨u, rfl, hu.wk.ok, hu.szs, ?_⟩
  exact ⟨v, rfl, hv.wk.ok, hv.szs, .inl (hP _)⟩
end My

set_option Elab.async false
set_option linter.all false
set_option autoImplicit false
set_option maxRecDepth 100000
set_option maxHeartbeats 4000000
namespace My
open PySem PySem.Spec PyProof.Rows L2 Vc
structure Cxt (K : PySem.W.Frag) (h : Heap) (mg : Str → Option Value) : Prop where
  X : K.In h
  G : h.Ns mainGlobals mg
  c : He.SaysD fa fn K
section
variable {P : Program} {w : World} {K : PySem.W.Frag} {h : Heap} {mg : Str → Option Value} {base : Heap}
theorem Cxt.wd (C : Cxt K h mg) : Wd mg where
  blt := fun b => by
    cases b with
    | len => exact He.free_ok C.X C.G (C.c.fact 53 (f := .free "len") rfl)
    | abs => exact He.free_ok C.X C.G (C.c.fact 48 (f := .free "abs") rfl)
    | min => exact He.free_ok C.X C.G (C.c.fact 56 (f := .free "min") rfl)
    | max => exact He.free_ok C.X C.G (C.c.fact 55 (f := .free "max") rfl)
    | list => exact He.free_ok C.X C.G (C.c.fact 54 (f := .free "list") rfl)
    | tuple => exact He.free_ok C.X C.G (C.c.fact 62 (f := .free "tuple") rfl)
    | int => exact He.free_ok C.X C.G (C.c.fact 51 (f := .free "int") rfl)
    | sorted => exact He.free_ok C.X C.G (C.c.fact 60 (f := .free "sorted") rfl)
  tys := fun x T h => by
    unfold tyOf at h
    repeat' split at h
    all_goals first | (cases h; rename_i e; rw [strB_eq e]; first | exact He.free_ok C.X C.G (C.c.fact 62 (f := .free "tuple") rfl) | exact He.free_ok C.X C.G (C.c.fact 54 (f := .free "list") rfl) | exact He.free_ok C.X C.G (C.c.fact 49 (f := .free "bool") rfl) | exact He.free_ok C.X C.G (C.c.fact 51 (f := .free "int") rfl) | exact He.free_ok C.X C.G (C.c.fact 61 (f := .free "str") rfl) | exact He.free_ok C.X C.G (C.c.fact 50 (f := .free "dict") rfl)) | cases h
  isi := He.free_ok C.X C.G (C.c.fact 52 (f := .free "isinstance") rfl)
  rng := He.free_ok C.X C.G (C.c.fact 58 (f := .free "range") rfl)
  rev := He.free_ok C.X C.G (C.c.fact 59 (f := .free "reversed") rfl)
theorem Cxt.kf (C : Cxt K h mg) : Kf K where
  u := by
    have cl : Cls K (cAt K S_Unit) := He.cls_ok (C.c.fact 73 (f := .cls "Unit") rfl)
    exact List.forall_mem_cons.mpr ⟨⟨cl, He.noat_ok (C.c.fact 75 (f := .noat "Unit" "name") rfl)⟩, List.forall_mem_cons.mpr ⟨⟨cl, He.noat_ok (C.c.fact 76 (f := .noat "Unit" "parameters") rfl)⟩, List.forall_mem_cons.mpr ⟨⟨cl, He.noat_ok (C.c.fact 77 (f := .noat "Unit" "needs") rfl)⟩, List.forall_mem_cons.mpr ⟨⟨cl, He.noat_ok (C.c.fact 78 (f := .noat "Unit" "gives") rfl)⟩, List.forall_mem_cons.mpr ⟨⟨cl, He.noat_ok (C.c.fact 79 (f := .noat "Unit" "falls") rfl)⟩, List.forall_mem_cons.mpr ⟨⟨cl, He.noat_ok (C.c.fact 80 (f := .noat "Unit" "changes") rfl)⟩, List.forall_mem_cons.mpr ⟨⟨cl, He.noat_ok (C.c.fact 81 (f := .noat "Unit" "uses") rfl)⟩, List.forall_mem_cons.mpr ⟨⟨cl, He.noat_ok (C.c.fact 82 (f := .noat "Unit" "registers") rfl)⟩, List.forall_mem_cons.mpr ⟨⟨cl, He.noat_ok (C.c.fact 83 (f := .noat "Unit" "rows") rfl)⟩, fun _ h => by cases h⟩⟩⟩⟩⟩⟩⟩⟩⟩
  h := by
    have cl : Cls K (cAt K S_Head) := He.cls_ok (C.c.fact 63 (f := .cls "Head") rfl)
    exact List.forall_mem_cons.mpr ⟨⟨cl, He.noat_ok (C.c.fact 65 (f := .noat "Head" "name") rfl)⟩, List.forall_mem_cons.mpr ⟨⟨cl, He.noat_ok (C.c.fact 66 (f := .noat "Head" "parameters") rfl)⟩, List.forall_mem_cons.mpr ⟨⟨cl, He.noat_ok (C.c.fact 67 (f := .noat "Head" "needs") rfl)⟩, List.forall_mem_cons.mpr ⟨⟨cl, He.noat_ok (C.c.fact 68 (f := .noat "Head" "gives") rfl)⟩, List.forall_mem_cons.mpr ⟨⟨cl, He.noat_ok (C.c.fact 69 (f := .noat "Head" "falls") rfl)⟩, List.forall_mem_cons.mpr ⟨⟨cl, He.noat_ok (C.c.fact 70 (f := .noat "Head" "changes") rfl)⟩, fun _ h => by cases h⟩⟩⟩⟩⟩⟩
theorem at__law_box (C : Cxt K h mg) : FnAt P w K mg base 1 "_law_box" ⟨["script"], sp__law_box⟩ := by
  obtain ⟨fd, F⟩ := C.c.def_ 24 (d := d__law_box) rfl
  have F : FunD K "_law_box" "_law_box" d__law_box.params d__law_box.body d__law_box.scope [] [] (He.ga K "_law_box") fd := F
  exact fn_at (Γ := G__law_box K) (N := N__law_box) F (He.glo_ok C.X C.G (C.c.fact 19 (f := .glo "_law_box") rfl)) (F.bindsN fun _ _ _ _ _ _ us hl => match us, hl with | [_], _ => rfl) ⟨rfl, rfl, rfl, by decide +kernel, rfl, by decide +kernel, by decide +kernel⟩ ⟨rfl, C.wd, (fun _ h => by cases h), (fun _ h => by cases h), (fun _ h => by cases h), (fun _ h => by cases h)⟩ (by intro ds G Q h; repeat (first | (obtain ⟨rfl, -⟩ := h; rfl) | (obtain ⟨_, h⟩ := h))) (fun ds G Q h => Eq.mpr (congrFun (congrFun (congrFun (rd__law_box K) (endOf Q)) (startD N__law_box ds)) G) (vc__law_box ds G Q h))
theorem at__law_next (C : Cxt K h mg) : FnAt P w K mg base 1 "_law_next" ⟨["box", "many"], sp__law_next⟩ := by
  obtain ⟨fd, F⟩ := C.c.def_ 25 (d := d__law_next) rfl
  have F : FunD K "_law_next" "_law_next" d__law_next.params d__law_next.body d__law_next.scope [] [] (He.ga K "_law_next") fd := F
  exact fn_at (Γ := G__law_next K) (N := N__law_next) F (He.glo_ok C.X C.G (C.c.fact 20 (f := .glo "_law_next") rfl)) (F.bindsN fun _ _ _ _ _ _ us hl => match us, hl with | [_, _], _ => rfl) ⟨rfl, rfl, rfl, by decide +kernel, rfl, by decide +kernel, by decide +kernel⟩ ⟨rfl, C.wd, (fun _ h => by cases h), (fun _ h => by cases h), (fun _ h => by cases h), (fun _ h => by cases h)⟩ (by intro ds G Q h; repeat (first | (obtain ⟨rfl, -⟩ := h; rfl) | (obtain ⟨_, h⟩ := h))) (fun ds G Q h => Eq.mpr (congrFun (congrFun (congrFun (rd__law_next K) (endOf Q)) (startD N__law_next ds)) G) (vc__law_next ds G Q h))
theorem at__law_names (C : Cxt K h mg) : FnAt P w K mg base 2 "_law_names" ⟨["box", "many"], sp__law_names⟩ := by
  obtain ⟨fd, F⟩ := C.c.def_ 26 (d := d__law_names) rfl
  have F : FunD K "_law_names" "_law_names" d__law_names.params d__law_names.body d__law_names.scope [] [] (He.ga K "_law_names") fd := F
  exact fn_at (Γ := G__law_names K) (N := N__law_names) F (He.glo_ok C.X C.G (C.c.fact 21 (f := .glo "_law_names") rfl)) (F.bindsN fun _ _ _ _ _ _ us hl => match us, hl with | [_, _], _ => rfl) ⟨rfl, rfl, rfl, by decide +kernel, rfl, by decide +kernel, by decide +kernel⟩ ⟨rfl, C.wd, (by
      intro p hp
      simp only [G__law_names, List.mem_cons, List.not_mem_nil, or_false] at hp
      subst hp
      all_goals first | exact (at__law_next C).mono (by omega)), (fun _ h => by cases h), (fun _ h => by cases h), (fun _ h => by cases h)⟩ (by intro ds G Q h; repeat (first | (obtain ⟨rfl, -⟩ := h; rfl) | (obtain ⟨_, h⟩ := h))) (fun ds G Q h => Eq.mpr (congrFun (congrFun (congrFun (rd__law_names K) (endOf Q)) (startD N__law_names ds)) G) (vc__law_names ds G Q h))
theorem at__law_loops (C : Cxt K h mg) : FnAt P w K mg base 2 "_law_loops" ⟨["box", "base", "many"], sp__law_loops⟩ := by
  obtain ⟨fd, F⟩ := C.c.def_ 35 (d := d__law_loops) rfl
  have F : FunD K "_law_loops" "_law_loops" d__law_loops.params d__law_loops.body d__law_loops.scope [] [] (He.ga K "_law_loops") fd := F
  exact fn_at (Γ := G__law_loops K) (N := N__law_loops) F (He.glo_ok C.X C.G (C.c.fact 30 (f := .glo "_law_loops") rfl)) (F.bindsN fun _ _ _ _ _ _ us hl => match us, hl with | [_, _, _], _ => rfl) ⟨rfl, rfl, rfl, by decide +kernel, rfl, by decide +kernel, by decide +kernel⟩ ⟨rfl, C.wd, (by
      intro p hp
      simp only [G__law_loops, List.mem_cons, List.not_mem_nil, or_false] at hp
      subst hp
      all_goals first | exact (at__law_next C).mono (by omega)), (fun _ h => by cases h), (fun _ h => by cases h), (fun _ h => by cases h)⟩ (by intro ds G Q h; repeat (first | (obtain ⟨rfl, -⟩ := h; rfl) | (obtain ⟨_, h⟩ := h))) (fun ds G Q h => Eq.mpr (congrFun (congrFun (congrFun (rd__law_loops K) (endOf Q)) (startD N__law_loops ds)) G) (vc__law_loops ds G Q h))
theorem at__law_list_drawn (C : Cxt K h mg) : FnAt P w K mg base 2 "_law_list_drawn" ⟨["box", "v"], sp__law_list_drawn⟩ := by
  obtain ⟨fd, F⟩ := C.c.def_ 28 (d := d__law_list_drawn) rfl
  have F : FunD K "_law_list_drawn" "_law_list_drawn" d__law_list_drawn.params d__law_list_drawn.body d__law_list_drawn.scope [] [] (He.ga K "_law_list_drawn") fd := F
  exact fn_at (Γ := G__law_list_drawn K) (N := N__law_list_drawn) F (He.glo_ok C.X C.G (C.c.fact 23 (f := .glo "_law_list_drawn") rfl)) (F.bindsN fun _ _ _ _ _ _ us hl => match us, hl with | [_, _], _ => rfl) ⟨rfl, rfl, rfl, by decide +kernel, rfl, by decide +kernel, by decide +kernel⟩ ⟨rfl, C.wd, (by
      intro p hp
      simp only [G__law_list_drawn, List.mem_cons, List.not_mem_nil, or_false] at hp
      subst hp
      all_goals first | exact (at__law_next C).mono (by omega)), (fun _ h => by cases h), (fun _ h => by cases h), (fun _ h => by cases h)⟩ (by intro ds G Q h; repeat (first | (obtain ⟨rfl, -⟩ := h; rfl) | (obtain ⟨_, h⟩ := h))) (fun ds G Q h => Eq.mpr (congrFun (congrFun (congrFun (rd__law_list_drawn K) (endOf Q)) (startD N__law_list_drawn ds)) G) (vc__law_list_drawn ds G Q h))
theorem at__law_plain_drawn (C : Cxt K h mg) : FnAt P w K mg base 2 "_law_plain_drawn" ⟨["box", "v"], sp__law_plain_drawn⟩ := by
  obtain ⟨fd, F⟩ := C.c.def_ 27 (d := d__law_plain_drawn) rfl
  have F : FunD K "_law_plain_drawn" "_law_plain_drawn" d__law_plain_drawn.params d__law_plain_drawn.body d__law_plain_drawn.scope [] [] (He.ga K "_law_plain_drawn") fd := F
  exact fn_at (Γ := G__law_plain_drawn K) (N := N__law_plain_drawn) F (He.glo_ok C.X C.G (C.c.fact 22 (f := .glo "_law_plain_drawn") rfl)) (F.bindsN fun _ _ _ _ _ _ us hl => match us, hl with | [_, _], _ => rfl) ⟨rfl, rfl, rfl, by decide +kernel, rfl, by decide +kernel, by decide +kernel⟩ ⟨rfl, C.wd, (by
      intro p hp
      simp only [G__law_plain_drawn, List.mem_cons, List.not_mem_nil, or_false] at hp
      subst hp
      all_goals first | exact (at__law_next C).mono (by omega)), (fun _ h => by cases h), (fun _ h => by cases h), (fun _ h => by cases h)⟩ (by intro ds G Q h; repeat (first | (obtain ⟨rfl, -⟩ := h; rfl) | (obtain ⟨_, h⟩ := h))) (fun ds G Q h => Eq.mpr (congrFun (congrFun (congrFun (rd__law_plain_drawn K) (endOf Q)) (startD N__law_plain_drawn ds)) G) (vc__law_plain_drawn ds G Q h))
theorem at__law_term_drawn (C : Cxt K h mg) : FnAt P w K mg base 3 "_law_term_drawn" ⟨["box", "v"], sp__law_term_drawn⟩ := by
  obtain ⟨fd, F⟩ := C.c.def_ 29 (d := d__law_term_drawn) rfl
  have F : FunD K "_law_term_drawn" "_law_term_drawn" d__law_term_drawn.params d__law_term_drawn.body d__law_term_drawn.scope [] [] (He.ga K "_law_term_drawn") fd := F
  exact fn_at (Γ := G__law_term_drawn K) (N := N__law_term_drawn) F (He.glo_ok C.X C.G (C.c.fact 24 (f := .glo "_law_term_drawn") rfl)) (F.bindsN fun _ _ _ _ _ _ us hl => match us, hl with | [_, _], _ => rfl) ⟨rfl, rfl, rfl, by decide +kernel, rfl, by decide +kernel, by decide +kernel⟩ ⟨rfl, C.wd, (by
      intro p hp
      simp only [G__law_term_drawn, List.mem_cons, List.not_mem_nil, or_false] at hp
      rcases hp with rfl | rfl | rfl
      all_goals first | exact (at__law_plain_drawn C).mono (by omega) | exact (at__law_next C).mono (by omega) | exact (at__law_list_drawn C).mono (by omega)), (fun _ h => by cases h), (fun _ h => by cases h), (fun _ h => by cases h)⟩ (by intro ds G Q h; repeat (first | (obtain ⟨rfl, -⟩ := h; rfl) | (obtain ⟨_, h⟩ := h))) (fun ds G Q h => Eq.mpr (congrFun (congrFun (congrFun (rd__law_term_drawn K) (endOf Q)) (startD N__law_term_drawn ds)) G) (vc__law_term_drawn ds G Q h))
theorem at__law_cmp_drawn (C : Cxt K h mg) : FnAt P w K mg base 4 "_law_cmp_drawn" ⟨["box", "v"], sp__law_cmp_drawn⟩ := by
  obtain ⟨fd, F⟩ := C.c.def_ 30 (d := d__law_cmp_drawn) rfl
  have F : FunD K "_law_cmp_drawn" "_law_cmp_drawn" d__law_cmp_drawn.params d__law_cmp_drawn.body d__law_cmp_drawn.scope [] [] (He.ga K "_law_cmp_drawn") fd := F
  exact fn_at (Γ := G__law_cmp_drawn K) (N := N__law_cmp_drawn) F (He.glo_ok C.X C.G (C.c.fact 25 (f := .glo "_law_cmp_drawn") rfl)) (F.bindsN fun _ _ _ _ _ _ us hl => match us, hl with | [_, _], _ => rfl) ⟨rfl, rfl, rfl, by decide +kernel, rfl, by decide +kernel, by decide +kernel⟩ ⟨rfl, C.wd, (by
      intro p hp
      simp only [G__law_cmp_drawn, List.mem_cons, List.not_mem_nil, or_false] at hp
      rcases hp with rfl | rfl
      all_goals first | exact (at__law_next C).mono (by omega) | exact (at__law_term_drawn C).mono (by omega)), (fun _ h => by cases h), (fun _ h => by cases h), (fun _ h => by cases h)⟩ (by intro ds G Q h; repeat (first | (obtain ⟨rfl, -⟩ := h; rfl) | (obtain ⟨_, h⟩ := h))) (fun ds G Q h => Eq.mpr (congrFun (congrFun (congrFun (rd__law_cmp_drawn K) (endOf Q)) (startD N__law_cmp_drawn ds)) G) (vc__law_cmp_drawn ds G Q h))
theorem at__law_promise_drawn (C : Cxt K h mg) : FnAt P w K mg base 5 "_law_promise_drawn" ⟨["box", "v"], sp__law_promise_drawn⟩ := by
  obtain ⟨fd, F⟩ := C.c.def_ 31 (d := d__law_promise_drawn) rfl
  have F : FunD K "_law_promise_drawn" "_law_promise_drawn" d__law_promise_drawn.params d__law_promise_drawn.body d__law_promise_drawn.scope [] [] (He.ga K "_law_promise_drawn") fd := F
  exact fn_at (Γ := G__law_promise_drawn K) (N := N__law_promise_drawn) F (He.glo_ok C.X C.G (C.c.fact 26 (f := .glo "_law_promise_drawn") rfl)) (F.bindsN fun _ _ _ _ _ _ us hl => match us, hl with | [_, _], _ => rfl) ⟨rfl, rfl, rfl, by decide +kernel, rfl, by decide +kernel, by decide +kernel⟩ ⟨rfl, C.wd, (by
      intro p hp
      simp only [G__law_promise_drawn, List.mem_cons, List.not_mem_nil, or_false] at hp
      rcases hp with rfl | rfl | rfl | rfl
      all_goals first | exact (at__law_next C).mono (by omega) | exact (at__law_list_drawn C).mono (by omega) | exact (at__law_plain_drawn C).mono (by omega) | exact (at__law_cmp_drawn C).mono (by omega)), (fun _ h => by cases h), (fun _ h => by cases h), (fun _ h => by cases h)⟩ (by intro ds G Q h; repeat (first | (obtain ⟨rfl, -⟩ := h; rfl) | (obtain ⟨_, h⟩ := h))) (fun ds G Q h => Eq.mpr (congrFun (congrFun (congrFun (rd__law_promise_drawn K) (endOf Q)) (startD N__law_promise_drawn ds)) G) (vc__law_promise_drawn ds G Q h))
theorem at__law_mixed_head (C : Cxt K h mg) : FnAt P w K mg base 6 "_law_mixed_head" ⟨["box", "names"], sp__law_mixed_head⟩ := by
  obtain ⟨fd, F⟩ := C.c.def_ 32 (d := d__law_mixed_head) rfl
  have F : FunD K "_law_mixed_head" "_law_mixed_head" d__law_mixed_head.params d__law_mixed_head.body d__law_mixed_head.scope [] [] (He.ga K "_law_mixed_head") fd := F
  exact fn_at (Γ := G__law_mixed_head K) (N := N__law_mixed_head) F (He.glo_ok C.X C.G (C.c.fact 27 (f := .glo "_law_mixed_head") rfl)) (F.bindsN fun _ _ _ _ _ _ us hl => match us, hl with | [_, _], _ => rfl) ⟨rfl, rfl, rfl, by decide +kernel, rfl, by decide +kernel, by decide +kernel⟩ ⟨rfl, C.wd, (by
      intro p hp
      simp only [G__law_mixed_head, List.mem_cons, List.not_mem_nil, or_false] at hp
      rcases hp with rfl | rfl
      all_goals first | exact (at__law_promise_drawn C).mono (by omega) | exact (at__law_next C).mono (by omega)), (fun _ h => by cases h), (fun _ h => by cases h), (fun _ h => by cases h)⟩ (by intro ds G Q h; repeat (first | (obtain ⟨rfl, -⟩ := h; rfl) | (obtain ⟨_, h⟩ := h))) (fun ds G Q h => Eq.mpr (congrFun (congrFun (congrFun (rd__law_mixed_head K) (endOf Q)) (startD N__law_mixed_head ds)) G) (vc__law_mixed_head ds G Q h))
theorem at__law_changed (C : Cxt K h mg) : FnAt P w K mg base 1 "_law_changed" ⟨["u", "row"], sp__law_changed⟩ := by
  obtain ⟨fd, F⟩ := C.c.def_ 36 (d := d__law_changed) rfl
  have F : FunD K "_law_changed" "_law_changed" d__law_changed.params d__law_changed.body d__law_changed.scope [] [] (He.ga K "_law_changed") fd := F
  exact fn_at (Γ := G__law_changed K) (N := N__law_changed) F (He.glo_ok C.X C.G (C.c.fact 31 (f := .glo "_law_changed") rfl)) (F.bindsN fun _ _ _ _ _ _ us hl => match us, hl with | [_, _], _ => rfl) ⟨rfl, rfl, rfl, by decide +kernel, rfl, by decide +kernel, by decide +kernel⟩ ⟨rfl, C.wd, (fun _ h => by cases h), (fun _ h => by cases h), (fun _ h => by cases h), (fun _ h => by cases h)⟩ (by intro ds G Q h; repeat (first | (obtain ⟨rfl, -⟩ := h; rfl) | (obtain ⟨_, h⟩ := h))) (fun ds G Q h => Eq.mpr (congrFun (congrFun (congrFun (rd__law_changed K) (endOf Q)) (startD N__law_changed ds)) G) (vc__law_changed ds G Q h))
theorem at__law_marked (C : Cxt K h mg) : FnAt P w K mg base 6 "_law_marked" ⟨["box", "u", "v", "rows", "mark", "close"], sp__law_marked⟩ := by
  obtain ⟨fd, F⟩ := C.c.def_ 37 (d := d__law_marked) rfl
  have F : FunD K "_law_marked" "_law_marked" d__law_marked.params d__law_marked.body d__law_marked.scope [] [] (He.ga K "_law_marked") fd := F
  exact fn_at (Γ := G__law_marked K) (N := N__law_marked) F (He.glo_ok C.X C.G (C.c.fact 32 (f := .glo "_law_marked") rfl)) (F.bindsN fun _ _ _ _ _ _ us hl => match us, hl with | [_, _, _, _, _, _], _ => rfl) ⟨rfl, rfl, rfl, by decide +kernel, rfl, by decide +kernel, by decide +kernel⟩ ⟨rfl, C.wd, (by
      intro p hp
      simp only [G__law_marked, List.mem_cons, List.not_mem_nil, or_false] at hp
      rcases hp with rfl | rfl | rfl | rfl
      all_goals first | exact (at__law_plain_drawn C).mono (by omega) | exact (at__law_changed C).mono (by omega) | exact (at__law_promise_drawn C).mono (by omega) | exact (at__law_next C).mono (by omega)), (fun _ h => by cases h), (fun _ h => by cases h), (fun _ h => by cases h)⟩ (by intro ds G Q h; repeat (first | (obtain ⟨rfl, -⟩ := h; rfl) | (obtain ⟨_, h⟩ := h))) (fun ds G Q h => Eq.mpr (congrFun (congrFun (congrFun (rd__law_marked K) (endOf Q)) (startD N__law_marked ds)) G) (vc__law_marked ds G Q h))
theorem at__law_free (C : Cxt K h mg) : FnAt P w K mg base 1 "_law_free" ⟨["loops", "at", "t"], sp__law_free⟩ := by
  obtain ⟨fd, F⟩ := C.c.def_ 39 (d := d__law_free) rfl
  have F : FunD K "_law_free" "_law_free" d__law_free.params d__law_free.body d__law_free.scope [] [] (He.ga K "_law_free") fd := F
  exact fn_at (Γ := G__law_free K) (N := N__law_free) F (He.glo_ok C.X C.G (C.c.fact 34 (f := .glo "_law_free") rfl)) (F.bindsN fun _ _ _ _ _ _ us hl => match us, hl with | [_, _, _], _ => rfl) ⟨rfl, rfl, rfl, by decide +kernel, rfl, by decide +kernel, by decide +kernel⟩ ⟨rfl, C.wd, (fun _ h => by cases h), (fun _ h => by cases h), (fun _ h => by cases h), (fun _ h => by cases h)⟩ (by intro ds G Q h; repeat (first | (obtain ⟨rfl, -⟩ := h; rfl) | (obtain ⟨_, h⟩ := h))) (fun ds G Q h => Eq.mpr (congrFun (congrFun (congrFun (rd__law_free K) (endOf Q)) (startD N__law_free ds)) G) (vc__law_free ds G Q h))
theorem at__law_mixed_call (C : Cxt K h mg) : FnAt P w K mg base 3 "_law_mixed_call" ⟨["box", "u", "row", "name", "v"], sp__law_mixed_call⟩ := by
  obtain ⟨fd, F⟩ := C.c.def_ 33 (d := d__law_mixed_call) rfl
  have F : FunD K "_law_mixed_call" "_law_mixed_call" d__law_mixed_call.params d__law_mixed_call.body d__law_mixed_call.scope [] [] (He.ga K "_law_mixed_call") fd := F
  exact fn_at (Γ := G__law_mixed_call K) (N := N__law_mixed_call) F (He.glo_ok C.X C.G (C.c.fact 28 (f := .glo "_law_mixed_call") rfl)) (F.bindsN fun _ _ _ _ _ _ us hl => match us, hl with | [_, _, _, _, _], _ => rfl) ⟨rfl, rfl, rfl, by decide +kernel, rfl, by decide +kernel, by decide +kernel⟩ ⟨rfl, C.wd, (by
      intro p hp
      simp only [G__law_mixed_call, List.mem_cons, List.not_mem_nil, or_false] at hp
      rcases hp with rfl | rfl
      all_goals first | exact (at__law_next C).mono (by omega) | exact (at__law_plain_drawn C).mono (by omega)), (fun _ h => by cases h), (fun _ h => by cases h), (fun _ h => by cases h)⟩ (by intro ds G Q h; repeat (first | (obtain ⟨rfl, -⟩ := h; rfl) | (obtain ⟨_, h⟩ := h))) (fun ds G Q h => Eq.mpr (congrFun (congrFun (congrFun (rd__law_mixed_call K) (endOf Q)) (startD N__law_mixed_call ds)) G) (vc__law_mixed_call ds G Q h))
theorem at__law_mixed_row (C : Cxt K h mg) : FnAt P w K mg base 5 "_law_mixed_row" ⟨["box", "u", "at", "allowed", "v", "tests"], sp__law_mixed_row⟩ := by
  obtain ⟨fd, F⟩ := C.c.def_ 34 (d := d__law_mixed_row) rfl
  have F : FunD K "_law_mixed_row" "_law_mixed_row" d__law_mixed_row.params d__law_mixed_row.body d__law_mixed_row.scope [] [] (He.ga K "_law_mixed_row") fd := F
  exact fn_at (Γ := G__law_mixed_row K) (N := N__law_mixed_row) F (He.glo_ok C.X C.G (C.c.fact 29 (f := .glo "_law_mixed_row") rfl)) (F.bindsN fun _ _ _ _ _ _ us hl => match us, hl with | [_, _, _, _, _, _], _ => rfl) ⟨rfl, rfl, rfl, by decide +kernel, rfl, by decide +kernel, by decide +kernel⟩ ⟨rfl, C.wd, (by
      intro p hp
      simp only [G__law_mixed_row, List.mem_cons, List.not_mem_nil, or_false] at hp
      rcases hp with rfl | rfl | rfl | rfl | rfl
      all_goals first | exact (at__law_next C).mono (by omega) | exact (at__law_plain_drawn C).mono (by omega) | exact (at__law_mixed_call C).mono (by omega) | exact (at__law_term_drawn C).mono (by omega) | exact (at__law_cmp_drawn C).mono (by omega)), (fun _ h => by cases h), (fun _ h => by cases h), (fun _ h => by cases h)⟩ (by intro ds G Q h; repeat (first | (obtain ⟨rfl, -⟩ := h; rfl) | (obtain ⟨_, h⟩ := h))) (fun ds G Q h => Eq.mpr (congrFun (congrFun (congrFun (rd__law_mixed_row K) (endOf Q)) (startD N__law_mixed_row ds)) G) (vc__law_mixed_row ds G Q h))
theorem at__law_mixed (C : Cxt K h mg) : FnAt P w K mg base 7 "_law_mixed" ⟨["box"], sp__law_mixed⟩ := by
  obtain ⟨fd, F⟩ := C.c.def_ 38 (d := d__law_mixed) rfl
  have F : FunD K "_law_mixed" "_law_mixed" d__law_mixed.params d__law_mixed.body d__law_mixed.scope [] [] (He.ga K "_law_mixed") fd := F
  exact fn_at (Γ := G__law_mixed K) (N := N__law_mixed) F (He.glo_ok C.X C.G (C.c.fact 33 (f := .glo "_law_mixed") rfl)) (F.bindsN fun _ _ _ _ _ _ us hl => match us, hl with | [_], _ => rfl) ⟨rfl, rfl, rfl, by decide +kernel, rfl, by decide +kernel, by decide +kernel⟩ ⟨rfl, C.wd, (by
      intro p hp
      simp only [G__law_mixed, List.mem_cons, List.not_mem_nil, or_false] at hp
      rcases hp with rfl | rfl | rfl | rfl | rfl | rfl | rfl | rfl | rfl | rfl | rfl
      all_goals first | exact (at__law_names C).mono (by omega) | exact (at__law_loops C).mono (by omega) | exact (at__law_promise_drawn C).mono (by omega) | exact (at__law_mixed_head C).mono (by omega) | exact (at__law_next C).mono (by omega) | exact (at__law_marked C).mono (by omega) | exact (at__law_plain_drawn C).mono (by omega) | exact (at__law_term_drawn C).mono (by omega) | exact (at__law_free C).mono (by omega) | exact (at__law_cmp_drawn C).mono (by omega) | exact (at__law_mixed_row C).mono (by omega)), (fun _ h => by cases h), (fun _ h => by cases h), (fun _ h => by cases h)⟩ (by intro ds G Q h; repeat (first | (obtain ⟨rfl, -⟩ := h; rfl) | (obtain ⟨_, h⟩ := h))) (fun ds G Q h => Eq.mpr (congrFun (congrFun (congrFun (rd__law_mixed K) (endOf Q)) (startD N__law_mixed ds)) G) (vc__law_mixed ds G Q h))
theorem at_Head (C : Cxt K h mg) : MkAt P w K mg base 2 "Head" ⟨["self", "name", "parameters", "needs", "gives", "falls", "changes"], sp_Head___init__⟩ := by
  obtain ⟨fd, F⟩ := C.c.def_ 17 (d := d_Head___init__) rfl
  have F : FunD K "__init__" "Head.__init__" d_Head___init__.params d_Head___init__.body d_Head___init__.scope [] [] (He.ma K (He.ga K "Head") "__init__") fd := F
  exact ⟨_, fd, 1, Nat.le_refl _, def_ok (Γ := G_Head___init__ K) (N := N_Head___init__) F ⟨rfl, rfl, rfl, by decide +kernel, rfl, by decide +kernel, by decide +kernel⟩ ⟨rfl, C.wd, (fun _ h => by cases h), (fun _ h => by cases h), (fun _ h => by cases h), (fun _ h => by cases h)⟩ (by intro ds G Q h; repeat (first | (obtain ⟨rfl, -⟩ := h; rfl) | (obtain ⟨_, h⟩ := h))) (fun ds G Q h => Eq.mpr (congrFun (congrFun (congrFun (rd_Head___init__ K) (endOf Q)) (startD N_Head___init__ ds)) G) (vc_Head___init__ C.kf ds G Q h)), (He.glo_ok C.X C.G (C.c.fact 17 (f := .glo "Head") rfl)), He.mkr_ok (C.c.fact 64 (f := .mkr "Head") rfl), F.bindsN fun _ _ _ _ _ _ us hl => match us, hl with | [_, _, _, _, _, _, _], _ => rfl⟩
theorem at__law_head_made (C : Cxt K h mg) : FnAt P w K mg base 3 "_law_head_made" ⟨["h"], sp__law_head_made⟩ := by
  obtain ⟨fd, F⟩ := C.c.def_ 40 (d := d__law_head_made) rfl
  have F : FunD K "_law_head_made" "_law_head_made" d__law_head_made.params d__law_head_made.body d__law_head_made.scope [] [] (He.ga K "_law_head_made") fd := F
  exact fn_at (Γ := G__law_head_made K) (N := N__law_head_made) F (He.glo_ok C.X C.G (C.c.fact 35 (f := .glo "_law_head_made") rfl)) (F.bindsN fun _ _ _ _ _ _ us hl => match us, hl with | [_], _ => rfl) ⟨rfl, rfl, rfl, by decide +kernel, rfl, by decide +kernel, by decide +kernel⟩ ⟨rfl, C.wd, (fun _ h => by cases h), (by
      intro p hp
      simp only [G__law_head_made, List.mem_cons, List.not_mem_nil, or_false] at hp
      subst hp
      all_goals first | exact (at_Head C).mono (by omega)), (fun _ h => by cases h), (fun _ h => by cases h)⟩ (by intro ds G Q h; repeat (first | (obtain ⟨rfl, -⟩ := h; rfl) | (obtain ⟨_, h⟩ := h))) (fun ds G Q h => Eq.mpr (congrFun (congrFun (congrFun (rd__law_head_made K) (endOf Q)) (startD N__law_head_made ds)) G) (vc__law_head_made ds G Q h))
theorem at_Unit (C : Cxt K h mg) : MkAt P w K mg base 2 "Unit" ⟨["self", "name", "parameters", "needs", "gives", "falls", "changes", "uses", "registers", "rows"], sp_Unit___init__⟩ := by
  obtain ⟨fd, F⟩ := C.c.def_ 20 (d := d_Unit___init__) rfl
  have F : FunD K "__init__" "Unit.__init__" d_Unit___init__.params d_Unit___init__.body d_Unit___init__.scope [] [] (He.ma K (He.ga K "Unit") "__init__") fd := F
  exact ⟨_, fd, 1, Nat.le_refl _, def_ok (Γ := G_Unit___init__ K) (N := N_Unit___init__) F ⟨rfl, rfl, rfl, by decide +kernel, rfl, by decide +kernel, by decide +kernel⟩ ⟨rfl, C.wd, (fun _ h => by cases h), (fun _ h => by cases h), (fun _ h => by cases h), (fun _ h => by cases h)⟩ (by intro ds G Q h; repeat (first | (obtain ⟨rfl, -⟩ := h; rfl) | (obtain ⟨_, h⟩ := h))) (fun ds G Q h => Eq.mpr (congrFun (congrFun (congrFun (rd_Unit___init__ K) (endOf Q)) (startD N_Unit___init__ ds)) G) (vc_Unit___init__ C.kf ds G Q h)), (He.glo_ok C.X C.G (C.c.fact 18 (f := .glo "Unit") rfl)), He.mkr_ok (C.c.fact 74 (f := .mkr "Unit") rfl), F.bindsN fun _ _ _ _ _ _ us hl => match us, hl with | [_, _, _, _, _, _, _, _, _, _], _ => rfl⟩
theorem at__law_made (C : Cxt K h mg) : FnAt P w K mg base 4 "_law_made" ⟨["u"], sp__law_made⟩ := by
  obtain ⟨fd, F⟩ := C.c.def_ 41 (d := d__law_made) rfl
  have F : FunD K "_law_made" "_law_made" d__law_made.params d__law_made.body d__law_made.scope [] [] (He.ga K "_law_made") fd := F
  exact fn_at (Γ := G__law_made K) (N := N__law_made) F (He.glo_ok C.X C.G (C.c.fact 36 (f := .glo "_law_made") rfl)) (F.bindsN fun _ _ _ _ _ _ us hl => match us, hl with | [_], _ => rfl) ⟨rfl, rfl, rfl, by decide +kernel, rfl, by decide +kernel, by decide +kernel⟩ ⟨rfl, C.wd, (by
      intro p hp
      simp only [G__law_made, List.mem_cons, List.not_mem_nil, or_false] at hp
      subst hp
      all_goals first | exact (at__law_head_made C).mono (by omega)), (by
      intro p hp
      simp only [G__law_made, List.mem_cons, List.not_mem_nil, or_false] at hp
      subst hp
      all_goals first | exact (at_Unit C).mono (by omega)), (fun _ h => by cases h), (fun _ h => by cases h)⟩ (by intro ds G Q h; repeat (first | (obtain ⟨rfl, -⟩ := h; rfl) | (obtain ⟨_, h⟩ := h))) (fun ds G Q h => Eq.mpr (congrFun (congrFun (congrFun (rd__law_made K) (endOf Q)) (startD N__law_made ds)) G) (vc__law_made ds G Q h))
theorem at_steps_from (C : Cxt K h mg) : FnAt P w K mg base 1 "steps_from" ⟨["unit", "at"], sp_steps_from⟩ := by
  obtain ⟨fd, F⟩ := C.c.def_ 0 (d := d_steps_from) rfl
  have F : FunD K "steps_from" "steps_from" d_steps_from.params d_steps_from.body d_steps_from.scope [] [] (He.ga K "steps_from") fd := F
  exact fn_at (Γ := G_steps_from K) (N := N_steps_from) F (He.glo_ok C.X C.G (C.c.fact 0 (f := .glo "steps_from") rfl)) (F.bindsN fun _ _ _ _ _ _ us hl => match us, hl with | [_, _], _ => rfl) ⟨rfl, rfl, rfl, by decide +kernel, rfl, by decide +kernel, by decide +kernel⟩ ⟨rfl, C.wd, (fun _ h => by cases h), (fun _ h => by cases h), (fun _ h => by cases h), (fun _ h => by cases h)⟩ (by intro ds G Q h; repeat (first | (obtain ⟨rfl, -⟩ := h; rfl) | (obtain ⟨_, h⟩ := h))) (fun ds G Q h => Eq.mpr (congrFun (congrFun (congrFun (rd_steps_from K) (endOf Q)) (startD N_steps_from ds)) G) (vc_steps_from C.kf ds G Q h))
theorem at_next_rows (C : Cxt K h mg) : FnAt P w K mg base 2 "next_rows" ⟨["unit", "at"], sp_next_rows⟩ := by
  obtain ⟨fd, F⟩ := C.c.def_ 1 (d := d_next_rows) rfl
  have F : FunD K "next_rows" "next_rows" d_next_rows.params d_next_rows.body d_next_rows.scope [] [] (He.ga K "next_rows") fd := F
  exact fn_at (Γ := G_next_rows K) (N := N_next_rows) F (He.glo_ok C.X C.G (C.c.fact 1 (f := .glo "next_rows") rfl)) (F.bindsN fun _ _ _ _ _ _ us hl => match us, hl with | [_, _], _ => rfl) ⟨rfl, rfl, rfl, by decide +kernel, rfl, by decide +kernel, by decide +kernel⟩ ⟨rfl, C.wd, (by
      intro p hp
      simp only [G_next_rows, List.mem_cons, List.not_mem_nil, or_false] at hp
      subst hp
      all_goals first | exact (at_steps_from C).mono (by omega)), (fun _ h => by cases h), (fun _ h => by cases h), (fun _ h => by cases h)⟩ (by intro ds G Q h; repeat (first | (obtain ⟨rfl, -⟩ := h; rfl) | (obtain ⟨_, h⟩ := h))) (fun ds G Q h => Eq.mpr (congrFun (congrFun (congrFun (rd_next_rows K) (endOf Q)) (startD N_next_rows ds)) G) (vc_next_rows ds G Q h))
theorem at_alive_behind (C : Cxt K h mg) : FnAt P w K mg base 3 "alive_behind" ⟨["unit", "alive", "at"], sp_alive_behind⟩ := by
  obtain ⟨fd, F⟩ := C.c.def_ 11 (d := d_alive_behind) rfl
  have F : FunD K "alive_behind" "alive_behind" d_alive_behind.params d_alive_behind.body d_alive_behind.scope [] [] (He.ga K "alive_behind") fd := F
  exact fn_at (Γ := G_alive_behind K) (N := N_alive_behind) F (He.glo_ok C.X C.G (C.c.fact 11 (f := .glo "alive_behind") rfl)) (F.bindsN fun _ _ _ _ _ _ us hl => match us, hl with | [_, _, _], _ => rfl) ⟨rfl, rfl, rfl, by decide +kernel, rfl, by decide +kernel, by decide +kernel⟩ ⟨rfl, C.wd, (by
      intro p hp
      simp only [G_alive_behind, List.mem_cons, List.not_mem_nil, or_false] at hp
      subst hp
      all_goals first | exact (at_next_rows C).mono (by omega)), (fun _ h => by cases h), (fun _ h => by cases h), (fun _ h => by cases h)⟩ (by intro ds G Q h; repeat (first | (obtain ⟨rfl, -⟩ := h; rfl) | (obtain ⟨_, h⟩ := h))) (fun ds G Q h => Eq.mpr (congrFun (congrFun (congrFun (rd_alive_behind K) (endOf Q)) (startD N_alive_behind ds)) G) (vc_alive_behind ds G Q h))
theorem at_given_by (C : Cxt K h mg) : FnAt P w K mg base 1 "given_by" ⟨["unit", "at"], sp_given_by⟩ := by
  obtain ⟨fd, F⟩ := C.c.def_ 10 (d := d_given_by) rfl
  have F : FunD K "given_by" "given_by" d_given_by.params d_given_by.body d_given_by.scope [] [] (He.ga K "given_by") fd := F
  exact fn_at (Γ := G_given_by K) (N := N_given_by) F (He.glo_ok C.X C.G (C.c.fact 10 (f := .glo "given_by") rfl)) (F.bindsN fun _ _ _ _ _ _ us hl => match us, hl with | [_, _], _ => rfl) ⟨rfl, rfl, rfl, by decide +kernel, rfl, by decide +kernel, by decide +kernel⟩ ⟨rfl, C.wd, (fun _ h => by cases h), (fun _ h => by cases h), (fun _ h => by cases h), (fun _ h => by cases h)⟩ (by intro ds G Q h; repeat (first | (obtain ⟨rfl, -⟩ := h; rfl) | (obtain ⟨_, h⟩ := h))) (fun ds G Q h => Eq.mpr (congrFun (congrFun (congrFun (rd_given_by K) (endOf Q)) (startD N_given_by ds)) G) (vc_given_by C.kf ds G Q h))
theorem at_names_of_plain (C : Cxt K h mg) : FnAt P w K mg base 1 "names_of_plain" ⟨["term"], sp_names_of_plain⟩ := by
  obtain ⟨fd, F⟩ := C.c.def_ 2 (d := d_names_of_plain) rfl
  have F : FunD K "names_of_plain" "names_of_plain" d_names_of_plain.params d_names_of_plain.body d_names_of_plain.scope [] [] (He.ga K "names_of_plain") fd := F
  exact fn_at (Γ := G_names_of_plain K) (N := N_names_of_plain) F (He.glo_ok C.X C.G (C.c.fact 2 (f := .glo "names_of_plain") rfl)) (F.bindsN fun _ _ _ _ _ _ us hl => match us, hl with | [_], _ => rfl) ⟨rfl, rfl, rfl, by decide +kernel, rfl, by decide +kernel, by decide +kernel⟩ ⟨rfl, C.wd, (fun _ h => by cases h), (fun _ h => by cases h), (fun _ h => by cases h), (fun _ h => by cases h)⟩ (by intro ds G Q h; repeat (first | (obtain ⟨rfl, -⟩ := h; rfl) | (obtain ⟨_, h⟩ := h))) (fun ds G Q h => Eq.mpr (congrFun (congrFun (congrFun (rd_names_of_plain K) (endOf Q)) (startD N_names_of_plain ds)) G) (vc_names_of_plain ds G Q h))
theorem at_names_of_term (C : Cxt K h mg) : FnAt P w K mg base 2 "names_of_term" ⟨["term"], sp_names_of_term⟩ := by
  obtain ⟨fd, F⟩ := C.c.def_ 3 (d := d_names_of_term) rfl
  have F : FunD K "names_of_term" "names_of_term" d_names_of_term.params d_names_of_term.body d_names_of_term.scope [] [] (He.ga K "names_of_term") fd := F
  exact fn_at (Γ := G_names_of_term K) (N := N_names_of_term) F (He.glo_ok C.X C.G (C.c.fact 3 (f := .glo "names_of_term") rfl)) (F.bindsN fun _ _ _ _ _ _ us hl => match us, hl with | [_], _ => rfl) ⟨rfl, rfl, rfl, by decide +kernel, rfl, by decide +kernel, by decide +kernel⟩ ⟨rfl, C.wd, (by
      intro p hp
      simp only [G_names_of_term, List.mem_cons, List.not_mem_nil, or_false] at hp
      subst hp
      all_goals first | exact (at_names_of_plain C).mono (by omega)), (fun _ h => by cases h), (fun _ h => by cases h), (fun _ h => by cases h)⟩ (by intro ds G Q h; repeat (first | (obtain ⟨rfl, -⟩ := h; rfl) | (obtain ⟨_, h⟩ := h))) (fun ds G Q h => Eq.mpr (congrFun (congrFun (congrFun (rd_names_of_term K) (endOf Q)) (startD N_names_of_term ds)) G) (vc_names_of_term ds G Q h))
theorem at_names_of_call (C : Cxt K h mg) : FnAt P w K mg base 2 "names_of_call" ⟨["row"], sp_names_of_call⟩ := by
  obtain ⟨fd, F⟩ := C.c.def_ 7 (d := d_names_of_call) rfl
  have F : FunD K "names_of_call" "names_of_call" d_names_of_call.params d_names_of_call.body d_names_of_call.scope [] [] (He.ga K "names_of_call") fd := F
  exact fn_at (Γ := G_names_of_call K) (N := N_names_of_call) F (He.glo_ok C.X C.G (C.c.fact 7 (f := .glo "names_of_call") rfl)) (F.bindsN fun _ _ _ _ _ _ us hl => match us, hl with | [_], _ => rfl) ⟨rfl, rfl, rfl, by decide +kernel, rfl, by decide +kernel, by decide +kernel⟩ ⟨rfl, C.wd, (by
      intro p hp
      simp only [G_names_of_call, List.mem_cons, List.not_mem_nil, or_false] at hp
      subst hp
      all_goals first | exact (at_names_of_plain C).mono (by omega)), (fun _ h => by cases h), (fun _ h => by cases h), (fun _ h => by cases h)⟩ (by intro ds G Q h; repeat (first | (obtain ⟨rfl, -⟩ := h; rfl) | (obtain ⟨_, h⟩ := h))) (fun ds G Q h => Eq.mpr (congrFun (congrFun (congrFun (rd_names_of_call K) (endOf Q)) (startD N_names_of_call ds)) G) (vc_names_of_call ds G Q h))
theorem at_names_of_comparison (C : Cxt K h mg) : FnAt P w K mg base 3 "names_of_comparison" ⟨["comparison"], sp_names_of_comparison⟩ := by
  obtain ⟨fd, F⟩ := C.c.def_ 4 (d := d_names_of_comparison) rfl
  have F : FunD K "names_of_comparison" "names_of_comparison" d_names_of_comparison.params d_names_of_comparison.body d_names_of_comparison.scope [] [] (He.ga K "names_of_comparison") fd := F
  exact fn_at (Γ := G_names_of_comparison K) (N := N_names_of_comparison) F (He.glo_ok C.X C.G (C.c.fact 4 (f := .glo "names_of_comparison") rfl)) (F.bindsN fun _ _ _ _ _ _ us hl => match us, hl with | [_], _ => rfl) ⟨rfl, rfl, rfl, by decide +kernel, rfl, by decide +kernel, by decide +kernel⟩ ⟨rfl, C.wd, (by
      intro p hp
      simp only [G_names_of_comparison, List.mem_cons, List.not_mem_nil, or_false] at hp
      subst hp
      all_goals first | exact (at_names_of_term C).mono (by omega)), (fun _ h => by cases h), (fun _ h => by cases h), (fun _ h => by cases h)⟩ (by intro ds G Q h; repeat (first | (obtain ⟨rfl, -⟩ := h; rfl) | (obtain ⟨_, h⟩ := h))) (fun ds G Q h => Eq.mpr (congrFun (congrFun (congrFun (rd_names_of_comparison K) (endOf Q)) (startD N_names_of_comparison ds)) G) (vc_names_of_comparison ds G Q h))
theorem at_names_of_promise (C : Cxt K h mg) : FnAt P w K mg base 4 "names_of_promise" ⟨["promise"], sp_names_of_promise⟩ := by
  obtain ⟨fd, F⟩ := C.c.def_ 5 (d := d_names_of_promise) rfl
  have F : FunD K "names_of_promise" "names_of_promise" d_names_of_promise.params d_names_of_promise.body d_names_of_promise.scope [] [] (He.ga K "names_of_promise") fd := F
  exact fn_at (Γ := G_names_of_promise K) (N := N_names_of_promise) F (He.glo_ok C.X C.G (C.c.fact 5 (f := .glo "names_of_promise") rfl)) (F.bindsN fun _ _ _ _ _ _ us hl => match us, hl with | [_], _ => rfl) ⟨rfl, rfl, rfl, by decide +kernel, rfl, by decide +kernel, by decide +kernel⟩ ⟨rfl, C.wd, (by
      intro p hp
      simp only [G_names_of_promise, List.mem_cons, List.not_mem_nil, or_false] at hp
      rcases hp with rfl | rfl
      all_goals first | exact (at_names_of_comparison C).mono (by omega) | exact (at_names_of_plain C).mono (by omega)), (fun _ h => by cases h), (fun _ h => by cases h), (fun _ h => by cases h)⟩ (by intro ds G Q h; repeat (first | (obtain ⟨rfl, -⟩ := h; rfl) | (obtain ⟨_, h⟩ := h))) (fun ds G Q h => Eq.mpr (congrFun (congrFun (congrFun (rd_names_of_promise K) (endOf Q)) (startD N_names_of_promise ds)) G) (vc_names_of_promise ds G Q h))
theorem at_names_of_mark (C : Cxt K h mg) : FnAt P w K mg base 5 "names_of_mark" ⟨["row"], sp_names_of_mark⟩ := by
  obtain ⟨fd, F⟩ := C.c.def_ 6 (d := d_names_of_mark) rfl
  have F : FunD K "names_of_mark" "names_of_mark" d_names_of_mark.params d_names_of_mark.body d_names_of_mark.scope [] [] (He.ga K "names_of_mark") fd := F
  exact fn_at (Γ := G_names_of_mark K) (N := N_names_of_mark) F (He.glo_ok C.X C.G (C.c.fact 6 (f := .glo "names_of_mark") rfl)) (F.bindsN fun _ _ _ _ _ _ us hl => match us, hl with | [_], _ => rfl) ⟨rfl, rfl, rfl, by decide +kernel, rfl, by decide +kernel, by decide +kernel⟩ ⟨rfl, C.wd, (by
      intro p hp
      simp only [G_names_of_mark, List.mem_cons, List.not_mem_nil, or_false] at hp
      rcases hp with rfl | rfl
      all_goals first | exact (at_names_of_plain C).mono (by omega) | exact (at_names_of_promise C).mono (by omega)), (fun _ h => by cases h), (fun _ h => by cases h), (fun _ h => by cases h)⟩ (by intro ds G Q h; repeat (first | (obtain ⟨rfl, -⟩ := h; rfl) | (obtain ⟨_, h⟩ := h))) (fun ds G Q h => Eq.mpr (congrFun (congrFun (congrFun (rd_names_of_mark K) (endOf Q)) (startD N_names_of_mark ds)) G) (vc_names_of_mark ds G Q h))
theorem at_names_read (C : Cxt K h mg) : FnAt P w K mg base 6 "names_read" ⟨["row"], sp_names_read⟩ := by
  obtain ⟨fd, F⟩ := C.c.def_ 8 (d := d_names_read) rfl
  have F : FunD K "names_read" "names_read" d_names_read.params d_names_read.body d_names_read.scope [] [] (He.ga K "names_read") fd := F
  exact fn_at (Γ := G_names_read K) (N := N_names_read) F (He.glo_ok C.X C.G (C.c.fact 8 (f := .glo "names_read") rfl)) (F.bindsN fun _ _ _ _ _ _ us hl => match us, hl with | [_], _ => rfl) ⟨rfl, rfl, rfl, by decide +kernel, rfl, by decide +kernel, by decide +kernel⟩ ⟨rfl, C.wd, (by
      intro p hp
      simp only [G_names_read, List.mem_cons, List.not_mem_nil, or_false] at hp
      rcases hp with rfl | rfl | rfl | rfl | rfl
      all_goals first | exact (at_names_of_term C).mono (by omega) | exact (at_names_of_call C).mono (by omega) | exact (at_names_of_comparison C).mono (by omega) | exact (at_names_of_mark C).mono (by omega) | exact (at_names_of_plain C).mono (by omega)), (fun _ h => by cases h), (fun _ h => by cases h), (fun _ h => by cases h)⟩ (by intro ds G Q h; repeat (first | (obtain ⟨rfl, -⟩ := h; rfl) | (obtain ⟨_, h⟩ := h))) (fun ds G Q h => Eq.mpr (congrFun (congrFun (congrFun (rd_names_read K) (endOf Q)) (startD N_names_read ds)) G) (vc_names_read ds G Q h))
theorem at_reads (C : Cxt K h mg) : FnAt P w K mg base 7 "reads" ⟨["unit", "at"], sp_reads⟩ := by
  obtain ⟨fd, F⟩ := C.c.def_ 9 (d := d_reads) rfl
  have F : FunD K "reads" "reads" d_reads.params d_reads.body d_reads.scope [] [] (He.ga K "reads") fd := F
  exact fn_at (Γ := G_reads K) (N := N_reads) F (He.glo_ok C.X C.G (C.c.fact 9 (f := .glo "reads") rfl)) (F.bindsN fun _ _ _ _ _ _ us hl => match us, hl with | [_, _], _ => rfl) ⟨rfl, rfl, rfl, by decide +kernel, rfl, by decide +kernel, by decide +kernel⟩ ⟨rfl, C.wd, (by
      intro p hp
      simp only [G_reads, List.mem_cons, List.not_mem_nil, or_false] at hp
      subst hp
      all_goals first | exact (at_names_read C).mono (by omega)), (fun _ h => by cases h), (fun _ h => by cases h), (fun _ h => by cases h)⟩ (by intro ds G Q h; repeat (first | (obtain ⟨rfl, -⟩ := h; rfl) | (obtain ⟨_, h⟩ := h))) (fun ds G Q h => Eq.mpr (congrFun (congrFun (congrFun (rd_reads K) (endOf Q)) (startD N_reads ds)) G) (vc_reads C.kf ds G Q h))
theorem at_alive_before (C : Cxt K h mg) : FnAt P w K mg base 8 "alive_before" ⟨["unit", "alive", "at"], sp_alive_before⟩ := by
  obtain ⟨fd, F⟩ := C.c.def_ 12 (d := d_alive_before) rfl
  have F : FunD K "alive_before" "alive_before" d_alive_before.params d_alive_before.body d_alive_before.scope [] [] (He.ga K "alive_before") fd := F
  exact fn_at (Γ := G_alive_before K) (N := N_alive_before) F (He.glo_ok C.X C.G (C.c.fact 12 (f := .glo "alive_before") rfl)) (F.bindsN fun _ _ _ _ _ _ us hl => match us, hl with | [_, _, _], _ => rfl) ⟨rfl, rfl, rfl, by decide +kernel, rfl, by decide +kernel, by decide +kernel⟩ ⟨rfl, C.wd, (by
      intro p hp
      simp only [G_alive_before, List.mem_cons, List.not_mem_nil, or_false] at hp
      rcases hp with rfl | rfl | rfl
      all_goals first | exact (at_alive_behind C).mono (by omega) | exact (at_given_by C).mono (by omega) | exact (at_reads C).mono (by omega)), (fun _ h => by cases h), (fun _ h => by cases h), (fun _ h => by cases h)⟩ (by intro ds G Q h; repeat (first | (obtain ⟨rfl, -⟩ := h; rfl) | (obtain ⟨_, h⟩ := h))) (fun ds G Q h => Eq.mpr (congrFun (congrFun (congrFun (rd_alive_before K) (endOf Q)) (startD N_alive_before ds)) G) (vc_alive_before ds G Q h))
theorem at_alive_at (C : Cxt K h mg) : FnAt P w K mg base 9 "alive_at" ⟨["unit"], sp_alive_at⟩ := by
  obtain ⟨fd, F⟩ := C.c.def_ 13 (d := d_alive_at) rfl
  have F : FunD K "alive_at" "alive_at" d_alive_at.params d_alive_at.body d_alive_at.scope [] [] (He.ga K "alive_at") fd := F
  exact fn_at (Γ := G_alive_at K) (N := N_alive_at) F (He.glo_ok C.X C.G (C.c.fact 13 (f := .glo "alive_at") rfl)) (F.bindsN fun _ _ _ _ _ _ us hl => match us, hl with | [_], _ => rfl) ⟨rfl, rfl, rfl, by decide +kernel, rfl, by decide +kernel, by decide +kernel⟩ ⟨rfl, C.wd, (by
      intro p hp
      simp only [G_alive_at, List.mem_cons, List.not_mem_nil, or_false] at hp
      subst hp
      all_goals first | exact (at_alive_before C).mono (by omega)), (fun _ h => by cases h), (fun _ h => by cases h), (fun _ h => by cases h)⟩ (by intro ds G Q h; repeat (first | (obtain ⟨rfl, -⟩ := h; rfl) | (obtain ⟨_, h⟩ := h))) (fun ds G Q h => Eq.mpr (congrFun (congrFun (congrFun (rd_alive_at K) (endOf Q)) (startD N_alive_at ds)) G) (vc_alive_at C.kf ds G Q h))
theorem at_made_by (C : Cxt K h mg) : FnAt P w K mg base 2 "made_by" ⟨["unit", "at"], sp_made_by⟩ := by
  obtain ⟨fd, F⟩ := C.c.def_ 14 (d := d_made_by) rfl
  have F : FunD K "made_by" "made_by" d_made_by.params d_made_by.body d_made_by.scope [] [] (He.ga K "made_by") fd := F
  exact fn_at (Γ := G_made_by K) (N := N_made_by) F (He.glo_ok C.X C.G (C.c.fact 14 (f := .glo "made_by") rfl)) (F.bindsN fun _ _ _ _ _ _ us hl => match us, hl with | [_, _], _ => rfl) ⟨rfl, rfl, rfl, by decide +kernel, rfl, by decide +kernel, by decide +kernel⟩ ⟨rfl, C.wd, (by
      intro p hp
      simp only [G_made_by, List.mem_cons, List.not_mem_nil, or_false] at hp
      subst hp
      all_goals first | exact (at_given_by C).mono (by omega)), (fun _ h => by cases h), (fun _ h => by cases h), (fun _ h => by cases h)⟩ (by intro ds G Q h; repeat (first | (obtain ⟨rfl, -⟩ := h; rfl) | (obtain ⟨_, h⟩ := h))) (fun ds G Q h => Eq.mpr (congrFun (congrFun (congrFun (rd_made_by K) (endOf Q)) (startD N_made_by ds)) G) (vc_made_by C.kf ds G Q h))
theorem at_add_foes (C : Cxt K h mg) : FnAt P w K mg base 1 "add_foes" ⟨["found", "one", "others"], sp_add_foes⟩ := by
  obtain ⟨fd, F⟩ := C.c.def_ 15 (d := d_add_foes) rfl
  have F : FunD K "add_foes" "add_foes" d_add_foes.params d_add_foes.body d_add_foes.scope [] [] (He.ga K "add_foes") fd := F
  exact fn_at (Γ := G_add_foes K) (N := N_add_foes) F (He.glo_ok C.X C.G (C.c.fact 15 (f := .glo "add_foes") rfl)) (F.bindsN fun _ _ _ _ _ _ us hl => match us, hl with | [_, _, _], _ => rfl) ⟨rfl, rfl, rfl, by decide +kernel, rfl, by decide +kernel, by decide +kernel⟩ ⟨rfl, C.wd, (fun _ h => by cases h), (fun _ h => by cases h), (fun _ h => by cases h), (fun _ h => by cases h)⟩ (by intro ds G Q h; repeat (first | (obtain ⟨rfl, -⟩ := h; rfl) | (obtain ⟨_, h⟩ := h))) (fun ds G Q h => Eq.mpr (congrFun (congrFun (congrFun (rd_add_foes K) (endOf Q)) (startD N_add_foes ds)) G) (vc_add_foes ds G Q h))
theorem at_foes (C : Cxt K h mg) : FnAt P w K mg base 10 "foes" ⟨["unit"], sp_foes⟩ := by
  obtain ⟨fd, F⟩ := C.c.def_ 16 (d := d_foes) rfl
  have F : FunD K "foes" "foes" d_foes.params d_foes.body d_foes.scope [] [] (He.ga K "foes") fd := F
  exact fn_at (Γ := G_foes K) (N := N_foes) F (He.glo_ok C.X C.G (C.c.fact 16 (f := .glo "foes") rfl)) (F.bindsN fun _ _ _ _ _ _ us hl => match us, hl with | [_], _ => rfl) ⟨rfl, rfl, rfl, by decide +kernel, rfl, by decide +kernel, by decide +kernel⟩ ⟨rfl, C.wd, (by
      intro p hp
      simp only [G_foes, List.mem_cons, List.not_mem_nil, or_false] at hp
      rcases hp with rfl | rfl | rfl | rfl
      all_goals first | exact (at_alive_at C).mono (by omega) | exact (at_made_by C).mono (by omega) | exact (at_add_foes C).mono (by omega) | exact (at_alive_behind C).mono (by omega)), (fun _ h => by cases h), (fun _ h => by cases h), (fun _ h => by cases h)⟩ (by intro ds G Q h; repeat (first | (obtain ⟨rfl, -⟩ := h; rfl) | (obtain ⟨_, h⟩ := h))) (fun ds G Q h => Eq.mpr (congrFun (congrFun (congrFun (rd_foes K) (endOf Q)) (startD N_foes ds)) G) (vc_foes C.kf ds G Q h))
theorem at0__law_same (C : Cxt K h mg) : ∀ n : Nat, FnAt P w K mg base (1 + n) "_law_same" ⟨["one", "two"], sp__law_same n⟩
  | 0 => by
    obtain ⟨fd, F⟩ := C.c.def_ 42 (d := d__law_same) rfl
    have F : FunD K "_law_same" "_law_same" d__law_same.params d__law_same.body d__law_same.scope [] [] (He.ga K "_law_same") fd := F
    exact fn_at (Γ := ⟨K, [], [], [], []⟩) (N := N__law_same) F (He.glo_ok C.X C.G (C.c.fact 37 (f := .glo "_law_same") rfl)) (F.bindsN fun _ _ _ _ _ _ us hl => match us, hl with | [_, _], _ => rfl) ⟨rfl, rfl, rfl, by decide +kernel, rfl, by decide +kernel, by decide +kernel⟩ ⟨rfl, C.wd, (fun _ h => by cases h), (fun _ h => by cases h), (fun _ h => by cases h), (fun _ h => by cases h)⟩ (by intro ds G Q h; repeat (first | (obtain ⟨rfl, -⟩ := h; rfl) | (obtain ⟨_, h⟩ := h))) (fun ds G Q h => False.elim (no__law_same h))
  | n + 1 => by
    obtain ⟨fd, F⟩ := C.c.def_ 42 (d := d__law_same) rfl
    have F : FunD K "_law_same" "_law_same" d__law_same.params d__law_same.body d__law_same.scope [] [] (He.ga K "_law_same") fd := F
    have ih := at0__law_same C n
    exact fn_at (Γ := G__law_same K n) (N := N__law_same) F (He.glo_ok C.X C.G (C.c.fact 37 (f := .glo "_law_same") rfl)) (F.bindsN fun _ _ _ _ _ _ us hl => match us, hl with | [_, _], _ => rfl) ⟨rfl, rfl, rfl, by decide +kernel, rfl, by decide +kernel, by decide +kernel⟩ ⟨rfl, C.wd, (by
      intro p hp
      simp only [G__law_same, List.mem_cons, List.not_mem_nil, or_false] at hp
      subst hp
      all_goals first | exact ih.mono (by first | omega | exact Nat.le_refl _)), (fun _ h => by cases h), (fun _ h => by cases h), (fun _ h => by cases h)⟩ (by intro ds G Q h; repeat (first | (obtain ⟨rfl, -⟩ := h; rfl) | (obtain ⟨_, h⟩ := h))) (fun ds G Q h => Eq.mpr (congrFun (congrFun (congrFun (rd__law_same K n) (endOf Q)) (startD N__law_same ds)) G) (vc__law_same n ds G Q h))
theorem at__law_same (C : Cxt K h mg) : FnAt P w K mg base 14 "_law_same" ⟨["one", "two"], (sp__law_same 12)⟩ := (at0__law_same C 12).mono (by omega)
theorem at__law_named (C : Cxt K h mg) : FnAt P w K mg base 1 "_law_named" ⟨["thing"], sp__law_named⟩ := by
  obtain ⟨fd, F⟩ := C.c.def_ 45 (d := d__law_named) rfl
  have F : FunD K "_law_named" "_law_named" d__law_named.params d__law_named.body d__law_named.scope [] [] (He.ga K "_law_named") fd := F
  exact fn_at (Γ := G__law_named K) (N := N__law_named) F (He.glo_ok C.X C.G (C.c.fact 40 (f := .glo "_law_named") rfl)) (F.bindsN fun _ _ _ _ _ _ us hl => match us, hl with | [_], _ => rfl) ⟨rfl, rfl, rfl, by decide +kernel, rfl, by decide +kernel, by decide +kernel⟩ ⟨rfl, C.wd, (fun _ h => by cases h), (fun _ h => by cases h), (fun _ h => by cases h), (fun _ h => by cases h)⟩ (by intro ds G Q h; repeat (first | (obtain ⟨rfl, -⟩ := h; rfl) | (obtain ⟨_, h⟩ := h))) (fun ds G Q h => Eq.mpr (congrFun (congrFun (congrFun (rd__law_named K) (endOf Q)) (startD N__law_named ds)) G) (vc__law_named ds G Q h))
theorem at__law_reads (C : Cxt K h mg) : FnAt P w K mg base 2 "_law_reads" ⟨["u", "at"], sp__law_reads⟩ := by
  obtain ⟨fd, F⟩ := C.c.def_ 46 (d := d__law_reads) rfl
  have F : FunD K "_law_reads" "_law_reads" d__law_reads.params d__law_reads.body d__law_reads.scope [] [] (He.ga K "_law_reads") fd := F
  exact fn_at (Γ := G__law_reads K) (N := N__law_reads) F (He.glo_ok C.X C.G (C.c.fact 41 (f := .glo "_law_reads") rfl)) (F.bindsN fun _ _ _ _ _ _ us hl => match us, hl with | [_, _], _ => rfl) ⟨rfl, rfl, rfl, by decide +kernel, rfl, by decide +kernel, by decide +kernel⟩ ⟨rfl, C.wd, (by
      intro p hp
      simp only [G__law_reads, List.mem_cons, List.not_mem_nil, or_false] at hp
      subst hp
      all_goals first | exact (at__law_named C).mono (by omega)), (fun _ h => by cases h), (fun _ h => by cases h), (fun _ h => by cases h)⟩ (by intro ds G Q h; repeat (first | (obtain ⟨rfl, -⟩ := h; rfl) | (obtain ⟨_, h⟩ := h))) (fun ds G Q h => Eq.mpr (congrFun (congrFun (congrFun (rd__law_reads K) (endOf Q)) (startD N__law_reads ds)) G) (vc__law_reads ds G Q h))
theorem at__law_given (C : Cxt K h mg) : FnAt P w K mg base 1 "_law_given" ⟨["u", "at"], sp__law_given⟩ := by
  obtain ⟨fd, F⟩ := C.c.def_ 47 (d := d__law_given) rfl
  have F : FunD K "_law_given" "_law_given" d__law_given.params d__law_given.body d__law_given.scope [] [] (He.ga K "_law_given") fd := F
  exact fn_at (Γ := G__law_given K) (N := N__law_given) F (He.glo_ok C.X C.G (C.c.fact 42 (f := .glo "_law_given") rfl)) (F.bindsN fun _ _ _ _ _ _ us hl => match us, hl with | [_, _], _ => rfl) ⟨rfl, rfl, rfl, by decide +kernel, rfl, by decide +kernel, by decide +kernel⟩ ⟨rfl, C.wd, (fun _ h => by cases h), (fun _ h => by cases h), (fun _ h => by cases h), (fun _ h => by cases h)⟩ (by intro ds G Q h; repeat (first | (obtain ⟨rfl, -⟩ := h; rfl) | (obtain ⟨_, h⟩ := h))) (fun ds G Q h => Eq.mpr (congrFun (congrFun (congrFun (rd__law_given K) (endOf Q)) (startD N__law_given ds)) G) (vc__law_given ds G Q h))
theorem at__law_after (C : Cxt K h mg) : FnAt P w K mg base 1 "_law_after" ⟨["rows", "at"], sp__law_after⟩ := by
  obtain ⟨fd, F⟩ := C.c.def_ 48 (d := d__law_after) rfl
  have F : FunD K "_law_after" "_law_after" d__law_after.params d__law_after.body d__law_after.scope [] [] (He.ga K "_law_after") fd := F
  exact fn_at (Γ := G__law_after K) (N := N__law_after) F (He.glo_ok C.X C.G (C.c.fact 43 (f := .glo "_law_after") rfl)) (F.bindsN fun _ _ _ _ _ _ us hl => match us, hl with | [_, _], _ => rfl) ⟨rfl, rfl, rfl, by decide +kernel, rfl, by decide +kernel, by decide +kernel⟩ ⟨rfl, C.wd, (fun _ h => by cases h), (fun _ h => by cases h), (fun _ h => by cases h), (fun _ h => by cases h)⟩ (by intro ds G Q h; repeat (first | (obtain ⟨rfl, -⟩ := h; rfl) | (obtain ⟨_, h⟩ := h))) (fun ds G Q h => Eq.mpr (congrFun (congrFun (congrFun (rd__law_after K) (endOf Q)) (startD N__law_after ds)) G) (vc__law_after ds G Q h))
theorem at__law_alive (C : Cxt K h mg) : FnAt P w K mg base 3 "_law_alive" ⟨["u"], sp__law_alive⟩ := by
  obtain ⟨fd, F⟩ := C.c.def_ 49 (d := d__law_alive) rfl
  have F : FunD K "_law_alive" "_law_alive" d__law_alive.params d__law_alive.body d__law_alive.scope [] [] (He.ga K "_law_alive") fd := F
  exact fn_at (Γ := G__law_alive K) (N := N__law_alive) F (He.glo_ok C.X C.G (C.c.fact 44 (f := .glo "_law_alive") rfl)) (F.bindsN fun _ _ _ _ _ _ us hl => match us, hl with | [_], _ => rfl) ⟨rfl, rfl, rfl, by decide +kernel, rfl, by decide +kernel, by decide +kernel⟩ ⟨rfl, C.wd, (by
      intro p hp
      simp only [G__law_alive, List.mem_cons, List.not_mem_nil, or_false] at hp
      rcases hp with rfl | rfl | rfl
      all_goals first | exact (at__law_reads C).mono (by omega) | exact (at__law_given C).mono (by omega) | exact (at__law_after C).mono (by omega)), (fun _ h => by cases h), (fun _ h => by cases h), (fun _ h => by cases h)⟩ (by intro ds G Q h; repeat (first | (obtain ⟨rfl, -⟩ := h; rfl) | (obtain ⟨_, h⟩ := h))) (fun ds G Q h => Eq.mpr (congrFun (congrFun (congrFun (rd__law_alive K) (endOf Q)) (startD N__law_alive ds)) G) (vc__law_alive ds G Q h))
theorem at__law_foes (C : Cxt K h mg) : FnAt P w K mg base 4 "_law_foes" ⟨["u"], sp__law_foes⟩ := by
  obtain ⟨fd, F⟩ := C.c.def_ 50 (d := d__law_foes) rfl
  have F : FunD K "_law_foes" "_law_foes" d__law_foes.params d__law_foes.body d__law_foes.scope [] [] (He.ga K "_law_foes") fd := F
  exact fn_at (Γ := G__law_foes K) (N := N__law_foes) F (He.glo_ok C.X C.G (C.c.fact 45 (f := .glo "_law_foes") rfl)) (F.bindsN fun _ _ _ _ _ _ us hl => match us, hl with | [_], _ => rfl) ⟨rfl, rfl, rfl, by decide +kernel, rfl, by decide +kernel, by decide +kernel⟩ ⟨rfl, C.wd, (by
      intro p hp
      simp only [G__law_foes, List.mem_cons, List.not_mem_nil, or_false] at hp
      rcases hp with rfl | rfl | rfl
      all_goals first | exact (at__law_alive C).mono (by omega) | exact (at__law_given C).mono (by omega) | exact (at__law_after C).mono (by omega)), (fun _ h => by cases h), (fun _ h => by cases h), (fun _ h => by cases h)⟩ (by intro ds G Q h; repeat (first | (obtain ⟨rfl, -⟩ := h; rfl) | (obtain ⟨_, h⟩ := h))) (fun ds G Q h => Eq.mpr (congrFun (congrFun (congrFun (rd__law_foes K) (endOf Q)) (startD N__law_foes ds)) G) (vc__law_foes ds G Q h))
theorem at__law_told_rightly (C : Cxt K h mg) : FnAt P w K mg base 15 "_law_told_rightly" ⟨["unit", "u"], sp__law_told_rightly⟩ := by
  obtain ⟨fd, F⟩ := C.c.def_ 51 (d := d__law_told_rightly) rfl
  have F : FunD K "_law_told_rightly" "_law_told_rightly" d__law_told_rightly.params d__law_told_rightly.body d__law_told_rightly.scope [] [] (He.ga K "_law_told_rightly") fd := F
  exact fn_at (Γ := G__law_told_rightly K) (N := N__law_told_rightly) F (He.glo_ok C.X C.G (C.c.fact 46 (f := .glo "_law_told_rightly") rfl)) (F.bindsN fun _ _ _ _ _ _ us hl => match us, hl with | [_, _], _ => rfl) ⟨rfl, rfl, rfl, by decide +kernel, rfl, by decide +kernel, by decide +kernel⟩ ⟨rfl, C.wd, (by
      intro p hp
      simp only [G__law_told_rightly, List.mem_cons, List.not_mem_nil, or_false] at hp
      rcases hp with rfl | rfl | rfl | rfl | rfl | rfl | rfl | rfl | rfl
      all_goals first | exact (at_alive_at C).mono (by omega) | exact (at_foes C).mono (by omega) | exact (at_reads C).mono (by omega) | exact (at__law_same C).mono (by omega) | exact (at__law_alive C).mono (by omega) | exact (at__law_foes C).mono (by omega) | exact (at__law_reads C).mono (by omega) | exact (at_given_by C).mono (by omega) | exact (at__law_given C).mono (by omega)), (fun _ h => by cases h), (fun _ h => by cases h), (fun _ h => by cases h)⟩ (by intro ds G Q h; repeat (first | (obtain ⟨rfl, -⟩ := h; rfl) | (obtain ⟨_, h⟩ := h))) (fun ds G Q h => Eq.mpr (congrFun (congrFun (congrFun (rd__law_told_rightly K) (endOf Q)) (startD N__law_told_rightly ds)) G) (vc__law_told_rightly ds G Q h))
theorem at__law_is_head (C : Cxt K h mg) : FnAt P w K mg base 15 "_law_is_head" ⟨["head", "h"], sp__law_is_head⟩ := by
  obtain ⟨fd, F⟩ := C.c.def_ 43 (d := d__law_is_head) rfl
  have F : FunD K "_law_is_head" "_law_is_head" d__law_is_head.params d__law_is_head.body d__law_is_head.scope [] [] (He.ga K "_law_is_head") fd := F
  exact fn_at (Γ := G__law_is_head K) (N := N__law_is_head) F (He.glo_ok C.X C.G (C.c.fact 38 (f := .glo "_law_is_head") rfl)) (F.bindsN fun _ _ _ _ _ _ us hl => match us, hl with | [_, _], _ => rfl) ⟨rfl, rfl, rfl, by decide +kernel, rfl, by decide +kernel, by decide +kernel⟩ ⟨rfl, C.wd, (by
      intro p hp
      simp only [G__law_is_head, List.mem_cons, List.not_mem_nil, or_false] at hp
      subst hp
      all_goals first | exact (at__law_same C).mono (by omega)), (by
      intro p hp
      simp only [G__law_is_head, List.mem_cons, List.not_mem_nil, or_false] at hp
      subst hp
      all_goals first | exact (at_Head C).mono (by omega)), (fun _ h => by cases h), (fun _ h => by cases h)⟩ (by intro ds G Q h; repeat (first | (obtain ⟨rfl, -⟩ := h; rfl) | (obtain ⟨_, h⟩ := h))) (fun ds G Q h => Eq.mpr (congrFun (congrFun (congrFun (rd__law_is_head K) (endOf Q)) (startD N__law_is_head ds)) G) (vc__law_is_head C.kf ds G Q h))
theorem at__law_is (C : Cxt K h mg) : FnAt P w K mg base 16 "_law_is" ⟨["unit", "u"], sp__law_is⟩ := by
  obtain ⟨fd, F⟩ := C.c.def_ 44 (d := d__law_is) rfl
  have F : FunD K "_law_is" "_law_is" d__law_is.params d__law_is.body d__law_is.scope [] [] (He.ga K "_law_is") fd := F
  exact fn_at (Γ := G__law_is K) (N := N__law_is) F (He.glo_ok C.X C.G (C.c.fact 39 (f := .glo "_law_is") rfl)) (F.bindsN fun _ _ _ _ _ _ us hl => match us, hl with | [_, _], _ => rfl) ⟨rfl, rfl, rfl, by decide +kernel, rfl, by decide +kernel, by decide +kernel⟩ ⟨rfl, C.wd, (by
      intro p hp
      simp only [G__law_is, List.mem_cons, List.not_mem_nil, or_false] at hp
      rcases hp with rfl | rfl
      all_goals first | exact (at__law_same C).mono (by omega) | exact (at__law_is_head C).mono (by omega)), (by
      intro p hp
      simp only [G__law_is, List.mem_cons, List.not_mem_nil, or_false] at hp
      subst hp
      all_goals first | exact (at_Unit C).mono (by omega)), (fun _ h => by cases h), (fun _ h => by cases h)⟩ (by intro ds G Q h; repeat (first | (obtain ⟨rfl, -⟩ := h; rfl) | (obtain ⟨_, h⟩ := h))) (fun ds G Q h => Eq.mpr (congrFun (congrFun (congrFun (rd__law_is K) (endOf Q)) (startD N__law_is ds)) G) (vc__law_is C.kf ds G Q h))
end
theorem facts {P : Program} {w : World} {K : PySem.W.Frag} {h : Heap} {mg : Str → Option Value} {f : Addr} (X : K.In h) (G : h.Ns mainGlobals mg) (hfa : mg ("law" : Str) = some (.ref f)) (c : He.SaysD fa fn K) :
    ∃ fd : FuncData, (∀ (s : Shared) (v : Value), BindsTo s fd ⟨[v], []⟩ [("script", v)]) ∧ ∀ base : Heap, K.In base → base.Ns mainGlobals mg → FnOk P w K mg base C8.CX0 17 f fd ["script"] (lSp K sp_law) := by
  have C : Cxt K h mg := ⟨X, G, c⟩
  obtain ⟨fd0, F0⟩ := c.def_ 52 (d := d_law) rfl
  have e := hfa.symm.trans (He.glo_ok C.X C.G (C.c.fact 47 (f := .glo "law") rfl))
  cases e
  have b := FunD.bindsA (ps := ["script"]) F0 fun _ _ _ _ _ _ us hl => match us, hl with | [_], _ => rfl
  have F : FunD K "law" "law" d_law.params d_law.body d_law.scope [] [] (He.ga K "law") fd0 := F0
  refine ⟨fd0, fun s v => b s [v] rfl, fun base _ _ => ?_⟩
  exact def_ok (Γ := G_law K) (N := N_law) F ⟨rfl, rfl, rfl, by decide +kernel, rfl, by decide +kernel, by decide +kernel⟩ ⟨rfl, C.wd, (by
      intro p hp
      simp only [G_law, List.mem_cons, List.not_mem_nil, or_false] at hp
      rcases hp with rfl | rfl | rfl | rfl | rfl
      all_goals first | exact (at__law_box C).mono (by omega) | exact (at__law_mixed C).mono (by omega) | exact (at__law_made C).mono (by omega) | exact (at__law_told_rightly C).mono (by omega) | exact (at__law_is C).mono (by omega)), (fun _ h => by cases h), (fun _ h => by cases h), (fun _ h => by cases h)⟩ (by intro ds G Q h; repeat (first | (obtain ⟨rfl, -⟩ := h; rfl) | (obtain ⟨_, h⟩ := h))) (fun ds G Q h => Eq.mpr (congrFun (congrFun (congrFun (rd_law K) (endOf Q)) (startD N_law ds)) G) (vc_law ds G Q h))
theorem kol_of {K : PySem.W.Frag} {H : Hp} {a : Addr} {ns : List Int} (hO : Only H) (hS : SqL K H a (ns.map V.int)) : Rp K H (.kol (ns.map .int)) (.ref a) := by
  have r : ∀ ns : List Int, RpA K H (ns.map D.int) (ns.map V.int) := fun ns => by
    induction ns with
    | nil => exact .nil
    | cons n ns ih => exact .cons (.int n) ih
  refine .kol ?_ (r ns)
  rcases hS with (h | ⟨o, h⟩) | h
  · rcases hO a with e | ⟨o, xs, e⟩
    · rw [h] at e; cases e
    · rw [h] at e; cases e
  · exact .inl ⟨o, h⟩
  · exact .inr h
end My
open PySem PySem.W PySem.Calls PyProof.Rows
set_option maxRecDepth 100000 in
set_option maxHeartbeats 0 in
theorem PySem.Challenge.cw_sworncode_k61_lives_and_foes_holds : PySem.Challenge.rw_sworncode_k61_lives_and_foes.Holds := by
  w_on; o_law
  refine HandSHeadRun.head_any (r := OpenLaw.row PySem.Challenge.rw_sworncode_k61_lives_and_foes) (q := view (OpenLaw.row PySem.Challenge.rw_sworncode_k61_lives_and_foes).prog [52]) (H := My.hk) (ob := My.ob) (M := 6000) (loose := My.loose) (d := HandSHeadRun.topDef (OpenLaw.row PySem.Challenge.rw_sworncode_k61_lives_and_foes).prog 52) (kwd := []) My.ob_eq
    (by kernel_rfl) (fun s => by kernel_rfl) My.run (by kernel_rfl) (by kernel_rfl) (by kernel_rfl) (by rfl) (by first | assumption | decide +kernel) (by decide +kernel) ⟨rfl, rfl, rfl, rfl, rfl, by decide +kernel⟩ ?hw ?hc
  case hw => w_witness2
  case hc =>
    refine L2.walk_ofE (l := PySem.Challenge.rw_sworncode_k61_lives_and_foes) (n := 63) (k := 17) (x := "script") (CX := C8.CX0) rfl (by decide) (by kernel_rfl) ⟨rfl, by decide, by decide⟩ ?F (fun _ _ _ _ z => z)
    intro w mg fa h Y G hmg0
    obtain ⟨K, KX, c⟩ := Y
    have hmg : mg ("law" : PySem.Str) = some (.ref fa) := by
      have e : (HandSHeadRun.topDef (OpenLaw.row PySem.Challenge.rw_sworncode_k61_lives_and_foes).prog 52).name = ("law" : PySem.Str) := by kernel_rfl
      rw [← e]
      exact hmg0
    obtain ⟨fd, hb, hF⟩ := My.facts (P := (PySem.Challenge.rw_sworncode_k61_lives_and_foes).prog) (w := w) KX G hmg c
    refine ⟨K, fd, Vc.lSp K My.sp_law, KX, hb, fun H a ns hl hO hS => ?_, hF⟩
    exact ⟨[.kol (ns.map .int)], fun _ => none, fun d _ => d = .bl true, .cons (My.kol_of hO hS) .nil, (fun _ _ e => by cases e), ⟨ns, rfl, by omega, fun _ => rfl⟩, (fun d _ v _ e _ r _ => by { subst e; cases r; rfl })⟩


