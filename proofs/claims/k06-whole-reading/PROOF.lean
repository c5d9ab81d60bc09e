import PyProof.Rows.All
import Wide.All
import OpenK.AllK
import Wide.FinOn
import KE.KStateDown
import Lean
import HandS.ForMost
import HandS.ForExc
import HandS.Deep
import HandS.Wide
import HandS.Style
import HandS.TupAny
import HandS.TupMul
import HandS.IsInst
import HandS.Defaults
import HandS.HeadHook2
import HandS.TupSets
import HandS.NoneIn
import KE.SortData
import KE.LtData
import KE.DataMinMax
import PyProof.ListStr
import KE.KDictKeyed
import HandS.Zip
import HandS.DictTup
import PyProof.ExcBaseAll.ValueError
import HandS.Head0
import HandS.Head1
import HandS.Head2
import HandS.HeadEnd
import HandS.HeadHook1
import PySem.Challenge.RW_hullflags_k06_whole_reading
set_option Elab.async false
set_option autoImplicit false
set_option linter.all false
set_option maxRecDepth 100000
set_option maxHeartbeats 4000000
/-! Values as data, and how they stand in the abstract heap. -/
namespace HF
open PySem PySem.Spec PyProof.Rows L2
abbrev D := PyData
/-- how a run ends: a value, a refusal by its class, or nothing that this reckoning knows -/
inductive Res (α : Type) where
  | ok (a : α) | exc (c : Str) | bad
namespace Res
def bind {α β : Type} (x : Res α) (f : α → Res β) : Res β := match x with
  | .ok a => f a
  | .exc c => .exc c
  | .bad => .bad
instance : Monad Res where
  pure := .ok
  bind := Res.bind
@[simp] theorem ok_bind {α β : Type} (a : α) (f : α → Res β) : (Res.ok a >>= f) = f a := rfl
@[simp] theorem exc_bind {α β : Type} (c : Str) (f : α → Res β) : ((Res.exc c : Res α) >>= f) = .exc c := rfl
@[simp] theorem bad_bind {α β : Type} (f : α → Res β) : ((Res.bad : Res α) >>= f) = .bad := rfl
@[simp] theorem pure_eq {α : Type} (a : α) : (pure a : Res α) = .ok a := rfl
end Res

/-- the script: a list that stands locked -/
def scrD (ns : List Int) : D := .dict [(.list [], .list (ns.map .int))]
def kD : Key → D
  | .inl i => .int i
  | .inr s => .str s

/-- ahead of the pairs of a dict that stays as it is -/
def mark : D × D := (.list [], .dict [])
mutual
inductive Rep (K : PySem.W.Frag) (H : Hp) : V → D → Prop
  | non : Rep K H .non .none
  | bl (b : Bool) : Rep K H (.bl b) (.bool b)
  | int (i : Int) : Rep K H (.int i) (.int i)
  | str (x : Str) : Rep K H (.str x) (.str x)
  | lst {a : Addr} {xs : List V} {ds : List D} : H a = some (.lst xs) → RepAll K H xs ds → Rep K H (.ref a) (.list ds)
  | scr {a : Addr} {ns : List Int} : SqL K H a (ns.map V.int) → Rep K H (.ref a) (scrD ns)
  | tup {a : Addr} {xs : List V} {ds : List D} : SqT K H a xs → RepAll K H xs ds → Rep K H (.ref a) (.tuple ds)
  | dK {a : Addr} {kvs : List (Key × V)} {ps : List (D × D)} : Rd H a (.dK kvs) → RepK K H kvs ps → Rep K H (.ref a) (.dict ps)
  | dF {a : Addr} {kvs : List (Key × V)} {ps : List (D × D)} : (∃ u, H a = some (.frz u (.dK kvs))) → RepK K H kvs ps → Rep K H (.ref a) (.dict (mark :: ps))
inductive RepAll (K : PySem.W.Frag) (H : Hp) : List V → List D → Prop
  | nil : RepAll K H [] []
  | cons {v : V} {vs : List V} {d : D} {ds : List D} : Rep K H v d → RepAll K H vs ds → RepAll K H (v :: vs) (d :: ds)
inductive RepK (K : PySem.W.Frag) (H : Hp) : List (Key × V) → List (D × D) → Prop
  | nil : RepK K H [] []
  | cons {k : Key} {v : V} {vs : List (Key × V)} {d : D} {ds : List (D × D)} : Rep K H v d → RepK K H vs ds → RepK K H ((k, v) :: vs) ((kD k, d) :: ds)
end

section
variable {K : PySem.W.Frag} {H H' : Hp}
theorem Same.rd {a : Addr} {o : HO} (e : Same H H') (h : Rd H a o) : Rd H' a o := h.imp (e _ _) fun ⟨u, q⟩ => ⟨u, e _ _ q⟩
theorem Same.sqT {a : Addr} {xs : List V} (e : Same H H') (h : SqT K H a xs) : SqT K H' a xs := by
  rcases h with (h | ⟨o, h⟩) | h
  · exact .inl (.inl (e _ _ h))
  · exact .inl (.inr ⟨o, e _ _ h⟩)
  · exact .inr h
mutual
theorem Rep.mono (e : Same H H') : ∀ {v : V} {d : D}, Rep K H v d → Rep K H' v d
  | _, _, .non => .non
  | _, _, .bl b => .bl b
  | _, _, .int i => .int i
  | _, _, .str x => .str x
  | _, _, .lst h r => .lst (e _ _ h) (RepAll.mono e r)
  | _, _, .scr h => .scr (e.seq h)
  | _, _, .tup h r => .tup (Same.sqT e h) (RepAll.mono e r)
  | _, _, .dK h r => .dK (Same.rd e h) (RepK.mono e r)
  | _, _, .dF h r => .dF (h.imp fun _ q => e _ _ q) (RepK.mono e r)
theorem RepAll.mono (e : Same H H') : ∀ {v : List V} {d : List D}, RepAll K H v d → RepAll K H' v d
  | _, _, .nil => .nil
  | _, _, .cons r q => .cons (Rep.mono e r) (RepAll.mono e q)
theorem RepK.mono (e : Same H H') : ∀ {v : List (Key × V)} {d : List (D × D)}, RepK K H v d → RepK K H' v d
  | _, _, .nil => .nil
  | _, _, .cons r q => .cons (Rep.mono e r) (RepK.mono e q)
end
theorem RepAll.len {vs : List V} {ds : List D} : RepAll K H vs ds → vs.length = ds.length
  | .nil => rfl
  | .cons _ q => congrArg Nat.succ q.len
theorem RepAll.app : ∀ {vs ws : List V} {ds es : List D}, RepAll K H vs ds → RepAll K H ws es → RepAll K H (vs ++ ws) (ds ++ es)
  | _, _, _, _, .nil, q => q
  | _, _, _, _, .cons r t, q => .cons r (RepAll.app t q)
theorem RepAll.get : ∀ {vs : List V} {ds : List D} {i : Nat} {d : D}, RepAll K H vs ds → ds[i]? = some d → ∃ v, vs[i]? = some v ∧ Rep K H v d
  | _, _, _, _, .nil, e => by simp at e
  | _, _, 0, _, .cons r _, e => by simp at e; subst e; exact ⟨_, rfl, r⟩
  | _, _, i + 1, _, .cons r t, e => by
    obtain ⟨v, h1, h2⟩ := RepAll.get (i := i) t (by simpa using e)
    exact ⟨v, by simpa using h1, h2⟩
theorem RepAll.getV : ∀ {vs : List V} {ds : List D} {i : Nat} {v : V}, RepAll K H vs ds → vs[i]? = some v → ∃ d, ds[i]? = some d ∧ Rep K H v d
  | _, _, _, _, .nil, e => by simp at e
  | _, _, 0, _, .cons r _, e => by simp at e; subst e; exact ⟨_, rfl, r⟩
  | _, _, i + 1, _, .cons r t, e => by
    obtain ⟨v, h1, h2⟩ := RepAll.getV (i := i) t (by simpa using e)
    exact ⟨v, by simpa using h1, h2⟩
theorem RepAll.drop : ∀ {vs : List V} {ds : List D} (n : Nat), RepAll K H vs ds → RepAll K H (vs.drop n) (ds.drop n)
  | _, _, 0, q => q
  | _, _, _ + 1, .nil => .nil
  | _, _, n + 1, .cons _ t => RepAll.drop n t
theorem RepAll.take : ∀ {vs : List V} {ds : List D} (n : Nat), RepAll K H vs ds → RepAll K H (vs.take n) (ds.take n)
  | _, _, 0, _ => .nil
  | _, _, _ + 1, .nil => .nil
  | _, _, n + 1, .cons r t => .cons r (RepAll.take n t)
theorem RepAll.rev : ∀ {vs : List V} {ds : List D}, RepAll K H vs ds → RepAll K H vs.reverse ds.reverse
  | _, _, .nil => .nil
  | _, _, .cons r t => by
    rw [List.reverse_cons, List.reverse_cons]
    exact (RepAll.rev t).app (.cons r .nil)
theorem RepAll.rep {vs : List V} {ds : List D} (q : RepAll K H vs ds) : ∀ n : Nat, RepAll K H (List.replicate n vs).flatten (List.replicate n ds).flatten
  | 0 => .nil
  | n + 1 => by
    rw [List.replicate_succ, List.replicate_succ, List.flatten_cons, List.flatten_cons]
    exact q.app (RepAll.rep q n)
theorem RepAll.set : ∀ {vs : List V} {ds : List D} {v : V} {d : D} (i : Nat), RepAll K H vs ds → Rep K H v d → RepAll K H (vs.set i v) (ds.set i d)
  | _, _, _, _, _, .nil, _ => .nil
  | _, _, _, _, 0, .cons _ t, r => .cons r t
  | _, _, _, _, i + 1, .cons q t, r => .cons q (RepAll.set i t r)
theorem RepAll.ints : ∀ {vs : List V} {ns : List Int}, RepAll K H vs (ns.map .int) → vs = ns.map V.int
  | _, [], .nil => rfl
  | _, _ :: _, .cons (.int _) t => by rw [RepAll.ints t]; rfl
theorem RepAll.of_ints : ∀ (ns : List Int), RepAll K H (ns.map V.int) (ns.map .int)
  | [] => .nil
  | n :: r => .cons (.int n) (RepAll.of_ints r)
theorem RepAll.bools : ∀ {vs : List V} {ns : List Bool}, RepAll K H vs (ns.map .bool) → vs = ns.map V.bl
  | _, [], .nil => rfl
  | _, _ :: _, .cons (.bl _) t => by rw [RepAll.bools t]; rfl

mutual
theorem Rep.dp : ∀ (d : D) {v : V}, Rep K H v d → d.canLay0 = true → Dp K H v d
  | .none, _, .non, _ => .non
  | .bool b, _, .bl _, _ => .bl b
  | .int i, _, .int _, _ => .int i
  | .str x, _, .str _, _ => .str x
  | .list ds, _, .lst h r, c => .lst (SqL.of h) (RepAll.dp ds r (by simpa [PyData.canLay0] using c))
  | .tuple ds, _, .tup h r, c => .tup h (RepAll.dp ds r (by simpa [PyData.canLay0] using c))
  | .dict _, _, _, c => by simp [PyData.canLay0] at c
theorem RepAll.dp : ∀ (ds : List D) {vs : List V}, RepAll K H vs ds → PyData.canLayAll0 ds = true → DpAll K H vs ds
  | [], _, .nil, _ => .nil
  | d :: ds, _, .cons r q, c => by
    have c' : d.canLay0 = true ∧ PyData.canLayAll0 ds = true := by simpa [PyData.canLayAll0] using c
    exact .cons (Rep.dp d r c'.1) (RepAll.dp ds q c'.2)
end
end

/-! ### what a slot holds -/
inductive SV where
  | no | fz (d : D) | own (d : D)
/-- the heap without some addresses -/
def hid (oo : List (List Addr)) (H : Hp) : Hp := fun a => if a ∈ oo.flatten then none else H a
theorem hid_of {oo : List (List Addr)} {H : Hp} {a : Addr} {o : HO} (h : hid oo H a = some o) : H a = some o ∧ a ∉ oo.flatten := by
  unfold hid at h
  split at h
  · cases h
  · rename_i n
    exact ⟨h, n⟩
theorem hid_get {oo : List (List Addr)} {H : Hp} {a : Addr} (n : a ∉ oo.flatten) : hid oo H a = H a := by
  unfold hid
  rw [if_neg n]
theorem hid_same (oo : List (List Addr)) (H : Hp) : Same (hid oo H) H := fun _ _ h => (hid_of h).1
theorem hid_mono (oo : List (List Addr)) {H H' : Hp} (e : Same H H') : Same (hid oo H) (hid oo H') := fun a o h => by
  obtain ⟨h1, h2⟩ := hid_of h
  rw [hid_get h2]
  exact e a o h1
theorem hid_sub {oo oo' : List (List Addr)} {H : Hp} (h : ∀ a ∈ oo'.flatten, a ∈ oo.flatten) : Same (hid oo H) (hid oo' H) := fun a o q => by
  obtain ⟨h1, h2⟩ := hid_of q
  rw [hid_get fun z => h2 (h a z)]
  exact h1

/-- the top node in H, all below it in Hc -/
inductive RepTop (K : PySem.W.Frag) (Hc H : Hp) : V → D → Prop
  | non : RepTop K Hc H .non .none
  | bl (b : Bool) : RepTop K Hc H (.bl b) (.bool b)
  | int (i : Int) : RepTop K Hc H (.int i) (.int i)
  | str (x : Str) : RepTop K Hc H (.str x) (.str x)
  | lst {a : Addr} {xs : List V} {ds : List D} : H a = some (.lst xs) → RepAll K Hc xs ds → RepTop K Hc H (.ref a) (.list ds)
  | scr {a : Addr} {ns : List Int} : SqL K Hc a (ns.map V.int) → RepTop K Hc H (.ref a) (scrD ns)
  | tup {a : Addr} {xs : List V} {ds : List D} : SqT K Hc a xs → RepAll K Hc xs ds → RepTop K Hc H (.ref a) (.tuple ds)
  | dK {a : Addr} {kvs : List (Key × V)} {ps : List (D × D)} : Rd H a (.dK kvs) → RepK K Hc kvs ps → RepTop K Hc H (.ref a) (.dict ps)
  | dF {a : Addr} {kvs : List (Key × V)} {ps : List (D × D)} : (∃ u, Hc a = some (.frz u (.dK kvs)) ∧ H a = some (.frz u (.dK kvs))) → RepK K Hc kvs ps → RepTop K Hc H (.ref a) (.dict (mark :: ps))
section
variable {K : PySem.W.Frag} {Hc Hc' H H' : Hp}
theorem Rep.top (e : Same Hc H) : ∀ {v : V} {d : D}, Rep K Hc v d → RepTop K Hc H v d
  | _, _, .non => .non
  | _, _, .bl b => .bl b
  | _, _, .int i => .int i
  | _, _, .str x => .str x
  | _, _, .lst h r => .lst (e _ _ h) r
  | _, _, .scr h => .scr h
  | _, _, .tup h r => .tup h r
  | _, _, .dK h r => .dK (Same.rd e h) r
  | _, _, .dF ⟨u, h⟩ r => .dF ⟨u, h, e _ _ h⟩ r
theorem RepTop.full (e : Same Hc H) : ∀ {v : V} {d : D}, RepTop K Hc H v d → Rep K H v d
  | _, _, .non => .non
  | _, _, .bl b => .bl b
  | _, _, .int i => .int i
  | _, _, .str x => .str x
  | _, _, .lst h r => .lst h (r.mono e)
  | _, _, .scr h => .scr (e.seq h)
  | _, _, .tup h r => .tup (Same.sqT e h) (r.mono e)
  | _, _, .dK h r => .dK h (r.mono e)
  | _, _, .dF ⟨u, _, h⟩ r => .dF ⟨u, h⟩ (r.mono e)
theorem RepTop.mono (c : Same Hc Hc') (e : Same H H') : ∀ {v : V} {d : D}, RepTop K Hc H v d → RepTop K Hc' H' v d
  | _, _, .non => .non
  | _, _, .bl b => .bl b
  | _, _, .int i => .int i
  | _, _, .str x => .str x
  | _, _, .lst h r => .lst (e _ _ h) (r.mono c)
  | _, _, .scr h => .scr (c.seq h)
  | _, _, .tup h r => .tup (Same.sqT c h) (r.mono c)
  | _, _, .dK h r => .dK (Same.rd e h) (r.mono c)
  | _, _, .dF ⟨u, h, h'⟩ r => .dF ⟨u, c _ _ h, e _ _ h'⟩ (r.mono c)
end

/-- no list, no dict -/
def flatD : D → Bool
  | .list _ => false
  | .dict _ => false
  | _ => true
theorem RepTop.flat {K : PySem.W.Frag} {Hc H : Hp} {v : V} {d : D} (h : RepTop K Hc H v d) (f : flatD d = true) : Rep K Hc v d := by
  cases h with
  | non => exact .non
  | bl b => exact .bl b
  | int i => exact .int i
  | str x => exact .str x
  | tup h r => exact .tup h r
  | lst h r => exact Bool.noConfusion f
  | scr h => exact Bool.noConfusion f
  | dK h r => exact Bool.noConfusion f
  | dF h r => exact Bool.noConfusion f
/-- an object that a slot owns: its top alone -/
inductive OwnR (K : PySem.W.Frag) (Hc H : Hp) (p : Addr) : D → Prop
  | lst {xs : List V} {ds : List D} : H p = some (.lst xs) → RepAll K Hc xs ds → OwnR K Hc H p (.list ds)
  | dK {kvs : List (Key × V)} {ps : List (D × D)} : H p = some (.dK kvs) → RepK K Hc kvs ps → OwnR K Hc H p (.dict ps)
theorem OwnR.top {K : PySem.W.Frag} {Hc H : Hp} {p : Addr} {d : D} : OwnR K Hc H p d → RepTop K Hc H (.ref p) d
  | .lst h r => .lst h r
  | .dK h r => .dK (Rd.of h) r
theorem OwnR.mono {K : PySem.W.Frag} {Hc Hc' H H' : Hp} {p : Addr} {d : D} (c : Same Hc Hc') (e : ∀ o, H p = some o → H' p = some o) : OwnR K Hc H p d → OwnR K Hc' H' p d
  | .lst h r => .lst (e _ h) (r.mono c)
  | .dK h r => .dK (e _ h) (r.mono c)
theorem OwnR.there {K : PySem.W.Frag} {Hc H : Hp} {p : Addr} {d : D} : OwnR K Hc H p d → ∃ o, H p = some o
  | .lst h _ => ⟨_, h⟩
  | .dK h _ => ⟨_, h⟩

def SlotR (K : PySem.W.Frag) (Hc H : Hp) (v : Option (Option V)) (o : Option (List Addr)) : Option SV → Prop
  | some (.fz d) => o = some [] ∧ ∃ x, v = some (some x) ∧ Rep K Hc x d
  | some (.own d) => ∃ p, o = some [p] ∧ v = some (some (.ref p)) ∧ OwnR K Hc H p d
  | some .no => o = some []
  | none => True
/-- the slots of a frame over data: fo what its callers own, oo what each slot owns -/
structure StR (K : PySem.W.Frag) (fo : List Addr) (σ : L2.St) (H : Hp) (oo : List (List Addr)) (st : List SV) : Prop where
  lenV : σ.length = st.length
  lenO : oo.length = st.length
  foin : ∀ p ∈ fo, ∃ o, H p = some o
  nodup : (fo ++ oo.flatten).Nodup
  slots : ∀ i : Nat, SlotR K (hid (fo :: oo) H) H σ[i]? oo[i]? st[i]?
section
variable {K : PySem.W.Frag} {H H' : Hp} {fo : List Addr} {σ : L2.St} {oo : List (List Addr)} {st : List SV}
theorem SlotR.mono {Hc Hc' : Hp} {v : Option (Option V)} {o : Option (List Addr)} (c : Same Hc Hc') (e : ∀ p l, o = some l → p ∈ l → ∀ u, H p = some u → H' p = some u) : ∀ {s : Option SV}, SlotR K Hc H v o s → SlotR K Hc' H' v o s
  | some (.fz d), ⟨h, x, h1, h2⟩ => ⟨h, x, h1, h2.mono c⟩
  | some (.own d), ⟨p, h, h1, h2⟩ => ⟨p, h, h1, h2.mono c (fun u q => e p [p] h (List.mem_singleton.mpr rfl) u q)⟩
  | some .no, h => h
  | none, h => h
/-- the heap has grown -/
theorem StR.grow (r : StR K fo σ H oo st) (e : Same H H') : StR K fo σ H' oo st :=
  ⟨r.lenV, r.lenO, fun p hp => let ⟨o, q⟩ := r.foin p hp; ⟨o, e _ _ q⟩, r.nodup, fun i => (r.slots i).mono (hid_mono _ e) fun _ _ _ _ u q => e _ u q⟩
theorem StR.there (r : StR K fo σ H oo st) {p : Addr} (h : p ∈ oo.flatten) : ∃ o, H p = some o := by
  obtain ⟨l, hl, hp⟩ := List.mem_flatten.mp h
  obtain ⟨i, hi⟩ := List.getElem?_of_mem hl
  have q := r.slots i
  have hlt : i < st.length := by rw [← r.lenO]; exact (List.getElem?_eq_some_iff.mp hi).1
  rw [hi, List.getElem?_eq_getElem hlt] at q
  cases e : st[i] with
  | no =>
    rw [e] at q
    have z : l = [] := Option.some.inj q
    rw [z] at hp
    cases hp
  | fz d =>
    rw [e] at q
    have z : l = [] := Option.some.inj q.1
    rw [z] at hp
    cases hp
  | own d =>
    rw [e] at q
    obtain ⟨p', e1, e2, e3⟩ := q
    have z : l = [p'] := Option.some.inj e1
    rw [z] at hp
    rw [List.mem_singleton.mp hp]
    exact e3.there
/-- a new address is nobody's -/
theorem StR.fresh (r : StR K fo σ H oo st) : ∀ p, H p = none → p ∉ (fo :: oo).flatten := fun p h z => by
  rw [List.flatten_cons] at z
  rcases List.mem_append.mp z with z | z
  · obtain ⟨o, q⟩ := r.foin p z
    rw [q] at h
    cases h
  · obtain ⟨o, q⟩ := r.there z
    rw [h] at q
    cases q
theorem Same.upd {H : Hp} {p : Addr} {o : HO} (h : H p = none) : Same H (upd H p o) := fun a u q => by
  rw [upd_ne (ne_of_none q h)]
  exact q
end
end HF

set_option Elab.async false
set_option autoImplicit false
set_option linter.all false
set_option maxRecDepth 100000
set_option maxHeartbeats 4000000
/-! The small language, and its reckoning over data. -/
namespace HF
open PySem PySem.Spec PyProof.Rows L2

inductive BOp where
  | add | sub | mul | fdiv | mod | pow
  deriving DecidableEq
inductive Ty where
  | int | bool | str | tuple | list
  deriving DecidableEq
/-- built-ins by what they do with data -/
inductive Bi where
  | len | all | any | tuple | list | sorted | abs | min2 | max2 | sum | max1 | min1
  deriving DecidableEq
inductive Tg where
  | one (i : Nat) | tup (is : List Nat)
mutual
inductive E where
  | non | bl (b : Bool) | int (i : Int) | str (s : Str)
  | loc (i : Nat) | tr (i : Nat)
  | gint (x : Str) (i : Int) | gstr (x : Str) (z : Str)
  | tup (es : Es) | lst (es : Es)
  | bin (o : BOp) (a b : E)
  | neg (a : E) | not (a : E)
  | cmp (o : CmpOp) (a b : E)
  | chain (o o' : CmpOp) (a b c : E)
  | chain3 (o o' o2 : CmpOp) (a b c d : E)
  | and (a b : E) | or (a b : E)
  | ite (c a b : E)
  | ix (a i : E)
  | sl (a : E) (lo hi : Eo)
  | rev (a : E) (lo : Eo)
  | call (f : Nat) (es : Es)
  | bi (b : Bi) (es : Es)
  | isI (a : E) (t : Ty)
  | comp (own : List (Str × Nat)) (t : Tg) (s : It) (c : Eo) (e : E)
  | dnew | ddisp (k v : E) | dix (a k : E) | din (neg : Bool) (k a : E) | dget (a k z : E) | sitems (a : E) | dictL (a : E) | dictF (a : E) | dlen (a : E) | sset (a : E) | callO (f : Nat) (es : Es) | index (a x : E)
inductive Es where
  | nil | cons (e : E) (es : Es)
inductive Eo where
  | no | yes (e : E)
inductive It where
  | val (e : E) | rng1 (a : E) | rng2 (a b : E) | zip (a b : E) | enum (a : E)
end
inductive Fl where
  | nx | brk | cnt | ret (d : D)
inductive SR where
  | ok (f : Fl) (σ : List SV) | exc (c : Str) (σ : List SV) | bad
mutual
inductive S where
  | set (i : Nat) (e : E) | setO (i : Nat) (e : E)
  | unp (is : List Nat) (e : E)
  | par (is : List Nat) (es : Es)
  | parO (is : List Nat) (fl : List Bool) (es : Es)
  | ext (i : Nat) (e : E)
  | app (i : Nat) (e : E)
  | dput (i : Nat) (k e : E)
  | expr (e : E)
  | ret (e : E) | retN | retO (i : Nat)
  | ite (c : E) (a b : Ss)
  | for (t : Tg) (s : It) (b : Ss)
  | while (c : E) (b : Ss)
  | brk | cnt | pass
  | raise (x : Str)
  | frz (i : Nat)
inductive Ss where
  | nil | cons (s : S) (r : Ss)
end

/-! ### what is done with data -/
def tyB : Ty → D → Bool
  | .int, .int _ => true
  | .int, .bool _ => true
  | .bool, .bool _ => true
  | .str, .str _ => true
  | .tuple, .tuple _ => true
  | .list, .list _ => true
  | _, _ => false
/-- isinstance -/
def dIsI (t : Ty) : D → Res D
  | .dict [(.list [], .list _)] => .ok (.bool (decide (t = .list)))
  | .dict _ => .bad
  | d => .ok (.bool (tyB t d))
def cmulB (i j : Int) : Bool := (decide (-18446744073709551616 < i) && decide (i < 18446744073709551616)) || (decide (-18446744073709551616 < j) && decide (j < 18446744073709551616))
def dBin : BOp → D → D → Res D
  | .add, .int i, .int j => .ok (.int (i + j))
  | .add, .str a, .str b => if a.length + b.length ≤ 16777216 then .ok (.str (a ++ b)) else .bad
  | .add, .tuple a, .tuple b => if a.length + b.length ≤ 16777216 then .ok (.tuple (a ++ b)) else .bad
  | .add, .list a, .list b => if a.length + b.length ≤ 16777216 then .ok (.list (a ++ b)) else .bad
  | .sub, .int i, .int j => .ok (.int (i - j))
  | .mul, .int i, .int j => if cmulB i j then .ok (.int (i * j)) else .bad
  | .mul, .str a, .int k => if 1 ≤ k ∧ k ≤ 1000 ∧ a.length ≤ 1000 then .ok (.str ⟨(List.replicate k.toNat a.cps.toList).flatten.toArray⟩) else .bad
  | .mul, .tuple a, .int k => if k ≤ 1000 ∧ -1000 ≤ k ∧ a.length ≤ 1000 then .ok (.tuple (List.replicate k.toNat a).flatten) else .bad
  | .mul, .list a, .int k => if k ≤ 1000 ∧ -1000 ≤ k ∧ a.length ≤ 1000 then .ok (.list (List.replicate k.toNat a).flatten) else .bad
  | .fdiv, .int i, .int j => if 0 < j ∧ j.natAbs < 2 ^ 100 then .ok (.int (i / j)) else .bad
  | .mod, .int i, .int j => if 0 < j then .ok (.int (i % j)) else .bad
  | .pow, .int i, .int j => if 0 ≤ j ∧ j ≤ 1000 ∧ i.natAbs < 2 ^ 64 then .ok (.int (i ^ j.toNat)) else .bad
  | _, _, _ => .bad
def dNeg : D → Res D
  | .int i => .ok (.int (-i))
  | _ => .bad
def dNot : D → Res D
  | .bool b => .ok (.bool (!b))
  | _ => .bad
/-- x == y -/
def dEq (a b : D) : Res Bool := if SeqAt.shaped a && SeqAt.shaped b then .ok (PyData.eqv a b) else match a, b with
  | .dict [(.list [], .list ns)], .list [] => .ok (match ns with
    | [] => true
    | _ => false)
  | _, _ => .bad
/-- not None -/
def someD : D → Bool
  | .none => false
  | _ => true
/-- x < y -/
def dLt : D → D → Res Bool
  | .int i, .int j => .ok (decide (i < j))
  | a, b => if (SeqAt.shaped a && SeqAt.shaped b) && (PySem.W.alike a b && someD a) then .ok (PySem.W.dataLt a b) else .bad
/-- a text of one sign -/
def oneSign (x : Str) : Option Nat := match x.cps.toList with
  | [c] => some c
  | _ => none
theorem oneSign_eq {x : Str} {c : Nat} (h : oneSign x = some c) : x = ⟨#[c]⟩ := by
  obtain ⟨⟨l⟩⟩ := x
  unfold oneSign at h
  split at h
  · rename_i c' e
    cases h
    have e2 : l = [c] := e
    rw [e2]
  · cases h
def dIn : D → D → Res Bool
  | .str x, .str z => (match oneSign x with
    | some c => .ok (decide (c ∈ z.cps.toList))
    | none => .bad)
  | a, .list ys => if SeqAt.shaped a && SeqAt.shaped (.list ys) then .ok (ys.any fun z => PyData.eqv z a) else .bad
  | a, .tuple ys => if SeqAt.shaped a && SeqAt.shaped (.tuple ys) then .ok (ys.any fun z => PyData.eqv z a) else .bad
  | _, _ => .bad
def dIs : D → D → Res Bool
  | .none, .none => .ok true
  | .bool _, .none => .ok false
  | .int _, .none => .ok false
  | .str _, .none => .ok false
  | .tuple _, .none => .ok false
  | .list _, .none => .ok false
  | .dict _, .none => .ok false
  | .bool a, .bool b => .ok (decide (a = b))
  | _, _ => .bad
def dCmp : CmpOp → D → D → Res Bool
  | .Eq, a, b => dEq a b
  | .NotEq, a, b => do .ok (!(← dEq a b))
  | .Lt, a, b => dLt a b
  | .LtE, .int i, .int j => .ok (decide (i ≤ j))
  | .Gt, .int i, .int j => .ok (decide (j < i))
  | .GtE, .int i, .int j => .ok (decide (j ≤ i))
  | .In, a, b => dIn a b
  | .NotIn, a, b => do .ok (!(← dIn a b))
  | .Is, a, b => dIs a b
  | .IsNot, a, b => do .ok (!(← dIs a b))
  | _, _, _ => .bad
def dIx : D → D → Res D
  | .list xs, .int i => (match atI xs i with
    | some d => .ok d
    | none => .bad)
  | .tuple xs, .int i => (match atI xs i with
    | some d => .ok d
    | none => .bad)
  | .dict [(.list [], .list xs)], .int i => (match atI xs i with
    | some d => .ok d
    | none => .bad)
  | .str z, .int i => (match atI z.cps.toList i with
    | some c => if z.length ≤ 16777216 then .ok (.str ⟨#[c]⟩) else .bad
    | none => .bad)
  | _, _ => .bad
def cutD {α : Type} (xs : List α) (lo hi : Option Int) : List α := (xs.drop (HT.sIx xs.length 0 lo)).take (HT.sIx xs.length xs.length hi - HT.sIx xs.length 0 lo)
def dSl : D → Option Int → Option Int → Res D
  | .list xs, lo, hi => .ok (.list (cutD xs lo hi))
  | .tuple xs, lo, hi => .ok (.tuple (cutD xs lo hi))
  | _, _, _ => .bad
/-- where a walk backwards begins: how many items it takes -/
def revK (n : Nat) : Option Int → Nat
  | none => n
  | some v => if v < 0 then (v + n + 1).toNat else min (v.toNat + 1) n
def revD {α : Type} (xs : List α) (lo : Option Int) : List α := (xs.take (revK xs.length lo)).reverse
def dRev : D → Option Int → Res D
  | .list xs, none => .ok (.list xs.reverse)
  | .tuple xs, lo => .ok (.tuple (revD xs lo))
  | _, _ => .bad
def boolOf : D → Option Bool
  | .bool b => some b
  | _ => none
def intOf : D → Option Int
  | .int b => some b
  | _ => none
def tupB : D → Bool
  | .tuple (_ :: _) => true
  | _ => false
def noTupB : D → Bool
  | .tuple _ => false
  | .none => false
  | _ => true
/-- what can be sorted -/
def sortOk (xs : List D) : Bool := ((xs.all fun a => SeqAt.shaped a) && (xs.all fun a => xs.all fun b => PySem.W.alike a b)) && (xs.all tupB || xs.all noTupB)
/-- put in ahead of the first that is no less -/
def insD (a : D) : List D → List D
  | [] => [a]
  | b :: r => if PySem.W.dataLt b a then b :: insD a r else a :: b :: r
def isort : List D → List D
  | [] => []
  | a :: r => insD a (isort r)
abbrev NK := NestedKey
mutual
/-- a thing as a key -/
def nkD : D → Option NK
  | .none => some .none
  | .int i => some (.num i)
  | .str x => some (.text x)
  | .tuple ds => (nkDs ds).map .tup
  | _ => none
def nkDs : List D → Option (List NK)
  | [] => some []
  | d :: ds => (nkD d).bind fun k => (nkDs ds).map (k :: ·)
end
/-- nothing twice -/
def ddD : List D → List D
  | [] => []
  | a :: r => if r.any (fun b => PyData.eqv b a) then ddD r else a :: ddD r
def tupNK : NK → Bool
  | .tup _ => true
  | _ => false
/-- what a set may hold here -/
def setOk (xs : List D) : Bool := (xs.all fun d => match nkD d with
  | some k => tupNK k && decide (k.depth ≤ 8)
  | none => false) && (sortOk xs && decide (xs.length < 64))
def dSSet : D → Res D
  | .list xs => if setOk xs then .ok (.list (isort (ddD xs))) else .bad
  | _ => .bad
/-! dicts: keys are ints or texts -/
def keyK : D → Option Key
  | .int i => some (.inl i)
  | .str x => some (.inr x)
  | _ => none
def isKey (d : D) : Bool := (keyK d).isSome
def keysK (ps : List (D × D)) : Bool := ps.all fun p => isKey p.1
def lookD (ps : List (D × D)) (k : D) : Option D := (ps.find? fun p => PyData.eqv p.1 k).map (·.2)
def putD (ps : List (D × D)) (k v : D) : List (D × D) := if ps.any (fun p => PyData.eqv p.1 k) then ps.map (fun p => if PyData.eqv p.1 k then (p.1, v) else p) else ps ++ [(k, v)]
def pairD (p : D × D) : D := .tuple [p.1, p.2]
/-- the pairs, without the mark -/
def dps : List (D × D) → List (D × D)
  | (.list [], .dict []) :: ps => ps
  | ps => ps
def dDix : D → D → Res D
  | .dict ps, k => if isKey k && keysK (dps ps) then (match lookD (dps ps) k with
    | some d => .ok d
    | none => .bad) else .bad
  | _, _ => .bad
def dDin (neg : Bool) : D → D → Res D
  | k, .dict ps => if isKey k && keysK (dps ps) then .ok (.bool (neg != (lookD (dps ps) k).isSome)) else .bad
  | _, _ => .bad
def asD : D → Res (List (D × D))
  | .dict ps => if keysK (dps ps) then .ok (dps ps) else .bad
  | _ => .bad
def dDget (ps : List (D × D)) (k z : D) : Res D := if isKey k then .ok ((lookD ps k).getD z) else .bad
def dSItems : D → Res D
  | .dict ps => if keysK ps && sortOk (ps.map pairD) then .ok (.list (isort (ps.map pairD))) else .bad
  | _ => .bad
/-- pairs of a list -/
def unpair : D → Option (D × D)
  | .tuple [k, v] => if isKey k then some (k, v) else none
  | _ => none
def mergeD (ps more : List (D × D)) : List (D × D) := more.foldl (fun acc p => putD acc p.1 p.2) ps
def dDictL : D → Res D
  | .list xs => (match xs.mapM unpair with
    | some ps => if ps.length ≤ 1000 then .ok (.dict (mergeD [] ps)) else .bad
    | none => .bad)
  | _ => .bad
/-- dict(..) that stays as it is -/
def dDictF (x : D) : Res D := dDictL x >>= fun d => match d with
  | .dict ps => .ok (.dict (mark :: ps))
  | _ => .bad
def asL : D → Res (List D)
  | .list ys => .ok ys
  | _ => .bad
/-- the first place of an equal one -/
def dIndex : D → D → Res D
  | .list ys, x => if SeqAt.shaped (.list ys) && SeqAt.shaped x then (match ys.findIdx? fun z => PyData.eqv z x with
    | some j => .ok (.int (j : Nat))
    | none => .bad) else .bad
  | _, _ => .bad
def dDlen : D → Res D
  | .dict ps => if keysK ps then .ok (.int ps.length) else .bad
  | _ => .bad
def d1 (f : D → Res D) : List D → Res D
  | [a] => f a
  | _ => .bad
def d2 (f : D → D → Res D) : List D → Res D
  | [a, b] => f a b
  | _ => .bad
def dLen : D → Res D
  | .list xs => .ok (.int xs.length)
  | .tuple xs => .ok (.int xs.length)
  | .dict [(.list [], .list xs)] => .ok (.int xs.length)
  | .str z => if z.length ≤ 16777216 then .ok (.int z.length) else .bad
  | _ => .bad
def dAll : D → Res D
  | .list xs => (match xs.mapM boolOf with
    | some bs => .ok (.bool (bs.all id))
    | none => .bad)
  | _ => .bad
def dAny : D → Res D
  | .list xs => (match xs.mapM boolOf with
    | some bs => .ok (.bool (bs.any id))
    | none => .bad)
  | _ => .bad
def dTuple : D → Res D
  | .list xs => .ok (.tuple xs)
  | .tuple xs => .ok (.tuple xs)
  | _ => .bad
def dList : D → Res D
  | .list xs => .ok (.list xs)
  | .tuple xs => .ok (.list xs)
  | .str z => if z.length ≤ 1000 then .ok (.list (z.cps.toList.map fun c => .str ⟨#[c]⟩)) else .bad
  | _ => .bad
def dSorted : D → Res D
  | .list xs => if sortOk xs then .ok (.list (isort xs)) else .bad
  | _ => .bad
def dAbs : D → Res D
  | .int i => .ok (.int (if i < 0 then -i else i))
  | _ => .bad
def dMin2 : D → D → Res D
  | .int i, .int j => .ok (.int (if j < i then j else i))
  | _, _ => .bad
def dMax2 : D → D → Res D
  | .int i, .int j => .ok (.int (if j > i then j else i))
  | _, _ => .bad
def dSum : D → Res D
  | .list xs => (match xs.mapM intOf with
    | some ns => .ok (.int ns.sum)
    | none => .bad)
  | _ => .bad
/-- what a least one can be sought of -/
def minOk (xs : List D) : Bool := (xs.all fun a => SeqAt.shaped a && someD a) && (xs.all fun a => xs.all fun b => PySem.W.alike a b)
def dLeast (f : D → List D → D) : List D → Res D
  | x :: xs => if minOk (x :: xs) && flatD (f x xs) then .ok (f x xs) else .bad
  | [] => .bad
def dMin1 : D → Res D
  | .list xs => dLeast PySem.W.minD xs
  | .tuple xs => dLeast PySem.W.minD xs
  | _ => .bad
def dMax1 : D → Res D
  | .list xs => dLeast PySem.W.maxD xs
  | .tuple xs => dLeast PySem.W.maxD xs
  | _ => .bad
def dBi : Bi → List D → Res D
  | .len => d1 dLen
  | .all => d1 dAll
  | .any => d1 dAny
  | .tuple => d1 dTuple
  | .list => d1 dList
  | .sorted => d1 dSorted
  | .abs => d1 dAbs
  | .min2 => d2 dMin2
  | .max2 => d2 dMax2
  | .sum => d1 dSum
  | .max1 => d1 dMax1
  | .min1 => d1 dMin1

/-! ### the reckoning -/
def getF (σ : List SV) (i : Nat) : Res D := match σ[i]? with
  | some (.fz d) => .ok d
  | _ => .bad
def getT (σ : List SV) (i : Nat) : Res D := match σ[i]? with
  | some (.fz d) => .ok d
  | some (.own d) => .ok d
  | _ => .bad
/-- a value that is looked at and let go: a slot's own one too -/
def use (σ : List SV) (e : E) (r : Res D) : Res D := match e with
  | .tr i => getT σ i
  | _ => r
/-- not a look at an own slot -/
def frzE : E → Bool
  | .tr _ => false
  | _ => true
def wipeS (σ : List SV) : List Nat → List SV
  | [] => σ
  | v :: vs => (wipeS σ vs).set v .no
def setAll (σ : List SV) : List Nat → List D → List SV
  | i :: is, d :: ds => setAll (σ.set i (.fz d)) is ds
  | _, _ => σ
def noOwn (σ : List SV) (is : List Nat) : Bool := is.all fun i => match σ[i]? with
  | some (.own _) => false
  | some _ => true
  | none => false
def bindT : Tg → D → List SV → Res (List SV)
  | .one i, d, σ => if noOwn σ [i] then .ok (σ.set i (.fz d)) else .bad
  | .tup is, .tuple ds, σ => if ds.length = is.length ∧ noOwn σ is = true then .ok (setAll σ is ds) else .bad
  | .tup _, _, _ => .bad
def bOf : Res D → Res Bool
  | .ok (.bool b) => .ok b
  | .ok _ => .bad
  | .exc c => .exc c
  | .bad => .bad
/-- within a comprehension nothing may be refused -/
def noX {α : Type} : Res α → Res α
  | .ok a => .ok a
  | _ => .bad
def compL (bnd : D → Res (List SV)) (c : List SV → Res Bool) (e : List SV → Res D) : List D → Res (List D)
  | [] => .ok []
  | x :: xs => do
    let τ ← bnd x
    if (← c τ) then do
      let y ← e τ
      let ys ← compL bnd c e xs
      .ok (y :: ys)
    else compL bnd c e xs
def rngD (lo hi : Int) : List D := (List.range (hi - lo).toNat).map fun k => .int (lo + (k : Nat))
def dRng (lo hi : D) : Res (List D) := match lo, hi with
  | .int a, .int b => if -1000000 ≤ a ∧ a ≤ 1000000 ∧ -1000000 ≤ b ∧ b ≤ 1000000 then .ok (rngD a b) else .bad
  | _, _ => .bad
def seqD : D → Res (List D)
  | .list xs => .ok xs
  | .tuple xs => .ok xs
  | .str z => if z.length ≤ 16777216 then .ok (z.cps.toList.map fun c => .str ⟨#[c]⟩) else .bad
  | .dict ((.list [], .dict []) :: ps) => if keysK ps && decide (ps.length ≤ 16777216) then .ok (ps.map (·.1)) else .bad
  | _ => .bad
def zipD (a b : List D) : List D := List.zipWith (fun x y => .tuple [x, y]) a b
def dZip : D → D → Res (List D)
  | .list xs, .list ys => .ok (zipD xs ys)
  | .tuple xs, .tuple ys => .ok (zipD xs ys)
  | _, _ => .bad
def enumFrom : Nat → List D → List D
  | _, [] => []
  | k, y :: r => .tuple [.int (k : Nat), y] :: enumFrom (k + 1) r
def dEnum : D → Res (List D)
  | .list xs => .ok (enumFrom 0 xs)
  | _ => .bad
section
variable (φ : Nat → List D → Res D)
mutual
def ev : E → List SV → Res D
  | .non, _ => .ok .none
  | .bl b, _ => .ok (.bool b)
  | .int i, _ => .ok (.int i)
  | .str s, _ => .ok (.str s)
  | .loc i, σ => getF σ i
  | .tr _, _ => .bad
  | .gint _ i, _ => .ok (.int i)
  | .gstr _ z, _ => .ok (.str z)
  | .tup es, σ => do let ds ← evs es σ; .ok (.tuple ds)
  | .lst es, σ => do let ds ← evs es σ; .ok (.list ds)
  | .bin o a b, σ => do let x ← use σ a (ev a σ); let y ← use σ b (ev b σ); dBin o x y
  | .neg a, σ => do let x ← ev a σ; dNeg x
  | .not a, σ => do let x ← ev a σ; dNot x
  | .cmp o a b, σ => do let x ← use σ a (ev a σ); let y ← use σ b (ev b σ); let c ← dCmp o x y; .ok (.bool c)
  | .chain o o' a b c, σ => do
    let x ← use σ a (ev a σ)
    let y ← use σ b (ev b σ)
    if (← dCmp o x y) then do let z ← use σ c (ev c σ); let r ← dCmp o' y z; .ok (.bool r) else .ok (.bool false)
  | .chain3 o o' o2 a b c d, σ => do
    let x ← use σ a (ev a σ)
    let y ← use σ b (ev b σ)
    if (← dCmp o x y) then do
      let z ← use σ c (ev c σ)
      if (← dCmp o' y z) then do let u ← use σ d (ev d σ); let r ← dCmp o2 z u; .ok (.bool r) else .ok (.bool false)
    else .ok (.bool false)
  | .and a b, σ => do if (← bOf (ev a σ)) then ev b σ else .ok (.bool false)
  | .or a b, σ => do if (← bOf (ev a σ)) then .ok (.bool true) else ev b σ
  | .ite c a b, σ => do if (← bOf (ev c σ)) then ev a σ else ev b σ
  | .ix a i, σ => do let x ← use σ a (ev a σ); let y ← ev i σ; dIx x y
  | .sl a lo hi, σ => do let x ← use σ a (ev a σ); let l ← evO lo σ; let h ← evO hi σ; dSl x l h
  | .rev a lo, σ => do let x ← use σ a (ev a σ); let l ← evO lo σ; dRev x l
  | .call f es, σ => do let ds ← evs es σ; φ f ds
  | .bi b es, σ => do let ds ← evu es σ; dBi b ds
  | .isI a t, σ => do let x ← use σ a (ev a σ); dIsI t x
  | .comp own t s c e, σ => do
    let xs ← evI s σ
    let ys ← noX (if noOwn σ (own.map (·.2)) = false then .bad else compL (fun x => bindT t x (wipeS σ (own.map (·.2)))) (fun τ => evC c τ) (fun τ => ev e τ) xs)
    .ok (.list ys)
  | .dnew, _ => .ok (.dict [])
  | .ddisp k v, σ => do let x ← ev k σ; let y ← ev v σ; if isKey x then .ok (.dict [(x, y)]) else .bad
  | .dix a k, σ => do let x ← use σ a (ev a σ); let y ← ev k σ; dDix x y
  | .din neg k a, σ => do let y ← ev k σ; let x ← use σ a (ev a σ); dDin neg y x
  | .dget a k z, σ => do let x ← use σ a (ev a σ); let ps ← asD x; let y ← ev k σ; let u ← ev z σ; dDget ps y u
  | .sitems a, σ => do let x ← use σ a (ev a σ); dSItems x
  | .dictL a, σ => do let x ← use σ a (ev a σ); dDictL x
  | .dictF a, σ => do let x ← use σ a (ev a σ); dDictF x
  | .dlen a, σ => do let x ← use σ a (ev a σ); dDlen x
  | .sset a, σ => do let x ← use σ a (ev a σ); dSSet x
  | .callO f es, σ => do let ds ← evs es σ; φ f ds
  | .index a b, σ => do let x ← use σ a (ev a σ); let ys ← asL x; let y ← use σ b (ev b σ); dIndex (.list ys) y
def evs : Es → List SV → Res (List D)
  | .nil, _ => .ok []
  | .cons e es, σ => do let x ← ev e σ; let xs ← evs es σ; .ok (x :: xs)
/-- arguments of a built-in: looked at, let go -/
def evu : Es → List SV → Res (List D)
  | .nil, _ => .ok []
  | .cons e es, σ => do let x ← use σ e (ev e σ); let xs ← evu es σ; .ok (x :: xs)
/-- a part of a slice -/
def evO : Eo → List SV → Res (Option Int)
  | .no, _ => .ok none
  | .yes e, σ => do
    match (← ev e σ) with
    | .int i => .ok (some i)
    | _ => .bad
/-- a test of a comprehension -/
def evC : Eo → List SV → Res Bool
  | .no, _ => .ok true
  | .yes e, σ => bOf (ev e σ)
/-- what is walked -/
def evI : It → List SV → Res (List D)
  | .val e, σ => do let x ← use σ e (ev e σ); seqD x
  | .rng1 a, σ => do let x ← ev a σ; dRng (.int 0) x
  | .rng2 a b, σ => do let x ← ev a σ; let y ← ev b σ; dRng x y
  | .zip a b, σ => do let x ← use σ a (ev a σ); let y ← use σ b (ev b σ); dZip x y
  | .enum a, σ => do let x ← use σ a (ev a σ); dEnum x
end
def SR.of {α : Type} (r : Res α) (σ : List SV) (f : α → SR) : SR := match r with
  | .ok a => f a
  | .exc c => .exc c σ
  | .bad => .bad
def setParO : List SV → List Nat → List Bool → List D → List SV
  | σ, i :: is, b :: fl, d :: ds => setParO (σ.set i (if b then .own d else .fz d)) is fl ds
  | σ, _, _, _ => σ
def ownable : D → Bool
  | .list _ => true
  | .dict _ => true
  | _ => false
/-- what must be owned is fit for it -/
def fits : List Bool → List D → Bool
  | [], [] => true
  | b :: fl, d :: ds => (!b || ownable d) && fits fl ds
  | _, _ => false
def forL (bnd : D → List SV → Res (List SV)) (b : List SV → SR) : List D → List SV → SR
  | [], σ => .ok .nx σ
  | x :: xs, σ => match bnd x σ with
    | .ok τ => (match b τ with
      | .ok .nx ρ => forL bnd b xs ρ
      | .ok .cnt ρ => forL bnd b xs ρ
      | .ok .brk ρ => .ok .nx ρ
      | .ok (.ret d) ρ => .ok (.ret d) ρ
      | .exc c ρ => .exc c ρ
      | .bad => .bad)
    | _ => .bad
def whileL (c : List SV → Res Bool) (b : List SV → SR) : Nat → List SV → SR
  | 0, _ => .bad
  | n + 1, σ => SR.of (c σ) σ fun t => if t then (match b σ with
      | .ok .nx ρ => whileL c b n ρ
      | .ok .cnt ρ => whileL c b n ρ
      | .ok .brk ρ => .ok .nx ρ
      | .ok (.ret d) ρ => .ok (.ret d) ρ
      | .exc c ρ => .exc c ρ
      | .bad => .bad) else .ok .nx σ
def thenS (r : SR) (f : List SV → SR) : SR := match r with
  | .ok .nx τ => f τ
  | x => x
variable (fu : Nat)
/-- what the source of a for statement may be: nothing that the body may change -/
def itFz : It → Bool
  | .val e => frzE e
  | .zip a b => frzE a && frzE b
  | .enum a => frzE a
  | _ => true
mutual
def evS : S → List SV → SR
  | .set i e, σ => SR.of (ev φ e σ) σ fun d => .ok .nx (σ.set i (.fz d))
  | .setO i e, σ => SR.of (ev φ e σ) σ fun d => if ownable d then .ok .nx (σ.set i (.own d)) else .bad
  | .unp is e, σ => SR.of (use σ e (ev φ e σ)) σ fun d => match d with
    | .tuple ds => if ds.length = is.length ∧ noOwn σ is = true then .ok .nx (setAll σ is ds) else .bad
    | .list ds => if ds.length = is.length ∧ noOwn σ is = true then .ok .nx (setAll σ is ds) else .bad
    | _ => .bad
  | .par is es, σ => SR.of (evs φ es σ) σ fun ds => if ds.length = is.length ∧ noOwn σ is = true then .ok .nx (setAll σ is ds) else .bad
  | .parO is fl es, σ => SR.of (do let ds ← evs φ es σ; if fits fl ds then .ok ds else .bad) σ fun ds => if ds.length = is.length then .ok .nx (setParO σ is fl ds) else .bad
  | .ext i e, σ => (match σ[i]? with
    | some (.own (.list xs)) => SR.of (ev φ e σ) σ fun d => match d with
      | .list ys => if xs.length + ys.length ≤ 16777216 then .ok .nx (σ.set i (.own (.list (xs ++ ys)))) else .bad
      | _ => .bad
    | _ => .bad)
  | .app i e, σ => (match σ[i]? with
    | some (.own (.list xs)) => SR.of (ev φ e σ) σ fun d => if xs.length < 16777216 then .ok .nx (σ.set i (.own (.list (xs ++ [d])))) else .bad
    | _ => .bad)
  | .dput i k e, σ => SR.of (ev φ e σ) σ fun d => (match σ[i]? with
    | some (.own (.dict ps)) => SR.of (ev φ k σ) σ fun y => if (isKey y && keysK ps) && decide (ps.length < 16777216) then .ok .nx (σ.set i (.own (.dict (putD ps y d)))) else .bad
    | _ => .bad)
  | .expr e, σ => SR.of (ev φ e σ) σ fun _ => .ok .nx σ
  | .ret e, σ => SR.of (use σ e (ev φ e σ)) σ fun d => .ok (.ret d) σ
  | .retN, σ => .ok (.ret .none) σ
  | .retO i, σ => (match σ[i]? with
    | some (.own d) => .ok (.ret d) σ
    | _ => .bad)
  | .ite c a b, σ => SR.of (bOf (ev φ c σ)) σ fun t => if t then evSs a σ else evSs b σ
  | .for t s b, σ => if itFz s then SR.of (evI φ s σ) σ fun xs => forL (fun x τ => bindT t x τ) (fun τ => evSs b τ) xs σ else .bad
  | .while c b, σ => whileL (fun τ => bOf (ev φ c τ)) (fun τ => evSs b τ) fu σ
  | .brk, σ => .ok .brk σ
  | .cnt, σ => .ok .cnt σ
  | .pass, σ => .ok .nx σ
  | .raise c, σ => .exc c σ
  | .frz i, σ => (match σ[i]? with
    | some (.own d) => .ok .nx (σ.set i (.fz d))
    | some (.fz _) => .ok .nx σ
    | _ => .bad)
def evSs : Ss → List SV → SR
  | .nil, σ => .ok .nx σ
  | .cons s r, σ => thenS (evS s σ) fun τ => evSs r τ
end
end
/-- a def: its name, parameters, all names, body -/
structure Fn where
  id : Nat
  name : Str
  ps : List Str
  ns : List Str
  body : Ss
def start0 (n : Nat) (ds : List D) : List SV := ds.map .fz ++ List.replicate (n - ds.length) .no
def retOf : SR → Res D
  | .ok (.ret d) _ => .ok d
  | .ok .nx _ => .ok .none
  | .ok _ _ => .bad
  | .exc c _ => .exc c
  | .bad => .bad
def findF (T : List Fn) (f : Nat) : Option Fn := T.find? fun F => f == F.id
/-- the call of def f, at most n calls deep -/
def run (T : List Fn) (fu : Nat) : Nat → Nat → List D → Res D
  | 0, _, _ => .bad
  | n + 1, f, ds => match findF T f with
    | some F => if ds.length = F.ps.length then retOf (evSs (run T fu n) fu F.body (start0 F.ns.length ds)) else .bad
    | none => .bad
end HF

set_option Elab.async false
set_option autoImplicit false
set_option linter.all false
set_option maxRecDepth 100000
set_option maxHeartbeats 4000000
/-! What is done with data, as the model does it. -/
namespace HF
open PySem PySem.Spec PyProof.Rows L2
section
variable {K : PySem.W.Frag} {Hc H H' : Hp}
/-- what a result may be: laid anew, or one that nobody owns -/
inductive RepN (K : PySem.W.Frag) (oo : List (List Addr)) (H H' : Hp) : V → D → Prop
  | new {p : Addr} {d : D} : H p = none → OwnR K (hid ([p] :: oo) H') H' p d → RepN K oo H H' (.ref p) d
  | old {v : V} {d : D} : flatD d = true → Rep K (hid oo H') v d → RepN K oo H H' v d
theorem hid_cons {oo : List (List Addr)} {p : Addr} (H : Hp) : Same (hid ([p] :: oo) H) (hid oo H) := hid_sub fun a h => by
  rw [List.flatten_cons]
  exact List.mem_append_right _ h
theorem OwnR.rep {oo : List (List Addr)} {p : Addr} {d : D} (n : p ∉ oo.flatten) : OwnR K (hid ([p] :: oo) H) H p d → Rep K (hid oo H) (.ref p) d
  | .lst h r => .lst (by rw [hid_get n]; exact h) (r.mono (hid_cons H))
  | .dK h r => .dK (Rd.of (by rw [hid_get n]; exact h)) (r.mono (hid_cons H))
theorem RepN.rep {oo : List (List Addr)} {v : V} {d : D} (n : ∀ p, H p = none → p ∉ oo.flatten) : RepN K oo H H' v d → Rep K (hid oo H') v d
  | .new hp h => h.rep (n _ hp)
  | .old _ h => h
/-- a list laid anew at p -/
theorem newL {oo : List (List Addr)} {p : Addr} {xs : List V} {ds : List D} (hp : H p = none) (hn : ∀ p, H p = none → p ∉ oo.flatten) (r : RepAll K (hid oo H) xs ds) : RepN K oo H (upd H p (.lst xs)) (.ref p) (.list ds) := by
  refine .new hp (.lst upd_same (r.mono fun a o q => ?_))
  obtain ⟨q1, q2⟩ := hid_of q
  have ne : a ≠ p := ne_of_none q1 hp
  rw [hid_get]
  · rw [upd_ne ne]; exact q1
  · rw [List.flatten_cons]
    intro z
    rcases List.mem_append.mp z with z | z
    · exact ne (List.mem_singleton.mp z)
    · exact q2 z
theorem newT {oo : List (List Addr)} {p : Addr} {xs : List V} {ds : List D} (hp : H p = none) (hn : ∀ p, H p = none → p ∉ oo.flatten) (r : RepAll K (hid oo H) xs ds) : RepN K oo H (upd H p (.tup xs)) (.ref p) (.tuple ds) := by
  refine .old rfl (.tup (SqT.of ?_) (r.mono (hid_mono oo (Same.upd hp))))
  rw [hid_get (hn _ hp)]
  exact upd_same

/-- what is wanted of a reckoned value -/
def Want (K : PySem.W.Frag) (oo : List (List Addr)) (H : Hp) (d : D) (Q : VK) : Prop := ∀ v H', Same H H' → RepN K oo H H' v d → Q v H'
/-- a place where nothing owned is new -/
abbrev Nw (oo : List (List Addr)) (H : Hp) : Prop := ∀ p, H p = none → p ∉ oo.flatten
/-- a rule of two values and what it reckons -/
def Prim2 (K : PySem.W.Frag) (r : R2) (g : D → D → Res D) : Prop :=
  ∀ (oo : List (List Addr)) (H : Hp) (x y : V) (a b d : D) (Q : VK), Nw oo H → RepTop K (hid oo H) H x a → RepTop K (hid oo H) H y b → g a b = .ok d → Want K oo H d Q → r x y H Q
theorem Want.base {oo : List (List Addr)} {d : D} {v : V} {Q : VK} (w : Want K oo H d Q) (h : Rep K (hid oo H) v d) (n : flatD d = true) : Q v H := w v H (Same.refl H) (.old n h)
theorem Want.list {oo : List (List Addr)} {ds : List D} {xs : List V} {p : Addr} {Q : VK} (w : Want K oo H (.list ds) Q) (n : Nw oo H) (hp : H p = none) (r : RepAll K (hid oo H) xs ds) : Q (.ref p) (upd H p (.lst xs)) :=
  w _ _ (Same.upd hp) (newL hp n r)
theorem Want.tup {oo : List (List Addr)} {ds : List D} {xs : List V} {p : Addr} {Q : VK} (w : Want K oo H (.tuple ds) Q) (n : Nw oo H) (hp : H p = none) (r : RepAll K (hid oo H) xs ds) : Q (.ref p) (upd H p (.tup xs)) :=
  w _ _ (Same.upd hp) (newT hp n r)
end
theorem line_eq : (sizeLine : Nat) = 16777216 := sizeLine_eq

/-! ### operators -/
section
variable {X : Cx}
/-- a + b -/
def rAdd : PySem.W.Frag → R2 := fun K x y H Q => rI0 (fun i j => .int (i + j)) x y H Q ∨ (∃ i j, x = .str i ∧ y = .str j ∧ i.length + j.length ≤ sizeLine ∧ Q (.str (i ++ j)) H) ∨ rCatA K x y H Q ∨ rCat x y H Q
theorem opAdd : OpR X (binaryOp .Add) (rAdd X.K) := op_add.or (op_add_str.or (op_catA.or op_cat))
theorem primAdd {K : PySem.W.Frag} : Prim2 K (rAdd K) (dBin .add) := by
  intro oo H x y a b d Q n rx ry e w
  cases rx <;> cases ry <;> simp only [dBin, scrD] at e <;> try (cases e; done)
  case int.int i j => cases e; exact .inl ⟨_, _, rfl, rfl, w.base (.int _) rfl⟩
  case str.str i j =>
    split at e
    · cases e
      exact .inr (.inl ⟨_, _, rfl, rfl, by rw [line_eq]; assumption, w.base (.str _) rfl⟩)
    · cases e
  case tup.tup p xs ds hx rx q ys es hy ry =>
    split at e
    · cases e
      refine .inr (.inr (.inl ⟨_, _, _, _, rfl, rfl, Same.sqT (hid_same oo H) hx, Same.sqT (hid_same oo H) hy, by rw [line_eq, rx.len, ry.len]; assumption, fun z => ?_, fun _ z => ?_, fun _ _ t ht => w.tup n ht (rx.app ry)⟩))
      · subst z
        cases rx
        rw [List.nil_append] at w
        exact w _ _ (Same.refl H) (.old rfl (.tup hy ry))
      · subst z
        cases ry
        rw [List.append_nil] at w
        exact w _ _ (Same.refl H) (.old rfl (.tup hx rx))
    · cases e
  case lst.lst p xs ds hx rx q ys es hy ry =>
    split at e
    · cases e
      exact .inr (.inr (.inr ⟨_, _, _, _, rfl, rfl, hx, hy, by rw [line_eq, rx.len, ry.len]; assumption, fun t ht => w.list n ht (rx.app ry)⟩))
    · cases e

/-- t * k, k at most one -/
theorem tup_mul1 (l : Addr) (items : Array Value) (n : Nat) (dd : Option Addr) (sl : Array (Option Value)) (u : Tok) :
    Meets (Builtin.«tuple.__mul__» ⟨[.ref l, .int 1 u], []⟩)
      (fun _ R s => s.heap.get? l = some { cls := .type "tuple", dict := dd, data := .seq items n, slots := sl } ∧ R (.ok (.ret (Value.ref l))) s) :=
  .of_wp fun prog w A R s h => by
    obtain ⟨hp, g, d, tk, os⟩ := s
    obtain ⟨hl, h⟩ := h
    have f1 := AutoSeq1.idx_int
    wp_walk using wpAny_loadPart' hl
    all_goals first
      | exact ⟨_, rfl, h⟩
      | (refine wpAny_ite_true (decide_eq_true (by simp)) ?_; wp_walk using wpAny_loadPart' hl; exact ⟨_, rfl, h⟩)
theorem tup_mulE (l : Addr) (items : Array Value) (n : Nat) (dd : Option Addr) (sl : Array (Option Value)) (k : Int) (u : Tok) (c0 : (decide (k < -(2 ^ 63)) || decide (k ≥ 2 ^ 63)) = false) (he : items.isEmpty = true) :
    Meets (Builtin.«tuple.__mul__» ⟨[.ref l, .int k u], []⟩)
      (fun _ R s => s.heap.get? l = some { cls := .type "tuple", dict := dd, data := .seq items n, slots := sl } ∧ R (.ok (.ret (Value.ref l))) s) :=
  .of_wp fun prog w A R s h => by
    obtain ⟨hp, g, d, tk, os⟩ := s
    obtain ⟨hl, h⟩ := h
    have f1 := AutoSeq1.idx_int
    wp_walk using wpAny_loadPart' hl
    refine wpAny_ite_false (decide_eq_false (by rw [c0]; exact Bool.false_ne_true)) ?_
    wp_walk using wpAny_loadPart' hl
    all_goals first
      | exact ⟨_, rfl, h⟩
      | (refine wpAny_ite_true (decide_eq_true (by rw [he]; rfl)) ?_; wp_walk using wpAny_loadPart' hl; exact ⟨_, rfl, h⟩)
theorem tup_mul0 (l : Addr) (items : Array Value) (n : Nat) (dd : Option Addr) (sl : Array (Option Value)) (k : Int) (u : Tok) (c0 : (decide (k < -(2 ^ 63)) || decide (k ≥ 2 ^ 63)) = false) (hk : k ≤ 0) (he : items.isEmpty = false) :
    Meets (Builtin.«tuple.__mul__» ⟨[.ref l, .int k u], []⟩)
      (fun _ R s => s.heap.get? l = some { cls := .type "tuple", dict := dd, data := .seq items n, slots := sl } ∧
        R (.ok (.ret (Value.ref s.heap.objs.size))) { s with heap := s.heap.push { cls := Value.type "tuple", data := Data.seq #[] }, toks := s.toks }) :=
  .of_wp fun prog w A R s h => by
    obtain ⟨hp, g, d, tk, os⟩ := s
    obtain ⟨hl, h⟩ := h
    have f1 := AutoSeq1.idx_int
    have c1 : (items.isEmpty || k == 1) = false := by
      rw [he, Bool.false_or]
      exact beq_eq_false_iff_ne.mpr (by omega)
    have c2 : (decide (k ≤ 0) || items.isEmpty) = true := by rw [decide_eq_true hk, Bool.true_or]
    wp_walk using wpAny_loadPart' hl
    refine wpAny_ite_false (decide_eq_false (by rw [c0]; exact Bool.false_ne_true)) ?_
    wp_walk using wpAny_loadPart' hl
    refine wpAny_ite_false (decide_eq_false (by rw [c1]; exact Bool.false_ne_true)) ?_
    wp_walk using wpAny_loadPart' hl
    all_goals first
      | exact ⟨_, rfl, h⟩
      | (refine wpAny_ite_true (decide_eq_true c2) ?_; wp_walk using wpAny_loadPart' hl; exact ⟨_, rfl, h⟩)
/-- the way of t * k -/
theorem tup_road {prog : Program} {w : World} {A : Around} {E : Value → Shared → Prop} {s : Shared} {l : Addr} {k : Int} {t : Tok} {items : Array Value} {n : Nat} {dd : Option Addr} {sl : Array (Option Value)} {Q : Value → Shared → Prop}
    (ho : s.heap.get? l = some { cls := .type "tuple", dict := dd, data := .seq items n, slots := sl })
    (hc : wpAny (model prog w) A (call (.builtin "tuple.__mul__") [.ref l, .int k t]) Q E s) : wpAny (model prog w) A (binaryOp .Mult (.ref l) (.int k t)) Q E s :=
  wpAny_binaryOp_repeat_ref (T := "tuple") (U := "int") (by decide) ⟨_, ho, rfl⟩ (fun s' => typeIs_int s' k t)
    noFill_tuple_mul F.fills_int_mul F.slot_int_rmul repeat_tuple F.slot_int_index.lookup
    (call_meets F.slot_int_rmul (typeIs_int s k t) F.entry_int_rmul (F.args_int_rmul_2 _ _)
      (int_rmul_tuple k t l items n dd sl) ⟨ho, rfl, ⟨_, ho, rfl⟩, hc⟩)
/-- t * k -/
def rMulT (K : PySem.W.Frag) : R2 := fun x y H Q => ∃ l k xs, x = .ref l ∧ y = .int k ∧ SqT K H l xs ∧ -1000 ≤ k ∧ k ≤ 1000 ∧ xs.length ≤ 1000 ∧
  (xs = [] → Q (.ref l) H) ∧ (xs ≠ [] → k = 1 → Q (.ref l) H) ∧ (xs ≠ [] → k ≠ 1 → ∀ p, H p = none → Q (.ref p) (upd H p (.tup (List.replicate k.toNat xs).flatten)))
theorem opMulT : OpR X (binaryOp .Mult) (rMulT X.K) := by
  intro pins s σ H x y v u Q I rx ry h
  obtain ⟨l, k, xs, rfl, rfl, hT, h1, h2, hz, q0, q1, q2⟩ := h
  by_cases hbig : xs ≠ [] ∧ 2 ≤ k
  · exact op_repT pins s σ H _ _ v u Q I rx ry ⟨l, k, xs, rfl, rfl, hT, hbig.1, hbig.2, h2, hz, q2 hbig.1 (by omega)⟩
  · cases rx
    obtain ⟨t, rfl⟩ := ry
    obtain ⟨its, r, ⟨⟨cls, dd, data, sl⟩, ho, hc, n, hd⟩, hs⟩ := I.tuple hT
    simp only at hc hd
    subst hc hd
    have c0 : (decide (k < -(2 ^ 63)) || decide (k ≥ 2 ^ 63)) = false := by
      have a1 : ¬ k < -(2 ^ 63) := by omega
      have a2 : ¬ k ≥ 2 ^ 63 := by omega
      rw [decide_eq_false a1, decide_eq_false a2]
      rfl
    have hlen : its.length = xs.length := r.length.symm
    refine tup_road ho ?_
    by_cases hx : xs = []
    · have he : its.toArray.isEmpty = true := by
        subst hx
        cases r
        rfl
      exact call_meets F.slot_tuple_mul ⟨_, ho, rfl⟩ F.entry_tuple_mul (F.args_tuple_mul_2 _ _) (tup_mulE l its.toArray n dd sl k t c0 he) ⟨ho, .ref l, H, I, rfl, q0 hx⟩
    · by_cases hk : k = 1
      · subst hk
        exact call_meets F.slot_tuple_mul ⟨_, ho, rfl⟩ F.entry_tuple_mul (F.args_tuple_mul_2 _ _) (tup_mul1 l its.toArray n dd sl t) ⟨ho, .ref l, H, I, rfl, q1 hx rfl⟩
      · have hk0 : k ≤ 0 := by
          by_cases z : 2 ≤ k
          · exact absurd ⟨hx, z⟩ hbig
          · omega
        have he : its.toArray.isEmpty = false := by
          cases its with
          | nil => exact absurd (List.eq_nil_of_length_eq_zero hlen.symm) hx
          | cons a b => rfl
        refine call_meets F.slot_tuple_mul ⟨_, ho, rfl⟩ F.entry_tuple_mul (F.args_tuple_mul_2 _ _) (tup_mul0 l its.toArray n dd sl k t c0 hk0 he) ⟨ho, ?_⟩
        have e0 : (List.replicate k.toNat xs).flatten = [] := by
          rw [show k.toNat = 0 by omega]
          rfl
        have q3 := q2 hx hk _ (I.hok.fresh (Nat.le_refl _))
        rw [e0] at q3
        exact ⟨.ref s.heap.objs.size, _, I.laid (t' := s.toks) (o := .tup []) (fun b ob q => Heap.get?_push_of_some _ q) (Nat.le_refl _) ⟨Nat.zero_le _, [], .nil, IsTup.new _ _⟩, rfl, q3⟩
/-- a text times a number that is one or more -/
def rMulS : R2 := fun x y H Q => ∃ z k, x = .str z ∧ y = .int k ∧ 1 ≤ k ∧ k ≤ 1000 ∧ z.length ≤ 1000 ∧ Q (.str ⟨(List.replicate k.toNat z.cps.toList).flatten.toArray⟩) H
theorem fold_cat (xs : Array Nat) : ∀ (m : Nat) (acc : List Nat), List.foldl (fun x1 x2 => x1 ++ x2) acc.toArray (List.replicate m xs) = (acc ++ (List.replicate m xs.toList).flatten).toArray
  | 0, acc => by simp
  | m + 1, acc => by
    rw [List.replicate_succ, List.foldl_cons, List.replicate_succ, List.flatten_cons]
    have e : acc.toArray ++ xs = (acc ++ xs.toList).toArray := by simp
    rw [e, fold_cat xs m (acc ++ xs.toList), List.append_assoc]
theorem opMulS : OpR X (binaryOp .Mult) rMulS := by
  intro pins s σ H x y v u Q I rx ry h
  obtain ⟨z, k, rfl, rfl, h1, h2, hz, q⟩ := h
  obtain ⟨t, rfl⟩ := rx
  obtain ⟨t', rfl⟩ := ry
  have hb : ¬ ((z.length : Int) > (2 ^ 63 - 1) / k) := by
    have a1 : (1000 : Int) * k ≤ 2 ^ 63 - 1 := by omega
    have a2 : (1000 : Int) ≤ (2 ^ 63 - 1) / k := (Int.le_ediv_iff_mul_le (by omega)).mpr a1
    omega
  have hl : Builtin.Str.tooLong (z.length * k.toNat) = false := by
    have a1 : z.length * k.toNat ≤ 1000 * 1000 := Nat.mul_le_mul hz (by omega)
    unfold Builtin.Str.tooLong
    rw [sizeLine_eq]
    exact decide_eq_false (by omega)
  have n1 : ¬ k < 1 := by omega
  refine PySem.P.mul_str ?_ (fun _ _ => hb) (fun _ _ => hl) ?_
  · have a1 : ¬ k < -(2 ^ 63 : Int) := by omega
    have a2 : ¬ k ≥ 2 ^ 63 := by omega
    rw [decide_eq_false a1, decide_eq_false a2]
    rfl
  · rw [if_neg n1]
    have e0 : (List.replicate k.toNat z.cps).foldl (fun x1 x2 => x1 ++ x2) #[] = (List.replicate k.toNat z.cps.toList).flatten.toArray := by
      have := fold_cat z.cps k.toNat []
      simpa using this
    by_cases hs : (k == 1 || z.length == 0) = true
    · rw [if_pos hs]
      have e1 : (⟨(List.replicate k.toNat z.cps.toList).flatten.toArray⟩ : Str) = z := by
        rcases Bool.or_eq_true_iff.mp hs with a | a
        · have ek : k = 1 := eq_of_beq a
          subst ek
          simp
        · have ez : z.cps.size = 0 := eq_of_beq a
          have ez2 : z.cps = #[] := Array.eq_empty_of_size_eq_zero ez
          obtain ⟨c⟩ := z
          simp only at ez2
          subst ez2
          congr 1
          simp
      rw [e1] at q
      exact ⟨.str z, H, I, ⟨_, rfl⟩, q⟩
    · rw [if_neg hs]
      show PySem.Made.post (PySem.Made.str ⟨List.foldl (fun x1 x2 => x1 ++ x2) #[] (List.replicate k.toNat z.cps)⟩) (EP X pins σ Q) s
      rw [e0]
      have hlen : (⟨(List.replicate k.toNat z.cps.toList).flatten.toArray⟩ : Str).length ≤ sizeLine := by
        show (List.replicate k.toNat z.cps.toList).flatten.toArray.size ≤ sizeLine
        rw [List.size_toArray, PyProof.Rows.lm_len_rep_flat, Array.length_toList, sizeLine_eq]
        have a1 : k.toNat * z.cps.size ≤ 1000 * 1000 := Nat.mul_le_mul (by omega) hz
        omega
      exact ⟨hlen, .str _, H, I.tok _, ⟨_, rfl⟩, q⟩
/-- x * y -/
def rMul (K : PySem.W.Frag) : R2 := fun x y H Q => rI CMul (fun i j => .int (i * j)) x y H Q ∨ rMulS x y H Q ∨ rMulT K x y H Q ∨ rRep x y H Q
theorem opMul : OpR X (binaryOp .Mult) (rMul X.K) := op_mul.or (opMulS.or (opMulT.or op_rep))

theorem cmulB_ok {i j : Int} (h : cmulB i j = true) : CMul i j := by
  unfold cmulB at h
  simp only [Bool.or_eq_true, Bool.and_eq_true, decide_eq_true_eq] at h
  unfold CMul
  omega
theorem primMul {K : PySem.W.Frag} : Prim2 K (rMul K) (dBin .mul) := by
  intro oo H x y a b d Q n rx ry e w
  cases rx <;> cases ry <;> simp only [dBin, scrD] at e <;> try (cases e; done)
  case int.int i j =>
    split at e
    · cases e
      exact .inl ⟨_, _, rfl, rfl, cmulB_ok (by assumption), w.base (.int _) rfl⟩
    · cases e
  case str.int z k =>
    split at e
    · rename_i c
      cases e
      exact .inr (.inl ⟨_, _, rfl, rfl, c.1, c.2.1, c.2.2, w.base (.str _) rfl⟩)
    · cases e
  case tup.int p xs ds hx rx k =>
    split at e
    · rename_i c
      cases e
      refine .inr (.inr (.inl ⟨_, _, _, rfl, rfl, Same.sqT (hid_same oo H) hx, c.2.1, c.1, by rw [rx.len]; exact c.2.2, fun z => ?_, fun _ z => ?_, fun _ _ t ht => w.tup n ht (rx.rep _)⟩))
      · subst z
        cases rx
        have e0 : (List.replicate k.toNat ([] : List D)).flatten = [] := by simp
        rw [e0] at w
        exact w.base (.tup hx .nil) rfl
      · subst z
        have e0 : (List.replicate (1 : Int).toNat ds).flatten = ds := by simp
        rw [e0] at w
        exact w.base (.tup hx rx) rfl
    · cases e
  case lst.int p xs ds hx rx k =>
    split at e
    · rename_i c
      cases e
      refine .inr (.inr (.inr ⟨_, _, _, rfl, rfl, hx, by omega, by omega, ?_, fun t ht => w.list n ht (rx.rep _)⟩))
      rw [rx.len, line_eq]
      have a1 : ds.length * k.toNat ≤ 1000 * 1000 := Nat.mul_le_mul c.2.2 (by omega)
      omega
    · cases e
theorem primSub {K : PySem.W.Frag} : Prim2 K (rI0 fun i j => .int (i - j)) (dBin .sub) := by
  intro oo H x y a b d Q n rx ry e w
  cases rx <;> cases ry <;> simp only [dBin, scrD] at e <;> try (cases e; done)
  cases e
  exact ⟨_, _, rfl, rfl, w.base (.int _) rfl⟩
theorem primDiv {K : PySem.W.Frag} : Prim2 K (rI CDivW fun i j => .int (i / j)) (dBin .fdiv) := by
  intro oo H x y a b d Q n rx ry e w
  cases rx <;> cases ry <;> simp only [dBin, scrD] at e <;> try (cases e; done)
  split at e
  · rename_i c
    cases e
    exact ⟨_, _, rfl, rfl, wide_div c.1 c.2 (by omega) (by omega), w.base (.int _) rfl⟩
  · cases e
theorem primMod {K : PySem.W.Frag} : Prim2 K (rI (fun _ j => 0 < j) fun i j => .int (i % j)) (dBin .mod) := by
  intro oo H x y a b d Q n rx ry e w
  cases rx <;> cases ry <;> simp only [dBin, scrD] at e <;> try (cases e; done)
  split at e
  · rename_i c
    cases e
    exact ⟨_, _, rfl, rfl, c, w.base (.int _) rfl⟩
  · cases e
theorem primPow {K : PySem.W.Frag} : Prim2 K (rI CPow fun i j => .int (i ^ j.toNat)) (dBin .pow) := by
  intro oo H x y a b d Q n rx ry e w
  cases rx <;> cases ry <;> simp only [dBin, scrD] at e <;> try (cases e; done)
  split at e
  · rename_i c
    cases e
    exact ⟨_, _, rfl, rfl, ⟨c.1, by omega, c.2.2⟩, w.base (.int _) rfl⟩
  · cases e
def opOf : BOp → Operator
  | .add => .Add
  | .sub => .Sub
  | .mul => .Mult
  | .fdiv => .FloorDiv
  | .mod => .Mod
  | .pow => .Pow
def rBin (K : PySem.W.Frag) : BOp → R2
  | .add => rAdd K
  | .sub => rI0 fun i j => .int (i - j)
  | .mul => rMul K
  | .fdiv => rI CDivW fun i j => .int (i / j)
  | .mod => rI (fun _ j => 0 < j) fun i j => .int (i % j)
  | .pow => rI CPow fun i j => .int (i ^ j.toNat)
theorem opBin : ∀ o : BOp, OpR X (binaryOp (opOf o)) (rBin X.K o)
  | .add => opAdd
  | .sub => op_sub
  | .mul => opMul
  | .fdiv => op_fdivW
  | .mod => op_mod
  | .pow => op_pow
theorem primBin {K : PySem.W.Frag} : ∀ o : BOp, Prim2 K (rBin K o) (dBin o)
  | .add => primAdd
  | .sub => primSub
  | .mul => primMul
  | .fdiv => primDiv
  | .mod => primMod
  | .pow => primPow
theorem dBin_noexc (o : BOp) (a b : D) (c : Str) : dBin o a b ≠ .exc c := by
  intro h
  unfold dBin at h
  split at h <;> first | (cases h; done) | (split at h <;> cases h)
end
end HF

set_option Elab.async false
set_option autoImplicit false
set_option linter.all false
set_option maxRecDepth 100000
set_option maxHeartbeats 4000000
/-! Comparisons. -/
namespace HF
open PySem PySem.Spec PyProof.Rows L2
section
variable {X : Cx}
/-- x in a tuple of data -/
def rInT (K : PySem.W.Frag) (neg : Bool) : R2 := fun x y H Q => ∃ d ds, Dp K H x d ∧ Dp K H y (.tuple ds) ∧ SeqAt.shaped d = true ∧ SeqAt.shaped (.tuple ds) = true ∧ Q (.bl (if neg then !(ds.any fun z => PyData.eqv z d) else ds.any fun z => PyData.eqv z d)) H
theorem roomT {A : Around} {d : PyData} {ds : List PyData} (sd : SeqAt.shaped d = true) (hu : A.units + 65 < cLine) : A.units + 1 + min (PyData.depthAll ds) d.depth < cLine := by
  have h1 := SeqAt.depth_of_shaped sd
  have h2 : min (PyData.depthAll ds) d.depth ≤ d.depth := Nat.min_le_right _ _
  omega
theorem opInT (hu : X.A.units + 65 < cLine) : OpR X (compareOp .In) (rInT X.K false) := by
  intro pins s σ H x y v u Q I rx ry h
  obtain ⟨d, ds, hd, he, sd, se, q⟩ := h
  obtain ⟨as, r1⟩ := Dp.reads I d x v hd rx
  obtain ⟨bs, r2⟩ := Dp.reads I (.tuple ds) y u he ry
  exact SeqAt.in_tuple_reads r2 r1 (SeqAt.canLay_of_shaped se) (SeqAt.canLay_of_shaped sd) (roomT sd hu) ⟨.bl _, H, I, rfl, q⟩
theorem opNotInT (hu : X.A.units + 65 < cLine) : OpR X (compareOp .NotIn) (rInT X.K true) := by
  intro pins s σ H x y v u Q I rx ry h
  obtain ⟨d, ds, hd, he, sd, se, q⟩ := h
  obtain ⟨as, r1⟩ := Dp.reads I d x v hd rx
  obtain ⟨bs, r2⟩ := Dp.reads I (.tuple ds) y u he ry
  exact SeqAt.notIn_tuple_reads r2 r1 (SeqAt.canLay_of_shaped se) (SeqAt.canLay_of_shaped sd) (roomT sd hu) ⟨.bl _, H, I, rfl, q⟩
/-- a < b of alike data -/
def rLtD (K : PySem.W.Frag) : R2 := fun x y H Q => ∃ d e, Dp K H x d ∧ Dp K H y e ∧ PySem.W.alike d e = true ∧ d ≠ .none ∧ d.depth ≤ 64 ∧ Q (.bl (PySem.W.dataLt d e)) H
theorem opLtD (hu : X.A.units + 65 < cLine) : OpR X (compareOp .Lt) (rLtD X.K) := by
  intro pins s σ H x y v u Q I rx ry h
  obtain ⟨d, e, hd, he, al, nn, dp, q⟩ := h
  obtain ⟨as, r1⟩ := Dp.reads I d x v hd rx
  obtain ⟨bs, r2⟩ := Dp.reads I e y u he ry
  have hm : min d.depth e.depth ≤ d.depth := Nat.min_le_left _ _
  exact PySem.W.rcLt_alike d e X.A s v u as bs r1 r2 al nn (by omega) X.prog X.w X.xe _ ⟨.bl _, H, I, rfl, q⟩
end
/-- a rule of a comparison and what it reckons -/
def PrimC (K : PySem.W.Frag) (r : R2) (g : D → D → Res Bool) : Prop :=
  ∀ (oo : List (List Addr)) (H : Hp) (x y : V) (a b : D) (c : Bool) (Q : VK), RepTop K (hid oo H) H x a → RepTop K (hid oo H) H y b → g a b = .ok c → Q (.bl c) H → r x y H Q
section
variable {K : PySem.W.Frag}
theorem RepTop.dp {oo : List (List Addr)} {H : Hp} {x : V} {a : D} (h : RepTop K (hid oo H) H x a) (s : SeqAt.shaped a = true) : Dp K H x a :=
  Rep.dp a (h.full (hid_same oo H)) (SeqAt.canLay_of_shaped s)
theorem lay_ints : ∀ ns : List Int, PyData.canLayAll0 (ns.map .int) = true ∧ PyData.depthAll (ns.map .int) = 0
  | [] => ⟨rfl, rfl⟩
  | n :: r => by
    obtain ⟨h1, h2⟩ := lay_ints r
    exact ⟨by simp [PyData.canLayAll0, PyData.canLay0, h1], by simp [PyData.depthAll, PyData.depth, h2]⟩
theorem shaped_ints (ns : List Int) : SeqAt.shaped (.list (ns.map .int)) = true := by
  obtain ⟨h1, h2⟩ := lay_ints ns
  unfold SeqAt.shaped
  simp [PyData.canLay0, PyData.depth, h1, h2]
theorem dp_ints {H : Hp} : ∀ ns : List Int, DpAll K H (ns.map V.int) (ns.map .int)
  | [] => .nil
  | n :: r => .cons (.int n) (dp_ints r)
theorem RepTop.scr_of {Hc H : Hp} {x : V} {ns : List D} (h : RepTop K Hc H x (.dict [(.list [], .list ns)])) : ∃ (a : Addr) (ms : List Int), x = .ref a ∧ SqL K Hc a (ms.map V.int) ∧ ns = ms.map .int := by
  generalize hz : (PyData.dict [(.list [], .list ns)]) = z at h
  cases h with
  | @scr a ms q => exact ⟨a, ms, rfl, q, by simpa [scrD] using hz⟩
  | dK q r =>
    cases r with
    | nil => cases hz
    | @cons k _ _ _ _ _ _ => cases k <;> simp [kD] at hz
  | _ => cases hz
theorem dEq_case {oo : List (List Addr)} {H : Hp} {x y : V} {a b : D} {c : Bool} (rx : RepTop K (hid oo H) H x a) (ry : RepTop K (hid oo H) H y b) (e : dEq a b = .ok c) :
    ∃ d e, Dp K H x d ∧ Dp K H y e ∧ SeqAt.shaped d = true ∧ SeqAt.shaped e = true ∧ PyData.eqv d e = c := by
  unfold dEq at e
  split at e
  · rename_i s
    rw [Bool.and_eq_true] at s
    cases e
    exact ⟨a, b, rx.dp s.1, ry.dp s.2, s.1, s.2, rfl⟩
  · split at e
    · rename_i _ ns _
      cases e
      obtain ⟨a', ms, rfl, h, rfl⟩ := RepTop.scr_of rx
      cases ry with
      | lst h2 r2 =>
        refine ⟨.list (ms.map .int), .list [], .lst (Same.seq (hid_same oo H) h) (dp_ints ms), .lst (SqL.of h2) (by cases r2; exact .nil), shaped_ints ms, by decide, ?_⟩
        cases ms with
        | nil => rfl
        | cons m r => simp [PyData.eqv, PyData.eqvAll]
    · cases e
variable {X : Cx}
theorem primEq : PrimC K (rEqD K) dEq := by
  intro oo H x y a b c Q rx ry e q
  obtain ⟨d, f, h1, h2, h3, h4, h5⟩ := dEq_case rx ry e
  exact ⟨d, f, h1, h2, h3, h4, by rw [h5]; exact q⟩
theorem primNe : PrimC K (rNeD K) (dCmp .NotEq) := by
  intro oo H x y a b c Q rx ry e q
  have e' : (do Res.ok (!(← dEq a b))) = Res.ok c := e
  cases q0 : dEq a b with
  | ok c' =>
    rw [q0] at e'
    have ec : (!c') = c := by
      have z : Res.ok (!c') = Res.ok c := e'
      injection z
    obtain ⟨d, f, h1, h2, h3, h4, h5⟩ := dEq_case rx ry q0
    exact ⟨d, f, h1, h2, h3, h4, by rw [h5, ec]; exact q⟩
  | exc c' => rw [q0] at e'; cases e'
  | bad => rw [q0] at e'; cases e'
def rLt (K : PySem.W.Frag) : R2 := fun x y H Q => rI0 (fun i j => .bl (decide (i < j))) x y H Q ∨ rLtD K x y H Q
theorem opLt (hu : X.A.units + 65 < cLine) : OpR X (compareOp .Lt) (rLt X.K) := op_lt.or (opLtD hu)
theorem primLt : PrimC K (rLt K) dLt := by
  intro oo H x y a b c Q rx ry e q
  unfold dLt at e
  split at e
  · cases e
    cases rx
    cases ry
    exact .inl ⟨_, _, rfl, rfl, q⟩
  · split at e
    · rename_i s
      simp only [Bool.and_eq_true] at s
      cases e
      refine .inr ⟨a, b, rx.dp s.1.1, ry.dp s.1.2, s.2.1, fun z => ?_, SeqAt.depth_of_shaped s.1.1, q⟩
      rw [z] at s
      cases s.2.2
    · cases e
def rInA (K : PySem.W.Frag) : R2 := fun x y H Q => (∃ (c : Nat) (z : Str), x = .str ⟨#[c]⟩ ∧ y = .str z ∧ Q (.bl (decide (c ∈ z.cps.toList))) H) ∨ rInD K x y H Q ∨ rInT K false x y H Q
def rNotInA (K : PySem.W.Frag) : R2 := fun x y H Q => (∃ (c : Nat) (z : Str), x = .str ⟨#[c]⟩ ∧ y = .str z ∧ Q (.bl (!decide (c ∈ z.cps.toList))) H) ∨ rNotInD K x y H Q ∨ rInT K true x y H Q
theorem opInA (hu : X.A.units + 65 < cLine) : OpR X (compareOp .In) (rInA X.K) := op_in_sign.or ((op_inD hu).or (opInT hu))
theorem opNotInA (hu : X.A.units + 65 < cLine) : OpR X (compareOp .NotIn) (rNotInA X.K) := op_notIn_sign.or ((op_notInD hu).or (opNotInT hu))
theorem primIn : PrimC K (rInA K) dIn := by
  intro oo H x y a b c Q rx ry e q
  unfold dIn at e
  split at e
  · split at e
    · rename_i hc
      cases e
      cases rx
      cases ry
      exact .inl ⟨_, _, congrArg V.str (oneSign_eq hc), rfl, q⟩
    · cases e
  · split at e
    · rename_i s
      rw [Bool.and_eq_true] at s
      cases e
      exact .inr (.inl ⟨_, _, rx.dp s.1, ry.dp s.2, s.1, s.2, q⟩)
    · cases e
  · split at e
    · rename_i s
      rw [Bool.and_eq_true] at s
      cases e
      exact .inr (.inr ⟨_, _, rx.dp s.1, ry.dp s.2, s.1, s.2, q⟩)
    · cases e
  · cases e
theorem primNotIn : PrimC K (rNotInA K) (dCmp .NotIn) := by
  intro oo H x y a b c Q rx ry e q
  have e' : (do Res.ok (!(← dIn a b))) = Res.ok c := e
  unfold dIn at e'
  split at e'
  · split at e'
    · rename_i hc
      have z : Res.ok _ = Res.ok c := e'
      injection z with z
      cases rx
      cases ry
      exact .inl ⟨_, _, congrArg V.str (oneSign_eq hc), rfl, by rw [z]; exact q⟩
    · cases e'
  · split at e'
    · rename_i s
      rw [Bool.and_eq_true] at s
      have z : Res.ok _ = Res.ok c := e'
      injection z with z
      exact .inr (.inl ⟨_, _, rx.dp s.1, ry.dp s.2, s.1, s.2, by rw [z]; exact q⟩)
    · cases e'
  · split at e'
    · rename_i s
      rw [Bool.and_eq_true] at s
      have z : Res.ok _ = Res.ok c := e'
      injection z with z
      exact .inr (.inr ⟨_, _, rx.dp s.1, ry.dp s.2, s.1, s.2, by rw [if_pos rfl, z]; exact q⟩)
    · cases e'
  · cases e'
def rIsA : R2 := fun x y H Q => (y = .non ∧ Q (.bl (decide (x = .non))) H) ∨ rIsB x y H Q
def rIsNotA : R2 := fun x y H Q => (y = .non ∧ Q (.bl (!decide (x = .non))) H) ∨ rNotB x y H Q
theorem opIsA : OpR X (compareOp .Is) rIsA := op_isN.or op_isBl
theorem opIsNotA : OpR X (compareOp .IsNot) rIsNotA := op_notN.or op_notBl
theorem dIs_case {oo : List (List Addr)} {H : Hp} {x y : V} {a b : D} {c : Bool} (rx : RepTop K (hid oo H) H x a) (ry : RepTop K (hid oo H) H y b) (e : dIs a b = .ok c) :
    (y = .non ∧ decide (x = .non) = c) ∨ ∃ p q : Bool, x = .bl p ∧ y = .bl q ∧ decide (p = q) = c := by
  unfold dIs at e
  split at e <;> cases e
  case h_8 => cases rx; cases ry; exact .inr ⟨_, _, rfl, rfl, rfl⟩
  case h_1 => cases rx; cases ry; exact .inl ⟨rfl, rfl⟩
  all_goals (cases ry; refine .inl ⟨rfl, ?_⟩; apply decide_eq_false; intro z; subst z; cases rx)
theorem primIs : PrimC K rIsA (dCmp .Is) := by
  intro oo H x y a b c Q rx ry e q
  rcases dIs_case rx ry (show dIs a b = .ok c from e) with ⟨h1, h2⟩ | ⟨p, r, h1, h2, h3⟩
  · exact .inl ⟨h1, by rw [h2]; exact q⟩
  · exact .inr ⟨p, r, h1, h2, by rw [h3]; exact q⟩
theorem primIsNot : PrimC K rIsNotA (dCmp .IsNot) := by
  intro oo H x y a b c Q rx ry e q
  have e' : (do Res.ok (!(← dIs a b))) = Res.ok c := e
  cases q0 : dIs a b with
  | ok c' =>
    rw [q0] at e'
    have ec : (!c') = c := by
      have z : Res.ok (!c') = Res.ok c := e'
      injection z
    rcases dIs_case rx ry q0 with ⟨h1, h2⟩ | ⟨p, r, h1, h2, h3⟩
    · exact .inl ⟨h1, by rw [h2, ec]; exact q⟩
    · exact .inr ⟨p, r, h1, h2, by rw [h3, ec]; exact q⟩
  | exc c' => rw [q0] at e'; cases e'
  | bad => rw [q0] at e'; cases e'
/-- the comparisons' rules -/
def rCmp (K : PySem.W.Frag) : CmpOp → R2
  | .Eq => rEqD K
  | .NotEq => rNeD K
  | .Lt => rLt K
  | .LtE => rI0 fun i j => .bl (decide (i ≤ j))
  | .Gt => rI0 fun i j => .bl (decide (j < i))
  | .GtE => rI0 fun i j => .bl (decide (j ≤ i))
  | .In => rInA K
  | .NotIn => rNotInA K
  | .Is => rIsA
  | .IsNot => rIsNotA
theorem opCmp (hu : X.A.units + 65 < cLine) : ∀ o : CmpOp, OpR X (compareOp o) (rCmp X.K o)
  | .Eq => op_eqD (by omega)
  | .NotEq => op_neD (by omega)
  | .Lt => opLt hu
  | .LtE => op_le
  | .Gt => op_gt
  | .GtE => op_ge
  | .In => opInA hu
  | .NotIn => opNotInA hu
  | .Is => opIsA
  | .IsNot => opIsNotA
theorem primOrd {o : CmpOp} {f : Int → Int → Bool} (hf : ∀ i j, dCmp o (.int i) (.int j) = .ok (f i j)) (hn : ∀ a b c, dCmp o a b = .ok c → ∃ i j, a = .int i ∧ b = .int j) : PrimC K (rI0 fun i j => .bl (f i j)) (dCmp o) := by
  intro oo H x y a b c Q rx ry e q
  obtain ⟨i, j, rfl, rfl⟩ := hn a b c e
  rw [hf] at e
  cases e
  cases rx
  cases ry
  exact ⟨_, _, rfl, rfl, q⟩
theorem primCmp : ∀ o : CmpOp, PrimC K (rCmp K o) (dCmp o)
  | .Eq => primEq
  | .NotEq => primNe
  | .Lt => primLt
  | .LtE => primOrd (fun _ _ => rfl) fun a b c h => by cases a <;> cases b <;> first | exact ⟨_, _, rfl, rfl⟩ | cases h
  | .Gt => primOrd (fun _ _ => rfl) fun a b c h => by cases a <;> cases b <;> first | exact ⟨_, _, rfl, rfl⟩ | cases h
  | .GtE => primOrd (fun _ _ => rfl) fun a b c h => by cases a <;> cases b <;> first | exact ⟨_, _, rfl, rfl⟩ | cases h
  | .In => primIn
  | .NotIn => primNotIn
  | .Is => primIs
  | .IsNot => primIsNot
end
end HF

set_option Elab.async false
set_option autoImplicit false
set_option linter.all false
set_option maxRecDepth 100000
set_option maxHeartbeats 4000000
/-! Places, parts of sequences. -/
namespace HF
open PySem PySem.Spec PyProof.Rows L2
theorem adjust_rev (lo : Option Int) (n : Nat) : Builtin.Slice.sliceAdjust lo none (-1) (n : Int) = ((revK n lo : Int) - 1, -1) := by
  have h1 : ((-1 : Int) < 0) := by omega
  unfold Builtin.Slice.sliceAdjust
  simp only [h1, if_true]
  refine Prod.ext ?_ rfl
  cases lo with
  | none => rfl
  | some v =>
    show (if v < 0 then max (v + (n : Int)) (-1) else min v ((n : Int) - 1)) = ((if v < 0 then (v + n + 1).toNat else min (v.toNat + 1) n : Nat) : Int) - 1
    split <;> omega
theorem places_rev (k : Nat) : Builtin.Slice.slicePlaces ((k : Int) - 1) (-1) (-1) = k := by
  unfold Builtin.Slice.slicePlaces
  have h1 : ¬ ((-1 : Int) > 0) := by omega
  simp only [h1, if_false]
  have h2 : ((k : Int) - 1 - -1 - 1) / (- -1) = (k : Int) - 1 := by
    have e : (- -1 : Int) = 1 := rfl
    rw [e, Int.ediv_one]
    omega
  rw [h2]
  split <;> omega
theorem revK_le (n : Nat) (lo : Option Int) : revK n lo ≤ n := by
  cases lo with
  | none => exact Nat.le_refl _
  | some v =>
    show (if v < 0 then (v + n + 1).toNat else min (v.toNat + 1) n) ≤ n
    split <;> omega
theorem pick_rev {α : Type} (xs : List α) : ∀ k, k ≤ xs.length → ((List.range k).filterMap fun (m : Nat) => xs[(((k : Int) - 1) + (m : Int) * (-1)).toNat]?) = (xs.take k).reverse
  | 0, _ => by simp
  | k + 1, hk => by
    have ih := pick_rev xs k (by omega)
    have hlt : k < xs.length := by omega
    have e1 : xs[((((k + 1 : Nat) : Int) - 1) + ((0 : Nat) : Int) * (-1)).toNat]? = some xs[k] := by
      rw [show ((((k + 1 : Nat) : Int) - 1) + ((0 : Nat) : Int) * (-1)).toNat = k by omega]
      exact List.getElem?_eq_getElem hlt
    rw [List.range_succ_eq_map, List.filterMap_cons, e1, List.filterMap_map]
    have e2 : ((fun (m : Nat) => xs[((((k + 1 : Nat) : Int) - 1) + (m : Int) * (-1)).toNat]?) ∘ Nat.succ) = fun (m : Nat) => xs[(((k : Int) - 1) + (m : Int) * (-1)).toNat]? := by
      funext m
      show xs[((((k + 1 : Nat) : Int) - 1) + ((m + 1 : Nat) : Int) * (-1)).toNat]? = _
      rw [show ((((k + 1 : Nat) : Int) - 1) + ((m + 1 : Nat) : Int) * (-1)).toNat = (((k : Int) - 1) + (m : Int) * (-1)).toNat by omega]
    rw [e2, ih, List.take_succ_eq_append_getElem hlt, List.reverse_append]
    rfl
section
variable {X : Cx}
/-- a walk backwards through a tuple -/
theorem back_tuple {prog : Program} {w : World} {A : Around} {E : Value → Shared → Prop} {s : Shared} {t sl : Addr} {items : Array Value} {vl : Value} {lo : Option Int} {tk : Tok} {Q : Value → Shared → Prop}
    (ht : IsTup s.heap t items) (hs : s.heap.IsSliceOf sl vl .none (.int (-1) tk)) (pl : IsPart vl lo)
    (h : Q (.ref s.heap.objs.size) { s with heap := s.heap.push { cls := .type "tuple", data := .seq (revD items.toList lo).toArray } }) (hsz : items.size ≤ sizeLine) :
    wpAny (model prog w) A (getItem (.ref t) (.ref sl)) Q E s := by
  have hk : revK items.toList.length lo ≤ items.toList.length := revK_le _ _
  have fits : sizeOk (.seq (revD items.toList lo).toArray) := by
    show (revD items.toList lo).toArray.size ≤ sizeLine
    unfold revD
    rw [List.size_toArray, List.length_reverse, List.length_take, Array.length_toList]
    omega
  obtain ⟨os, hos, hcs, hds⟩ := id hs
  have hTs : s.TypeIs (.ref sl) "slice" := ⟨os, hos, hcs⟩
  unfold getItem
  refine wpAny_holding ?_
  refine wpAny_bind (wpAny_sequenceKey ht.typeIs (by decide) ?_)
  refine wpAny_bind (wpAny_callSpecial?_slot (name := Str.ofString "__getitem__") ht.typeIs PyProof.Rows.slot_tuple_getitem ?_)
  refine wpAny_call_entry PyProof.Rows.slot_tuple_getitem ht.typeIs entry_tuple_getitem ?_ (args_tuple_getitem _ _)
  show wpAny _ _ (Builtin.Tuple.tupleItemsOf (.ref t) >>= _) _ _ s
  refine wpAny_bind (tupleItemsOf_ ht ?_)
  refine wpAny_bind (wpAny_typeOf hTs ?_)
  rw [if_pos (by decide)]
  have app : ∀ {A : Around} {R : Int × Int × Nat → Shared → Prop}, R ((revK items.size lo : Int) - 1, -1, revK items.size lo) s → wpAny (model prog w) A (Builtin.Slice.sliceApplied (.ref sl) (pure (items.size : Int))) R E s := by
    intro A R hR
    unfold Builtin.Slice.sliceApplied Builtin.Slice.sliceFields
    refine wpAny_bind (wpAny_bind (wpAny_field hos hds (x := vl) rfl ?_))
    refine wpAny_bind (wpAny_field hos hds (x := .none) rfl ?_)
    refine wpAny_bind (wpAny_field hos hds (x := .int (-1) tk) rfl (wpAny_pure ?_))
    refine wpAny_bind (slicePart_int ?_)
    show wpAny _ _ (if ((-1 : Int) == 0) = true then _ else _) _ _ s
    rw [if_neg (by decide)]
    refine wpAny_bind (HT.slicePart_ pl (wpAny_bind (slicePart_none (wpAny_bind (wpAny_pure ?_)))))
    show wpAny _ _ (match Builtin.Slice.sliceAdjust lo none (-1) (items.size : Int) with | (lo, hi) => pure (lo, (-1 : Int), Builtin.Slice.slicePlaces lo hi (-1))) _ _ s
    rw [adjust_rev lo items.size]
    show wpAny _ _ (pure ((revK items.size lo : Int) - 1, (-1 : Int), Builtin.Slice.slicePlaces ((revK items.size lo : Int) - 1) (-1) (-1))) _ _ s
    rw [places_rev]
    exact wpAny_pure hR
  refine wpAny_bind (app ?_)
  have hno : ¬ ((((revK items.size lo : Int) - 1) == 0 && (-1 : Int) == 1 && revK items.size lo == items.size) = true) := by
    intro q
    rw [Bool.and_eq_true, Bool.and_eq_true] at q
    exact absurd (eq_of_beq q.1.2) (by decide)
  show wpAny _ _ (if (((revK items.size lo : Int) - 1) == 0 && (-1 : Int) == 1 && revK items.size lo == items.size) = true then _ else _) _ _ s
  have e3 : ((List.range (revK items.size lo)).filterMap fun (m : Nat) => items[(((revK items.size lo : Int) - 1) + (m : Int) * (-1)).toNat]?) = revD items.toList lo := by
    have q := pick_rev items.toList (revK items.toList.length lo) hk
    have e4 : (fun (m : Nat) => items[(((revK items.size lo : Int) - 1) + (m : Int) * (-1)).toNat]?) = fun (m : Nat) => items.toList[(((revK items.toList.length lo : Int) - 1) + (m : Int) * (-1)).toNat]? := by
      funext m
      rw [Array.length_toList, Array.getElem?_toList]
    rw [e4, ← Array.length_toList]
    exact q
  rw [if_neg hno, e3]
  first
    | exact wpAny_bind (m := Builtin.Tuple.tupleExact _) (wpAny_newObj_type (wpAny_pure ⟨_, rfl, wpAny_pure h⟩) fits)
    | exact wpAny_bind (m := Builtin.Tuple.tupleExact _) (wpAny_newObj_type (wpAny_bind (wpAny_pure (wpAny_pure ⟨_, rfl, wpAny_pure h⟩))) fits)
    | exact wpAny_bind (wpAny_bind (m := Builtin.Tuple.tupleExact _) (wpAny_newObj_type (wpAny_pure (wpAny_pure ⟨_, rfl, wpAny_pure h⟩)) fits))
    | exact wpAny_bind (wpAny_bind (m := Builtin.Tuple.tupleExact _) (wpAny_newObj_type (wpAny_pure ⟨_, rfl, wpAny_pure h⟩) fits))
/-- a[lo::-1] -/
def rRev (K : PySem.W.Frag) : V → Option Int → Hp → VK → Prop := fun x lo H Q =>
  (∃ a xs, x = .ref a ∧ SqL K H a xs ∧ lo = none ∧ ∀ p, H p = none → Q (.ref p) (upd H p (.lst xs.reverse))) ∨
  ∃ a xs, x = .ref a ∧ SqT K H a xs ∧ ∀ p, H p = none → Q (.ref p) (upd H p (.tup (revD xs lo)))
def tRev (K : PySem.W.Frag) (te : TE) (tl : TO) : TE := fun σ H Q => te σ H fun x H1 => tl σ H1 fun l H2 => rRev K x l H2 Q
theorem Vals.revD {xs : List V} {us : List Value} (r : Vals xs us) (lo : Option Int) : Vals (revD xs lo) (HF.revD us lo) := by
  unfold HF.revD
  rw [r.length]
  exact (r.take _).reverse
theorem pe_rev {e : Expr} {te : TE} {lo : Option Expr} {tl : TO} {k : Nat} {p1 p2 p3 pos : Pos} (he : PE X e te) (hl : PO X lo tl) :
    PE X (.Subscript e (.Slice lo none (some (.UnaryOp .USub (.Constant (.int 1) k p1) p2)) p3) pos) (tRev X.K te tl) := by
  refine ⟨fun pins s σ H Q I h => ?_⟩
  refine Subscript_ (thn (he.run pins s σ H _ I h) fun v s1 ⟨x, H1, I1, r1, q1⟩ => ?_)
  have hst : PO X (some (.UnaryOp .USub (.Constant (.int 1) k p1) p2)) (tPart (tUn (rU fun i => .int (-i)) (tC (.int 1)))) := po_some (pe_un un_neg pe_int)
  refine wpAny_Slice (thn (hl.run pins s1 σ H1 _ I1 q1) fun vl s2 ⟨l, H2, I2, pl, q2⟩ => ?_)
  refine thn (po_none.run pins s2 σ H2 (fun o H3 => o = none ∧ H3 = H2) I2 ⟨rfl, rfl⟩) fun vu s3 ⟨u, H3, I3, pu, eu, e3⟩ => ?_
  subst eu e3
  refine thn (hst.run pins s3 σ H3 (fun o H4 => o = some (-1) ∧ H4 = H3) I3 ⟨1, rfl, -1, rfl, rfl, rfl⟩) fun vs s4 ⟨o, H4, I4, ps, eo, e4⟩ => ?_
  subst eo e4
  have eu2 : vu = .none := by
    cases pu
    rfl
  obtain ⟨tk, es2⟩ : ∃ tk, vs = .int (-1) tk := by
    cases ps
    exact ⟨_, rfl⟩
  subst eu2 es2
  have I5 : Inv X pins σ H4 { s4 with heap := s4.heap.push { cls := .type "slice", data := .fields #[vl, .none, .int (-1) tk] } } := I4.kept (t' := s4.toks) fun b ob q => Heap.get?_push_of_some _ q
  rcases q2 with ⟨a, xs, ex, hx, el, q⟩ | ⟨a, xs, ex, hx, q⟩
  · subst ex el
    cases r1
    obtain ⟨its, r, ht, hz⟩ := I5.list hx
    have hlen := r.length
    show wpAny (model X.prog X.w) X.A (subscriptTail e (.Slice lo none (some (.UnaryOp .USub (.Constant (.int 1) k p1) p2)) p3) (.ref a) (.ref s4.heap.objs.size)) (EP X pins σ Q) X.xe
      { s4 with heap := s4.heap.push { cls := .type "slice", data := .fields #[vl, .none, .int (-1) tk] } }
    refine tail_any (ops := [.ref a, .ref s4.heap.objs.size]) ht.isList.typeIs (PySem.slot_list_getitem.lookup) ?_ (by with_unfolding_all rfl)
    refine wpAny_getItem_list_slice ht.isList (Heap.IsSliceOf.new _ vl .none (.int (-1) tk)) pl .none (.int _ _) (by decide) ?_ (by rw [List.size_toArray]; omega)
    rw [PySem.W.krv_pick]
    refine ⟨.ref _, _, I5.laid (t' := s4.toks) (o := .lst xs.reverse) (fun b ob q => Heap.get?_push_of_some _ q) (Nat.le_refl _) ?_, rfl, q _ (I5.hok.fresh (Nat.le_refl _))⟩
    exact ⟨by rw [List.length_reverse]; exact hz, _, 0, r.reverse, Heap.get?_push_size _ rfl⟩
  · subst ex
    cases r1
    obtain ⟨its, r, ht, hz⟩ := I5.tuple hx
    have hlen := r.length
    show wpAny (model X.prog X.w) X.A (subscriptTail e (.Slice lo none (some (.UnaryOp .USub (.Constant (.int 1) k p1) p2)) p3) (.ref a) (.ref s4.heap.objs.size)) (EP X pins σ Q) X.xe
      { s4 with heap := s4.heap.push { cls := .type "slice", data := .fields #[vl, .none, .int (-1) tk] } }
    refine tail_any (ops := [.ref a, .ref s4.heap.objs.size]) ht.typeIs PyProof.Rows.slot_tuple_getitem.lookup ?_ (by with_unfolding_all rfl)
    refine back_tuple ht (Heap.IsSliceOf.new _ vl .none (.int (-1) tk)) pl ?_ (by rw [List.size_toArray]; omega)
    refine ⟨.ref _, _, I5.laid (t' := s4.toks) (o := .tup (revD xs l)) (fun b ob q => Heap.get?_push_of_some _ q) (Nat.le_refl _) ?_, rfl, q _ (I5.hok.fresh (Nat.le_refl _))⟩
    refine ⟨?_, _, Vals.revD r l, IsTup.new _ _⟩
    unfold revD
    rw [List.length_reverse, List.length_take]
    omega
end
section
variable {K : PySem.W.Frag}
theorem RepAll.revD {H : Hp} {xs : List V} {ds : List D} (r : RepAll K H xs ds) (lo : Option Int) : RepAll K H (revD xs lo) (HF.revD ds lo) := by
  unfold HF.revD
  rw [r.len]
  exact (r.take _).rev
theorem RepAll.cut {H : Hp} {xs : List V} {ds : List D} (r : RepAll K H xs ds) (lo hi : Option Int) : RepAll K H (cutV xs lo hi) (cutD ds lo hi) := by
  unfold cutV cutD
  rw [r.len]
  exact (r.drop _).take _
theorem primRev {oo : List (List Addr)} {H : Hp} {x : V} {a d : D} {lo : Option Int} {Q : VK} (n : Nw oo H) (rx : RepTop K (hid oo H) H x a) (e : dRev a lo = .ok d) (w : Want K oo H d Q) : rRev K x lo H Q := by
  unfold dRev at e
  split at e
  · cases e
    cases rx with
    | lst h r => exact .inl ⟨_, _, rfl, SqL.of h, rfl, fun p hp => w.list n hp r.rev⟩
  · cases e
    cases rx with
    | tup h r => exact .inr ⟨_, _, rfl, Same.sqT (hid_same oo H) h, fun p hp => w.tup n hp (r.revD lo)⟩
  · cases e
def rSl (K : PySem.W.Frag) : V → Option Int → Option Int → Hp → VK → Prop := fun x lo hi H Q => rSlL K x lo hi H Q ∨ rSlA K x lo hi H Q
theorem cutD_whole {α : Type} (xs : List α) (lo hi : Option Int) (h : HT.sIx xs.length 0 lo = 0 ∧ HT.sIx xs.length xs.length hi = xs.length) : cutD xs lo hi = xs := by
  unfold cutD
  rw [h.1, h.2]
  simp
theorem primSl {oo : List (List Addr)} {H : Hp} {x : V} {a d : D} {lo hi : Option Int} {Q : VK} (n : Nw oo H) (rx : RepTop K (hid oo H) H x a) (e : dSl a lo hi = .ok d) (w : Want K oo H d Q) : rSl K x lo hi H Q := by
  unfold dSl at e
  split at e
  · cases e
    cases rx with
    | lst h r => exact .inl ⟨_, _, rfl, SqL.of h, fun p hp => w.list n hp (r.cut lo hi)⟩
  · cases e
    cases rx with
    | tup h r =>
      refine .inr ⟨_, _, rfl, Same.sqT (hid_same oo H) h, fun z => ?_, fun _ p hp => w.tup n hp (r.cut lo hi)⟩
      rw [r.len] at z
      rw [cutD_whole _ lo hi z] at w
      exact w.base (.tup h r) rfl
  · cases e
variable {X : Cx}
theorem slA : SlR X (rSl X.K) := sl_list.or sl_tupA
theorem atI_len {α β : Type} {xs : List α} {ys : List β} (h : xs.length = ys.length) (i : Int) : ixN xs.length i = ixN ys.length i := by rw [h]
theorem RepAll.atI {H : Hp} {xs : List V} {ds : List D} {i : Int} {d : D} (r : RepAll K H xs ds) (h : L2.atI ds i = some d) : ∃ v, L2.atI xs i = some v ∧ Rep K H v d := by
  unfold L2.atI at h ⊢
  rw [r.len]
  cases e : ixN ds.length i with
  | none => rw [e] at h; cases h
  | some j =>
    rw [e] at h
    exact r.get h
theorem atI_ints {i : Int} {d : D} {ns : List Int} (h : atI (ns.map PyData.int) i = some d) : ∃ m, d = .int m ∧ atI (ns.map V.int) i = some (.int m) := by
  unfold atI at h ⊢
  rw [List.length_map] at h ⊢
  cases e : ixN ns.length i with
  | none => rw [e] at h; cases h
  | some j =>
    rw [e] at h
    have h' : (ns.map PyData.int)[j]? = some d := h
    rw [List.getElem?_map] at h'
    cases q : ns[j]? with
    | none => rw [q] at h'; cases h'
    | some m =>
      rw [q] at h'
      refine ⟨m, (Option.some.inj h').symm, ?_⟩
      show (ns.map V.int)[j]? = some (.int m)
      rw [List.getElem?_map, q]
      rfl
/-- an item: nothing new -/
theorem primIx {oo : List (List Addr)} {H : Hp} {x y : V} {a b d : D} {Q : VK} (rx : RepTop K (hid oo H) H x a) (ry : RepTop K (hid oo H) H y b) (e : dIx a b = .ok d)
    (w : ∀ v, Rep K (hid oo H) v d → Q v H) : rIx K x y H Q := by
  unfold dIx at e
  split at e
  · split at e
    · rename_i h0
      cases e
      cases ry
      cases rx with
      | lst h r =>
        obtain ⟨v, h1, h2⟩ := r.atI h0
        exact .inl ⟨_, _, _, _, rfl, rfl, SqL.of h, h1, w v h2⟩
    · cases e
  · split at e
    · rename_i h0
      cases e
      cases ry
      cases rx with
      | tup h r =>
        obtain ⟨v, h1, h2⟩ := r.atI h0
        exact .inr (.inl ⟨_, _, _, _, rfl, rfl, Same.sqT (hid_same oo H) h, h1, w v h2⟩)
    · cases e
  · split at e
    · rename_i h0
      cases e
      cases ry
      obtain ⟨p, ms, rfl, h, rfl⟩ := RepTop.scr_of rx
      obtain ⟨m, rfl, h1⟩ := atI_ints h0
      exact .inl ⟨_, _, _, _, rfl, rfl, Same.seq (hid_same oo H) h, h1, w _ (.int m)⟩
    · cases e
  · split at e
    · split at e
      · rename_i h0 h1
        cases e
        cases ry
        cases rx
        exact .inr (.inr ⟨_, _, _, rfl, rfl, by rw [line_eq]; exact h1, h0, w _ (.str _)⟩)
      · cases e
    · cases e
  · cases e
end
end HF

set_option Elab.async false
set_option autoImplicit false
set_option linter.all false
set_option maxRecDepth 100000
set_option maxHeartbeats 4000000
/-! Built-ins. -/
namespace HF
open PySem PySem.Spec PyProof.Rows L2
/-- arguments -/
abbrev Tops (K : PySem.W.Frag) (Hc H : Hp) : List V → List D → Prop := Paired (RepTop K Hc H)
def PrimB (K : PySem.W.Frag) (r : List V → Hp → VK → Prop) (g : List D → Res D) : Prop :=
  ∀ (oo : List (List Addr)) (H : Hp) (xs : List V) (ds : List D) (d : D) (Q : VK), Nw oo H → Tops K (hid oo H) H xs ds → g ds = .ok d → Want K oo H d Q → r xs H Q
/-! ### sorted -/
theorem zip_each {R : Value → V → Prop} {K : PySem.W.Frag} {H : Hp} : ∀ {us : List Value} {vs : List V} {ds : List D}, Vals vs us → RepAll K H vs ds →
    PySem.W.EachIs (fun (u : Value) (p : V × D) => RelV p.1 u ∧ Rep K H p.1 p.2) us (vs.zip ds)
  | _, _, _, .nil, .nil => .nil
  | _, _, _, .cons r q, .cons r2 q2 => .cons ⟨r, r2⟩ (zip_each (R := R) q q2)
theorem each_out {K : PySem.W.Frag} {H : Hp} : ∀ {us : List Value} {ps : List (V × D)}, PySem.W.EachIs (fun (u : Value) (p : V × D) => RelV p.1 u ∧ Rep K H p.1 p.2) us ps →
    Vals (ps.map (·.1)) us ∧ RepAll K H (ps.map (·.1)) (ps.map (·.2))
  | _, _, .nil => ⟨.nil, .nil⟩
  | _, _, .cons h t => by
    obtain ⟨a, b⟩ := each_out t
    exact ⟨.cons h.1 a, .cons h.2 b⟩
/-- sorted(l): which items stand where -/
def rSortA (K : PySem.W.Frag) : List V → Hp → VK → Prop := fun vs H Q => ∃ (oo : List (List Addr)) (a : Addr) (xs : List V) (ds : List D), vs = [.ref a] ∧ H a = some (.lst xs) ∧ RepAll K (hid oo H) xs ds ∧ sortOk ds = true ∧
  ∀ (ys : List V) (p : Addr), RepAll K (hid oo H) ys (ds.mergeSort fun a b => !PySem.W.dataLt b a) → H p = none → Q (.ref p) (upd H p (.lst ys))
theorem sortOk_parts {ds : List D} (h : sortOk ds = true) : (∀ d ∈ ds, SeqAt.shaped d = true) ∧ PySem.W.AllAlike ds ∧ PySem.W.Sortable ds := by
  unfold sortOk at h
  simp only [Bool.and_eq_true, Bool.or_eq_true, List.all_eq_true] at h
  refine ⟨h.1.1, fun a ha b hb => h.1.2 a ha b hb, ?_⟩
  rcases h.2 with q | q
  · refine .inl fun d hd => ?_
    have z := q d hd
    cases d with
    | tuple xs =>
      cases xs with
      | nil => cases z
      | cons x r => exact ⟨x, r, rfl⟩
    | _ => cases z
  · refine .inr fun d hd => ?_
    have z := q d hd
    constructor
    · rintro rfl; cases z
    · rintro xs rfl; cases z
theorem crSortA {X : Cx} (hu : X.A.units + 80 < cLine) : CallR X (.builtin "sorted") (rSortA X.K) := by
  intro pins s σ H vs us Q I r h
  obtain ⟨oo, a, xs, ds, rfl, ha, hr, ok, q⟩ := h
  obtain ⟨sh, al, so⟩ := sortOk_parts ok
  obtain ⟨its, rv, hl, hz⟩ := I.list (SqL.of ha)
  rw [Vals.ref1 r]
  have hlen : xs.length = ds.length := hr.len
  have e := zip_each (R := fun _ _ => True) rv hr
  have hmap : (xs.zip ds).map (·.2) = ds := by rw [List.map_snd_zip (by omega)]
  have er : PySem.W.EachIs (fun (u : Value) (p : V × D) => ∃ as, Reads s.heap u p.2 as) its (xs.zip ds) := by
    refine PySem.W.EachIs.of_zip (by rw [List.length_zip, ← rv.length]; omega) fun p hp => ?_
    have h1 := e.zip p hp
    have h2 : p.2.2 ∈ ds := by
      have := (List.of_mem_zip hp).2
      exact (List.of_mem_zip this).2
    exact Dp.reads I p.2.2 p.2.1 p.1 (Rep.dp _ (h1.2.mono (hid_same oo H)) (SeqAt.canLay_of_shaped (sh _ h2))) h1.1
  have hdep : ∀ b, b ∈ xs.zip ds → X.A.units + 2 + b.2.depth < cLine := fun b hb => by
    have := SeqAt.depth_of_shaped (sh _ (List.of_mem_zip hb).2)
    omega
  refine PySem.W.sorted_data (enc := fun p : V × D => p.2) hl.isList e er (by rw [hmap]; exact al) (by rw [hmap]; exact so) (by rw [List.length_zip]; omega) hdep fun out h1 h2 => ?_
  obtain ⟨ep, he'⟩ := PyProof.Rows.sortedAll_at s.heap its out.toArray
  obtain ⟨v1, v2⟩ := each_out h2
  have e5 : ((xs.zip ds).mergeSort (PySem.W.dataLe false fun p : V × D => p.2)).map (·.2) = ds.mergeSort fun a b => !PySem.W.dataLt b a := by
    rw [PySem.W.dataLe_eq]
    have := PySem.W.sort_maps (r := fun a b : V × D => !PySem.W.dataLt b.2 a.2) (s := fun a b => !PySem.W.dataLt b a) (fun p : V × D => p.2) (l := xs.zip ds) (fun _ _ _ _ => rfl)
    rw [hmap] at this
    exact this
  rw [e5] at v2
  have hz2 : (((xs.zip ds).mergeSort (PySem.W.dataLe false fun p : V × D => p.2)).map (·.1)).length ≤ sizeLine := by
    rw [v1.length, h1, List.length_zip]
    omega
  exact ⟨.ref _, upd H (s.heap.objs.size + 1) (.lst _), I.laid (t' := s.toks) (fun _ _ => PyProof.Rows.sortedAll_old) (Nat.le_succ _) ⟨hz2, out, ep, v1, by simpa using he'⟩, rfl, q _ _ v2 (I.hok.fresh (Nat.le_succ _))⟩

section
variable {K : PySem.W.Frag}
theorem bools_of : ∀ {xs : List D} {bs : List Bool}, xs.mapM boolOf = some bs → xs = bs.map .bool
  | [], bs, h => by
    have e : some [] = some bs := by simpa using h
    cases e
    rfl
  | x :: xs, bs, h => by
    rw [List.mapM_cons] at h
    cases e1 : boolOf x with
    | none => rw [e1] at h; cases h
    | some b =>
      rw [e1] at h
      cases e2 : xs.mapM boolOf with
      | none => rw [e2] at h; cases h
      | some r =>
        rw [e2] at h
        have e3 : some (b :: r) = some bs := h
        cases e3
        rw [List.map_cons, bools_of e2]
        cases x <;> cases e1
        rfl
theorem ints_of : ∀ {xs : List D} {bs : List Int}, xs.mapM intOf = some bs → xs = bs.map .int
  | [], bs, h => by
    have e : some [] = some bs := by simpa using h
    cases e
    rfl
  | x :: xs, bs, h => by
    rw [List.mapM_cons] at h
    cases e1 : intOf x with
    | none => rw [e1] at h; cases h
    | some b =>
      rw [e1] at h
      cases e2 : xs.mapM intOf with
      | none => rw [e2] at h; cases h
      | some r =>
        rw [e2] at h
        have e3 : some (b :: r) = some bs := h
        cases e3
        rw [List.map_cons, ints_of e2]
        cases x <;> cases e1
        rfl
def rLenA (K : PySem.W.Frag) : List V → Hp → VK → Prop := fun xs H Q => ∃ x n, xs = [x] ∧ LenV K x H n ∧ Q (.int n) H
def rTupA (K : PySem.W.Frag) : List V → Hp → VK → Prop := fun xs H Q => ∃ p ys, xs = [.ref p] ∧ ((SqL K H p ys ∧ ∀ l, H l = none → Q (.ref l) (upd H l (.tup ys))) ∨ (SqT K H p ys ∧ Q (.ref p) H))
def rLstA (K : PySem.W.Frag) : List V → Hp → VK → Prop := fun xs H Q => ∃ p ys, xs = [.ref p] ∧ (SqL K H p ys ∨ SqT K H p ys) ∧ ∀ l, H l = none → Q (.ref l) (upd H l (.lst ys))
def rAbs : List V → Hp → VK → Prop := fun xs H Q => ∃ i, xs = [.int i] ∧ Q (.int (if i < 0 then -i else i)) H
def rMin2 : List V → Hp → VK → Prop := fun xs H Q => ∃ i j, xs = [.int i, .int j] ∧ Q (.int (if j < i then j else i)) H
def rMax2 : List V → Hp → VK → Prop := fun xs H Q => ∃ i j, xs = [.int i, .int j] ∧ Q (.int (if j > i then j else i)) H
theorem tops1 {Hc H : Hp} {xs : List V} {a : D} (t : Tops K Hc H xs [a]) : ∃ x, xs = [x] ∧ RepTop K Hc H x a := by
  cases t with
  | cons r q =>
    cases q
    exact ⟨_, rfl, r⟩
theorem tops2 {Hc H : Hp} {xs : List V} {a b : D} (t : Tops K Hc H xs [a, b]) : ∃ x y, xs = [x, y] ∧ RepTop K Hc H x a ∧ RepTop K Hc H y b := by
  cases t with
  | cons r q =>
    cases q with
    | cons r2 q2 =>
      cases q2
      exact ⟨_, _, rfl, r, r2⟩
theorem prim1 {r : List V → Hp → VK → Prop} {f : D → Res D}
    (h : ∀ (oo : List (List Addr)) (H : Hp) (x : V) (a d : D) (Q : VK), Nw oo H → RepTop K (hid oo H) H x a → f a = .ok d → Want K oo H d Q → r [x] H Q) : PrimB K r (d1 f) := by
  intro oo H xs ds d Q n t e w
  match ds, t, e with
  | [a], t, e =>
    obtain ⟨x, rfl, r1⟩ := tops1 t
    exact h oo H x a d Q n r1 e w
  | [], _, e => cases e
  | _ :: _ :: _, _, e => cases e
theorem prim2 {r : List V → Hp → VK → Prop} {f : D → D → Res D}
    (h : ∀ (oo : List (List Addr)) (H : Hp) (x y : V) (a b d : D) (Q : VK), Nw oo H → RepTop K (hid oo H) H x a → RepTop K (hid oo H) H y b → f a b = .ok d → Want K oo H d Q → r [x, y] H Q) : PrimB K r (d2 f) := by
  intro oo H xs ds d Q n t e w
  match ds, t, e with
  | [a, b], t, e =>
    obtain ⟨x, y, rfl, r1, r2⟩ := tops2 t
    exact h oo H x y a b d Q n r1 r2 e w
  | [], _, e => cases e
  | [_], _, e => cases e
  | _ :: _ :: _ :: _, _, e => cases e
theorem primLen : PrimB K (rLenA K) (dBi .len) := prim1 fun oo H x a d Q n t e w => by
  unfold dLen at e
  split at e
  · cases e
    cases t with
    | lst h r => exact ⟨_, _, rfl, .inl ⟨_, SqL.of h, rfl⟩, by rw [r.len]; exact w.base (.int _) rfl⟩
  · cases e
    cases t with
    | tup h r => exact ⟨_, _, rfl, .inr ⟨_, Same.sqT (hid_same oo H) h, rfl⟩, by rw [r.len]; exact w.base (.int _) rfl⟩
  · cases e
    obtain ⟨p, ms, rfl, h, rfl⟩ := RepTop.scr_of t
    exact ⟨_, _, rfl, .inl ⟨_, Same.seq (hid_same oo H) h, rfl⟩, by rw [List.length_map] at w ⊢; exact w.base (.int _) rfl⟩
  · split at e
    · cases e
      cases t
      exact ⟨_, _, rfl, ⟨by rw [line_eq]; assumption, rfl⟩, w.base (.int _) rfl⟩
    · cases e
  · cases e
theorem primAll : PrimB K (rAll K) (dBi .all) := prim1 fun oo H x a d Q n t e w => by
  unfold dAll at e
  split at e
  · split at e
    · rename_i bs hb
      cases e
      cases t with
      | lst h r =>
        rw [bools_of hb] at r
        rw [r.bools] at h
        exact ⟨_, bs, rfl, SqL.of h, w.base (.bl _) rfl⟩
    · cases e
  · cases e
theorem primAny : PrimB K (rAny K) (dBi .any) := prim1 fun oo H x a d Q n t e w => by
  unfold dAny at e
  split at e
  · split at e
    · rename_i bs hb
      cases e
      cases t with
      | lst h r =>
        rw [bools_of hb] at r
        rw [r.bools] at h
        exact ⟨_, bs, rfl, SqL.of h, w.base (.bl _) rfl⟩
    · cases e
  · cases e
theorem primTuple : PrimB K (rTupA K) (dBi .tuple) := prim1 fun oo H x a d Q n t e w => by
  unfold dTuple at e
  split at e
  · cases e
    cases t with
    | lst h r => exact ⟨_, _, rfl, .inl ⟨SqL.of h, fun l hl => w.tup n hl r⟩⟩
  · cases e
    cases t with
    | tup h r => exact ⟨_, _, rfl, .inr ⟨Same.sqT (hid_same oo H) h, w.base (.tup h r) rfl⟩⟩
  · cases e
/-- list(x): a list, a tuple, a text -/
def rLstB (K : PySem.W.Frag) : List V → Hp → VK → Prop := fun xs H Q => rLstA K xs H Q ∨ ∃ z : Str, xs = [.str z] ∧ z.length ≤ 1000 ∧ ∀ l, H l = none → Q (.ref l) (upd H l (.lst (z.cps.toList.map fun c => .str ⟨#[c]⟩)))
theorem RepAll.signs {H : Hp} : ∀ l : List Nat, RepAll K H (l.map fun c => .str ⟨#[c]⟩) (l.map fun c => .str ⟨#[c]⟩)
  | [] => .nil
  | c :: r => .cons (.str _) (RepAll.signs r)
theorem primList : PrimB K (rLstB K) (dBi .list) := prim1 fun oo H x a d Q n t e w => by
  unfold dList at e
  split at e
  · cases e
    cases t with
    | lst h r => exact .inl ⟨_, _, rfl, .inl (SqL.of h), fun l hl => w.list n hl r⟩
  · cases e
    cases t with
    | tup h r => exact .inl ⟨_, _, rfl, .inr (Same.sqT (hid_same oo H) h), fun l hl => w.list n hl r⟩
  · split at e
    · rename_i hz
      cases e
      cases t
      exact .inr ⟨_, rfl, hz, fun l hl => w.list n hl (RepAll.signs _)⟩
    · cases e
  · cases e
def leD (a b : D) : Bool := !PySem.W.dataLt b a
theorem leD_trans (a b c : D) (h : leD a b = true) (h' : leD b c = true) : leD a c = true := by
  unfold leD at *
  rw [Bool.not_eq_true'] at *
  cases q : PySem.W.dataLt c a with
  | false => rfl
  | true =>
    cases r : PySem.W.dataLt a b with
    | true =>
      have z := lex_trans _ _ _ q r
      have z' : PySem.W.dataLt c b = true := z
      rw [h'] at z'
      cases z'
    | false =>
      have e := lex_total _ _ r h
      have q' : lexLt itemOrd (PySem.W.keyToks c) (PySem.W.keyToks a) = true := q
      rw [e] at q'
      have z' : PySem.W.dataLt c b = true := q'
      rw [h'] at z'
      cases z'
theorem leD_total (a b : D) : (leD a b || leD b a) = true := by
  unfold leD
  cases q : PySem.W.dataLt b a with
  | false => rfl
  | true =>
    cases r : PySem.W.dataLt a b with
    | false => rfl
    | true =>
      have z := lex_trans _ _ _ q r
      rw [lex_irrefl] at z
      cases z
theorem ins_split {a : D} : ∀ {l₁ l₂ : List D}, (∀ b ∈ l₁, (!leD a b) = true) → (∀ b ∈ l₂, leD a b = true) → insD a (l₁ ++ l₂) = l₁ ++ a :: l₂
  | [], [], _, _ => rfl
  | [], b :: r, _, h => by
    show (if PySem.W.dataLt b a = true then b :: insD a r else a :: b :: r) = a :: b :: r
    have q := h b List.mem_cons_self
    unfold leD at q
    rw [Bool.not_eq_true'] at q
    rw [if_neg (by rw [q]; decide)]
  | c :: l, l₂, h, h' => by
    show (if PySem.W.dataLt c a = true then c :: insD a (l ++ l₂) else a :: c :: (l ++ l₂)) = c :: (l ++ a :: l₂)
    have q := h c List.mem_cons_self
    unfold leD at q
    rw [Bool.not_not] at q
    rw [if_pos q, ins_split (fun b hb => h b (List.mem_cons_of_mem _ hb)) h']
theorem merge_isort : ∀ xs : List D, xs.mergeSort (fun a b => !PySem.W.dataLt b a) = isort xs
  | [] => by simp [isort]
  | a :: l => by
    show (a :: l).mergeSort leD = insD a (isort l)
    obtain ⟨l₁, l₂, h1, h2, h3⟩ := List.mergeSort_cons leD_trans leD_total a l
    have p := List.pairwise_mergeSort leD_trans leD_total (a :: l)
    rw [h1] at p ⊢
    rw [← merge_isort l]
    show _ = insD a (l.mergeSort leD)
    rw [h2]
    refine (ins_split h3 fun b hb => ?_).symm
    have p2 := (List.pairwise_append.mp p).2.1
    exact (List.pairwise_cons.mp p2).1 b hb
theorem primSorted : PrimB K (rSortA K) (dBi .sorted) := prim1 fun oo H x a d Q n t e w => by
  unfold dSorted at e
  split at e
  · split at e
    · rename_i ok
      cases e
      cases t with
      | lst h r => exact ⟨oo, _, _, _, rfl, h, r, ok, fun ys p hy hp => w.list n hp (by rw [merge_isort] at hy; exact hy)⟩
    · cases e
  · cases e
theorem primAbs : PrimB K rAbs (dBi .abs) := prim1 fun oo H x a d Q n t e w => by
  unfold dAbs at e
  split at e
  · cases e
    cases t
    exact ⟨_, rfl, w.base (.int _) rfl⟩
  · cases e
theorem primMin2 : PrimB K rMin2 (dBi .min2) := prim2 fun oo H x y a b d Q n t t2 e w => by
  unfold dMin2 at e
  split at e
  · cases e
    cases t
    cases t2
    exact ⟨_, _, rfl, w.base (.int _) rfl⟩
  · cases e
theorem primMax2 : PrimB K rMax2 (dBi .max2) := prim2 fun oo H x y a b d Q n t t2 e w => by
  unfold dMax2 at e
  split at e
  · cases e
    cases t
    cases t2
    exact ⟨_, _, rfl, w.base (.int _) rfl⟩
  · cases e
theorem primSum : PrimB K (rSum K) (dBi .sum) := prim1 fun oo H x a d Q n t e w => by
  unfold dSum at e
  split at e
  · split at e
    · rename_i bs hb
      cases e
      cases t with
      | lst h r =>
        rw [ints_of hb] at r
        rw [r.ints] at h
        exact ⟨_, bs, rfl, SqL.of h, w.base (.int _) rfl⟩
    · cases e
  · cases e
end
/-- max of a list or a tuple of numbers -/
theorem foldl_max (n : Int) : ∀ ns : List Int, (∀ y ∈ ns, y ≤ ns.foldl max n) ∧ n ≤ ns.foldl max n ∧ (ns.foldl max n = n ∨ ns.foldl max n ∈ ns) := by
  intro ns
  induction ns generalizing n with
  | nil => exact ⟨fun y h => (nomatch h), Int.le_refl _, .inl rfl⟩
  | cons m r ih =>
    obtain ⟨h1, h2, h3⟩ := ih (max n m)
    have e : (m :: r).foldl max n = r.foldl max (max n m) := rfl
    rw [e]
    refine ⟨fun y hy => ?_, by omega, ?_⟩
    · rcases List.mem_cons.mp hy with rfl | hy
      · omega
      · exact h1 y hy
    · rcases h3 with h3 | h3
      · rw [h3]
        by_cases z : n ≤ m
        · exact .inr (by rw [show max n m = m by omega]; exact List.mem_cons_self)
        · exact .inl (by omega)
      · exact .inr (List.mem_cons_of_mem _ h3)
end HF

set_option Elab.async false
set_option autoImplicit false
set_option linter.all false
set_option maxRecDepth 100000
set_option maxHeartbeats 4000000
/-! Least and greatest, a text's signs, isinstance; all built-ins together. -/
namespace HF
open PySem PySem.Spec PyProof.Rows L2
section
variable {X : Cx}
/-- min(l), max(l), l a list or a tuple -/
def rBest (K : PySem.W.Frag) (f : D → List D → D) : List V → Hp → VK → Prop := fun vs H Q => ∃ (Hc : Hp) (a : Addr) (xs : List V) (x : D) (ds : List D), vs = [.ref a] ∧ (H a = some (.lst xs) ∨ SqT K H a xs) ∧ Same Hc H ∧ RepAll K Hc xs (x :: ds) ∧ minOk (x :: ds) = true ∧
  ∀ v, Rep K Hc v (f x ds) → Q v H
theorem minOk_parts {ds : List D} (h : minOk ds = true) : (∀ d ∈ ds, SeqAt.shaped d = true) ∧ PySem.W.AlikeAll ds := by
  unfold minOk at h
  simp only [Bool.and_eq_true, List.all_eq_true] at h
  refine ⟨fun d hd => (h.1 d hd).1, fun a ha b hb => h.2 a ha b hb, fun d hd e => ?_⟩
  have := (h.1 d hd).2
  rw [e] at this
  cases this
theorem lay_of : ∀ {ds : List D}, (∀ d ∈ ds, SeqAt.shaped d = true) → PyData.canLayAll0 ds = true ∧ PyData.depthAll ds ≤ 64
  | [], _ => ⟨rfl, by simp [PyData.depthAll]⟩
  | d :: r, h => by
    obtain ⟨h1, h2⟩ := lay_of fun x hx => h x (List.mem_cons_of_mem _ hx)
    have h3 := h d List.mem_cons_self
    have h4 := SeqAt.depth_of_shaped h3
    refine ⟨by simp [PyData.canLayAll0, h1, SeqAt.canLay_of_shaped h3], ?_⟩
    simp only [PyData.depthAll]
    omega
theorem best_back {H Hc : Hp} {pins : List (Addr × Obj)} {σ : L2.St} {s : Shared} {its : List Value} {xs : List V} {ds : List D} {i : Nat} {v : Value} {m : D} {bs : List Addr} (I : L2.Inv X pins σ H s) (rv : Vals xs its) (e : Same Hc H) (hr : RepAll X.K Hc xs ds)
    (sh : ∀ d ∈ ds, SeqAt.shaped d = true) (al : ∀ d ∈ ds, PySem.W.alike d m = true) (hi : its.toArray[i]? = some v) {h' : Heap} (hk : ∀ b o, s.heap.get? b = some o → h'.get? b = some o) (hm : Reads h' v m bs) : ∃ x, RelV x v ∧ Rep X.K Hc x m := by
  have hi' : its[i]? = some v := by simpa using hi
  have hlt : i < its.length := (List.getElem?_eq_some_iff.mp hi').1
  have hlt2 : i < xs.length := by rw [rv.length]; exact hlt
  obtain ⟨u, hu, ru⟩ := rv.get (List.getElem?_eq_getElem hlt2)
  rw [hi'] at hu
  cases hu
  obtain ⟨d, hd, rd⟩ := hr.getV (List.getElem?_eq_getElem hlt2)
  have hmem : d ∈ ds := List.mem_of_getElem? hd
  obtain ⟨as, r1⟩ := Dp.reads I d xs[i] v (Rep.dp d (rd.mono e) (SeqAt.canLay_of_shaped (sh d hmem))) ru
  have z : d = m := PySem.W.alike_unique d m v as bs (al d hmem) (PyProof.Rows.Reads.keeps hk r1) hm
  rw [← z]
  exact ⟨_, ru, rd⟩
theorem foldl_mem {f : D → D → D} (hf : ∀ a b, f a b = a ∨ f a b = b) : ∀ (ds : List D) (x : D), ds.foldl f x ∈ x :: ds
  | [], x => List.mem_cons_self
  | d :: r, x => by
    have h := foldl_mem hf r (f x d)
    rw [List.foldl_cons]
    rcases List.mem_cons.mp h with h | h
    · rw [h]
      rcases hf x d with e | e
      · rw [e]; exact List.mem_cons_self
      · rw [e]; exact List.mem_cons_of_mem _ List.mem_cons_self
    · exact List.mem_cons_of_mem _ (List.mem_cons_of_mem _ h)
theorem minD_mem (x : D) (ds : List D) : PySem.W.minD x ds ∈ x :: ds := foldl_mem (fun a b => by split <;> simp) ds x
theorem maxD_mem (x : D) (ds : List D) : PySem.W.maxD x ds ∈ x :: ds := foldl_mem (fun a b => by split <;> simp) ds x
theorem crMin (hu : X.A.units + 80 < cLine) (hc : X.calm = true) : CallR X (.builtin "min") (rBest X.K PySem.W.minD) := by
  intro pins s σ H vs us Q I r h
  obtain ⟨Hc, a, xs, x, ds, rfl, ha, e, hr, ok, q⟩ := h
  obtain ⟨sh, al⟩ := minOk_parts ok
  obtain ⟨hl, hd⟩ := lay_of sh
  rw [Vals.ref1 r]
  rcases ha with ha | ha
  · obtain ⟨its, rv, p, hz⟩ := I.list (SqL.of ha)
    obtain ⟨as, ra⟩ := Dp.readsAll I _ _ _ (RepAll.dp _ (hr.mono e) hl) rv
    refine PySem.W.min_list_data (I.ok.hd hc) p.isList (by simpa using ra) al (by omega) fun i v h' tk bs hi hm hk => ?_
    obtain ⟨y, ry, rep⟩ := best_back I rv e hr sh (fun d hd => al.1 d hd _ (minD_mem x ds)) hi hk hm
    exact ⟨y, H, I.kept hk, ry, q y rep⟩
  · obtain ⟨its, rv, p, hz⟩ := I.tuple ha
    obtain ⟨as, ra⟩ := Dp.readsAll I _ _ _ (RepAll.dp _ (hr.mono e) hl) rv
    refine PySem.W.min_tuple_data (I.ok.hd hc) (show s.heap.IsTuple a its.toArray from p) (by simpa using ra) al (by omega) fun i v h' tk bs hi hm hk => ?_
    obtain ⟨y, ry, rep⟩ := best_back I rv e hr sh (fun d hd => al.1 d hd _ (minD_mem x ds)) hi hk hm
    exact ⟨y, H, I.kept hk, ry, q y rep⟩
theorem crMax (hu : X.A.units + 80 < cLine) (hc : X.calm = true) : CallR X (.builtin "max") (rBest X.K PySem.W.maxD) := by
  intro pins s σ H vs us Q I r h
  obtain ⟨Hc, a, xs, x, ds, rfl, ha, e, hr, ok, q⟩ := h
  obtain ⟨sh, al⟩ := minOk_parts ok
  obtain ⟨hl, hd⟩ := lay_of sh
  rw [Vals.ref1 r]
  rcases ha with ha | ha
  · obtain ⟨its, rv, p, hz⟩ := I.list (SqL.of ha)
    obtain ⟨as, ra⟩ := Dp.readsAll I _ _ _ (RepAll.dp _ (hr.mono e) hl) rv
    refine PySem.W.max_list_data (I.ok.hd hc) p.isList (by simpa using ra) al (by omega) fun i v h' tk bs hi hm hk => ?_
    obtain ⟨y, ry, rep⟩ := best_back I rv e hr sh (fun d hd => al.1 d hd _ (maxD_mem x ds)) hi hk hm
    exact ⟨y, H, I.kept hk, ry, q y rep⟩
  · obtain ⟨its, rv, p, hz⟩ := I.tuple ha
    obtain ⟨as, ra⟩ := Dp.readsAll I _ _ _ (RepAll.dp _ (hr.mono e) hl) rv
    refine PySem.W.max_tuple_data (I.ok.hd hc) (show s.heap.IsTuple a its.toArray from p) (by simpa using ra) al (by omega) fun i v h' tk bs hi hm hk => ?_
    obtain ⟨y, ry, rep⟩ := best_back I rv e hr sh (fun d hd => al.1 d hd _ (maxD_mem x ds)) hi hk hm
    exact ⟨y, H, I.kept hk, ry, q y rep⟩
/-- list(text) -/
def rLstS : List V → Hp → VK → Prop := fun xs H Q => ∃ z : Str, xs = [.str z] ∧ z.length ≤ 1000 ∧ ∀ l, H l = none → Q (.ref l) (upd H l (.lst (z.cps.toList.map fun c => .str ⟨#[c]⟩)))
theorem signs_vals : ∀ (cs : List Nat) (us : List Value), us.length = cs.length → (∀ (i : Nat) (u : Value) (c : Nat), us[i]? = some u → cs[i]? = some c → ∃ t, u = .str ⟨#[c]⟩ t) → Vals (cs.map fun c => V.str ⟨#[c]⟩) us
  | [], [], _, _ => .nil
  | [], _ :: _, h, _ => by cases h
  | _ :: _, [], h, _ => by cases h
  | c :: cs, u :: us, h, f => by
    refine .cons (f 0 u c rfl rfl) (signs_vals cs us (by simpa using h) fun i u' c' h1 h2 => f (i + 1) u' c' (by simpa using h1) (by simpa using h2))
theorem crLstS (hc : X.calm = true) : CallR X (.type "list") rLstS := by
  intro pins s σ H vs us Q I r h
  obtain ⟨z, rfl, hz, q⟩ := h
  obtain ⟨u, rfl, ru⟩ := Vals.one r
  obtain ⟨t, rfl⟩ := ru
  have hz2 : z.cps.size ≤ sizeLine := by rw [sizeLine_eq]; have : z.cps.size ≤ 1000 := hz; omega
  refine PySem.call_list_str (I.ok.hd hc) z t (fun h' tk acc c hk ho hi => ?_) hz2
  have hv : Vals (z.cps.toList.map fun c => V.str ⟨#[c]⟩) acc.toList := by
    refine signs_vals _ _ (by rw [Array.length_toList, Array.length_toList]; exact hi.1) fun i u' c' h1 h2 => ?_
    obtain ⟨c2, tk2, e1, e2⟩ := hi.2 i u' (by simpa using h1)
    have e3 : z.cps[i]? = some c' := by simpa using h2
    rw [e1] at e3
    cases e3
    exact ⟨tk2, e2⟩
  have hlen : (z.cps.toList.map fun c => V.str ⟨#[c]⟩).length ≤ sizeLine := by rw [List.length_map, Array.length_toList]; exact hz2
  exact ⟨.ref _, _, I.laid (t' := tk) (o := .lst _) hk (Nat.le_refl _) ⟨hlen, acc.toList, c, hv, by simpa using ho⟩, rfl, q _ I.fresh⟩
end
/-! ### isinstance -/
def tyName : Ty → String
  | .int => "int"
  | .bool => "bool"
  | .str => "str"
  | .tuple => "tuple"
  | .list => "list"
section
variable {K : PySem.W.Frag}
theorem tyx_list {H : Hp} {a : Addr} {xs : List V} (h : SqL K H a xs) : TyX K H (.ref a) (.type "list") := by
  rcases h with (h | ⟨o, h⟩) | ⟨o, its, n, h, c, _⟩
  · exact .base (.lst h)
  · exact .base (.frz h)
  · exact .kList h c
theorem tyx_tup {H : Hp} {a : Addr} {xs : List V} (h : SqT K H a xs) : TyX K H (.ref a) (.type "tuple") := by
  rcases h with (h | ⟨o, h⟩) | ⟨o, its, n, h, c, _⟩
  · exact .base (.tup h)
  · exact .fTuple h
  · exact .kTuple h c
theorem kit_non : ∀ t : Ty, kitB "NoneType" (tyName t) = some false
  | .int => by decide +kernel
  | .bool => by decide +kernel
  | .str => by decide +kernel
  | .tuple => by decide +kernel
  | .list => by decide +kernel
theorem kit_bool : ∀ t : Ty, kitB "bool" (tyName t) = some (tyB t (.bool true))
  | .int => by decide +kernel
  | .bool => by decide +kernel
  | .str => by decide +kernel
  | .tuple => by decide +kernel
  | .list => by decide +kernel
theorem kit_int : ∀ t : Ty, kitB "int" (tyName t) = some (tyB t (.int 0))
  | .int => by decide +kernel
  | .bool => by decide +kernel
  | .str => by decide +kernel
  | .tuple => by decide +kernel
  | .list => by decide +kernel
theorem kit_str : ∀ t : Ty, kitB "str" (tyName t) = some (tyB t (.str Str.empty))
  | .int => by decide +kernel
  | .bool => by decide +kernel
  | .str => by decide +kernel
  | .tuple => by decide +kernel
  | .list => by decide +kernel
theorem kit_tuple : ∀ t : Ty, kitB "tuple" (tyName t) = some (tyB t (.tuple []))
  | .int => by decide +kernel
  | .bool => by decide +kernel
  | .str => by decide +kernel
  | .tuple => by decide +kernel
  | .list => by decide +kernel
theorem kit_list : ∀ t : Ty, kitB "list" (tyName t) = some (tyB t (.list []))
  | .int => by decide +kernel
  | .bool => by decide +kernel
  | .str => by decide +kernel
  | .tuple => by decide +kernel
  | .list => by decide +kernel
theorem kit_dict : ∀ t : Ty, kitB "dict" (tyName t) = some false
  | .int => by decide +kernel
  | .bool => by decide +kernel
  | .str => by decide +kernel
  | .tuple => by decide +kernel
  | .list => by decide +kernel
theorem tyB_scr (t : Ty) : tyB t (.list []) = decide (t = .list) := by cases t <;> rfl
/-- isinstance(x, T) as the model tells it -/
theorem isI_ty {oo : List (List Addr)} {H : Hp} {x : V} {a d : D} {t : Ty} (r : RepTop K (hid oo H) H x a) (e : dIsI t a = .ok d) : ∃ (T : String) (b : Bool), TyX K H x (.type T) ∧ kitB T (tyName t) = some b ∧ d = .bool b := by
  unfold dIsI at e
  split at e
  · cases e
    obtain ⟨p, ms, rfl, h, rfl⟩ := RepTop.scr_of r
    exact ⟨"list", _, tyx_list (Same.seq (hid_same oo H) h), kit_list t, by rw [tyB_scr]⟩
  · cases e
  · cases e
    cases r with
    | non => exact ⟨"NoneType", _, .base .non, kit_non t, by cases t <;> rfl⟩
    | bl b => exact ⟨"bool", _, .base (.bl b), kit_bool t, by cases t <;> rfl⟩
    | int i => exact ⟨"int", _, .base (.int i), kit_int t, by cases t <;> rfl⟩
    | str z => exact ⟨"str", _, .base (.str z), kit_str t, by cases t <;> rfl⟩
    | lst h q => exact ⟨"list", _, .base (.lst h), kit_list t, by cases t <;> rfl⟩
    | tup h q => exact ⟨"tuple", _, tyx_tup (Same.sqT (hid_same oo H) h), kit_tuple t, by cases t <;> rfl⟩
    | dK h q => rename_i hd; exact (hd _ rfl).elim
    | dF h q => rename_i hd; exact (hd _ rfl).elim
    | scr h => rename_i hn; exact (hn _ rfl).elim
/-! ### all together -/
def biName : Bi → Str
  | .len => "len"
  | .all => "all"
  | .any => "any"
  | .tuple => "tuple"
  | .list => "list"
  | .sorted => "sorted"
  | .abs => "abs"
  | .min2 => "min"
  | .max2 => "max"
  | .sum => "sum"
  | .max1 => "max"
  | .min1 => "min"
/-- a class, or a function -/
def biTy : Bi → Bool
  | .tuple => true
  | .list => true
  | _ => false
def biStr : Bi → String
  | .len => "len"
  | .all => "all"
  | .any => "any"
  | .tuple => "tuple"
  | .list => "list"
  | .sorted => "sorted"
  | .abs => "abs"
  | .min2 => "min"
  | .max2 => "max"
  | .sum => "sum"
  | .max1 => "max"
  | .min1 => "min"
def biVal (b : Bi) : Value := if biTy b then .type (biStr b) else .builtin (biStr b)
theorem biBoot : ∀ b : Bi, bootBuiltins (biName b) = some (biVal b)
  | .len => by decide +kernel
  | .all => by decide +kernel
  | .any => by decide +kernel
  | .tuple => by decide +kernel
  | .list => by decide +kernel
  | .sorted => by decide +kernel
  | .abs => by decide +kernel
  | .min2 => by decide +kernel
  | .max2 => by decide +kernel
  | .sum => by decide +kernel
  | .max1 => by decide +kernel
  | .min1 => by decide +kernel
theorem biNot : ∀ b : Bi, biName b ≠ "__name__" ∧ ((biName b) == ("__debug__" : Str)) = false
  | .len => by decide +kernel
  | .all => by decide +kernel
  | .any => by decide +kernel
  | .tuple => by decide +kernel
  | .list => by decide +kernel
  | .sorted => by decide +kernel
  | .abs => by decide +kernel
  | .min2 => by decide +kernel
  | .max2 => by decide +kernel
  | .sum => by decide +kernel
  | .max1 => by decide +kernel
  | .min1 => by decide +kernel
def rBi (K : PySem.W.Frag) : Bi → List V → Hp → VK → Prop
  | .len => rLenA K
  | .all => rAll K
  | .any => rAny K
  | .tuple => rTupA K
  | .list => fun xs H Q => rLstA K xs H Q ∨ rLstS xs H Q
  | .sorted => rSortA K
  | .abs => rAbs
  | .min2 => rMin2
  | .max2 => rMax2
  | .sum => rSum K
  | .max1 => rBest K PySem.W.maxD
  | .min1 => rBest K PySem.W.minD
theorem callBi {X : Cx} (hu : X.A.units + 80 < cLine) (hc : X.calm = true) : ∀ b : Bi, CallR X (biVal b) (rBi X.K b)
  | .len => call_len
  | .all => cr_all hc
  | .any => cr_any hc
  | .tuple => call_tuple_of
  | .list => call_list_of.or (crLstS hc)
  | .sorted => crSortA hu
  | .abs => call_abs
  | .min2 => call_min2 hc
  | .max2 => call_max2 hc
  | .sum => cr_sum hc
  | .max1 => crMax hu hc
  | .min1 => crMin hu hc
theorem primBest {f : D → List D → D} {g : D → Res D} (hg : ∀ a d, g a = .ok d → (∃ x xs, (a = .list (x :: xs) ∨ a = .tuple (x :: xs)) ∧ minOk (x :: xs) = true ∧ flatD (f x xs) = true ∧ d = f x xs)) : PrimB K (rBest K f) (d1 g) :=
  prim1 fun oo H x a d Q n t e w => by
    obtain ⟨y, ys, h1, h2, h3, rfl⟩ := hg a d e
    rcases h1 with rfl | rfl
    · cases t with
      | lst h r => exact ⟨hid oo H, _, _, y, ys, rfl, .inl h, hid_same oo H, r, h2, fun v hv => w.base hv h3⟩
    · cases t with
      | tup h r => exact ⟨hid oo H, _, _, y, ys, rfl, .inr (Same.sqT (hid_same oo H) h), hid_same oo H, r, h2, fun v hv => w.base hv h3⟩
theorem least_parts {f : D → List D → D} {xs : List D} {d : D} (e : dLeast f xs = .ok d) : ∃ x r, xs = x :: r ∧ minOk (x :: r) = true ∧ flatD (f x r) = true ∧ d = f x r := by
  unfold dLeast at e
  split at e
  · split at e
    · rename_i h
      rw [Bool.and_eq_true] at h
      cases e
      exact ⟨_, _, rfl, h.1, h.2, rfl⟩
    · cases e
  · cases e
theorem primBi : ∀ b : Bi, PrimB K (rBi K b) (dBi b)
  | .len => primLen
  | .all => primAll
  | .any => primAny
  | .tuple => primTuple
  | .list => primList
  | .sorted => primSorted
  | .abs => primAbs
  | .min2 => primMin2
  | .max2 => primMax2
  | .sum => primSum
  | .max1 => primBest fun a d e => by
    unfold dMax1 at e
    split at e
    · obtain ⟨x, r, rfl, h⟩ := least_parts e
      exact ⟨x, r, .inl rfl, h⟩
    · obtain ⟨x, r, rfl, h⟩ := least_parts e
      exact ⟨x, r, .inr rfl, h⟩
    · cases e
  | .min1 => primBest fun a d e => by
    unfold dMin1 at e
    split at e
    · obtain ⟨x, r, rfl, h⟩ := least_parts e
      exact ⟨x, r, .inl rfl, h⟩
    · obtain ⟨x, r, rfl, h⟩ := least_parts e
      exact ⟨x, r, .inr rfl, h⟩
    · cases e
end
end HF

set_option Elab.async false
set_option autoImplicit false
set_option linter.all false
set_option maxRecDepth 100000
set_option maxHeartbeats 4000000
/-! What the reckoning says, the model does: expressions. -/
namespace HF
open PySem PySem.Spec PyProof.Rows L2
/-- what is known of the text's top -/
structure Gs where
  fns : List Str
  nums : List (Str × Int)
  txts : List (Str × Str)
  free : List Str
/-- how a run ends, over the heap -/
def GoodP {α : Type} (K : PySem.W.Frag) (W : WX) (σ : L2.St) (H : Hp) (r : Res α) (P : α → Hp → Prop) : Prop := match r with
  | .ok a => ∀ H', Same H H' → P a H'
  | .exc c => ∀ H', Same H H' → W (.ref (He.ga K c)) none σ H'
  | .bad => False
section
variable {α β : Type} {K : PySem.W.Frag} {W : WX} {σ : L2.St} {H H1 : Hp}
theorem GoodP.grow {r : Res α} {P : α → Hp → Prop} (g : GoodP K W σ H r P) (e : Same H H1) : GoodP K W σ H1 r P := by
  cases r with
  | ok a => exact fun H' h => g H' (e.trans h)
  | exc c => exact fun H' h => g H' (e.trans h)
  | bad => exact g
theorem GoodP.mono {r : Res α} {P P' : α → Hp → Prop} (g : GoodP K W σ H r P) (f : ∀ a H', r = .ok a → Same H H' → P a H' → P' a H') : GoodP K W σ H r P' := by
  cases r with
  | ok a => exact fun H' h => f a H' rfl h (g H' h)
  | exc c => exact g
  | bad => exact g
theorem GoodP.bind {r : Res α} {k : α → Res β} {P : β → Hp → Prop} (g : GoodP K W σ H (r >>= k) P) : GoodP K W σ H r fun a H' => GoodP K W σ H' (k a) P := by
  cases r with
  | ok a => exact fun H' h => GoodP.grow (r := k a) g h
  | exc c => exact g
  | bad => exact g
theorem GoodP.val {r : Res α} {P : α → Hp → Prop} (g : GoodP K W σ H r P) (n : ∀ c, r ≠ .exc c) : ∃ a, r = .ok a ∧ ∀ H', Same H H' → P a H' := by
  cases r with
  | ok a => exact ⟨a, rfl, g⟩
  | exc c => exact absurd rfl (n c)
  | bad => exact g.elim
end
def RepF (fr : Bool) (K : PySem.W.Frag) (oo : List (List Addr)) (H H' : Hp) (v : V) (d : D) : Prop := match fr with
  | true => RepN K oo H H' v d
  | false => Rep K (hid oo H') v d
def tG (fr : Bool) (K : PySem.W.Frag) (W : WX) (f : List SV → Res D) : TE := fun σ H Q => ∃ fo oo st, StR K fo σ H oo st ∧ GoodP K W σ H (f st) fun d H' => ∀ v, RepF fr K (fo :: oo) H H' v d → Q v H'
def tU (K : PySem.W.Frag) (W : WX) (f : List SV → Res D) : TE := fun σ H Q => ∃ fo oo st, StR K fo σ H oo st ∧ GoodP K W σ H (f st) fun d H' => ∀ v, RepTop K (hid (fo :: oo) H') H' v d → Q v H'
def tBo (K : PySem.W.Frag) (W : WX) (f : List SV → Res Bool) : TT := fun σ H Q => ∃ fo oo st, StR K fo σ H oo st ∧ GoodP K W σ H (f st) Q
def tL (K : PySem.W.Frag) (W : WX) (f : List SV → Res (List D)) : TA := fun σ H Q => ∃ fo oo st, StR K fo σ H oo st ∧ GoodP K W σ H (f st) fun ds H' => ∀ vs, RepAll K (hid (fo :: oo) H') vs ds → Q vs H'
def tLU (K : PySem.W.Frag) (W : WX) (f : List SV → Res (List D)) : TA := fun σ H Q => ∃ fo oo st, StR K fo σ H oo st ∧ GoodP K W σ H (f st) fun ds H' => ∀ vs, Tops K (hid (fo :: oo) H') H' vs ds → Q vs H'
def tOI (K : PySem.W.Frag) (W : WX) (f : List SV → Res (Option Int)) : TO := fun σ H Q => ∃ fo oo st, StR K fo σ H oo st ∧ GoodP K W σ H (f st) Q
section
variable {X : Cx} {e : Expr}
theorem _root_.L2.PE.weak {t t' : TE} (h : PE X e t) (w : ∀ σ H Q, t' σ H Q → t σ H Q) : PE X e t' := ⟨fun pins s σ H Q I q => h.run pins s σ H Q I (w σ H Q q)⟩
theorem _root_.L2.PT.weak {t t' : TT} (h : PT X e t) (w : ∀ σ H Q, t' σ H Q → t σ H Q) : PT X e t' := ⟨fun pins s σ H Q I q => h.run pins s σ H Q I (w σ H Q q)⟩
theorem _root_.L2.PW.weak {t t' : TT} (h : PW X e t) (w : ∀ σ H Q, t' σ H Q → t σ H Q) : PW X e t' := ⟨fun wh pins s σ H Q I q => h.run wh pins s σ H Q I (w σ H Q q)⟩
theorem _root_.L2.PA.weak {es : List Expr} {t t' : TA} (h : PA X es t) (w : ∀ σ H Q, t' σ H Q → t σ H Q) : PA X es t' := ⟨fun pos pins s σ H Q I q => h.run pos pins s σ H Q I (w σ H Q q)⟩
theorem _root_.L2.PO.weak {o : Option Expr} {t t' : TO} (h : PO X o t) (w : ∀ σ H Q, t' σ H Q → t σ H Q) : PO X o t' := ⟨fun pins s σ H Q I q => h.run pins s σ H Q I (w σ H Q q)⟩
theorem _root_.L2.PI.weak {tg : Expr} {t t' : TI} (h : PI X tg e t) (w : ∀ σ H Q, t' σ H Q → t σ H Q) : PI X tg e t' := ⟨fun pins s σ H Q I q => h.run pins s σ H Q I (w σ H Q q)⟩
end
section
variable {K : PySem.W.Frag} {oo : List (List Addr)} {H H1 H' : Hp} {v : V} {d : D}
theorem RepN.back (e : Same H H1) (r : RepN K oo H1 H' v d) : RepN K oo H H' v d := by
  cases r with
  | @new p _ h o =>
    refine .new ?_ o
    cases q : H p with
    | none => rfl
    | some u => rw [e _ _ q] at h; cases h
  | old f r => exact .old f r
theorem RepF.back {fr : Bool} (e : Same H H1) (r : RepF fr K oo H1 H' v d) : RepF fr K oo H H' v d := by
  cases fr with
  | true => exact RepN.back e r
  | false => exact r
theorem RepF.rep {fr : Bool} (n : ∀ p, H p = none → p ∉ oo.flatten) (r : RepF fr K oo H H' v d) : Rep K (hid oo H') v d := by
  cases fr with
  | true => exact RepN.rep n r
  | false => exact r
theorem Rep.flatN {oo : List (List Addr)} (f : flatD d = true) (fr : Bool) (r : Rep K (hid oo H') v d) : RepF fr K oo H H' v d := by
  cases fr with
  | true => exact .old f r
  | false => exact r
end
section
variable {X : Cx} {e : Expr} {W : WX} {f : List SV → Res D}
theorem tG_low {fr : Bool} (h : PE X e (tG fr X.K W f)) : PE X e (tG false X.K W f) := h.weak fun σ H Q ⟨fo, oo, st, R, g⟩ =>
  ⟨fo, oo, st, R, g.mono fun d H' _ hs q v r => q v (RepF.rep R.fresh r)⟩
theorem tG_use {fr : Bool} (h : PE X e (tG fr X.K W f)) : PE X e (tU X.K W f) := h.weak fun σ H Q ⟨fo, oo, st, R, g⟩ =>
  ⟨fo, oo, st, R, g.mono fun d H' _ hs q v r => q v ((RepF.rep R.fresh r).top (hid_same _ _))⟩
/-- a value that is given at once -/
theorem pe_const {v : V} {d : D} (fr : Bool) (h : PE X e (tC v)) (f0 : flatD d = true) (r : ∀ H, Rep X.K H v d) : PE X e (tG fr X.K W fun _ => .ok d) := h.weak fun σ H Q ⟨fo, oo, st, R, g⟩ =>
  g H (Same.refl H) v (Rep.flatN f0 fr (r _))
theorem slot_var {K : PySem.W.Frag} {H : Hp} {fo : List Addr} {σ : L2.St} {oo : List (List Addr)} {st : List SV} (R : StR K fo σ H oo st) {i : Nat} {d : D} (h : getF st i = .ok d) : ∃ v, σ[i]? = some (some v) ∧ Rep K (hid (fo :: oo) H) v d := by
  unfold getF at h
  split at h
  · rename_i e
    cases h
    have q := R.slots i
    rw [e] at q
    exact q.2
  · cases h
theorem slot_varT {K : PySem.W.Frag} {H : Hp} {fo : List Addr} {σ : L2.St} {oo : List (List Addr)} {st : List SV} (R : StR K fo σ H oo st) {i : Nat} {d : D} (h : getT st i = .ok d) : ∃ v, σ[i]? = some (some v) ∧ RepTop K (hid (fo :: oo) H) H v d := by
  unfold getT at h
  split at h
  · rename_i e
    cases h
    have q := R.slots i
    rw [e] at q
    obtain ⟨v, h1, h2⟩ := q.2
    exact ⟨v, h1, h2.top (hid_same _ _)⟩
  · rename_i e
    cases h
    have q := R.slots i
    rw [e] at q
    obtain ⟨p, h1, h2, h3⟩ := q
    exact ⟨_, h2, h3.top⟩
  · cases h
theorem getF_noexc (st : List SV) (i : Nat) (c : Str) : getF st i ≠ .exc c := by
  unfold getF
  split <;> exact fun h => nomatch h
theorem getT_noexc (st : List SV) (i : Nat) (c : Str) : getT st i ≠ .exc c := by
  unfold getT
  split <;> exact fun h => nomatch h
theorem pe_loc {i : Nat} (h : PE X e (tVar i)) : PE X e (tG false X.K W fun st => getF st i) := h.weak fun σ H Q ⟨fo, oo, st, R, g⟩ => by
  obtain ⟨d, e1, q⟩ := g.val (getF_noexc st i)
  obtain ⟨v, h1, h2⟩ := slot_var R e1
  exact ⟨v, h1, q H (Same.refl H) v h2⟩
theorem pe_locT {i : Nat} (h : PE X e (tVar i)) : PE X e (tU X.K W fun st => getT st i) := h.weak fun σ H Q ⟨fo, oo, st, R, g⟩ => by
  obtain ⟨d, e1, q⟩ := g.val (getT_noexc st i)
  obtain ⟨v, h1, h2⟩ := slot_varT R e1
  exact ⟨v, h1, q H (Same.refl H) v h2⟩
end

/-! ### each form -/
section
variable {X : Cx} {W : WX} {a b c : Expr} {fa fb fc : List SV → Res D} {pos : Pos}
theorem se_bin {o : BOp} (ha : PE X a (tU X.K W fa)) (hb : PE X b (tU X.K W fb)) : PE X (.BinOp a (opOf o) b pos) (tG true X.K W fun st => do let x ← fa st; let y ← fb st; dBin o x y) :=
  (pe_op (opBin o) ha hb).weak fun σ H Q ⟨fo, oo, st, R, g⟩ =>
    ⟨fo, oo, st, R, g.bind.mono fun x H1 _ e1 g1 v rv => ⟨fo, oo, st, R.grow e1, g1.bind.mono fun y H2 _ e2 g2 w rw => by
      obtain ⟨d, e3, q⟩ := g2.val (dBin_noexc o x y)
      exact primBin o _ H2 v w x y d Q (R.grow (e1.trans e2)).fresh (rv.mono (hid_mono _ e2) e2) rw e3 fun u H3 e4 r => q H3 e4 u (RepN.back (e1.trans e2) r)⟩⟩
theorem dCmp_noexc (o : CmpOp) (a b : D) (c : Str) : dCmp o a b ≠ .exc c := by
  have h1 : ∀ c, dEq a b ≠ .exc c := fun c h => by
    unfold dEq at h
    split at h
    · cases h
    · split at h <;> cases h
  have h2 : ∀ c, dIn a b ≠ .exc c := fun c h => by
    unfold dIn at h
    split at h
    · split at h <;> cases h
    · split at h <;> cases h
    · split at h <;> cases h
    · cases h
  have h3 : ∀ c, dIs a b ≠ .exc c := fun c h => by
    unfold dIs at h
    split at h <;> cases h
  have h4 : ∀ c, dLt a b ≠ .exc c := fun c h => by
    unfold dLt at h
    split at h
    · cases h
    · split at h <;> cases h
  have h5 : ∀ {r : Res Bool} c, (∀ c, r ≠ .exc c) → (do Res.ok (!(← r))) ≠ Res.exc c := fun {r} c hr h => by
    cases r with
    | ok x => cases h
    | exc x => exact hr x rfl
    | bad => cases h
  cases o with
  | Eq => exact h1 c
  | NotEq => exact h5 c h1
  | Lt => exact h4 c
  | In => exact h2 c
  | NotIn => exact h5 c h2
  | Is => exact h3 c
  | IsNot => exact h5 c h3
  | LtE => cases a <;> cases b <;> exact fun h => nomatch h
  | Gt => cases a <;> cases b <;> exact fun h => nomatch h
  | GtE => cases a <;> cases b <;> exact fun h => nomatch h
theorem se_cmp {o : CmpOp} (fr : Bool) (hu : X.A.units + 65 < cLine) (ha : PE X a (tU X.K W fa)) (hb : PE X b (tU X.K W fb)) (hm : behindInMarks o b = false) :
    PE X (.Compare a [o] [b] pos) (tG fr X.K W fun st => do let x ← fa st; let y ← fb st; let r ← dCmp o x y; .ok (.bool r)) :=
  (pe_cmpR (opCmp hu o) ha hb hm).weak fun σ H Q ⟨fo, oo, st, R, g⟩ =>
    ⟨fo, oo, st, R, g.bind.mono fun x H1 _ e1 g1 v rv => ⟨fo, oo, st, R.grow e1, g1.bind.mono fun y H2 _ e2 g2 w rw => by
      obtain ⟨r, e3, q⟩ := g2.bind.val (dCmp_noexc o x y)
      exact primCmp o _ H2 v w x y r Q (rv.mono (hid_mono _ e2) e2) rw e3 (q H2 (Same.refl _) H2 (Same.refl _) _ (Rep.flatN rfl fr (.bl r)))⟩⟩
theorem bOf_bind {α : Type} (r : Res α) (k : α → Res D) : bOf (r >>= k) = (r >>= fun a => bOf (k a)) := by cases r <;> rfl
theorem bOf_ok (r : Res Bool) : (r >>= fun b => bOf (.ok (.bool b))) = r := by cases r <;> rfl
theorem se_cmpT {o : CmpOp} (hu : X.A.units + 65 < cLine) (ha : PE X a (tU X.K W fa)) (hb : PE X b (tU X.K W fb)) (hm : behindInMarks o b = false) :
    PT X (.Compare a [o] [b] pos) (tBo X.K W fun st => bOf (do let x ← fa st; let y ← fb st; let r ← dCmp o x y; .ok (.bool r))) :=
  (pt_cmpR (opCmp hu o) ha hb hm).weak fun σ H Q ⟨fo, oo, st, R, g⟩ => by
    simp only [bOf_bind, bOf_ok] at g
    exact ⟨fo, oo, st, R, g.bind.mono fun x H1 _ e1 g1 v rv => ⟨fo, oo, st, R.grow e1, g1.bind.mono fun y H2 _ e2 g2 w rw => by
      obtain ⟨r, e3, q⟩ := g2.val (dCmp_noexc o x y)
      exact primCmp o _ H2 v w x y r _ (rv.mono (hid_mono _ e2) e2) rw e3 ⟨r, rfl, q H2 (Same.refl _)⟩⟩⟩
/-- an expression that is a truth, as a test -/
theorem GoodP.bOf {K : PySem.W.Frag} {σ : L2.St} {H : Hp} {r : Res D} {Q : Bool → Hp → Prop} (g : GoodP K W σ H (bOf r) Q) : GoodP K W σ H r fun d H' => ∃ b, d = .bool b ∧ Q b H' := by
  cases r with
  | ok d =>
    cases d with
    | bool b => exact fun H' h => ⟨b, rfl, g H' h⟩
    | _ => exact g.elim
  | exc c => exact g
  | bad => exact g
theorem se_val {fr : Bool} (ha : PE X a (tG fr X.K W fa)) (he : ∀ whole, isTrue a X.env whole = (do let v ← whole; standAt a.pos; holding [v] (truthy v))) : PT X a (tBo X.K W fun st => bOf (fa st)) :=
  (pt_val (tG_low ha) he).weak fun σ H Q ⟨fo, oo, st, R, g⟩ => ⟨fo, oo, st, R, g.bOf.mono fun d H1 _ e1 ⟨b, hb, q⟩ v rv => by
    subst hb
    cases rv
    exact ⟨b, rfl, q⟩⟩
theorem chain_marks {o o' : CmpOp} (h : behindInMarks o' c = false) : lastMarks [o, o'] [b, c] = false := by
  show lastMarks [o'] [c] = false
  exact h
theorem se_chain {o o' : CmpOp} (fr : Bool) (hu : X.A.units + 65 < cLine) (ha : PE X a (tU X.K W fa)) (hb : PE X b (tU X.K W fb)) (hc : PE X c (tU X.K W fc)) (hm : behindInMarks o' c = false) :
    PE X (.Compare a [o, o'] [b, c] pos) (tG fr X.K W fun st => do let x ← fa st; let y ← fb st; if (← dCmp o x y) then do let z ← fc st; let r ← dCmp o' y z; .ok (.bool r) else .ok (.bool false)) :=
  (pe_chain (opCmp hu o) (opCmp hu o') ha hb hc (chain_marks hm)).weak fun σ H Q ⟨fo, oo, st, R, g⟩ =>
    ⟨fo, oo, st, R, g.bind.mono fun x H1 _ e1 g1 v rv => ⟨fo, oo, st, R.grow e1, g1.bind.mono fun y H2 _ e2 g2 w rw => by
      obtain ⟨r, e3, q⟩ := g2.bind.val (dCmp_noexc o x y)
      refine primCmp o _ H2 v w x y r _ (rv.mono (hid_mono _ e2) e2) rw e3 ⟨r, rfl, ?_⟩
      have q2 := q H2 (Same.refl _)
      cases r with
      | false => exact iteF (q2 H2 (Same.refl _) _ (Rep.flatN rfl fr (.bl false)))
      | true =>
        refine iteT ⟨fo, oo, st, R.grow (e1.trans e2), (GoodP.bind (r := fc st) q2).mono fun z H3 _ e4 g3 u ru => ?_⟩
        obtain ⟨r', e5, q'⟩ := g3.bind.val (dCmp_noexc o' y z)
        exact primCmp o' _ H3 w u y z r' Q (rw.mono (hid_mono _ e4) e4) ru e5 (q' H3 (Same.refl _) H3 (Same.refl _) _ (Rep.flatN rfl fr (.bl r')))⟩⟩
theorem se_chainT {o o' : CmpOp} (hu : X.A.units + 65 < cLine) (ha : PE X a (tU X.K W fa)) (hb : PE X b (tU X.K W fb)) (hc : PE X c (tU X.K W fc)) (hm : behindInMarks o' c = false) :
    PT X (.Compare a [o, o'] [b, c] pos) (tBo X.K W fun st => bOf (do let x ← fa st; let y ← fb st; if (← dCmp o x y) then do let z ← fc st; let r ← dCmp o' y z; .ok (.bool r) else .ok (.bool false))) :=
  (pt_chain (opCmp hu o) (opCmp hu o') ha hb hc (chain_marks hm)).weak fun σ H Q ⟨fo, oo, st, R, g⟩ => by
    simp only [bOf_bind] at g
    exact ⟨fo, oo, st, R, g.bind.mono fun x H1 _ e1 g1 v rv => ⟨fo, oo, st, R.grow e1, g1.bind.mono fun y H2 _ e2 g2 w rw => by
      obtain ⟨r, e3, q⟩ := g2.bind.val (dCmp_noexc o x y)
      refine primCmp o _ H2 v w x y r _ (rv.mono (hid_mono _ e2) e2) rw e3 ⟨r, rfl, ?_⟩
      have q2 := q H2 (Same.refl _)
      cases r with
      | false => exact iteF ⟨false, rfl, q2 H2 (Same.refl _)⟩
      | true =>
        have q3 : GoodP X.K W σ H2 (bOf (do let z ← fc st; let r ← dCmp o' y z; .ok (.bool r))) Q := q2
        simp only [bOf_bind, bOf_ok] at q3
        refine iteT ⟨fo, oo, st, R.grow (e1.trans e2), (GoodP.bind (r := fc st) q3).mono fun z H3 _ e4 g3 u ru => ?_⟩
        obtain ⟨r', e5, q'⟩ := g3.val (dCmp_noexc o' y z)
        exact primCmp o' _ H3 w u y z r' _ (rw.mono (hid_mono _ e4) e4) ru e5 ⟨r', rfl, q' H3 (Same.refl _)⟩⟩⟩
theorem se_neg (fr : Bool) (ha : PE X a (tG false X.K W fa)) : PE X (.UnaryOp .USub a pos) (tG fr X.K W fun st => do let x ← fa st; dNeg x) :=
  (pe_un un_neg ha).weak fun σ H Q ⟨fo, oo, st, R, g⟩ =>
    ⟨fo, oo, st, R, g.bind.mono fun x H1 _ e1 g1 v rv => by
      cases x <;> try exact g1.elim
      cases rv
      exact ⟨_, rfl, g1 H1 (Same.refl _) _ (Rep.flatN rfl fr (.int _))⟩⟩
theorem se_not (fr : Bool) (ha : PT X a (tBo X.K W fun st => bOf (fa st))) (hv : PE X a (tG false X.K W fa)) : PE X (.UnaryOp .Not a pos) (tG fr X.K W fun st => do let x ← fa st; dNot x) :=
  (pe_not hv).weak fun σ H Q ⟨fo, oo, st, R, g⟩ =>
    ⟨fo, oo, st, R, g.bind.mono fun x H1 _ e1 g1 v rv => by
      cases x <;> try exact g1.elim
      cases rv
      exact ⟨_, rfl, g1 H1 (Same.refl _) _ (Rep.flatN rfl fr (.bl _))⟩⟩
theorem se_notT (ha : PT X a (tBo X.K W fun st => bOf (fa st))) : PT X (.UnaryOp .Not a pos) (tBo X.K W fun st => bOf (do let x ← fa st; dNot x)) :=
  (pt_not ha).weak fun σ H Q ⟨fo, oo, st, R, g⟩ => by
    refine ⟨fo, oo, st, R, ?_⟩
    dsimp only at g ⊢
    simp only [bOf_bind] at g
    cases h1 : fa st with
    | ok x =>
      rw [h1] at g
      cases x <;> first | exact g.elim | exact g
    | exc z =>
      rw [h1] at g
      exact g
    | bad =>
      rw [h1] at g
      exact g.elim
/-- and, or, as values -/
theorem se_and {rest : List Expr} {fr : Bool} (ha : PE X a (tG false X.K W fa)) (hb : PE X (.BoolOp .And (b :: rest) pos) (tG fr X.K W fb)) :
    PE X (.BoolOp .And (a :: b :: rest) pos) (tG fr X.K W fun st => do if (← bOf (fa st)) then fb st else .ok (.bool false)) :=
  (pe_and ha hb).weak fun σ H Q ⟨fo, oo, st, R, g⟩ =>
    ⟨fo, oo, st, R, (GoodP.bOf (r := fa st) g.bind).mono fun x H1 _ e1 ⟨k, hk, g1⟩ v rv => by
      subst hk
      cases rv
      refine ⟨_, rfl, ?_⟩
      cases k with
      | true => exact iteT ⟨fo, oo, st, R.grow e1, GoodP.mono (r := fb st) g1 fun d H2 _ e2 q v r => q v (RepF.back e1 r)⟩
      | false => exact iteF (g1 H1 (Same.refl _) _ (Rep.flatN rfl fr (.bl _)))⟩
theorem se_or {rest : List Expr} {fr : Bool} (ha : PE X a (tG false X.K W fa)) (hb : PE X (.BoolOp .Or (b :: rest) pos) (tG fr X.K W fb)) :
    PE X (.BoolOp .Or (a :: b :: rest) pos) (tG fr X.K W fun st => do if (← bOf (fa st)) then .ok (.bool true) else fb st) :=
  (pe_or ha hb).weak fun σ H Q ⟨fo, oo, st, R, g⟩ =>
    ⟨fo, oo, st, R, (GoodP.bOf (r := fa st) g.bind).mono fun x H1 _ e1 ⟨k, hk, g1⟩ v rv => by
      subst hk
      cases rv
      refine ⟨_, rfl, ?_⟩
      cases k with
      | true => exact iteT (g1 H1 (Same.refl _) _ (Rep.flatN rfl fr (.bl _)))
      | false => exact iteF ⟨fo, oo, st, R.grow e1, GoodP.mono (r := fb st) g1 fun d H2 _ e2 q v r => q v (RepF.back e1 r)⟩⟩
theorem se_andW {rest : List Expr} (ha : PT X a (tBo X.K W fun st => bOf (fa st))) (hb : PW X (.BoolOp .And (b :: rest) pos) (tBo X.K W fun st => bOf (fb st))) :
    PW X (.BoolOp .And (a :: b :: rest) pos) (tBo X.K W fun st => bOf (do if (← bOf (fa st)) then fb st else .ok (.bool false))) :=
  (pw_and ha hb).weak fun σ H Q ⟨fo, oo, st, R, g⟩ => by
    simp only [bOf_bind] at g
    exact ⟨fo, oo, st, R, g.bind.mono fun k H1 _ e1 g1 => by
      cases k with
      | true => exact iteT ⟨fo, oo, st, R.grow e1, g1⟩
      | false => exact iteF (g1 H1 (Same.refl _))⟩
theorem se_orW {rest : List Expr} (ha : PT X a (tBo X.K W fun st => bOf (fa st))) (hb : PW X (.BoolOp .Or (b :: rest) pos) (tBo X.K W fun st => bOf (fb st))) :
    PW X (.BoolOp .Or (a :: b :: rest) pos) (tBo X.K W fun st => bOf (do if (← bOf (fa st)) then .ok (.bool true) else fb st)) :=
  (pw_or ha hb).weak fun σ H Q ⟨fo, oo, st, R, g⟩ => by
    simp only [bOf_bind] at g
    exact ⟨fo, oo, st, R, g.bind.mono fun k H1 _ e1 g1 => by
      cases k with
      | true => exact iteT (g1 H1 (Same.refl _))
      | false => exact iteF ⟨fo, oo, st, R.grow e1, g1⟩⟩
theorem se_ite {fr : Bool} (hc : PT X c (tBo X.K W fun st => bOf (fc st))) (ha : PE X a (tG fr X.K W fa)) (hb : PE X b (tG fr X.K W fb)) :
    PE X (.IfExp c a b pos) (tG fr X.K W fun st => do if (← bOf (fc st)) then fa st else fb st) :=
  (pe_ifExp hc ha hb).weak fun σ H Q ⟨fo, oo, st, R, g⟩ =>
    ⟨fo, oo, st, R, g.bind.mono fun k H1 _ e1 g1 => by
      cases k with
      | true => exact iteT ⟨fo, oo, st, R.grow e1, GoodP.mono (r := fa st) g1 fun d H2 _ e2 q v r => q v (RepF.back e1 r)⟩
      | false => exact iteF ⟨fo, oo, st, R.grow e1, GoodP.mono (r := fb st) g1 fun d H2 _ e2 q v r => q v (RepF.back e1 r)⟩⟩
theorem dIx_noexc (a b : D) (c : Str) : dIx a b ≠ .exc c := by
  intro h
  unfold dIx at h
  split at h <;> first | (cases h; done) | (split at h <;> first | (cases h; done) | (split at h <;> cases h))
theorem se_ix (ha : PE X a (tU X.K W fa)) (hb : PE X b (tG false X.K W fb)) (hs : PlainIx b) : PE X (.Subscript a b pos) (tG false X.K W fun st => do let x ← fa st; let y ← fb st; dIx x y) :=
  (pe_ix ix_seq ha hb hs).weak fun σ H Q ⟨fo, oo, st, R, g⟩ =>
    ⟨fo, oo, st, R, g.bind.mono fun x H1 _ e1 g1 v rv => ⟨fo, oo, st, R.grow e1, g1.bind.mono fun y H2 _ e2 g2 w rw => by
      obtain ⟨d, e3, q⟩ := g2.val (dIx_noexc x y)
      exact primIx (rv.mono (hid_mono _ e2) e2) (Rep.top (hid_same _ _) rw) e3 fun u hu => q H2 (Same.refl _) u hu⟩⟩
theorem se_noO : PO X none (tOI X.K W fun _ => .ok none) := po_none.weak fun σ H Q ⟨fo, oo, st, R, g⟩ => g H (Same.refl H)
theorem se_someO (ha : PE X a (tG false X.K W fa)) : PO X (some a) (tOI X.K W fun st => do match (← fa st) with
    | .int i => .ok (some i)
    | _ => .bad) := (po_some ha).weak fun σ H Q ⟨fo, oo, st, R, g⟩ =>
  ⟨fo, oo, st, R, g.bind.mono fun x H1 _ e1 g1 v rv => by
    cases x <;> try exact g1.elim
    cases rv
    exact ⟨_, rfl, g1 H1 (Same.refl _)⟩⟩
variable {lo hi : Option Expr} {fl fh : List SV → Res (Option Int)} {p2 p3 p4 p5 : Pos} {k : Nat}
theorem dSl_noexc (a : D) (l h : Option Int) (c : Str) : dSl a l h ≠ .exc c := by
  intro z
  unfold dSl at z
  split at z <;> cases z
theorem dRev_noexc (a : D) (l : Option Int) (c : Str) : dRev a l ≠ .exc c := by
  intro z
  unfold dRev at z
  split at z <;> cases z
theorem se_sl (ha : PE X a (tU X.K W fa)) (hl : PO X lo (tOI X.K W fl)) (hh : PO X hi (tOI X.K W fh)) :
    PE X (.Subscript a (.Slice lo hi none p2) pos) (tG true X.K W fun st => do let x ← fa st; let l ← fl st; let h ← fh st; dSl x l h) :=
  (pe_slice slA ha hl hh).weak fun σ H Q ⟨fo, oo, st, R, g⟩ =>
    ⟨fo, oo, st, R, g.bind.mono fun x H1 _ e1 g1 v rv => ⟨fo, oo, st, R.grow e1, g1.bind.mono fun l H2 _ e2 g2 => ⟨fo, oo, st, R.grow (e1.trans e2), g2.bind.mono fun h H3 _ e3 g3 => by
      obtain ⟨d, e4, q⟩ := g3.val (dSl_noexc x l h)
      exact primSl (R.grow ((e1.trans e2).trans e3)).fresh (rv.mono (hid_mono _ (e2.trans e3)) (e2.trans e3)) e4 fun u H4 e5 r => q H4 e5 u (RepN.back ((e1.trans e2).trans e3) r)⟩⟩⟩
theorem se_rev (ha : PE X a (tU X.K W fa)) (hl : PO X lo (tOI X.K W fl)) :
    PE X (.Subscript a (.Slice lo none (some (.UnaryOp .USub (.Constant (.int 1) k p2) p3)) p4) pos) (tG true X.K W fun st => do let x ← fa st; let l ← fl st; dRev x l) :=
  (pe_rev ha hl).weak fun σ H Q ⟨fo, oo, st, R, g⟩ =>
    ⟨fo, oo, st, R, g.bind.mono fun x H1 _ e1 g1 v rv => ⟨fo, oo, st, R.grow e1, g1.bind.mono fun l H2 _ e2 g2 => by
      obtain ⟨d, e4, q⟩ := g2.val (dRev_noexc x l)
      exact primRev (R.grow (e1.trans e2)).fresh (rv.mono (hid_mono _ e2) e2) e4 fun u H4 e5 r => q H4 e5 u (RepN.back (e1.trans e2) r)⟩⟩
/-! lists of expressions -/
variable {es : List Expr} {gs : List SV → Res (List D)}
theorem sa_nil : PA X [] (tL X.K W fun _ => .ok []) := pa_nil.weak fun σ H Q ⟨fo, oo, st, R, g⟩ => g H (Same.refl H) [] .nil
theorem sa_cons (ha : PE X a (tG false X.K W fa)) (hr : PA X es (tL X.K W gs)) (hs : starEach (a :: es) X.env = (false, eval a X.env) :: starEach es X.env) :
    PA X (a :: es) (tL X.K W fun st => do let x ← fa st; let xs ← gs st; .ok (x :: xs)) := (pa_cons ha hr hs).weak fun σ H Q ⟨fo, oo, st, R, g⟩ =>
  ⟨fo, oo, st, R, g.bind.mono fun x H1 _ e1 g1 v rv => ⟨fo, oo, st, R.grow e1, g1.bind.mono fun xs H2 _ e2 g2 vs rvs =>
    g2 H2 (Same.refl _) _ (.cons (rv.mono (hid_mono _ e2)) rvs)⟩⟩
theorem su_nil : PA X [] (tLU X.K W fun _ => .ok []) := pa_nil.weak fun σ H Q ⟨fo, oo, st, R, g⟩ => g H (Same.refl H) [] .nil
theorem su_cons (ha : PE X a (tU X.K W fa)) (hr : PA X es (tLU X.K W gs)) (hs : starEach (a :: es) X.env = (false, eval a X.env) :: starEach es X.env) :
    PA X (a :: es) (tLU X.K W fun st => do let x ← fa st; let xs ← gs st; .ok (x :: xs)) := (pa_cons ha hr hs).weak fun σ H Q ⟨fo, oo, st, R, g⟩ =>
  ⟨fo, oo, st, R, g.bind.mono fun x H1 _ e1 g1 v rv => ⟨fo, oo, st, R.grow e1, g1.bind.mono fun xs H2 _ e2 g2 vs rvs =>
    g2 H2 (Same.refl _) _ (.cons (rv.mono (hid_mono _ e2) e2) rvs)⟩⟩
end
end HF

set_option Elab.async false
set_option autoImplicit false
set_option linter.all false
set_option maxRecDepth 100000
set_option maxHeartbeats 4000000
/-! Displays, calls, names of the top. -/
namespace HF
open PySem PySem.Spec PyProof.Rows L2
def noS : Expr → Bool
  | .Starred _ _ => false
  | _ => true
theorem star_cons {e : Expr} (es : List Expr) (env : Env) (h : noS e = true) : starEach (e :: es) env = (false, eval e env) :: starEach es env := by
  cases e <;> first | rfl | cases h
theorem star_no (env : Env) (pos : Pos) : ∀ es : List Expr, (es.all noS) = true → (backTo pos (starEach es env)).any (·.1) = false
  | [], _ => rfl
  | e :: es, h => by
    rw [List.all_cons, Bool.and_eq_true] at h
    rw [star_cons es env h.1]
    show (false || (backTo pos (starEach es env)).any (·.1)) = false
    rw [star_no env pos es h.2]
    rfl
section
variable {K : PySem.W.Frag} {oo : List (List Addr)} {H H1 H' : Hp} {v : V} {d : D}
theorem RepN.F (fr : Bool) (n : Nw oo H) (r : RepN K oo H H' v d) : RepF fr K oo H H' v d := by
  cases fr with
  | true => exact r
  | false => exact RepN.rep n r
theorem hid_one (l : List (List Addr)) (H : Hp) : hid [l.flatten] H = hid l H := by
  funext a
  unfold hid
  simp
end
section
variable {X : Cx} {W : WX} {a : Expr} {fa : List SV → Res D} {es : List Expr} {gs : List SV → Res (List D)} {pos : Pos}
theorem se_tup {k : Nat} (fr : Bool) (h : PA X es (tL X.K W gs)) (hz : ∀ st ds, gs st = .ok ds → ds.length ≤ 16777216) : PE X (.Tuple es k pos) (tG fr X.K W fun st => do let ds ← gs st; .ok (.tuple ds)) :=
  (pe_tup h).weak fun σ H Q ⟨fo, oo, st, R, g⟩ =>
    ⟨fo, oo, st, R, g.bind.mono fun ds H1 e0 e1 g1 vs rvs => ⟨by rw [rvs.len, sizeLine_eq]; exact hz _ _ e0, fun p hp =>
      g1 _ (Same.upd hp) _ (RepF.back e1 (RepN.F fr (R.grow e1).fresh (newT hp (R.grow e1).fresh rvs)))⟩⟩
theorem se_lst (fr : Bool) (h : PA X es (tL X.K W gs)) (hz : ∀ st ds, gs st = .ok ds → ds.length ≤ 16777216) : PE X (.List es pos) (tG fr X.K W fun st => do let ds ← gs st; .ok (.list ds)) :=
  (pe_lst h).weak fun σ H Q ⟨fo, oo, st, R, g⟩ =>
    ⟨fo, oo, st, R, g.bind.mono fun ds H1 e0 e1 g1 vs rvs => ⟨by rw [rvs.len, sizeLine_eq]; exact hz _ _ e0, fun p hp =>
      g1 _ (Same.upd hp) _ (RepF.back e1 (RepN.F fr (R.grow e1).fresh (newL hp (R.grow e1).fresh rvs)))⟩⟩
/-! a op b op c op d -/
theorem pe_chain3 {a b c d : Expr} {ta tb tc td : TE} {op op' op2 : CmpOp} {r r' r2 : R2} (ho : OpR X (compareOp op) r) (ho' : OpR X (compareOp op') r') (ho2 : OpR X (compareOp op2) r2) (ha : PE X a ta) (hb : PE X b tb) (hc : PE X c tc) (hd : PE X d td)
    (hm : lastMarks [op, op', op2] [b, c, d] = false) : PE X (.Compare a [op, op', op2] [b, c, d] pos) (fun σ H Q => ta σ H fun x H1 => tb σ H1 fun y H2 => r x y H2 fun z H3 => ∃ k, z = .bl k ∧
      (if k = true then tc σ H3 fun w' H4 => r' y w' H4 fun z' H5 => ∃ k', z' = .bl k' ∧ (if k' = true then td σ H5 fun u' H6 => r2 w' u' H6 Q else Q (.bl false) H5) else Q (.bl false) H3)) := by
  refine ⟨fun pins s σ H Q I h => ?_⟩
  refine Compare_chain (thn (ha.run pins s σ H _ I h) fun v s1 ⟨x, H1, I1, r1, q1⟩ => chain_link (thn (hb.run pins s1 σ H1 _ I1 q1) fun u s2 ⟨y, H2, I2, r2, q2⟩ =>
    thn (ho pins s2 σ H2 x y v u _ I2 r1 r2 q2) fun d s3 ⟨z, H3, I3, r3, k, e, q3⟩ => ?_)) hm
  subst e
  cases r3
  refine wpAny_truthy_bool ?_
  cases k with
  | false => exact ite_ff ⟨.bl false, H3, I3, rfl, q3⟩
  | true =>
    refine ite_tt (chain_link (thn (hc.run pins s3 σ H3 _ I3 q3) fun w' s4 ⟨z', H4, I4, r4, q4⟩ => thn (ho' pins s4 σ H4 y z' u w' _ I4 r2 r4 q4) fun d' s5 ⟨z2, H5, I5, r5, k2, e2, q5⟩ => ?_))
    subst e2
    cases r5
    refine wpAny_truthy_bool ?_
    cases k2 with
    | false => exact ite_ff ⟨.bl false, H5, I5, rfl, q5⟩
    | true => exact ite_tt (chain_last (thn (hd.run pins s5 σ H5 _ I5 q5) fun w2 s6 ⟨z3, H6, I6, r6, q6⟩ => ho2 pins s6 σ H6 z' z3 w' w2 Q I6 r4 r6 q6))
theorem pt_chain3 {a b c d : Expr} {ta tb tc td : TE} {op op' op2 : CmpOp} {r r' r2 : R2} (ho : OpR X (compareOp op) r) (ho' : OpR X (compareOp op') r') (ho2 : OpR X (compareOp op2) r2) (ha : PE X a ta) (hb : PE X b tb) (hc : PE X c tc) (hd : PE X d td)
    (hm : lastMarks [op, op', op2] [b, c, d] = false) : PT X (.Compare a [op, op', op2] [b, c, d] pos) (fun σ H Q => ta σ H fun x H1 => tb σ H1 fun y H2 => r x y H2 fun z H3 => ∃ k, z = .bl k ∧
      (if k = true then tc σ H3 fun w' H4 => r' y w' H4 fun z' H5 => ∃ k', z' = .bl k' ∧ (if k' = true then td σ H5 fun u' H6 => r2 w' u' H6 fun z2 H7 => ∃ k2, z2 = .bl k2 ∧ Q k2 H7 else Q false H5) else Q false H3)) := by
  refine ⟨fun pins s σ H Q I h => ?_⟩
  refine isTrue_chain (thn (ha.run pins s σ H _ I h) fun v s1 ⟨x, H1, I1, r1, q1⟩ => test_link (thn (hb.run pins s1 σ H1 _ I1 q1) fun u s2 ⟨y, H2, I2, r2, q2⟩ =>
    thn (ho pins s2 σ H2 x y v u _ I2 r1 r2 q2) fun d s3 ⟨z, H3, I3, r3, k, e, q3⟩ => ?_)) hm
  subst e
  cases r3
  refine wpAny_truthy_bool ?_
  cases k with
  | false => exact ite_ff ⟨H3, I3, q3⟩
  | true =>
    refine ite_tt (test_link (thn (hc.run pins s3 σ H3 _ I3 q3) fun w' s4 ⟨z', H4, I4, r4, q4⟩ => thn (ho' pins s4 σ H4 y z' u w' _ I4 r2 r4 q4) fun d' s5 ⟨z2, H5, I5, r5, k2, e2, q5⟩ => ?_))
    subst e2
    cases r5
    refine wpAny_truthy_bool ?_
    cases k2 with
    | false => exact ite_ff ⟨H5, I5, q5⟩
    | true =>
      refine ite_tt (test_last (thn (hd.run pins s5 σ H5 _ I5 q5) fun w2 s6 ⟨z3, H6, I6, r6, q6⟩ => thn (ho2 pins s6 σ H6 z' z3 w' w2 _ I6 r4 r6 q6) fun d2 s7 ⟨z4, H7, I7, r7, k4, e4, q7⟩ => ?_))
      subst e4
      cases r7
      exact wpAny_truthy_bool ⟨H7, I7, q7⟩
theorem marks3 {o o' o2 : CmpOp} {b c d : Expr} (h : behindInMarks o2 d = false) : lastMarks [o, o', o2] [b, c, d] = false := by
  show lastMarks [o2] [d] = false
  exact h
theorem se_chain3 {a b c d : Expr} {fa fb fc fd : List SV → Res D} {o o' o2 : CmpOp} (fr : Bool) (hu : X.A.units + 65 < cLine) (ha : PE X a (tU X.K W fa)) (hb : PE X b (tU X.K W fb)) (hc : PE X c (tU X.K W fc)) (hd : PE X d (tU X.K W fd)) (hm : behindInMarks o2 d = false) :
    PE X (.Compare a [o, o', o2] [b, c, d] pos) (tG fr X.K W fun st => do
      let x ← fa st
      let y ← fb st
      if (← dCmp o x y) then do
        let z ← fc st
        if (← dCmp o' y z) then do let u ← fd st; let r ← dCmp o2 z u; .ok (.bool r) else .ok (.bool false)
      else .ok (.bool false)) :=
  (pe_chain3 (opCmp hu o) (opCmp hu o') (opCmp hu o2) ha hb hc hd (marks3 hm)).weak fun σ H Q ⟨fo, oo, st, R, g⟩ =>
    ⟨fo, oo, st, R, g.bind.mono fun x H1 _ e1 g1 v rv => ⟨fo, oo, st, R.grow e1, g1.bind.mono fun y H2 _ e2 g2 w rw => by
      obtain ⟨r, e3, q⟩ := g2.bind.val (dCmp_noexc o x y)
      refine primCmp o _ H2 v w x y r _ (rv.mono (hid_mono _ e2) e2) rw e3 ⟨r, rfl, ?_⟩
      have q2 := q H2 (Same.refl _)
      cases r with
      | false => exact iteF (q2 H2 (Same.refl _) _ (Rep.flatN rfl fr (.bl false)))
      | true =>
        refine iteT ⟨fo, oo, st, R.grow (e1.trans e2), (GoodP.bind (r := fc st) q2).mono fun z H3 _ e4 g3 u ru => ?_⟩
        obtain ⟨r', e5, q'⟩ := g3.bind.val (dCmp_noexc o' y z)
        refine primCmp o' _ H3 w u y z r' _ (rw.mono (hid_mono _ e4) e4) ru e5 ⟨r', rfl, ?_⟩
        have q3 := q' H3 (Same.refl _)
        cases r' with
        | false => exact iteF (q3 H3 (Same.refl _) _ (Rep.flatN rfl fr (.bl false)))
        | true =>
          refine iteT ⟨fo, oo, st, R.grow ((e1.trans e2).trans e4), (GoodP.bind (r := fd st) q3).mono fun z2 H4 _ e6 g4 u2 ru2 => ?_⟩
          obtain ⟨r2, e7, q''⟩ := g4.bind.val (dCmp_noexc o2 z z2)
          exact primCmp o2 _ H4 u u2 z z2 r2 Q (ru.mono (hid_mono _ e6) e6) ru2 e7 (q'' H4 (Same.refl _) H4 (Same.refl _) _ (Rep.flatN rfl fr (.bl r2)))⟩⟩
theorem se_chain3T {a b c d : Expr} {fa fb fc fd : List SV → Res D} {o o' o2 : CmpOp} (hu : X.A.units + 65 < cLine) (ha : PE X a (tU X.K W fa)) (hb : PE X b (tU X.K W fb)) (hc : PE X c (tU X.K W fc)) (hd : PE X d (tU X.K W fd)) (hm : behindInMarks o2 d = false) :
    PT X (.Compare a [o, o', o2] [b, c, d] pos) (tBo X.K W fun st => bOf (do
      let x ← fa st
      let y ← fb st
      if (← dCmp o x y) then do
        let z ← fc st
        if (← dCmp o' y z) then do let u ← fd st; let r ← dCmp o2 z u; .ok (.bool r) else .ok (.bool false)
      else .ok (.bool false))) :=
  (pt_chain3 (opCmp hu o) (opCmp hu o') (opCmp hu o2) ha hb hc hd (marks3 hm)).weak fun σ H Q ⟨fo, oo, st, R, g⟩ => by
    simp only [bOf_bind] at g
    exact ⟨fo, oo, st, R, g.bind.mono fun x H1 _ e1 g1 v rv => ⟨fo, oo, st, R.grow e1, g1.bind.mono fun y H2 _ e2 g2 w rw => by
      obtain ⟨r, e3, q⟩ := g2.bind.val (dCmp_noexc o x y)
      refine primCmp o _ H2 v w x y r _ (rv.mono (hid_mono _ e2) e2) rw e3 ⟨r, rfl, ?_⟩
      have q2 := q H2 (Same.refl _)
      cases r with
      | false => exact iteF (q2 H2 (Same.refl _))
      | true =>
        have q3 : GoodP X.K W σ H2 (bOf (do
          let z ← fc st
          if (← dCmp o' y z) then do let u ← fd st; let r ← dCmp o2 z u; .ok (.bool r) else .ok (.bool false))) Q := q2
        simp only [bOf_bind] at q3
        refine iteT ⟨fo, oo, st, R.grow (e1.trans e2), (GoodP.bind (r := fc st) q3).mono fun z H3 _ e4 g3 u ru => ?_⟩
        obtain ⟨r', e5, q'⟩ := g3.bind.val (dCmp_noexc o' y z)
        refine primCmp o' _ H3 w u y z r' _ (rw.mono (hid_mono _ e4) e4) ru e5 ⟨r', rfl, ?_⟩
        have q4 := q' H3 (Same.refl _)
        cases r' with
        | false => exact iteF (q4 H3 (Same.refl _))
        | true =>
          have q5 : GoodP X.K W σ H3 (bOf (do let u ← fd st; let r ← dCmp o2 z u; .ok (.bool r))) Q := q4
          simp only [bOf_bind, bOf_ok] at q5
          refine iteT ⟨fo, oo, st, R.grow ((e1.trans e2).trans e4), (GoodP.bind (r := fd st) q5).mono fun z2 H4 _ e6 g4 u2 ru2 => ?_⟩
          obtain ⟨r2, e7, q''⟩ := g4.val (dCmp_noexc o2 z z2)
          exact primCmp o2 _ H4 u u2 z z2 r2 _ (ru.mono (hid_mono _ e6) e6) ru2 e7 ⟨r2, rfl, q'' H4 (Same.refl _)⟩⟩⟩
/-! built-ins -/
theorem dLen_noexc (d : D) (c : Str) : dLen d ≠ .exc c := by
  intro h
  unfold dLen at h
  split at h <;> first | (cases h; done) | (split at h <;> cases h)
theorem dBi_noexc (b : Bi) (ds : List D) (c : Str) : dBi b ds ≠ .exc c := by
  have k1 : ∀ (f : D → Res D), (∀ a c, f a ≠ .exc c) → ∀ ds c, d1 f ds ≠ .exc c := fun f hf ds c h => by
    unfold d1 at h
    split at h
    · exact hf _ _ h
    · cases h
  have k2 : ∀ (f : D → D → Res D), (∀ a b c, f a b ≠ .exc c) → ∀ ds c, d2 f ds ≠ .exc c := fun f hf ds c h => by
    unfold d2 at h
    split at h
    · exact hf _ _ _ h
    · cases h
  have kl : ∀ f (ds : List D) c, dLeast f ds ≠ .exc c := fun f ds c h => by
    unfold dLeast at h
    split at h
    · split at h <;> cases h
    · cases h
  cases b with
  | len => exact k1 _ dLen_noexc ds c
  | all => exact k1 _ (fun a c h => by unfold dAll at h; split at h <;> first | (cases h; done) | (split at h <;> cases h)) ds c
  | any => exact k1 _ (fun a c h => by unfold dAny at h; split at h <;> first | (cases h; done) | (split at h <;> cases h)) ds c
  | tuple => exact k1 _ (fun a c h => by unfold dTuple at h; split at h <;> cases h) ds c
  | list => exact k1 _ (fun a c h => by unfold dList at h; split at h <;> first | (cases h; done) | (split at h <;> cases h)) ds c
  | sorted => exact k1 _ (fun a c h => by unfold dSorted at h; split at h <;> first | (cases h; done) | (split at h <;> cases h)) ds c
  | abs => exact k1 _ (fun a c h => by unfold dAbs at h; split at h <;> cases h) ds c
  | min2 => exact k2 _ (fun a b c h => by unfold dMin2 at h; split at h <;> cases h) ds c
  | max2 => exact k2 _ (fun a b c h => by unfold dMax2 at h; split at h <;> cases h) ds c
  | sum => exact k1 _ (fun a c h => by unfold dSum at h; split at h <;> first | (cases h; done) | (split at h <;> cases h)) ds c
  | max1 => exact k1 _ (fun a c h => by unfold dMax1 at h; split at h <;> first | exact kl _ _ _ h | (cases h; done)) ds c
  | min1 => exact k1 _ (fun a c h => by unfold dMin1 at h; split at h <;> first | exact kl _ _ _ h | (cases h; done)) ds c
theorem pe_callV {b : Bi} {p : Pos} {e : Expr} {t : TA} (hu : X.A.units + 80 < cLine) (hc : X.calm = true) (hg : Gl X (biName b)) (hm : X.mg (biName b) = none) (ha : PA X (e :: es) t) (hs : ((e :: es).all noS) = true) :
    PE X (.Call (.Name (biName b) p) (e :: es) [] pos) (tCB (rBi X.K b) t) := by
  rw [List.all_cons, Bool.and_eq_true] at hs
  have h1 := callBi hu hc b
  have h2 := biBoot b
  unfold biVal at h1 h2
  by_cases hb : biTy b = true
  · rw [if_pos hb] at h1 h2
    exact pe_callTy h1 hg hm h2 ha (biNot b).1 (biNot b).2 (star_cons es X.env hs.1) (star_no _ _ _ hs.2)
  · rw [if_neg hb] at h1 h2
    exact pe_callB h1 hg hm h2 ha (biNot b).1 (biNot b).2 (star_cons es X.env hs.1) (star_no _ _ _ hs.2)
theorem se_bi {b : Bi} {p : Pos} {e : Expr} (fr : Bool) (hu : X.A.units + 80 < cLine) (hc : X.calm = true) (hg : Gl X (biName b)) (hm : X.mg (biName b) = none) (ha : PA X (e :: es) (tLU X.K W gs)) (hs : ((e :: es).all noS) = true) :
    PE X (.Call (.Name (biName b) p) (e :: es) [] pos) (tG fr X.K W fun st => do let ds ← gs st; dBi b ds) :=
  (pe_callV hu hc hg hm ha hs).weak fun σ H Q ⟨fo, oo, st, R, g⟩ =>
    ⟨fo, oo, st, R, g.bind.mono fun ds H1 _ e1 g1 vs rvs => by
      obtain ⟨d, e2, q⟩ := g1.val (dBi_noexc b ds)
      exact primBi b _ H1 vs ds d Q (R.grow e1).fresh rvs e2 fun u H2 e3 r => q H2 e3 u (RepF.back e1 (RepN.F fr (R.grow e1).fresh r))⟩
def tyStr : Ty → Str
  | .int => "int"
  | .bool => "bool"
  | .str => "str"
  | .tuple => "tuple"
  | .list => "list"
theorem tyBoot : ∀ t : Ty, bootBuiltins (tyStr t) = some (.type (tyName t))
  | .int => by decide +kernel
  | .bool => by decide +kernel
  | .str => by decide +kernel
  | .tuple => by decide +kernel
  | .list => by decide +kernel
theorem tyNot : ∀ t : Ty, tyStr t ≠ "__name__" ∧ ((tyStr t) == ("__debug__" : Str)) = false
  | .int => by decide +kernel
  | .bool => by decide +kernel
  | .str => by decide +kernel
  | .tuple => by decide +kernel
  | .list => by decide +kernel
theorem boot_isi : bootBuiltins "isinstance" = some (.builtin "isinstance") := by decide +kernel
theorem dIsI_noexc (t : Ty) (a : D) (c : Str) : dIsI t a ≠ .exc c := by
  intro h
  unfold dIsI at h
  split at h <;> cases h
theorem se_isI {t : Ty} {p p2 : Pos} (fr : Bool) (hg : Gl X "isinstance") (hm : X.mg "isinstance" = none) (hg2 : Gl X (tyStr t)) (hm2 : X.mg (tyStr t) = none) (ha : PE X a (tU X.K W fa)) (hs : noS a = true) :
    PE X (.Call (.Name "isinstance" p) [a, .Name (tyStr t) p2] [] pos) (tG fr X.K W fun st => do let x ← fa st; dIsI t x) :=
  (pe_callB call_isi hg hm boot_isi (pa_cons ha (pa_cons (pe_bltn (v := .ty (tyName t)) hg2 hm2 (tyBoot t) rfl (tyNot t).1 (tyNot t).2) pa_nil (star_cons _ _ rfl)) (star_cons _ _ hs)) (by decide) (by decide) (star_cons _ _ hs) (star_no _ _ _ rfl)).weak fun σ H Q ⟨fo, oo, st, R, g⟩ =>
    ⟨fo, oo, st, R, g.bind.mono fun x H1 _ e1 g1 v rv => by
      obtain ⟨d, e2, q⟩ := g1.val (dIsI_noexc t x)
      obtain ⟨T, b, h1, h2, h3⟩ := isI_ty rv e2
      subst h3
      exact ⟨v, .ty (tyName t), .type T, .type (tyName t), b, rfl, .ty _, h1, kit_ty h2, q H1 (Same.refl _) _ (Rep.flatN rfl fr (.bl b))⟩⟩
/-! calls -/
def spOf (K : PySem.W.Frag) (g : List D → Res D) : Sp := fun vs H Q E => ∃ fo ds, (fo.Nodup ∧ ∀ p ∈ fo, ∃ o, H p = some o) ∧ RepAll K (hid [fo] H) vs ds ∧ match g ds with
  | .ok d => ∀ v H', Same H H' → Rep K (hid [fo] H') v d → Q v H'
  | .exc c => ∀ H', Same H H' → E (.ref (He.ga K c)) none H'
  | .bad => False
/-- the same, and what is told is new -/
def spOfO (K : PySem.W.Frag) (g : List D → Res D) : Sp := fun vs H Q E => ∃ fo ds, (fo.Nodup ∧ ∀ p ∈ fo, ∃ o, H p = some o) ∧ RepAll K (hid [fo] H) vs ds ∧ match g ds with
  | .ok d => ∀ v H', Same H H' → RepN K [fo] H H' v d → Q v H'
  | .exc c => ∀ H', Same H H' → E (.ref (He.ga K c)) none H'
  | .bad => False
theorem StR.all {K : PySem.W.Frag} {H : Hp} {fo : List Addr} {σ : L2.St} {oo : List (List Addr)} {st : List SV} (R : StR K fo σ H oo st) : ∀ p ∈ (fo :: oo).flatten, ∃ o, H p = some o := fun p hp => by
  cases h : H p with
  | some o => exact ⟨o, rfl⟩
  | none => exact absurd hp (R.fresh p h)
theorem se_call {k : Nat} {f : Addr} {fd : FuncData} {ps : List Str} {x : Str} {p : Pos} {e : Expr} {g : List D → Res D} (F : FnOk X.prog X.w X.K X.mg X.base (L2.CX X.prog X.w) k f fd ps (spOf X.K g)) (hr : Room k X.A) (hg : Gl X x) (hm : X.mg x = some (.ref f))
    (hk : PySem.W.keepIn X.K (.ref f) = true) (hb : Binds X.K fd ps []) (tk : Takes X W) (ha : PA X (e :: es) (tL X.K W gs)) (hdb : (x == ("__debug__" : Str)) = false) (hs : ((e :: es).all noS) = true) :
    PE X (.Call (.Name x p) (e :: es) [] pos) (tG false X.K W fun st => do let ds ← gs st; g ds) := by
  rw [List.all_cons, Bool.and_eq_true] at hs
  refine (pe_callS F hr hg hm hk hb (fun σ => passAt tk σ) ha hdb (star_cons es X.env hs.1) (star_no _ _ _ hs.2)).weak fun σ H Q ⟨fo, oo, st, R, q⟩ =>
    ⟨fo, oo, st, R, q.bind.mono fun ds H1 _ e1 g1 vs rvs => ⟨(fo :: oo).flatten, ds, ⟨by rw [List.flatten_cons]; exact R.nodup, (R.grow e1).all⟩, by rw [hid_one]; exact rvs, ?_⟩⟩
  revert g1
  cases g ds with
  | ok d => exact fun g1 v H' e2 r => g1 H' e2 v (by rw [hid_one] at r; exact r)
  | exc c => exact fun g1 H' e2 => g1 H' e2
  | bad => exact fun g1 => g1
theorem hid_oneC (p : Addr) (l : List (List Addr)) (H : Hp) : hid ([p] :: [l.flatten]) H = hid ([p] :: l) H := by
  funext a
  unfold hid
  simp
theorem se_callO {k : Nat} {f : Addr} {fd : FuncData} {ps : List Str} {x : Str} {p : Pos} {e : Expr} {g : List D → Res D} (F : FnOk X.prog X.w X.K X.mg X.base (L2.CX X.prog X.w) k f fd ps (spOfO X.K g)) (hr : Room k X.A) (hg : Gl X x) (hm : X.mg x = some (.ref f))
    (hk : PySem.W.keepIn X.K (.ref f) = true) (hb : Binds X.K fd ps []) (tk : Takes X W) (ha : PA X (e :: es) (tL X.K W gs)) (hdb : (x == ("__debug__" : Str)) = false) (hs : ((e :: es).all noS) = true) :
    PE X (.Call (.Name x p) (e :: es) [] pos) (tG true X.K W fun st => do let ds ← gs st; g ds) := by
  rw [List.all_cons, Bool.and_eq_true] at hs
  refine (pe_callS F hr hg hm hk hb (fun σ => passAt tk σ) ha hdb (star_cons es X.env hs.1) (star_no _ _ _ hs.2)).weak fun σ H Q ⟨fo, oo, st, R, q⟩ =>
    ⟨fo, oo, st, R, q.bind.mono fun ds H1 _ e1 g1 vs rvs => ⟨(fo :: oo).flatten, ds, ⟨by rw [List.flatten_cons]; exact R.nodup, (R.grow e1).all⟩, by rw [hid_one]; exact rvs, ?_⟩⟩
  revert g1
  cases g ds with
  | ok d =>
    refine fun g1 v H' e2 r => g1 H' e2 v (RepN.back e1 ?_)
    cases r with
    | new hp h => exact .new hp (by rw [hid_oneC] at h; exact h)
    | old f h => exact .old f (by rw [hid_one] at h; exact h)
  | exc c => exact fun g1 H' e2 => g1 H' e2
  | bad => exact fun g1 => g1
theorem se_gint {x : Str} {i : Int} {t : Tok} {p : Pos} (fr : Bool) (hg : Gl X x) (hm : X.mg x = some (.int i t)) (hd : (x == ("__debug__" : Str)) = false) : PE X (.Name x p) (tG fr X.K W fun _ => .ok (.int i)) :=
  pe_const fr (pe_glob (v := .int i) hg hm ⟨_, rfl⟩ hd) rfl fun _ => .int i
theorem se_gstr {x z : Str} {t : Tok} {p : Pos} (fr : Bool) (hg : Gl X x) (hm : X.mg x = some (.str z t)) (hd : (x == ("__debug__" : Str)) = false) : PE X (.Name x p) (tG fr X.K W fun _ => .ok (.str z)) :=
  pe_const fr (pe_glob (v := .str z) hg hm ⟨_, rfl⟩ hd) rfl fun _ => .str z
end
end HF

set_option Elab.async false
set_option autoImplicit false
set_option linter.all false
set_option maxRecDepth 100000
set_option maxHeartbeats 4000000
/-! What is walked. -/
namespace HF
open PySem PySem.Spec PyProof.Rows L2
/-- at each turn the walk J gives the next of xs; fz: it stands in what nobody owns -/
def Wk (fz : Bool) (K : PySem.W.Frag) (J : L2.It) (xs : List D) (oo : List (List Addr)) (H1 : Hp) : Prop := ∀ (hs : List (List Addr)) (H : Hp) (i : Nat), (fz = false → Same H1 H) → Same (hid oo H1) (hid hs H) → Nw hs H →
  (∀ d, xs[i]? = some d → J.go i H ∧ ∀ x H', J.yld i H x H' → Same H H' ∧ Rep K (hid hs H') x d) ∧ (xs.length ≤ i → J.stop i H)
def tI (fz : Bool) (K : PySem.W.Frag) (W : WX) (f : List SV → Res (List D)) : TI := fun σ H R => ∃ fo oo st, StR K fo σ H oo st ∧ GoodP K W σ H (f st) fun xs H' => ∀ J : L2.It, Wk fz K J xs (fo :: oo) H' → xs.length ≤ 16777216 → R J H'
def RepS (fz : Bool) (K : PySem.W.Frag) (oo : List (List Addr)) (H : Hp) (v : V) (d : D) : Prop := match fz with
  | true => Rep K (hid oo H) v d
  | false => RepTop K (hid oo H) H v d
def tS (fz : Bool) (K : PySem.W.Frag) (W : WX) (f : List SV → Res D) : TE := fun σ H Q => ∃ fo oo st, StR K fo σ H oo st ∧ GoodP K W σ H (f st) fun d H' => ∀ v, RepS fz K (fo :: oo) H' v d → Q v H'
section
variable {X : Cx} {W : WX} {tg e : Expr}
theorem _root_.L2.PI.or {w w' : TI} (h : PI X tg e w) (h' : PI X tg e w') : PI X tg e (fun σ H R => w σ H R ∨ w' σ H R) := ⟨fun pins s σ H R I q => q.elim (h.run pins s σ H R I) (h'.run pins s σ H R I)⟩
theorem _root_.L2.PI.inv {w w' : TI} (h : PI X tg e w) (k : ∀ σ H R, w' σ H R → w σ H fun J H' => ∀ pins s, Inv X pins σ H' s → R J H') : PI X tg e w' := ⟨fun pins s σ H R I q =>
  thn (h.run pins s σ H _ I (k σ H R q)) fun v s1 q1 => thn q1 fun itv s2 ⟨it, fp, tn, J, H', e1, I2, T, st, f, r⟩ => ⟨it, fp, tn, J, H', e1, I2, T, st, f, r pins s2 I2⟩⟩
theorem tS_of {fr fz : Bool} {f : List SV → Res D} (h : PE X e (tG fr X.K W f)) : PE X e (tS fz X.K W f) := by
  cases fz with
  | true => exact tG_low h
  | false => exact tG_use h
end
section
variable {K : PySem.W.Frag} {oo : List (List Addr)} {H H1 : Hp} {v : V} {fz : Bool}
theorem RepS.mono {d : D} (e : Same H H1) (r : RepS fz K oo H v d) : RepS fz K oo H1 v d := by
  cases fz with
  | true => exact Rep.mono (hid_mono _ e) r
  | false => exact RepTop.mono (hid_mono _ e) e r
theorem RepS.list {ds : List D} (r : RepS fz K oo H1 v (.list ds)) : ∃ a xs, v = .ref a ∧ (∀ hs H, (fz = false → Same H1 H) → Same (hid oo H1) (hid hs H) → SqL K H a xs) ∧ RepAll K (hid oo H1) xs ds ∧ SqL K H1 a xs := by
  cases fz with
  | true =>
    cases (show Rep K (hid oo H1) v (.list ds) from r) with
    | @lst a xs _ h q => exact ⟨a, xs, rfl, fun hs H _ e => .of (hid_of (e _ _ h)).1, q, .of (hid_of h).1⟩
  | false =>
    cases (show RepTop K (hid oo H1) H1 v (.list ds) from r) with
    | @lst a xs _ h q => exact ⟨a, xs, rfl, fun hs H e _ => .of (e rfl _ _ h), q, .of h⟩
theorem RepS.tup {ds : List D} (r : RepS fz K oo H1 v (.tuple ds)) : ∃ a xs, v = .ref a ∧ (∀ hs H, (fz = false → Same H1 H) → Same (hid oo H1) (hid hs H) → SqT K H a xs) ∧ RepAll K (hid oo H1) xs ds ∧ SqT K H1 a xs := by
  cases fz with
  | true =>
    cases (show Rep K (hid oo H1) v (.tuple ds) from r) with
    | @tup a xs _ h q => exact ⟨a, xs, rfl, fun hs H _ e => Same.sqT (e.trans (hid_same _ _)) h, q, Same.sqT (hid_same _ _) h⟩
  | false =>
    cases (show RepTop K (hid oo H1) H1 v (.tuple ds) from r) with
    | @tup a xs _ h q => exact ⟨a, xs, rfl, fun hs H _ e => Same.sqT (e.trans (hid_same _ _)) h, q, Same.sqT (hid_same _ _) h⟩
theorem RepK.no_mark {K : PySem.W.Frag} {H : Hp} {kvs : List (Key × V)} {ps : List (D × D)} (r : RepK K H kvs (mark :: ps)) : False := by
  generalize hz : mark :: ps = z at r
  cases r with
  | nil => cases hz
  | @cons k v vs d ds _ _ =>
    unfold mark at hz
    cases k <;> cases hz
theorem RepS.dictF {ps : List (D × D)} (r : RepS fz K oo H1 v (.dict (mark :: ps))) : ∃ a u kvs, v = .ref a ∧ (∀ hs H, (fz = false → Same H1 H) → Same (hid oo H1) (hid hs H) → H a = some (.frz u (.dK kvs))) ∧ RepK K (hid oo H1) kvs ps ∧ H1 a = some (.frz u (.dK kvs)) := by
  cases fz with
  | true =>
    generalize hz : PyData.dict (mark :: ps) = z at r
    cases (show Rep K (hid oo H1) v z from r) with
    | dK h q => cases hz; exact q.no_mark.elim
    | scr h => unfold scrD mark at hz; cases hz
    | dF h q =>
      cases hz
      obtain ⟨u, h⟩ := h
      exact ⟨_, u, _, rfl, fun hs H _ e => (hid_of (e _ _ h)).1, q, (hid_of h).1⟩
    | _ => cases hz
  | false =>
    generalize hz : PyData.dict (mark :: ps) = z at r
    cases (show RepTop K (hid oo H1) H1 v z from r) with
    | dK h q => cases hz; exact q.no_mark.elim
    | scr h => unfold scrD mark at hz; cases hz
    | dF h q =>
      cases hz
      obtain ⟨u, h, h'⟩ := h
      exact ⟨_, u, _, rfl, fun hs H e _ => e rfl _ _ h', q, h'⟩
    | _ => cases hz
theorem RepS.str {z : Str} (r : RepS fz K oo H1 v (.str z)) : v = .str z := by
  cases fz with
  | true => cases (show Rep K (hid oo H1) v (.str z) from r); rfl
  | false => cases (show RepTop K (hid oo H1) H1 v (.str z) from r); rfl
theorem wk_list {a : Addr} {xs : List V} {ds : List D} (h : ∀ hs H, (fz = false → Same H1 H) → Same (hid oo H1) (hid hs H) → SqL K H a xs) (r : RepAll K (hid oo H1) xs ds) : Wk fz K (Itl K a) ds oo H1 := fun hs H i e0 e1 n => by
  have q := h hs H e0 e1
  refine ⟨fun d hd => ?_, fun hl => ⟨xs, q, by rw [r.len]; exact hl⟩⟩
  obtain ⟨x, hx, rx⟩ := (r.mono e1).get hd
  refine ⟨⟨xs, x, q, hx⟩, fun y H' ⟨e, k⟩ => ?_⟩
  subst e
  have k' := k xs q
  rw [hx] at k'
  cases k'
  exact ⟨Same.refl _, rx⟩
theorem wk_tup {a : Addr} {xs : List V} {ds : List D} (h : ∀ hs H, (fz = false → Same H1 H) → Same (hid oo H1) (hid hs H) → SqT K H a xs) (r : RepAll K (hid oo H1) xs ds) : Wk fz K (Itt K a) ds oo H1 := fun hs H i e0 e1 n => by
  have q := h hs H e0 e1
  refine ⟨fun d hd => ?_, fun hl => ⟨xs, q, by rw [r.len]; exact hl⟩⟩
  obtain ⟨x, hx, rx⟩ := (r.mono e1).get hd
  refine ⟨⟨xs, x, q, hx⟩, fun y H' ⟨e, k⟩ => ?_⟩
  subst e
  have k' := k xs q
  rw [hx] at k'
  cases k'
  exact ⟨Same.refl _, rx⟩
theorem RepK.getP : ∀ {κs : List (Key × V)} {ps : List (D × D)}, RepK K H κs ps → ∀ i : Nat, (∀ d, (ps.map (·.1))[i]? = some d → ∃ k v, κs[i]? = some (k, v) ∧ d = kD k) ∧ κs.length = ps.length
  | _, _, .nil => fun i => ⟨fun d h => by simp at h, rfl⟩
  | _, _, .cons (k := k) (v := v) r q => fun i => by
    refine ⟨fun d' h => ?_, congrArg Nat.succ (RepK.getP q 0).2⟩
    cases i with
    | zero =>
      simp at h
      exact ⟨k, v, rfl, h.symm⟩
    | succ i =>
      obtain ⟨k', v', e1, e2⟩ := (RepK.getP q i).1 d' (by simpa using h)
      exact ⟨k', v', by simpa using e1, e2⟩
theorem wk_keys {a : Addr} {u : Obj} {kvs : List (Key × V)} {ps : List (D × D)} (h : ∀ hs H, (fz = false → Same H1 H) → Same (hid oo H1) (hid hs H) → H a = some (.frz u (.dK kvs))) (r : RepK K (hid oo H1) kvs ps) : Wk fz K (Itk a u kvs) (ps.map (·.1)) oo H1 := fun hs H i e0 e1 n => by
  have q := h hs H e0 e1
  obtain ⟨g1, g2⟩ := RepK.getP r i
  refine ⟨fun d hd => ?_, fun hl => ⟨q, by rw [g2]; simpa using hl⟩⟩
  obtain ⟨k, v, e2, rfl⟩ := g1 d hd
  have hi : i < kvs.length := (List.getElem?_eq_some_iff.mp e2).1
  refine ⟨⟨q, hi⟩, fun y H' ⟨e, k', v', e3, e4⟩ => ?_⟩
  subst e
  rw [e2] at e3
  cases e3
  subst e4
  refine ⟨Same.refl _, ?_⟩
  cases k with
  | inl i => exact .int i
  | inr x => exact .str x
theorem wk_str {z : Str} : Wk fz K (Its z) (z.cps.toList.map fun c => .str ⟨#[c]⟩) oo H1 := fun hs H i e0 e1 n => by
  refine ⟨fun d hd => ?_, fun hl => ?_⟩
  · rw [List.getElem?_map] at hd
    cases hc : z.cps.toList[i]? with
    | none => rw [hc] at hd; cases hd
    | some c =>
      rw [hc] at hd
      cases hd
      have hlt : i < z.cps.size := by
        have := (List.getElem?_eq_some_iff.mp hc).1
        simpa using this
      refine ⟨hlt, fun x H' ⟨e, c', h1, h2⟩ => ?_⟩
      subst e h2
      have h3 : z.cps[i]? = some c := by rw [← hc]; simp
      rw [h3] at h1
      cases h1
      exact ⟨Same.refl _, .str _⟩
  · have : z.cps.size ≤ i := by simpa using hl
    exact this
theorem wk_rng {lo hi : Int} : Wk fz K (Itr lo (hi - lo).toNat) (rngD lo hi) oo H1 := fun hs H i e0 e1 n => by
  refine ⟨fun d hd => ?_, fun hl => ?_⟩
  · unfold rngD at hd
    rw [List.getElem?_map] at hd
    by_cases hlt : i < (hi - lo).toNat
    · rw [List.getElem?_range hlt] at hd
      cases hd
      refine ⟨hlt, fun x H' ⟨e, k⟩ => ?_⟩
      subst e k
      exact ⟨Same.refl _, .int _⟩
    · rw [List.getElem?_eq_none (by simpa using Nat.le_of_not_lt hlt)] at hd
      cases hd
  · show (hi - lo).toNat ≤ i
    unfold rngD at hl
    simpa using hl
theorem zipD_get {xs ys : List D} {i : Nat} {d : D} (h : (zipD xs ys)[i]? = some d) : ∃ x y, xs[i]? = some x ∧ ys[i]? = some y ∧ d = .tuple [x, y] := by
  unfold zipD at h
  rw [List.getElem?_zipWith] at h
  split at h
  · rename_i x y h1 h2
    cases h
    exact ⟨x, y, h1, h2, rfl⟩
  · cases h
theorem zipD_len {xs ys : List D} {i : Nat} (h : (zipD xs ys).length ≤ i) : xs.length ≤ i ∨ ys.length ≤ i := by
  unfold zipD at h
  rw [List.length_zipWith] at h
  omega
theorem enum_get : ∀ {xs : List D} {k i : Nat} {d : D}, (enumFrom k xs)[i]? = some d → ∃ y, xs[i]? = some y ∧ d = .tuple [.int ((k + i : Nat) : Int), y]
  | [], k, i, d, h => by unfold enumFrom at h; simp at h
  | y :: r, k, 0, d, h => by unfold enumFrom at h; simp at h; exact ⟨y, rfl, h.symm⟩
  | y :: r, k, i + 1, d, h => by
    unfold enumFrom at h
    obtain ⟨z, h1, h2⟩ := enum_get (i := i) (k := k + 1) (xs := r) (by simpa using h)
    exact ⟨z, by simpa using h1, by rw [h2]; congr 3; congr 1; omega⟩
theorem enum_len : ∀ (xs : List D) (k : Nat), (enumFrom k xs).length = xs.length
  | [], _ => rfl
  | _ :: r, k => by show (enumFrom (k + 1) r).length + 1 = r.length + 1; rw [enum_len r]
theorem pair_rep {hs : List (List Addr)} {T : Addr} {x y : V} {a b : D} (hT : H T = none) (n : Nw hs H) (rx : Rep K (hid hs H) x a) (ry : Rep K (hid hs H) y b) : Same H (upd H T (.tup [x, y])) ∧ Rep K (hid hs (upd H T (.tup [x, y]))) (.ref T) (.tuple [a, b]) :=
  ⟨Same.upd hT, RepN.rep n (newT hT n (.cons rx (.cons ry .nil)))⟩
theorem wk_zip {a b : Addr} {xs ys : List V} {ds es : List D} (h : ∀ hs H, (fz = false → Same H1 H) → Same (hid oo H1) (hid hs H) → SqL K H a xs) (h' : ∀ hs H, (fz = false → Same H1 H) → Same (hid oo H1) (hid hs H) → SqL K H b ys) (r : RepAll K (hid oo H1) xs ds) (r' : RepAll K (hid oo H1) ys es) : Wk fz K (Itz K a b) (zipD ds es) oo H1 := fun hs H i e0 e1 n => by
  have q := h hs H e0 e1
  have q' := h' hs H e0 e1
  refine ⟨fun d hd => ?_, fun hl => ⟨xs, ys, q, q', by rw [r.len, r'.len]; exact zipD_len hl⟩⟩
  obtain ⟨x, y, hx, hy, rfl⟩ := zipD_get hd
  obtain ⟨vx, hvx, rx⟩ := (r.mono e1).get hx
  obtain ⟨vy, hvy, ry⟩ := (r'.mono e1).get hy
  refine ⟨⟨xs, ys, vx, vy, q, q', hvx, hvy⟩, fun u H' ⟨T, x', y', e, hT, eH, k1, k2⟩ => ?_⟩
  have z1 := k1 xs q
  have z2 := k2 ys q'
  rw [hvx] at z1
  rw [hvy] at z2
  cases z1
  cases z2
  subst e eH
  exact pair_rep hT n rx ry
theorem wk_zipT {a b : Addr} {xs ys : List V} {ds es : List D} (h : ∀ hs H, (fz = false → Same H1 H) → Same (hid oo H1) (hid hs H) → SqT K H a xs) (h' : ∀ hs H, (fz = false → Same H1 H) → Same (hid oo H1) (hid hs H) → SqT K H b ys) (r : RepAll K (hid oo H1) xs ds) (r' : RepAll K (hid oo H1) ys es) : Wk fz K (RZ.ItzT K a b) (zipD ds es) oo H1 := fun hs H i e0 e1 n => by
  have q := h hs H e0 e1
  have q' := h' hs H e0 e1
  refine ⟨fun d hd => ?_, fun hl => ⟨xs, ys, q, q', by rw [r.len, r'.len]; exact zipD_len hl⟩⟩
  obtain ⟨x, y, hx, hy, rfl⟩ := zipD_get hd
  obtain ⟨vx, hvx, rx⟩ := (r.mono e1).get hx
  obtain ⟨vy, hvy, ry⟩ := (r'.mono e1).get hy
  refine ⟨⟨xs, ys, vx, vy, q, q', hvx, hvy⟩, fun u H' ⟨T, x', y', e, hT, eH, k1, k2⟩ => ?_⟩
  have z1 := k1 xs q
  have z2 := k2 ys q'
  rw [hvx] at z1
  rw [hvy] at z2
  cases z1
  cases z2
  subst e eH
  exact pair_rep hT n rx ry
theorem wk_enum {a : Addr} {xs : List V} {ds : List D} (h : ∀ hs H, (fz = false → Same H1 H) → Same (hid oo H1) (hid hs H) → SqL K H a xs) (r : RepAll K (hid oo H1) xs ds) : Wk fz K (Ite K a) (enumFrom 0 ds) oo H1 := fun hs H i e0 e1 n => by
  have q := h hs H e0 e1
  refine ⟨fun d hd => ?_, fun hl => ⟨xs, q, by rw [r.len, ← enum_len ds 0]; exact hl⟩⟩
  obtain ⟨x, hx, rfl⟩ := enum_get hd
  obtain ⟨vx, hvx, rx⟩ := (r.mono e1).get hx
  refine ⟨⟨xs, vx, q, hvx⟩, fun u H' ⟨T, x', e, hT, eH, k1⟩ => ?_⟩
  have z1 := k1 xs q
  rw [hvx] at z1
  cases z1
  subst e eH
  have z : ((0 + i : Nat) : Int) = (i : Nat) := by rw [Nat.zero_add]
  rw [z]
  exact pair_rep hT n (.int _) rx
end
section
variable {X : Cx} {W : WX} {tg a b : Expr} {fa fb : List SV → Res D} {p pos tpos : Pos} {fz : Bool}
theorem seqD_noexc (d : D) (c : Str) : seqD d ≠ .exc c := by
  intro h
  unfold seqD at h
  split at h <;> first | (cases h; done) | (split at h <;> cases h)
theorem si_val (ha : PE X a (tS fz X.K W fa)) : PI X tg a (tI fz X.K W fun st => do let x ← fa st; seqD x) :=
  ((pi_list ha).or ((pi_tup ha).or ((pi_str ha).or (pi_keys ha)))).inv fun σ H R ⟨fo, oo, st, S, g⟩ => by
    dsimp only at g
    have g1 := g.bind
    cases hf : fa st with
    | exc c =>
      rw [hf] at g1
      exact .inl ⟨fo, oo, st, S, by rw [hf]; exact g1⟩
    | bad => rw [hf] at g1; exact g1.elim
    | ok x =>
      rw [hf] at g1
      have g2 := g1 H (Same.refl _)
      cases x with
      | list ds =>
        refine .inl ⟨fo, oo, st, S, ?_⟩
        rw [hf]
        refine fun H1 e1 v rv => ?_
        obtain ⟨l, xs, rfl, h1, h2, h3⟩ := RepS.list rv
        refine ⟨l, rfl, ⟨xs, h3⟩, fun pins s I => ?_⟩
        refine (g1 H1 e1) H1 (Same.refl _) _ (wk_list h1 h2) ?_
        obtain ⟨_, _, _, hz⟩ := I.list h3
        rw [← h2.len, ← sizeLine_eq]
        exact hz
      | tuple ds =>
        refine .inr (.inl ⟨fo, oo, st, S, ?_⟩)
        rw [hf]
        refine fun H1 e1 v rv => ?_
        obtain ⟨l, xs, rfl, h1, h2, h3⟩ := RepS.tup rv
        refine ⟨l, rfl, ⟨xs, h3⟩, fun pins s I => ?_⟩
        refine (g1 H1 e1) H1 (Same.refl _) _ (wk_tup h1 h2) ?_
        obtain ⟨_, _, _, hz⟩ := I.tuple h3
        rw [← h2.len, ← sizeLine_eq]
        exact hz
      | str z =>
        refine .inr (.inr (.inl ⟨fo, oo, st, S, ?_⟩))
        rw [hf]
        refine fun H1 e1 v rv => ?_
        refine ⟨z, RepS.str rv, fun pins s I => ?_⟩
        have g3 := g1 H1 e1
        have g4 : GoodP X.K W σ H1 (if z.length ≤ 16777216 then Res.ok (z.cps.toList.map fun c => PyData.str ⟨#[c]⟩) else .bad) _ := g3
        split at g4
        · rename_i hz
          exact g4 H1 (Same.refl _) _ wk_str (by rw [List.length_map]; exact hz)
        · exact g4.elim
      | none => exact g2.elim
      | bool _ => exact g2.elim
      | int _ => exact g2.elim
      | dict qs =>
        unfold seqD at g2
        split at g2
        · rename_i e; cases e
        · rename_i e; cases e
        · rename_i e; cases e
        · rename_i ps e
          cases e
          refine .inr (.inr (.inr ⟨fo, oo, st, S, ?_⟩))
          rw [hf]
          refine fun H1 e1 v rv => ?_
          obtain ⟨l, u, kvs, rfl, h1, h2, h3⟩ := RepS.dictF rv
          refine ⟨l, u, rfl, .inl ⟨kvs, h3, fun pins s I => ?_⟩⟩
          have g4 : GoodP X.K W σ H1 (if (keysK ps && decide (ps.length ≤ 16777216)) = true then Res.ok (ps.map (·.1)) else .bad) _ := g1 H1 e1
          split at g4
          · rename_i hz
            rw [Bool.and_eq_true] at hz
            exact g4 H1 (Same.refl _) _ (wk_keys h1 h2) (by rw [List.length_map]; exact of_decide_eq_true hz.2)
          · exact g4.elim
        · exact g2.elim

theorem dRng_cases {x y : D} {R : List D → Prop} (σ : L2.St) (H : Hp) (K : PySem.W.Frag) (P : List D → Hp → Prop) (g : GoodP K W σ H (dRng x y) P) : ∃ i j : Int, x = .int i ∧ y = .int j ∧ (-1000000 ≤ i ∧ i ≤ 1000000 ∧ -1000000 ≤ j ∧ j ≤ 1000000) ∧ ∀ H', Same H H' → P (rngD i j) H' := by
  unfold dRng at g
  split at g
  · split at g
    · rename_i i j h
      exact ⟨i, j, rfl, rfl, h, g⟩
    · exact g.elim
  · exact g.elim
theorem rng_len (i j : Int) (h : -1000000 ≤ i ∧ i ≤ 1000000 ∧ -1000000 ≤ j ∧ j ≤ 1000000) : (rngD i j).length ≤ 16777216 := by
  unfold rngD
  rw [List.length_map, List.length_range]
  omega
theorem si_rng1 (hg : Gl X "range") (hm : X.mg "range" = none) (ha : PE X a (tG false X.K W fa)) (hs : noS a = true) : PI X tg (.Call (.Name "range" p) [a] [] pos) (tI fz X.K W fun st => do let x ← fa st; dRng (.int 0) x) :=
  (pi_range1 hg hm (pa_cons ha pa_nil (star_cons _ _ hs)) (star_cons _ _ hs)).inv fun σ H R ⟨fo, oo, st, S, g⟩ =>
    ⟨fo, oo, st, S, g.bind.mono fun x H1 _ e1 g1 v rv => by
      obtain ⟨i, j, h0, h1, h2, q⟩ := dRng_cases (R := fun _ => True) σ H1 X.K _ g1
      cases h0
      subst h1
      cases rv
      refine ⟨j, rfl, by omega, by omega, fun pins s I => ?_⟩
      have w := wk_rng (fz := fz) (K := X.K) (lo := 0) (hi := j) (oo := fo :: oo) (H1 := H1)
      rw [Int.sub_zero] at w
      exact q H1 (Same.refl _) _ w (rng_len _ _ h2)⟩
theorem si_rng2 (hg : Gl X "range") (hm : X.mg "range" = none) (ha : PE X a (tG false X.K W fa)) (hb : PE X b (tG false X.K W fb)) (hs : noS a = true) (hs2 : noS b = true) : PI X tg (.Call (.Name "range" p) [a, b] [] pos) (tI fz X.K W fun st => do let x ← fa st; let y ← fb st; dRng x y) :=
  (pi_range2 hg hm (pa_cons ha (pa_cons hb pa_nil (star_cons _ _ hs2)) (star_cons _ _ hs)) ((star_cons _ _ hs).trans (by rw [star_cons _ _ hs2]; rfl)) (star_cons _ _ hs2)).inv fun σ H R ⟨fo, oo, st, S, g⟩ =>
    ⟨fo, oo, st, S, g.bind.mono fun x H1 _ e1 g1 v rv => ⟨fo, oo, st, S.grow e1, g1.bind.mono fun y H2 _ e2 g2 w rw => by
      obtain ⟨i, j, h0, h1, h2, q⟩ := dRng_cases (R := fun _ => True) σ H2 X.K _ g2
      subst h0 h1
      cases rv
      cases rw
      exact ⟨i, j, rfl, by omega, fun pins s I => q H2 (Same.refl _) _ wk_rng (rng_len _ _ h2)⟩⟩⟩
theorem zip_short (xs ys : List D) : (zipD xs ys).length ≤ xs.length := by
  unfold zipD
  rw [List.length_zipWith]
  omega
theorem si_zip {elts : List Expr} {k : Nat} (hg : Gl X "zip") (hm : X.mg "zip" = none) (ha : PE X a (tS fz X.K W fa)) (hb : PE X b (tS fz X.K W fb)) (hs : noS a = true) (hs2 : noS b = true) :
    PI X (.Tuple elts k tpos) (.Call (.Name "zip" p) [a, b] [] pos) (tI fz X.K W fun st => do let x ← fa st; let y ← fb st; dZip x y) :=
  (RZ.pi_zipA hg hm (pa_cons ha (pa_cons hb pa_nil (star_cons _ _ hs2)) (star_cons _ _ hs)) (star_cons _ _ hs) (star_no _ _ _ (by rw [List.all_cons, hs2]; rfl))).inv fun σ H R ⟨fo, oo, st, S, g⟩ =>
    ⟨fo, oo, st, S, g.bind.mono fun x H1 _ e1 g1 v rv => ⟨fo, oo, st, S.grow e1, g1.bind.mono fun y H2 _ e2 g2 w rw => by
      have rv2 := RepS.mono e2 rv
      cases x <;> try exact g2.elim
      · cases y <;> try exact g2.elim
        obtain ⟨l, xs, rfl, h1, h2, h3⟩ := RepS.list rv2
        obtain ⟨l', ys, rfl, h1', h2', h3'⟩ := RepS.list rw
        refine ⟨l, l', xs, ys, rfl, .inl ⟨h3, h3', fun pins s I => g2 H2 (Same.refl _) _ (wk_zip h1 h1' h2 h2') (Nat.le_trans (zip_short _ _) ?_)⟩⟩
        obtain ⟨_, _, _, hz⟩ := I.list h3
        rw [← h2.len, ← sizeLine_eq]
        exact hz
      · cases y <;> try exact g2.elim
        obtain ⟨l, xs, rfl, h1, h2, h3⟩ := RepS.tup rv2
        obtain ⟨l', ys, rfl, h1', h2', h3'⟩ := RepS.tup rw
        refine ⟨l, l', xs, ys, rfl, .inr ⟨h3, h3', fun pins s I => g2 H2 (Same.refl _) _ (wk_zipT h1 h1' h2 h2') (Nat.le_trans (zip_short _ _) ?_)⟩⟩
        obtain ⟨_, _, _, hz⟩ := I.tuple h3
        rw [← h2.len, ← sizeLine_eq]
        exact hz⟩⟩
theorem si_enum {elts : List Expr} {k : Nat} (hg : Gl X "enumerate") (hm : X.mg "enumerate" = none) (ha : PE X a (tS fz X.K W fa)) (hs : noS a = true) :
    PI X (.Tuple elts k tpos) (.Call (.Name "enumerate" p) [a] [] pos) (tI fz X.K W fun st => do let x ← fa st; dEnum x) :=
  (pi_enum hg hm (pa_cons ha pa_nil (star_cons _ _ hs)) (star_cons _ _ hs)).inv fun σ H R ⟨fo, oo, st, S, g⟩ =>
    ⟨fo, oo, st, S, g.bind.mono fun x H1 _ e1 g1 v rv => by
      cases x <;> try exact g1.elim
      obtain ⟨l, xs, rfl, h1, h2, h3⟩ := RepS.list rv
      refine ⟨l, xs, rfl, h3, fun pins s I => g1 H1 (Same.refl _) _ (wk_enum h1 h2) ?_⟩
      obtain ⟨_, _, _, hz⟩ := I.list h3
      rw [enum_len, ← h2.len, ← sizeLine_eq]
      exact hz⟩
def noSet : Expr → Bool
  | .Set _ _ _ => false
  | _ => true
theorem folded_no {e : Expr} {env : Env} (h : noSet e = true) (x : Value) : foldedSetIterable e env x = pure x := by
  cases e <;> first | rfl | cases h
end
end HF

set_option Elab.async false
set_option autoImplicit false
set_option linter.all false
set_option maxRecDepth 100000
set_option maxHeartbeats 4000000
/-! Targets; comprehensions. -/
namespace HF
open PySem PySem.Spec PyProof.Rows L2
def gNames : List Nat → TGs
  | [] => gNil
  | i :: is => gCons (gName i) (gNames is)
def gOf (K : PySem.W.Frag) : Tg → TG
  | .one i => gName i
  | .tup is => gTup K is.length (gNames is)
def tgIx : Tg → List Nat
  | .one i => [i]
  | .tup is => is
theorem wipe_in {σ : L2.St} {i : Nat} : ∀ {vs : List Nat}, i ∈ vs → i < σ.length → (wipe σ vs)[i]? = some none
  | [], h, _ => by cases h
  | v :: vs, h, hl => by
    unfold wipe
    have hl' : i < (wipe σ vs).length := by rw [wipe_length]; exact hl
    by_cases e : v = i
    · subst e
      rw [List.getElem?_set_self hl']
    · rw [List.getElem?_set_ne e]
      rcases List.mem_cons.mp h with h | h
      · exact absurd h.symm e
      · exact wipe_in h hl
theorem wipe_ext {σ τ : L2.St} {vs : List Nat} (hl : σ.length = τ.length) (h : ∀ i, i ∉ vs → σ[i]? = τ[i]?) : wipe σ vs = wipe τ vs := by
  apply List.ext_getElem?
  intro i
  by_cases hi : i ∈ vs
  · by_cases hlt : i < σ.length
    · rw [wipe_in hi hlt, wipe_in hi (by rw [← hl]; exact hlt)]
    · rw [List.getElem?_eq_none (by rw [wipe_length]; omega), List.getElem?_eq_none (by rw [wipe_length]; omega)]
  · rw [wipe_out hi, wipe_out hi, h i hi]
theorem wipe_set {σ : L2.St} {i : Nat} {x : Option V} {vs : List Nat} (h : i ∈ vs) : wipe (σ.set i x) vs = wipe σ vs :=
  wipe_ext (List.length_set) fun j hj => List.getElem?_set_ne (fun e : i = j => hj (e ▸ h))
theorem wipe_wipe {σ : L2.St} {vs : List Nat} : wipe (wipe σ vs) vs = wipe σ vs := wipe_ext (wipe_length _ _) fun j hj => wipe_out hj
theorem wipeS_len (σ : List SV) : ∀ vs : List Nat, (wipeS σ vs).length = σ.length
  | [] => rfl
  | v :: vs => by unfold wipeS; rw [List.length_set, wipeS_len σ vs]
theorem wipeS_in {σ : List SV} {i : Nat} : ∀ {vs : List Nat}, i ∈ vs → i < σ.length → (wipeS σ vs)[i]? = some .no
  | [], h, _ => by cases h
  | v :: vs, h, hl => by
    unfold wipeS
    have hl' : i < (wipeS σ vs).length := by rw [wipeS_len]; exact hl
    by_cases e : v = i
    · subst e
      rw [List.getElem?_set_self hl']
    · rw [List.getElem?_set_ne e]
      rcases List.mem_cons.mp h with h | h
      · exact absurd h.symm e
      · exact wipeS_in h hl
theorem wipeS_out {σ : List SV} {i : Nat} : ∀ {vs : List Nat}, i ∉ vs → (wipeS σ vs)[i]? = σ[i]?
  | [], _ => rfl
  | v :: vs, h => by
    unfold wipeS
    rw [List.getElem?_set_ne (fun e : v = i => h (e ▸ List.mem_cons_self))]
    exact wipeS_out fun z => h (List.mem_cons_of_mem _ z)
def notOwn : SV → Prop
  | .own _ => False
  | _ => True
theorem noOwn_at {σ : List SV} {is : List Nat} (h : noOwn σ is = true) : ∀ i ∈ is, ∃ s, σ[i]? = some s ∧ notOwn s := fun i hi => by
  have q := List.all_eq_true.mp h i hi
  split at q
  · cases q
  · rename_i s e hs
    refine ⟨s, hs, ?_⟩
    cases s with
    | own d => exact absurd rfl (e d)
    | no => trivial
    | fz d => trivial
  · cases q
theorem noOwn_of {σ : List SV} {is : List Nat} (h : ∀ i ∈ is, ∃ s, σ[i]? = some s ∧ notOwn s) : noOwn σ is = true := List.all_eq_true.mpr fun i hi => by
  obtain ⟨s, e, n⟩ := h i hi
  rw [e]
  cases s with
  | own d => exact n.elim
  | no => rfl
  | fz d => rfl
section
variable {K : PySem.W.Frag} {fo : List Addr} {σ : L2.St} {H H' : Hp} {oo : List (List Addr)} {st : List SV}
theorem SlotR.free {Hc : Hp} {v : Option (Option V)} {o : Option (List Addr)} {s : SV} (h : SlotR K Hc H v o (some s)) (n : notOwn s) : o = some [] := by
  cases s with
  | own d => exact n.elim
  | no => exact h
  | fz d => exact h.1
theorem StR.put (R : StR K fo σ H oo st) {i : Nat} {v : V} {d : D} (h : noOwn st [i] = true) (r : Rep K (hid (fo :: oo) H) v d) : StR K fo (σ.set i (some v)) H oo (st.set i (.fz d)) := by
  refine ⟨by rw [List.length_set, List.length_set]; exact R.lenV, by rw [List.length_set]; exact R.lenO, R.foin, R.nodup, fun j => ?_⟩
  by_cases e : i = j
  · subst e
    obtain ⟨s, e1, n⟩ := noOwn_at h i List.mem_cons_self
    have hlt := (List.getElem?_eq_some_iff.mp e1).1
    have q := R.slots i
    rw [e1] at q
    rw [List.getElem?_set_self hlt, List.getElem?_set_self (by rw [R.lenV]; exact hlt)]
    exact ⟨q.free n, v, rfl, r⟩
  · rw [List.getElem?_set_ne e, List.getElem?_set_ne e]
    exact R.slots j
theorem noOwn_set {i : Nat} {d : D} {is : List Nat} (h : noOwn st is = true) : noOwn (st.set i (.fz d)) is = true := noOwn_of fun j hj => by
  obtain ⟨s, e, n⟩ := noOwn_at h j hj
  by_cases z : i = j
  · subst z
    exact ⟨.fz d, List.getElem?_set_self (List.getElem?_eq_some_iff.mp e).1, trivial⟩
  · exact ⟨s, by rw [List.getElem?_set_ne z]; exact e, n⟩
theorem noOwn_cons {i : Nat} {is : List Nat} (h : noOwn st (i :: is) = true) : noOwn st [i] = true ∧ noOwn st is = true :=
  ⟨noOwn_of fun j hj => noOwn_at h j (by rw [List.mem_singleton.mp hj]; exact List.mem_cons_self), noOwn_of fun j hj => noOwn_at h j (List.mem_cons_of_mem _ hj)⟩
theorem puts_ok {Q : L2.St → Hp → Prop} : ∀ {is : List Nat} {vs : List V} {ds : List D} {σ : L2.St} {st : List SV}, StR K fo σ H oo st → noOwn st is = true → RepAll K (hid (fo :: oo) H) vs ds → ds.length = is.length →
    (∀ σ', StR K fo σ' H oo (setAll st is ds) → (∀ ws : List Nat, (∀ i ∈ is, i ∈ ws) → wipe σ' ws = wipe σ ws) → Q σ' H) → gNames is vs σ H Q
  | [], _, _, σ, st, R, hn, .nil, hl, k => ⟨rfl, k σ R fun ws _ => rfl⟩
  | [], _, _, _, _, _, _, .cons _ _, hl, _ => by cases hl
  | i :: is, _, _, _, _, _, _, .nil, hl, _ => by cases hl
  | i :: is, _, _, σ, st, R, hn, .cons r rr, hl, k => by
    obtain ⟨h1, h2⟩ := noOwn_cons hn
    refine ⟨_, _, rfl, puts_ok (R.put h1 r) (noOwn_set h2) rr (by simpa using hl) fun σ' R' hw => ?_⟩
    refine k σ' R' fun ws hws => ?_
    rw [hw ws fun j hj => hws j (List.mem_cons_of_mem _ hj), wipe_set (hws i List.mem_cons_self)]
theorem bind_ok {t : Tg} {x : V} {d : D} {st' : List SV} {Q : L2.St → Hp → Prop} (R : StR K fo σ H oo st) (r : Rep K (hid (fo :: oo) H) x d) (hb : bindT t d st = .ok st')
    (k : ∀ σ', StR K fo σ' H oo st' → (∀ ws : List Nat, (∀ i ∈ tgIx t, i ∈ ws) → wipe σ' ws = wipe σ ws) → Q σ' H) : gOf K t x σ H Q := by
  cases t with
  | one i =>
    have hb' : (if noOwn st [i] then Res.ok (st.set i (.fz d)) else .bad) = .ok st' := hb
    split at hb'
    · rename_i h
      cases hb'
      exact k _ (R.put h r) fun ws hws => wipe_set (hws i List.mem_cons_self)
    · cases hb'
  | tup is =>
    cases d with
    | tuple ds =>
      have hb' : (if ds.length = is.length ∧ noOwn st is = true then Res.ok (setAll st is ds) else .bad) = .ok st' := hb
      split at hb'
      · rename_i h
        cases hb'
        cases r with
        | tup ht rr =>
          refine ⟨_, _, rfl, Same.sqT (hid_same _ _) ht, by rw [rr.len]; exact h.1, puts_ok R h.2 rr h.1 k⟩
      · cases hb'
    | none => cases hb
    | bool _ => cases hb
    | int _ => cases hb
    | str _ => cases hb
    | list _ => cases hb
    | dict _ => cases hb
theorem hid_upd {oo : List (List Addr)} {p : Addr} {o : HO} (h : p ∈ oo.flatten) : hid oo (upd H p o) = hid oo H := by
  funext a
  unfold hid
  split
  · rfl
  · rename_i n
    rw [upd_ne (fun e : a = p => n (e ▸ h))]
theorem hid_new {D : Addr} (hD : H D = none) (e : Same H H') : Same (hid (fo :: oo) H) (hid ((D :: fo) :: oo) H') := fun a o q => by
  obtain ⟨h1, h2⟩ := hid_of q
  have ne : a ≠ D := ne_of_none h1 hD
  rw [hid_get]
  · exact e _ _ h1
  · intro z
    rw [List.flatten_cons, List.cons_append] at z
    rcases List.mem_cons.mp z with z | z
    · exact ne z
    · exact h2 z
theorem StR.comp (R : StR K fo σ H oo st) {D : Addr} {o : HO} {ws : List Nat} (hD : H D = none) (e : Same H H') (hD' : H' D = some o) (hw : noOwn st ws = true) : StR K (D :: fo) (wipe σ ws) H' oo (wipeS st ws) := by
  refine ⟨by rw [wipe_length, wipeS_len]; exact R.lenV, by rw [wipeS_len]; exact R.lenO, fun p hp => ?_, ?_, fun j => ?_⟩
  · rcases List.mem_cons.mp hp with z | z
    · rw [z]; exact ⟨o, hD'⟩
    · obtain ⟨u, q⟩ := R.foin p z
      exact ⟨u, e _ _ q⟩
  · rw [List.cons_append]
    exact List.nodup_cons.mpr ⟨R.fresh D hD, R.nodup⟩
  · by_cases hj : j ∈ ws
    · by_cases hlt : j < st.length
      · rw [wipeS_in hj hlt]
        obtain ⟨s, e1, n⟩ := noOwn_at hw j hj
        have q := R.slots j
        rw [e1] at q
        exact q.free n
      · rw [List.getElem?_eq_none (l := wipeS st ws) (by rw [wipeS_len]; omega)]
        trivial
    · rw [wipeS_out hj, wipe_out hj]
      exact (R.slots j).mono (hid_new hD e) fun _ _ _ _ u q => e _ u q
end
theorem compL_cons {bnd : D → Res (List SV)} {c : List SV → Res Bool} {e : List SV → Res D} {x : D} {r ys : List D} (h : compL bnd c e (x :: r) = .ok ys) :
    ∃ τ b, bnd x = .ok τ ∧ c τ = .ok b ∧ (b = true → ∃ y r', e τ = .ok y ∧ compL bnd c e r = .ok r' ∧ ys = y :: r') ∧ (b = false → compL bnd c e r = .ok ys) := by
  unfold compL at h
  cases h1 : bnd x with
  | exc c => rw [h1] at h; cases h
  | bad => rw [h1] at h; cases h
  | ok τ =>
    rw [h1] at h
    simp only [Res.ok_bind] at h
    cases h2 : c τ with
    | exc c => rw [h2] at h; cases h
    | bad => rw [h2] at h; cases h
    | ok b =>
      rw [h2] at h
      simp only [Res.ok_bind] at h
      refine ⟨τ, b, rfl, h2, fun hb => ?_, fun hb => ?_⟩
      · subst hb
        rw [if_pos rfl] at h
        cases h3 : e τ with
        | exc c => rw [h3] at h; cases h
        | bad => rw [h3] at h; cases h
        | ok y =>
          rw [h3] at h
          simp only [Res.ok_bind] at h
          cases h4 : compL bnd c e r with
          | exc c => rw [h4] at h; cases h
          | bad => rw [h4] at h; cases h
          | ok r' =>
            rw [h4] at h
            cases h
            exact ⟨y, r', rfl, rfl, rfl⟩
      · subst hb
        rw [if_neg Bool.false_ne_true] at h
        exact h
/-- within a block nothing is refused -/
abbrev WF : WX := fun _ _ _ _ => False
def compR (t : Tg) (ws : List Nat) (fI : List SV → Res (List D)) (fC : List SV → Res Bool) (fE : List SV → Res D) : List SV → Res D := fun st => do
  let xs ← fI st
  let ys ← noX (if noOwn st ws = false then .bad else compL (fun x => bindT t x (wipeS st ws)) fC fE xs)
  .ok (.list ys)
section
variable {X : Cx} {W : WX} {tg iter elt : Expr} {ifs : List Expr} {fI : List SV → Res (List D)} {fC : List SV → Res Bool} {fE : List SV → Res D} {t : Tg} {fz : Bool}
theorem comp_core {ws : List Nat} (hix : ∀ i ∈ tgIx t, i ∈ ws) (σ : L2.St) (H : Hp) (Q : VK) (h : tG true X.K W (compR t ws fI fC fE) σ H Q) :
    tLc (tI fz X.K W fI) (gOf X.K t) (tBo X.K WF fC) (tG false X.K WF fE) ws σ H Q := by
  obtain ⟨fo, oo, st, R, g⟩ := h
  refine ⟨fo, oo, st, R, (GoodP.bind (r := fI st) g).mono fun xs H1 _ e1 g1 J wk hl D hD => ?_⟩
  obtain ⟨hno, ys, hy, q⟩ : noOwn st ws = true ∧ ∃ ys, compL (fun x => bindT t x (wipeS st ws)) fC fE xs = .ok ys ∧ ∀ H', Same H1 H' → ∀ v, RepN X.K (fo :: oo) H H' v (.list ys) → Q v H' := by
    cases hn : noOwn st ws with
    | false => rw [hn, if_pos rfl] at g1; exact g1.elim
    | true =>
      rw [hn, if_neg (by decide)] at g1
      refine ⟨rfl, ?_⟩
      cases hc : compL (fun x => bindT t x (wipeS st ws)) fC fE xs with
      | ok ys => rw [hc] at g1; exact ⟨ys, rfl, g1⟩
      | exc c => rw [hc] at g1; exact g1.elim
      | bad => rw [hc] at g1; exact g1.elim
  have hH : H D = none := by
    cases z : H D with
    | none => rfl
    | some u => rw [e1 _ _ z] at hD; cases hD
  have Din : D ∈ ((D :: fo) :: oo).flatten := by rw [List.flatten_cons, List.cons_append]; exact List.mem_cons_self
  refine ⟨fun i m H2 => m = xs.length - i ∧ i ≤ xs.length ∧ ∃ vs dn rest, H2 D = some (.lst vs) ∧ RepAll X.K (hid ((D :: fo) :: oo) H2) vs dn ∧ compL (fun x => bindT t x (wipeS st ws)) fC fE (xs.drop i) = .ok rest ∧ dn ++ rest = ys ∧ vs.length ≤ i ∧ Same H1 H2,
    ⟨xs.length, by simp, Nat.zero_le _, [], [], ys, upd_same, .nil, by rw [List.drop_zero]; exact hy, rfl, Nat.zero_le _, Same.upd hD⟩, ?_⟩
  rintro i m H2 ⟨rfl, hi, vs, dn, rest, hDl, rdn, hrest, hys, hvl, s12⟩
  have sH2 : Same H H2 := e1.trans s12
  have R2 := R.comp (ws := ws) hH sH2 hDl hno
  have tn := wk ((D :: fo) :: oo) H2 i (fun _ => s12) (hid_new hD s12) R2.fresh
  by_cases hlt : i < xs.length
  · obtain ⟨x, hx⟩ : ∃ x, xs[i]? = some x := ⟨xs[i], by simp [hlt]⟩
    obtain ⟨go, yl⟩ := tn.1 x hx
    refine .inr ⟨go, fun H' => ∃ vs dn rest, H' D = some (.lst vs) ∧ RepAll X.K (hid ((D :: fo) :: oo) H') vs dn ∧ compL (fun x => bindT t x (wipeS st ws)) fC fE (xs.drop (i + 1)) = .ok rest ∧ dn ++ rest = ys ∧ vs.length ≤ i + 1 ∧ Same H1 H', fun H' hN => ⟨xs.length - (i + 1), by omega, rfl, hlt, hN⟩, fun v H3 hv => ?_⟩
    obtain ⟨s23, rv⟩ := yl v H3 hv
    have hdrop : xs.drop i = x :: xs.drop (i + 1) := by
      rw [List.drop_eq_getElem_cons hlt]
      rw [List.getElem?_eq_getElem hlt] at hx
      cases hx
      rfl
    rw [hdrop] at hrest
    obtain ⟨τ, b, hb1, hb2, hbt, hbf⟩ := compL_cons hrest
    refine bind_ok (R2.grow s23) rv hb1 fun σ' R3 hw => ⟨by rw [hw ws hix, wipe_wipe], D :: fo, oo, τ, R3, ?_⟩
    rw [hb2]
    refine fun H4 s34 => ?_
    have s14 : Same H1 H4 := (s12.trans s23).trans s34
    have s24 : Same H2 H4 := s23.trans s34
    cases b with
    | true =>
      obtain ⟨y, r', hy1, hy2, hy3⟩ := hbt rfl
      refine iteT ⟨D :: fo, oo, τ, R3.grow s34, ?_⟩
      rw [hy1]
      refine fun H5 s45 u ru => ⟨vs, s45 _ _ (s24 _ _ hDl), by rw [sizeLine_eq]; omega, vs ++ [u], dn ++ [y], r', upd_same, ?_, hy2, by rw [List.append_assoc, ← hys, hy3]; rfl, by rw [List.length_append]; simpa using hvl, fun a o qa => ?_⟩
      · rw [hid_upd Din]
        exact (rdn.mono (hid_mono _ (s24.trans s45))).app (.cons ru .nil)
      · rw [upd_ne (ne_of_none qa hD)]
        exact s45 _ _ (s14 _ _ qa)
    | false => exact iteF ⟨vs, dn, rest, s24 _ _ hDl, rdn.mono (hid_mono _ s24), hbf rfl, hys, Nat.le_succ_of_le hvl, s14⟩
  · have hie : i = xs.length := by omega
    subst hie
    refine .inl ⟨tn.2 (Nat.le_refl _), q H2 s12 _ (.new hH ?_)⟩
    rw [List.drop_length] at hrest
    cases hrest
    rw [List.append_nil] at hys
    subst hys
    refine .lst hDl ?_
    have : hid ([D] :: fo :: oo) H2 = hid ((D :: fo) :: oo) H2 := by
      funext a
      unfold hid
      simp
    rw [this]
    exact rdn
end
end HF

set_option Elab.async false
set_option autoImplicit false
set_option linter.all false
set_option maxRecDepth 100000
set_option maxHeartbeats 4000000
/-! Sets of tuples of any depth. -/
namespace HF
open PySem PySem.Spec PyProof.Rows L2
section
variable {P : Program} {w : World} {A : Around} {E : Value → Shared → Prop}
abbrev isN (P : Program) (w : World) (h : Heap) (k : NK) (b : Addr) : Prop := (nestedKind P w).is h k b
/-- of no class statement, by its parts -/
def NoCls (P : Program) (w : World) (n : Nat) (s : Shared) (v : Value) : Prop := ∀ (A : Around) (E : Value → Shared → Prop) (Q : Bool → Shared → Prop), Q false s → wpAny (model P w) A (ofAClassStatement n v) Q E s
def HashBy (P : Program) (w : World) (n : Nat) (s : Shared) (v : Value) : Prop := ∀ (A : Around) (E : Value → Shared → Prop) (Q : Bool → Shared → Prop), (∀ b, Q b s) → wpAny (model P w) A (hashByValue n v) Q E s
theorem noCls_pure {n : Nat} {s : Shared} {v : Value} (h : ofAClassStatement n v = pure false) : NoCls P w n s v := fun A E Q q => by
  rw [h]
  exact wpAny_pure q
theorem hashBy_pure {n : Nat} {s : Shared} {v : Value} {b : Bool} (h : hashByValue n v = pure b) : HashBy P w n s v := fun A E Q q => by
  rw [h]
  exact wpAny_pure (q b)
theorem noCls_tup {n : Nat} {s : Shared} {a : Addr} {o : Obj} {vs : Array Value} {m : Nat} (ho : s.heap.get? a = some o) (hc : o.cls = .type "tuple") (hd : o.data = .seq vs m) (hq : ∀ v ∈ vs.toList, NoCls P w n s v) : NoCls P w (n + 1) s (.ref a) := fun A E Q h => by
  have hT : s.TypeIs (.ref a) "tuple" := ⟨o, ho, hc⟩
  unfold ofAClassStatement
  refine wpAny_bind (wpAny_typeOf hT ?_)
  have e : (("tuple" : String) == "tuple") = true := by decide
  dsimp only
  simp only [e, if_true, Bool.not_true, Bool.false_eq_true, if_false]
  refine wpAny_bind (wpAny_pure ?_)
  try simp only [Bool.not_true, Bool.false_eq_true, if_false]
  refine wpAny_bind (wpAny_seqItems ho hd ?_)
  refine wpAny_bind ?_
  show wpAny _ _ (forIn vs _ _) _ _ s
  rw [← Array.forIn_toList]
  refine wpAny_forIn_list _ (fun l r s' => (r.1 = none ∧ s' = s) ∧ ∀ v ∈ l, NoCls P w n s v) _ ?_ ?_ _ _ ⟨⟨rfl, rfl⟩, hq⟩
  · rintro v l r s' ⟨⟨_, rfl⟩, hall⟩
    refine wpAny_bind (hall v List.mem_cons_self _ _ _ ?_)
    simp only [Bool.false_eq_true, if_false]
    exact wpAny_pure ⟨⟨rfl, rfl⟩, fun u hu' => hall u (List.mem_cons_of_mem _ hu')⟩
  · rintro ⟨r1, r2⟩ s' ⟨⟨hr, rfl⟩, _⟩
    simp only at hr
    subst hr
    exact wpAny_pure h
theorem hashBy_tupN {n : Nat} {s : Shared} {a : Addr} {o : Obj} {vs : Array Value} {m : Nat} (ho : s.heap.get? a = some o) (hc : o.cls = .type "tuple") (hd : o.data = .seq vs m) (hq : ∀ v ∈ vs.toList, HashBy P w n s v) : HashBy P w (n + 1) s (.ref a) := fun A E Q h => by
  have hT : s.TypeIs (.ref a) "tuple" := ⟨o, ho, hc⟩
  unfold hashByValue
  refine wpAny_bind (wpAny_specialOf hT F.slot_tuple_hash.lookup ?_)
  refine wpAny_bind (wpAny_seqItems ho hd ?_)
  refine wpAny_bind ?_
  show wpAny _ _ (forIn vs _ _) _ _ s
  rw [← Array.forIn_toList]
  refine wpAny_forIn_list _ (fun l r s' => (r.1 = none ∧ s' = s) ∧ ∀ v ∈ l, HashBy P w n s v) _ ?_ ?_ _ _ ⟨⟨rfl, rfl⟩, hq⟩
  · rintro v l r s' ⟨⟨_, rfl⟩, hall⟩
    refine wpAny_bind (hall v List.mem_cons_self _ _ _ fun b => ?_)
    cases b with
    | true =>
      simp only [Bool.not_true, Bool.false_eq_true, if_false]
      exact wpAny_pure ⟨⟨rfl, rfl⟩, fun u hu' => hall u (List.mem_cons_of_mem _ hu')⟩
    | false =>
      simp only [Bool.not_false, if_true]
      exact wpAny_pure (wpAny_pure (h false))
  · rintro ⟨r1, r2⟩ s' ⟨⟨hr, rfl⟩, _⟩
    simp only at hr
    subst hr
    exact wpAny_pure (h true)
mutual
theorem noCls_key : ∀ (k : NK) (v : Value) (n : Nat) (s : Shared), NestedIs s.heap k v → k.depth ≤ n → NoCls P w n s v
  | .none, _, n, s, x, _ => by cases x; exact noCls_pure (by cases n <;> rfl)
  | .num i, _, n, s, x, _ => by cases x <;> exact noCls_pure (by cases n <;> rfl)
  | .text y, _, n, s, x, _ => by cases x; exact noCls_pure (by cases n <;> rfl)
  | .tup ks, _, n, s, x, hn => by
    cases x with
    | tup hg hc hd hk =>
      simp only [NestedKey.depth] at hn
      cases n with
      | zero => omega
      | succ n => exact noCls_tup hg hc hd (noCls_keys ks _ n s hk (by omega))
theorem noCls_keys : ∀ (ks : List NK) (vs : List Value) (n : Nat) (s : Shared), NestedAll s.heap ks vs → NestedKey.depthAll ks ≤ n → ∀ v ∈ vs, NoCls P w n s v
  | [], _, n, s, x, _, v, hv => by cases x; cases hv
  | k :: ks, _, n, s, x, hn, v, hv => by
    cases x with
    | cons a b =>
      simp only [NestedKey.depthAll] at hn
      rcases List.mem_cons.mp hv with e | hv
      · rw [e]; exact noCls_key k _ n s a (by omega)
      · exact noCls_keys ks _ n s b (by omega) v hv
end
mutual
theorem hashBy_key : ∀ (k : NK) (v : Value) (n : Nat) (s : Shared), NestedIs s.heap k v → k.depth ≤ n → HashBy P w n s v
  | .none, _, n, s, x, _ => by cases x; exact hashBy_pure (b := true) (by cases n <;> rfl)
  | .num i, _, n, s, x, _ => by cases x <;> exact hashBy_pure (b := true) (by cases n <;> rfl)
  | .text y, _, n, s, x, _ => by cases x; exact hashBy_pure (b := false) (by cases n <;> rfl)
  | .tup ks, _, n, s, x, hn => by
    cases x with
    | tup hg hc hd hk =>
      simp only [NestedKey.depth] at hn
      cases n with
      | zero => omega
      | succ n => exact hashBy_tupN hg hc hd (hashBy_keys ks _ n s hk (by omega))
theorem hashBy_keys : ∀ (ks : List NK) (vs : List Value) (n : Nat) (s : Shared), NestedAll s.heap ks vs → NestedKey.depthAll ks ≤ n → ∀ v ∈ vs, HashBy P w n s v
  | [], _, n, s, x, _, v, hv => by cases x; cases hv
  | k :: ks, _, n, s, x, hn, v, hv => by
    cases x with
    | cons a b =>
      simp only [NestedKey.depthAll] at hn
      rcases List.mem_cons.mp hv with e | hv
      · rw [e]; exact hashBy_key k _ n s a (by omega)
      · exact hashBy_keys ks _ n s b (by omega) v hv
end
variable {s : Shared}
/-- no search among such tuples can be seen -/
theorem unseen {k : NK} {b : Addr} {Q : Bool → Shared → Prop} (hk : isN P w s.heap k b) {ys : List Value} (hy : ∀ y ∈ ys, ∃ k' c, y = Value.ref c ∧ isN P w s.heap k' c) (h : Q false s) :
    wpAny (model P w) A (searchCouldBeSeen (.ref b) ys) Q E s := by
  unfold searchCouldBeSeen
  refine wpAny_bind ?_
  refine wpAny_forIn_list _ (fun l r s' => (r.1 = none ∧ s' = s) ∧ ∀ y ∈ l, ∃ k' c, y = Value.ref c ∧ isN P w s.heap k' c) _ ?_ ?_ _ _ ⟨⟨rfl, rfl⟩, hy⟩
  · rintro v l r s' ⟨⟨hr, rfl⟩, hall⟩
    obtain ⟨k', c, rfl, hc⟩ := hall v List.mem_cons_self
    have tl : (none : Option Bool) = none ∧ s' = s' := ⟨rfl, rfl⟩
    have rest := fun u hu' => hall u (List.mem_cons_of_mem _ hu')
    dsimp only
    by_cases hv : (b == c || (carriedByValue (.ref b) && carriedByValue (.ref c))) = true
    · exact wp_if_pos hv (wpAny_pure ⟨tl, rest⟩)
    · refine wp_if_neg hv ?_
      refine wpAny_bind ((nestedKind P w).quiet hk ?_)
      simp only [Bool.not_true, Bool.false_eq_true, if_false]
      refine wpAny_bind ((nestedKind P w).quiet hc ?_)
      simp only [Bool.not_true, Bool.false_eq_true, if_false]
      refine wpAny_bind (noCls_key k _ 8 s' hk.1 hk.2 _ _ _ ?_)
      simp only [Bool.false_eq_true, if_false]
      refine wpAny_bind (noCls_key k' _ 8 s' hc.1 hc.2 _ _ _ ?_)
      simp only [Bool.false_eq_true, if_false]
      exact wpAny_pure ⟨tl, rest⟩
  · rintro ⟨r1, r2⟩ s' ⟨⟨hr, rfl⟩, _⟩
    simp only at hr
    subst hr
    exact wpAny_pure h
end
/-! the set -/
abbrev hN (w : World) (k : NK) : Int := k.hash w
def rowsN (w : World) (L : List (Addr × NK)) : List (Int × Value) := L.map fun p => (hN w p.2, Value.ref p.1)
abbrev hsN (w : World) (L : List (Addr × NK)) : List Int := L.map fun p => hN w p.2
structure SetN (P : Program) (w : World) (h : Heap) (a : Addr) (L : List (Addr × NK)) (es : Array (Int × Value)) (ep : Nat) (t : SetTable) : Prop where
  ob : ∃ o, h.get? a = some o ∧ o.ExactSet ∧ o.data = .set es ep t
  rows : es.toList = rowsN w L
  tab : TabOk t (hsN w L)
  nd : (L.map (·.2)).Nodup
  key : ∀ p ∈ L, isN P w h p.2 p.1
  led : w.params.followText "set-order" = true ∨ t.led = true
  room : L.length * 5 < t.mask * 3
  few : L.length < 64
theorem rowsN_len {w : World} {L : List (Addr × NK)} {es : Array (Int × Value)} (h : es.toList = rowsN w L) : es.size = L.length := by
  have q := congrArg List.length h
  unfold rowsN at q
  rw [Array.length_toList, List.length_map] at q
  exact q
theorem rowsN_get {w : World} {L : List (Addr × NK)} {es : Array (Int × Value)} (h : es.toList = rowsN w L) {i : Nat} {p : Addr × NK} (hp : L[i]? = some p) : es[i]? = some (hN w p.2, Value.ref p.1) := by
  rw [← Array.getElem?_toList, h]
  unfold rowsN
  rw [List.getElem?_map, hp]
  rfl
theorem nth_nodummy (m : Nat) : ∀ (n : Nat) (p : SetTable.Probe), p.dummy = none → (nth m p n).dummy = none
  | 0, _, h => h
  | n + 1, p, h => nth_nodummy m n (adv m p) (by unfold adv; split <;> exact h)
section
variable {P : Program} {w : World} {A : Around} {E : Value → Shared → Prop} {s : Shared} {a : Addr} {L : List (Addr × NK)} {es : Array (Int × Value)} {ep : Nat} {t : SetTable}
theorem fits_of (hs : t.place.size = es.size) (hd : t.dummies = #[]) (hm : es.size ≤ t.mask) : t.fits es.size = true := by
  unfold SetTable.fits SetTable.fill
  rw [hd, Bool.and_eq_true, beq_iff_eq, decide_eq_true_eq]
  show t.place.size = es.size ∧ t.place.size + 0 ≤ t.mask
  omega
theorem SetN.fits (R : SetN P w s.heap a L es ep t) : t.fits es.size = true := by
  have h1 := R.tab.sz
  rw [List.length_map] at h1
  have h2 := rowsN_len R.rows
  have h3 := R.room
  exact fits_of (by omega) R.tab.dm (by omega)
/-- where a key's way goes on, from its c-th step -/
theorem findN (R : SetN P w s.heap a L es ep t) {x : Addr} {k : NK} (hx : isN P w s.heap k x) (hu : (nestedKind P w).room A) {N : Nat} (hNf : N < 10 * SetTable.turns t.mask)
    (hN0 : way t.mask (hN w k) N ∉ t.place.toList) (hNb : ∀ c, c < N → way t.mask (hN w k) c ∈ t.place.toList) {Q : SetFound → Shared → Prop}
    (yes : k ∈ L.map (·.2) → Q (.there none) s) (no : k ∉ L.map (·.2) → Q (.free (way t.mask (hN w k) N) false) s) :
    ∀ (f c : Nat) (stand : Option SetTable.Probe), stand.getD (t.probeStart (hN w k)) = nth t.mask (runAt t.mask (SetTable.bits (hN w k) % (t.mask + 1)) (SetTable.bits (hN w k))) c → c ≤ N → N - c < f →
      (∀ (i : Nat) p, L[i]? = some p → p.2 = k → ∃ c', c ≤ c' ∧ c' < N ∧ t.place.toList[i]? = some (way t.mask (hN w k) c')) →
      wpAny (model P w) A (setSearchFrom a (.ref x) (hN w k) true f stand) Q E s
  | 0, _, _, _, _, hf, _ => absurd hf (Nat.not_lt_zero _)
  | f + 1, c, stand, hst, hc, hf, back => by
    obtain ⟨o, ho, hex, hd⟩ := R.ob
    have hgw : ¬ t.gaveWay = true := by
      unfold SetTable.gaveWay
      rw [mask_odd R.tab.mok]
      decide
    rw [setSearchFrom_succ]
    refine wpAny_bind (wpAny_setState_of ho hd R.fits ?_)
    dsimp only
    refine wp_if_neg hgw ?_
    try refine wpAny_bind (wpAny_pure ?_)
    generalize hp0 : runAt t.mask (SetTable.bits (hN w k) % (t.mask + 1)) (SetTable.bits (hN w k)) = p0 at hst
    have wy : ∀ q, way t.mask (hN w k) q = (nth t.mask p0 q).j := fun q => by rw [← hp0]
    have sh : ∀ q, nth t.mask (nth t.mask p0 c) q = nth t.mask p0 (c + q) := fun q => (nth_add t.mask c _ q).symm
    have jq : ∀ q, (nth t.mask (nth t.mask p0 c) q).j = way t.mask (hN w k) (c + q) := fun q => by rw [sh, wy]
    have dn : (nth t.mask p0 c).dummy = none := nth_nodummy _ _ _ (by rw [← hp0]; rfl)
    have go := go_spec t R.tab.ris R.tab.dm (fun i => (es[i]?.map (·.1)).getD 0) (hN w k) (10 * SetTable.turns t.mask) (N - c) _ dn (by omega)
      (fun q hq => by rw [jq]; exact hNb (c + q) (by omega)) (by rw [jq, show c + (N - c) = N by omega]; exact hN0)
    have hsh : ∀ (i : Nat) p, L[i]? = some p → (fun i => (es[i]?.map (·.1)).getD 0) i = hN w p.2 := fun i p hp => by
      show (es[i]?.map (·.1)).getD 0 = _
      rw [rowsN_get R.rows hp]
      rfl
    rcases go with ⟨q, i, hq, hi, hh, hnone, hpr⟩ | ⟨hnone, hpr⟩
    · rw [← hst] at hpr
      have hpr' : t.probe (fun i => (es[i]?.map (·.1)).getD 0) (hN w k) (stand.getD (t.probeStart (hN w k))) = some (.candidate (way t.mask (hN w k) (c + q)) i (nth t.mask p0 (c + (q + 1)))) := by
        rw [hst, ← jq, ← sh]
        rw [hst] at hpr
        exact hpr
      rw [hpr']
      dsimp only
      rw [jq] at hi
      have hil : i < L.length := by
        have h1 := (List.getElem?_eq_some_iff.mp hi).1
        have h2 := R.tab.sz
        rw [List.length_map] at h2
        rw [Array.length_toList] at h1
        omega
      obtain ⟨p, hp⟩ : ∃ p, L[i]? = some p := ⟨L[i], List.getElem?_eq_getElem hil⟩
      have hpm : p ∈ L := List.mem_of_getElem? hp
      have he := rowsN_get R.rows hp
      have rest : wpAny (model P w) A (searchRest a (.ref x) (hN w k) true f es t (way t.mask (hN w k) (c + q)) i (nth t.mask p0 (c + (q + 1)))) Q E s := by
        unfold searchRest
        rw [he]
        dsimp only
        refine wpAny_bind (wpAny_holding ((nestedKind P w).eqBool hu (R.key p hpm) hx ?_))
        refine wpAny_bind (wpAny_setState_of ho hd R.fits ?_)
        dsimp only
        by_cases ek : p.2 = k
        · exact wp_if_pos (by simp [ek]) (wpAny_pure (yes (List.mem_map.mpr ⟨p, hpm, ek⟩)))
        · refine wp_if_neg (by simp [ek]) ?_
          try refine wpAny_bind (wpAny_pure ?_)
          rw [sameMem]
          dsimp only
          have hsl : t.slot (way t.mask (hN w k) (c + q)) = .live i := slot_live R.tab.ris hi
          simp only [if_true, hsl, he]
          refine wpAny_bind (wpAny_isSame_ref_self (wpAny_bind (wpAny_pure ?_)))
          simp only [if_true]
          refine wp_if_neg (by simp [ek]) ?_
          refine findN R hx hu hNf hN0 hNb yes no f (c + (q + 1)) _ (by rw [← hp0]; rfl) (by omega) (by omega) fun i1 p1 h1 hk1 => ?_
          obtain ⟨c', a1, a2, a3⟩ := back i1 p1 h1 hk1
          refine ⟨c', ?_, a2, a3⟩
          by_cases z : c' < c + q
          · exfalso
            refine hnone (c' - c) i1 (by omega) (by rw [jq, show c + (c' - c) = c' by omega]; exact a3) ?_
            exact (hsh i1 p1 h1).trans (congrArg (hN w) hk1)
          · by_cases y : c + q < c'
            · omega
            · exfalso
              have ec : c' = c + q := by omega
              rw [ec] at a3
              have s0 := slot_live R.tab.ris a3
              rw [hsl] at s0
              injection s0 with s0
              rw [← s0, hp] at h1
              cases h1
              exact ek hk1
      by_cases hl : t.led = true
      · refine wp_if_neg (by simp [hl]) ?_
        try refine wpAny_bind (wpAny_pure ?_)
        exact rest
      · refine wp_if_pos (by simp [hl]) ?_
        refine wpAny_bind (unseen hx (fun y hy => ?_) ?_)
        · obtain ⟨e, he1, he2⟩ := List.mem_map.mp hy
          have he3 : e ∈ es.toList := by
            have z : e ∈ es ∧ e.1 = hN w k := by simpa using he1
            simpa using z.1
          rw [R.rows] at he3
          obtain ⟨p2, hp2, e2⟩ := List.mem_map.mp he3
          exact ⟨p2.2, p2.1, by rw [← he2, ← e2], R.key p2 hp2⟩
        · refine wp_if_neg (by decide) ?_
          try refine wpAny_bind (wpAny_pure ?_)
          exact rest
    · have hpr' : t.probe (fun i => (es[i]?.map (·.1)).getD 0) (hN w k) (stand.getD (t.probeStart (hN w k))) = some (.empty (way t.mask (hN w k) N) none) := by
        have e2 : way t.mask (hN w k) N = (nth t.mask (nth t.mask p0 c) (N - c)).j := by rw [jq, show c + (N - c) = N by omega]
        rw [hst, e2]
        exact hpr
      rw [hpr']
      dsimp only
      refine wpAny_pure (no fun hm => ?_)
      obtain ⟨p1, h1, hk1⟩ := List.mem_map.mp hm
      obtain ⟨i1, hi1⟩ := List.getElem?_of_mem h1
      obtain ⟨c', a1, a2, a3⟩ := back i1 p1 hi1 hk1
      refine hnone (c' - c) i1 (by omega) (by rw [jq, show c + (c' - c) = c' by omega]; exact a3) ?_
      exact (hsh i1 p1 hi1).trans (congrArg (hN w) hk1)
theorem findN0 (R : SetN P w s.heap a L es ep t) {x : Addr} {k : NK} (hx : isN P w s.heap k x) (hu : (nestedKind P w).room A) {Q : SetFound → Shared → Prop}
    (yes : k ∈ L.map (·.2) → Q (.there none) s)
    (no : ∀ N, k ∉ L.map (·.2) → way t.mask (hN w k) N ∉ t.place.toList → (∀ c, c < N → way t.mask (hN w k) c ∈ t.place.toList) → Q (.free (way t.mask (hN w k) N) false) s) :
    wpAny (model P w) A (setSearch a (.ref x) (hN w k) true) Q E s := by
  have hroom := R.room
  obtain ⟨N, hNf, hN0, hNb⟩ := R.tab.first (by rw [List.length_map]; omega) (hN w k)
  have big : 10 * SetTable.turns t.mask ≤ 1420 := by
    unfold SetTable.turns
    rcases R.tab.mok with e | e | e <;> omega
  unfold setSearch
  refine findN R hx hu hNf hN0 hNb yes (fun hn => no N hn hN0 hNb) 100000 0 none rfl (Nat.zero_le _) (by omega) fun i p hp hk => ?_
  have hi : (hsN w L)[i]? = some (hN w k) := by rw [List.getElem?_map, hp, ← hk]; rfl
  have hil : i < t.place.toList.length := by
    have h1 := (List.getElem?_eq_some_iff.mp hp).1
    have h2 := R.tab.sz
    rw [List.length_map] at h2
    rw [Array.length_toList]
    omega
  have hj := List.getElem?_eq_getElem hil
  obtain ⟨c, hc, e⟩ := R.tab.before hN0 hi hj
  exact ⟨c, Nat.zero_le _, hc, by rw [hj, e]⟩
end
end HF

set_option Elab.async false
set_option autoImplicit false
set_option linter.all false
set_option maxRecDepth 100000
set_option maxHeartbeats 4000000
/-! Sets of tuples of any depth: they are made, and told sorted. -/
namespace HF
open PySem PySem.Spec PyProof.Rows L2
section
variable {P : Program} {w : World} {A : Around} {E : Value → Shared → Prop} {s : Shared} {a : Addr} {L : List (Addr × NK)} {es : Array (Int × Value)} {ep : Nat} {t : SetTable}
theorem isN_keep {h h' : Heap} {k : NK} {b : Addr} (x : isN P w h k b) (hk : ∀ c o, h.get? c = some o → h'.get? c = some o) : isN P w h' k b := nestedKind_stays.stays (fun c o vs n e _ => hk c o e) x
theorem isN_set {h h' : Heap} {k : NK} {d b : Addr} {o : Obj} {es : Array (Int × Value)} {ep : Nat} {t : SetTable} (x : isN P w h k b) (ho : h.get? d = some o) (hd : o.data = .set es ep t) (hs : Heap.SameBut d h h') : isN P w h' k b :=
  nestedKind_stays.stays (fun c u vs n e1 e2 => by
    by_cases z : c = d
    · rw [z, ho] at e1
      cases e1
      rw [hd] at e2
      cases e2
    · exact (hs.2 c z).trans e1) x
theorem filter_range {α : Type} (l : List α) : ∀ n, n ≤ l.length → (List.range n).filterMap (fun i => l[i]?) = l.take n
  | 0, _ => rfl
  | n + 1, h => by
    rw [List.range_succ, List.filterMap_append, filter_range l n (by omega), List.take_succ, List.getElem?_eq_getElem (show n < l.length by omega)]
    simp [List.getElem?_eq_getElem (show n < l.length by omega)]
theorem rows_order (L : List (Addr × NK)) (es : Array (Int × Value)) (order : Array Nat) (hr : es.toList = rowsN w L) (hp : order.toList.Perm (List.range L.length)) :
    ∃ L2, (order.filterMap (es[·]?)).toList = rowsN w L2 ∧ L2.Perm L ∧ hsN w L2 = order.toList.map fun i => (es.map (·.1)).getD i 0 := by
  have key : ∀ l : List Nat, (∀ i ∈ l, i < L.length) → l.filterMap (fun i => es[i]?) = rowsN w (l.filterMap fun i => L[i]?) ∧ hsN w (l.filterMap fun i => L[i]?) = l.map fun i => (es.map (·.1)).getD i 0 := by
    intro l
    induction l with
    | nil => exact fun _ => ⟨rfl, rfl⟩
    | cons i l ih =>
      intro hl
      have hi := List.getElem?_eq_getElem (hl i List.mem_cons_self)
      obtain ⟨e1, e2⟩ := ih fun j hj => hl j (List.mem_cons_of_mem _ hj)
      have he := rowsN_get hr hi
      refine ⟨?_, ?_⟩
      · rw [List.filterMap_cons_some he, List.filterMap_cons_some hi, e1]
        rfl
      · have e4 : (es.map (·.1)).getD i 0 = hN w (L[i]'(hl i List.mem_cons_self)).2 := by
          have e5 : (es.map (·.1))[i]? = some (hN w (L[i]'(hl i List.mem_cons_self)).2) := by rw [Array.getElem?_map, he]; rfl
          simp [Array.getD_eq_getD_getElem?, e5]
        rw [List.filterMap_cons_some hi, List.map_cons, e4, ← e2]
        rfl
  obtain ⟨e1, e2⟩ := key order.toList fun i hi => List.mem_range.mp (hp.mem_iff.mp hi)
  refine ⟨_, by rw [Array.toList_filterMap]; exact e1, ?_, e2⟩
  have h1 := hp.filterMap fun i => L[i]?
  rw [filter_range L _ (Nat.le_refl _), List.take_length] at h1
  exact h1
/-- a greater table -/
theorem relayN {o : Obj} (ho : s.heap.get? a = some o) (hex : o.ExactSet) (hd : o.data = .set es ep t) (hrows : es.toList = rowsN w L) (hsz : t.place.size = es.size) (hdm : t.dummies = #[]) (hfl : es.size ≤ t.mask)
    (nd : (L.map (·.2)).Nodup) (key : ∀ p ∈ L, isN P w s.heap p.2 p.1) (ld : w.params.followText "set-order" = true ∨ t.led = true) (few : L.length < 64) {wanted M : Nat}
    (hw : SetTable.sizeAbove wanted - 1 = M) (hM : MaskOk M) (hw2 : SetTable.sizeAbove wanted ≤ 128) (hn : L.length * 5 < M * 3) {Q : Unit → Shared → Prop}
    (q : ∀ h' L' es' ep' t', Heap.SameBut a s.heap h' → SetN P w h' a L' es' ep' t' → L'.Perm L → Q () { s with heap := h' }) : wpAny (model P w) A (setRelay a wanted) Q E s := by
  have hsl := rowsN_len hrows
  obtain ⟨t', order, e, hp, T, em, el, ep', ed⟩ := relaid_ok t (hs := es.map (·.1)) (wanted := wanted) hw hM (by rw [Array.size_map, hsl]; omega)
  rw [Array.size_map, hsl] at hp
  obtain ⟨L2, r1, r2, r3⟩ := rows_order L es order hrows hp
  rw [← r3] at T
  have hs2 := rowsN_len r1
  rw [r2.length_eq, ← hsl] at hs2
  rw [setRelay_eq]
  refine wpAny_bind (wpAny_setState_of ho hd (fits_of hsz hdm hfl) ?_)
  dsimp only
  refine wp_if_neg (by rw [sizeLine_eq]; omega) ?_
  try refine wpAny_bind (wpAny_pure ?_)
  rw [e]
  dsimp only
  refine wpAny_bind ?_
  refine wp_if_neg (by rw [hs2]; simp) ?_
  try refine wpAny_bind (wpAny_pure ?_)
  refine wpAny_pure ?_
  dsimp only
  refine wpAny_storeSet_of ho hd ?_ (by rw [hs2, hsl, sizeLine_eq]; omega)
  have sb : Heap.SameBut a s.heap (s.heap.update a (Obj.putSet (order.filterMap (es[·]?)) t')) := Heap.SameBut.update ..
  exact q _ L2 (order.filterMap (es[·]?)) (ep + 1) t' sb ⟨⟨_, store_at ho hd, ⟨hex.1, hex.2.1, hex.2.2⟩, rfl⟩, r1, T, (r2.map (·.2)).nodup_iff.mpr nd, fun p hpm => isN_set (key p (r2.mem_iff.mp hpm)) ho hd sb,
    by rw [el]; exact ld, by rw [r2.length_eq, em]; exact hn, by rw [r2.length_eq]; exact few⟩ r2
theorem rowsN_put (L : List (Addr × NK)) (p : Nat) (x : Addr) (k : NK) : rowsN w (L.take p ++ (x, k) :: L.drop p) = (rowsN w L).take p ++ (hN w k, Value.ref x) :: (rowsN w L).drop p := by
  unfold rowsN
  rw [List.map_append, List.map_cons, List.map_take, List.map_drop]
/-- one more -/
theorem addN (R : SetN P w s.heap a L es ep t) {x : Addr} {k : NK} (hx : isN P w s.heap k x) (hu : (nestedKind P w).room A) (hfew : L.length + 1 < 64) {Q : Bool → Shared → Prop}
    (q : ∀ b h' L' es' ep' t', Heap.SameBut a s.heap h' → SetN P w h' a L' es' ep' t' → (k ∈ L.map (·.2) → L' = L) → (k ∉ L.map (·.2) → L'.Perm ((x, k) :: L)) → Q b { s with heap := h' }) :
    wpAny (model P w) A (setAddHashed a (.ref x) (hN w k)) Q E s := by
  obtain ⟨o, ho, hex, hd⟩ := R.ob
  have hsl := rowsN_len R.rows
  have hroom := R.room
  unfold setAddHashed
  refine wpAny_holding ?_
  rw [show (100000 : Nat) = 99999 + 1 from rfl, setAddHashedIn_succ]
  refine wpAny_bind (wpAny_setState_of ho hd R.fits ?_)
  dsimp only
  refine wp_if_neg (by simp [byScan, Value.scannable]) ?_
  try refine wpAny_bind (wpAny_pure ?_)
  refine wpAny_bind (findN0 R hx hu (fun hm => ?_) fun N hm hN0 hb => ?_)
  · dsimp only
    exact wpAny_pure (q false s.heap L es ep t (Heap.SameBut.refl a s.heap) R (fun _ => rfl) fun z => absurd hm z)
  · dsimp only
    refine wpAny_bind (wpAny_setState_of ho hd R.fits ?_)
    dsimp only
    obtain ⟨q1, q2, q3, q4, q5, q6, q7, q8, q9⟩ := R.tab.put hN0 hb
    generalize hpt : t.put (way t.mask (hN w k) N) = pt at q1 q3 q4 q5 q6 q7 q8 q9 ⊢
    obtain ⟨t1, p⟩ := pt
    dsimp only at q1 q3 q4 q5 q6 q7 q8 q9 ⊢
    subst q1
    have main : ∀ t2 : SetTable, (t2 = t1 ∨ t2 = { t1 with plain := false }) → wpAny (model P w) A (do
        storeSet a (SetTable.insertAt es (SetTable.below t.place (way t.mask (hN w k) N)) (hN w k, .ref x)) t2
        if !false && t2.tooFull then setRelay a (SetTable.grown (es.size + 1))
        return true) Q E s := by
      intro t2 ht2
      have d1 : t2.mask = t1.mask ∧ t2.led = t1.led ∧ t2.place = t1.place ∧ t2.dummies = t1.dummies ∧ t2.tooFull = t1.tooFull ∧ TabOk t2 ((hsN w L).take (SetTable.below t.place (way t.mask (hN w k) N)) ++ hN w k :: (hsN w L).drop (SetTable.below t.place (way t.mask (hN w k) N))) := by
        rcases ht2 with rfl | rfl
        · exact ⟨rfl, rfl, rfl, rfl, rfl, q3⟩
        · exact ⟨rfl, rfl, rfl, rfl, rfl, ⟨q3.ris, q3.dm, q3.sz, q3.mok, q3.bd, q3.reach⟩⟩
      obtain ⟨d1, d2, d3, d4, d5, T⟩ := d1
      clear ht2
      have hin : (SetTable.insertAt es (SetTable.below t.place (way t.mask (hN w k) N)) (hN w k, Value.ref x)).toList = rowsN w (L.take (SetTable.below t.place (way t.mask (hN w k) N)) ++ (x, k) :: L.drop (SetTable.below t.place (way t.mask (hN w k) N))) := by
        rw [SetTable.toList_insertAt, rowsN_put, R.rows]
      generalize SetTable.below t.place (way t.mask (hN w k) N) = p at hin T ⊢
      have pm := put_perm L p (x, k)
      have hlen : (L.take p ++ (x, k) :: L.drop p).length = L.length + 1 := pm.length_eq
      have hhs : hsN w (L.take p ++ (x, k) :: L.drop p) = (hsN w L).take p ++ hN w k :: (hsN w L).drop p := by
        unfold hsN
        rw [List.map_append, List.map_cons, List.map_take, List.map_drop]
      rw [← hhs] at T
      have nd1 : ((L.take p ++ (x, k) :: L.drop p).map (·.2)).Nodup := (pm.map (·.2)).nodup_iff.mpr (by rw [List.map_cons]; exact List.nodup_cons.mpr ⟨hm, R.nd⟩)
      have hes := rowsN_len hin
      rw [hlen] at hes
      generalize SetTable.insertAt es p (hN w k, Value.ref x) = es1 at hin hes ⊢
      generalize L.take p ++ (x, k) :: L.drop p = L1 at pm hlen T nd1 hin
      refine wpAny_bind (wpAny_storeSet_of ho hd ?_ (by rw [hes, sizeLine_eq]; omega))
      have sb : Heap.SameBut a s.heap (s.heap.update a (Obj.putSet es1 t2)) := Heap.SameBut.update ..
      have ho1 := store_at (es' := es1) (t' := t2) ho hd
      generalize s.heap.update a (Obj.putSet es1 t2) = h1 at sb ho1 ⊢
      have key1 : ∀ p ∈ L1, isN P w h1 p.2 p.1 := fun p hp => by
        rcases List.mem_cons.mp (pm.mem_iff.mp hp) with e | hp
        · rw [e]; exact isN_set hx ho hd sb
        · exact isN_set (R.key p hp) ho hd sb
      have ld1 : w.params.followText "set-order" = true ∨ t2.led = true := by rw [d2, q5]; exact R.led
      have fullEq : t2.tooFull = decide ((L.length + 1) * 5 ≥ t.mask * 3) := by
        rw [d5]
        unfold SetTable.tooFull
        rw [q9, List.length_map, q4]
      by_cases hf : t2.tooFull = true
      · first
          | (refine wpAny_bind ?_; refine wp_if_pos (by simp [hf]) ?_)
          | (refine wp_if_pos (by simp [hf]) ?_; refine wpAny_bind ?_)
        rw [fullEq, decide_eq_true_eq] at hf
        rw [hsl]
        have hsz1 : t2.place.size = es1.size := by
          have h := T.sz
          rw [List.length_map, hlen] at h
          rw [h, hes]
        have two : (t.mask = 7 ∧ L.length = 4) ∨ (t.mask = 31 ∧ L.length = 18) := by
          rcases R.tab.mok with e | e | e
          · exact .inl ⟨e, by omega⟩
          · exact .inr ⟨e, by omega⟩
          · omega
        have go : ∀ M, SetTable.sizeAbove (SetTable.grown (L.length + 1)) - 1 = M → MaskOk M → SetTable.sizeAbove (SetTable.grown (L.length + 1)) ≤ 128 → (L.length + 1) * 5 < M * 3 →
            wpAny (model P w) A (setRelay a (SetTable.grown (L.length + 1))) (fun _ s' => wpAny (model P w) A (pure true) Q E s') E { s with heap := h1 } := fun M h1' h2' h3' h4' => by
          refine relayN (s := { s with heap := h1 }) ho1 ⟨hex.1, hex.2.1, hex.2.2⟩ rfl hin hsz1 T.dm (by rw [hes, d1, q4]; rcases two with ⟨e, e2⟩ | ⟨e, e2⟩ <;> omega) nd1 key1 ld1 (by rw [hlen]; exact hfew) h1' h2' h3' (by rw [hlen]; exact h4') ?_
          intro h2 L2 es2 ep2 t3 sb2 R2 pm2
          exact wpAny_pure (q true h2 L2 es2 ep2 t3 (sb.trans sb2) R2 (fun z => absurd z hm) fun _ => pm2.trans pm)
        rcases two with ⟨_, e2⟩ | ⟨_, e2⟩
        · exact go 31 (by rw [e2, size_20]) (.inr (.inl rfl)) (by rw [e2, size_20]; decide) (by omega)
        · exact go 127 (by rw [e2, size_76]) (.inr (.inr rfl)) (by rw [e2, size_76]; decide) (by omega)
      · first
          | refine wp_if_neg (by simp [hf]) ?_
          | (refine wpAny_bind ?_; refine wp_if_neg (by simp [hf]) ?_; refine wpAny_pure ?_)
        refine wpAny_pure (q true h1 L1 es1 (ep + 1) t2 sb ⟨⟨_, ho1, ⟨hex.1, hex.2.1, hex.2.2⟩, rfl⟩, hin, T, nd1, key1, ld1, ?_, by rw [hlen]; exact hfew⟩ (fun z => absurd z hm) fun _ => pm)
        rw [fullEq, decide_eq_true_eq] at hf
        rw [hlen, d1, q4]
        omega
    by_cases hp1 : t1.plain = true
    · first
        | (refine wpAny_bind ?_; refine wp_if_pos hp1 ?_; refine hashBy_key k _ 8 s hx.1 hx.2 _ _ _ fun b => ?_)
        | refine wp_if_pos hp1 (wpAny_bind (hashBy_key k _ 8 s hx.1 hx.2 _ _ _ fun b => ?_))
      cases b with
      | true => exact main t1 (.inl rfl)
      | false => exact main _ (.inr rfl)
    · first
        | (refine wpAny_bind ?_; refine wp_if_neg hp1 ?_; refine wpAny_pure ?_)
        | refine wp_if_neg hp1 (wpAny_bind (wpAny_pure ?_))
      exact main t1 (.inl rfl)
end
end HF

set_option Elab.async false
set_option autoImplicit false
set_option linter.all false
set_option maxRecDepth 100000
set_option maxHeartbeats 4000000
/-! set(items), the items tuples of any depth. -/
namespace HF
open PySem PySem.Spec PyProof.Rows L2
/-- what stands in the set behind the first i items -/
structure Has (ks : List (Addr × NK)) (i : Nat) (L : List (Addr × NK)) : Prop where
  sub : ∀ p ∈ L, p ∈ ks.take i
  all : ∀ p ∈ ks.take i, p.2 ∈ L.map (·.2)
  len : L.length ≤ i
theorem Has.zero (ks : List (Addr × NK)) : Has ks 0 [] := ⟨fun p h => (nomatch h), fun p h => (nomatch (show p ∈ ([] : List (Addr × NK)) from h)), Nat.le_refl _⟩
theorem Has.next {ks L L' : List (Addr × NK)} {i : Nat} {x : Addr × NK} (g : Has ks i L) (h : ks[i]? = some x) (c1 : x.2 ∈ L.map (·.2) → L' = L) (c2 : x.2 ∉ L.map (·.2) → L'.Perm (x :: L)) : Has ks (i + 1) L' := by
  have tk : ks.take (i + 1) = ks.take i ++ [x] := take_next h
  by_cases c : x.2 ∈ L.map (·.2)
  · rw [c1 c]
    refine ⟨fun p hp => by rw [tk]; exact List.mem_append_left _ (g.sub p hp), fun p hp => ?_, Nat.le_succ_of_le g.len⟩
    rw [tk] at hp
    rcases List.mem_append.mp hp with z | z
    · exact g.all p z
    · rw [List.mem_singleton.mp z]; exact c
  · have pm := c2 c
    refine ⟨fun p hp => ?_, fun p hp => ?_, ?_⟩
    · rw [tk]
      rcases List.mem_cons.mp (pm.mem_iff.mp hp) with e | z
      · rw [e]; exact List.mem_append_right _ (List.mem_singleton.mpr rfl)
      · exact List.mem_append_left _ (g.sub p z)
    · rw [(pm.map (·.2)).mem_iff, List.map_cons]
      rw [tk] at hp
      rcases List.mem_append.mp hp with z | z
      · exact List.mem_cons_of_mem _ (g.all p z)
      · rw [List.mem_singleton.mp z]; exact List.mem_cons_self
    · rw [pm.length_eq, List.length_cons]
      exact Nat.succ_le_succ g.len
section
variable {P : Program} {w : World} {A : Around} {E : Value → Shared → Prop} {s : Shared}
theorem SetN.keep {h h' : Heap} {a : Addr} {L : List (Addr × NK)} {es : Array (Int × Value)} {ep : Nat} {t : SetTable} (R : SetN P w h a L es ep t) (ha : ∀ o, h.get? a = some o → h'.get? a = some o) (hk : ∀ p ∈ L, isN P w h' p.2 p.1) : SetN P w h' a L es ep t := by
  obtain ⟨o, ho, r⟩ := R.ob
  exact ⟨⟨o, ha o ho, r⟩, R.rows, R.tab, R.nd, hk, R.led, R.room, R.few⟩
def emptyObj (w : World) : Obj := { cls := .type "set", dict := none, data := .set #[] 0 (.fresh 0 0 (!w.params.followText "set-order")) }
theorem setN_new {h : Heap} {a : Addr} (ho : h.get? a = some (emptyObj w)) : SetN P w h a [] #[] 0 (.fresh 0 0 (!w.params.followText "set-order")) where
  ob := ⟨_, ho, ⟨rfl, rfl, rfl⟩, rfl⟩
  rows := rfl
  tab := ⟨List.Pairwise.nil, rfl, rfl, .inl rfl, fun x hx => (nomatch hx), fun i h j hi => (by cases hi)⟩
  nd := List.nodup_nil
  key := fun p hp => (nomatch hp)
  led := by
    show _ ∨ (!w.params.followText "set-order") = true
    cases w.params.followText "set-order"
    · exact .inr rfl
    · exact .inl rfl
  room := by
    show 0 * 5 < 7 * 3
    decide
  few := by
    show 0 < 64
    decide
/-- the loop that takes the items in -/
theorem loopN {I : Addr} {fp wr : List Addr} {G : Array GenState → Array GenState → Prop} {n : Nat} {Pv : Nat → Value → Prop} {St : Nat → Shared → Prop} {R : Result → Shared → Prop}
    (W : WalksS P w A.in1 I fp wr G n Pv St) (S : Addr) (hSf : S ∉ fp) (ks : List (Addr × NK)) (hn : n = ks.length) (hfew : ks.length < 64) (hval : ∀ i v, Pv i v → ∃ p, ks[i]? = some p ∧ v = .ref p.1)
    (h0 : Heap) (hk : ∀ p ∈ ks, isN P w h0 p.2 p.1) (hS0 : h0.get? S = none) (hw0 : ∀ b ∈ wr, h0.get? b = none) (hu : (nestedKind P w).room A.in1) :
    ∀ (m i : Nat) (s : Shared), n - i = m → i ≤ n → St i s → (∀ b o, h0.get? b = some o → s.heap.get? b = some o) → (∃ L es ep t, SetN P w s.heap S L es ep t ∧ Has ks i L) →
      (∀ s' L es ep t, Moved (S :: wr) G s s' → SetN P w s'.heap S L es ep t → Has ks n L → (∀ b o, h0.get? b = some o → s'.heap.get? b = some o) → R (.ok (.ret .none)) s') →
      codeAny (model P w) A (.builtin "set.update.loop" ⟨[.ref S, .ref I], []⟩) R s := by
  have hSw : S ∉ wr := fun h => hSf (W.sub _ h)
  have hsub : ∀ b ∈ wr, b ∈ S :: wr := fun b hb => List.mem_cons_of_mem _ hb
  have stay : ∀ {s s' : Shared}, Moved wr G s s' → (∀ b o, h0.get? b = some o → s.heap.get? b = some o) → ∀ b o, h0.get? b = some o → s'.heap.get? b = some o := fun hm hkp b o e =>
    hm.heap b o (fun hb => by rw [hw0 b hb] at e; cases e) (hkp b o e)
  intro m
  induction m with
  | zero =>
    intro i s hk' hi hst hkp ⟨L, es, ep, t, hS, g⟩ hR
    obtain rfl : i = n := by omega
    refine codeAny_builtin F.entry_set_update_loop ?_
    rw [Around.under_plainId F.plain_set_update_loop _]
    show wpAny _ A.in1 (pyNext (.ref I) >>= _) _ _ s
    refine wpAny_bind (W.done s _ _ hst fun s' hm => ?_)
    show wpAny _ A.in1 (ret Value.none) _ _ s'
    have kp := stay hm hkp
    exact wpAny_pure (hR s' L es ep t (hm.mono hsub) (hS.keep (fun o e => hm.heap S o hSw e) fun p hp => isN_keep (hk p (List.mem_of_mem_take (g.sub p hp))) kp) g kp)
  | succ m ih =>
    intro i s hk' hi hst hkp ⟨L, es, ep, t, hS, g⟩ hR
    have hlt : i < n := by omega
    refine codeAny_builtin F.entry_set_update_loop ?_
    rw [Around.under_plainId F.plain_set_update_loop _]
    show wpAny _ A.in1 (pyNext (.ref I) >>= _) _ _ s
    refine wpAny_bind (W.item i s _ _ hlt hst fun v s' hP hst' hm => ?_)
    obtain ⟨p, hp, rfl⟩ := hval i v hP
    have kp := stay hm hkp
    have hS' : SetN P w s'.heap S L es ep t := hS.keep (fun o e => hm.heap S o hSw e) fun q hq => isN_keep (hk q (List.mem_of_mem_take (g.sub q hq))) kp
    have hx : isN P w s'.heap p.2 p.1 := isN_keep (hk p (List.mem_of_getElem? hp)) kp
    show wpAny _ A.in1 (holding [Value.ref p.1] (setAdd S (.ref p.1)) >>= _) _ _ s'
    refine wpAny_bind (wpAny_holding ?_)
    unfold setAdd
    refine wpAny_holding ?_
    refine wpAny_bind ((nestedKind P w).pyHash hu hx ?_)
    refine addN (s := { s' with toks := s'.toks + (nestedKind P w).draws p.2 }) hS' hx hu (by have := g.len; omega) fun b h' L' es' ep' t' hsb hS2 c1 c2 => ?_
    have kp2 : ∀ b o, h0.get? b = some o → h'.get? b = some o := fun b o e => (hsb.2 b (fun z => by rw [z, hS0] at e; cases e)).trans (kp b o e)
    refine wpAny_pure ⟨plainId_quiet F.plain_set_update_loop _, ih (i + 1) _ (by omega) hlt (W.frame _ s' _ _ hst' (Nat.le_add_right _ _) fun b hb o e => ?_) kp2 ⟨L', es', ep', t', hS2, g.next hp c1 c2⟩ fun s2 L2 es2 ep2 t2 hm2 hS3 g3 kp3 => ?_⟩
    · rw [hsb.2 b (fun h : b = S => hSf (by rw [← h]; exact hb))]; exact e
    · refine hR s2 L2 es2 ep2 t2 (Moved.trans W.gtrans ((hm.mono hsub).then_heap (Nat.le_add_right _ _) fun b o hb e => ?_) hm2) hS3 g3 kp3
      rw [hsb.2 b (fun h : b = S => hb (by rw [h]; exact List.mem_cons_self))]; exact e
/-- what is walked: a list, or a tuple -/
inductive ItemsOf (h : Heap) (l : Addr) (items : Array Value) : Prop
  | list : h.IsList l items → ItemsOf h l items
theorem callSetN {l : Addr} {items : Array Value} (ks : List (Addr × NK)) {Q : Value → Shared → Prop} (hh : A.handled = none) (hl : s.heap.IsList l items) (hit : items.toList = ks.map fun p => Value.ref p.1)
    (hk : ∀ p ∈ ks, isN P w s.heap p.2 p.1) (hfew : ks.length < 64) (hu : A.units + 12 < cLine)
    (q : ∀ (h' : Heap) (tk : Nat) L es ep t, SetN P w h' s.heap.objs.size L es ep t → Has ks ks.length L → (∀ b o, s.heap.get? b = some o → h'.get? b = some o) → Q (.ref s.heap.objs.size) { s with heap := h', toks := tk }) :
    wpAny (model P w) A (call (.type "set") [.ref l]) Q E s := by
  have hisz : items.size = ks.length := by
    have z := congrArg List.length hit
    rw [Array.length_toList, List.length_map] at z
    exact z
  obtain ⟨c, tl, hmro⟩ := F.called_set.mro
  have hmade := F.called_set.made
  have hsub := F.called_set.sub
  refine wpAny_call (codeAny_of_tree ?_)
  show wpAny _ _ (callAny (.type "set") _) _ _ _
  refine wpAny_pure ⟨Code.quiet_builtin _ (by decide +kernel), codeAny_builtin F.entry_type_call ?_⟩
  rw [Around.under_plain (weight_type_call_type "set" [.ref l] []) rfl]
  have h1 := F.called_set.notType
  have h2 := F.called_set.canCreate
  have hct := F.typeCall_set_1 (.ref l)
  repeat (any_goals (first | assumption | wp_step))
  refine codeAny_mono (code_set_led1 (.ref l) (E := E) (Q₁ := fun obj s₁ => obj = .ref s.heap.objs.size ∧ s₁ = { s with heap := s.heap.push (emptyObj w) }) ⟨rfl, rfl⟩) fun r s₁ hr => ?_
  cases r with
  | error e => exact hr
  | ok fl =>
    cases fl with
    | ret obj =>
      obtain ⟨rfl, rfl⟩ := hr
      have hS : (s.heap.push (emptyObj w)).get? s.heap.objs.size = some (emptyObj w) := Heap.get?_push_size _ rfl
      have hT : Shared.TypeIs { s with heap := s.heap.push (emptyObj w) } (.ref s.heap.objs.size) "set" := ⟨_, hS, rfl⟩
      have hli := F.called_set.init.lookup
      have hbi := F.called_set.init.bind (.ref s.heap.objs.size)
      repeat (any_goals (first | assumption | wp_step))
      refine codeAny_mono (codeAny_call_builtin (R := wants (fun r s₂ => r = .none ∧ ∃ h' tk L es ep t, s₂ = { s with heap := h', toks := tk } ∧ SetN P w h' s.heap.objs.size L es ep t ∧ Has ks ks.length L ∧
          (∀ b o, s.heap.get? b = some o → h'.get? b = some o)) E) F.called_set.init.plain F.entry_set_init (check_set_init_1 hT ?_)) fun r₂ s₂ hr₂ => ?_
      · obtain ⟨ol, hol, hcl, nl, hdl⟩ := hl
        obtain ⟨ocls, odict, odata, oslots⟩ := ol
        simp only at hcl hdl
        subst hcl; subst hdl
        have hol' : (s.heap.push (emptyObj w)).get? l = some { cls := .type "list", dict := odict, data := .seq items nl, slots := oslots } := Heap.get?_push_of_some _ hol
        have hsls := F.sub_list_set
        have hslf := F.sub_list_frozenset
        have hne : (Value.type "list" == Value.type "dict") = false := by decide
        have hl1 : (s.heap.push (emptyObj w)).IsList l items := ⟨_, hol', rfl, nl, rfl⟩
        unfold Builtin.«set.__init__» noKeywords Builtin.Frozenset.updateFrom
        generalize hPI : pyIter = PI
        wp_walk
        subst hPI
        refine wpAny_pyIter_list hl1 ?_
        refine wpAny_bind (wpAny_runValue ?_)
        have hlS : l < s.heap.objs.size := Heap.lt_size hol
        have hh3 : A.in1.in1.in1.handled = none := by simp [hh]
        have hz1 : (s.heap.push (emptyObj w)).objs.size = s.heap.objs.size + 1 := Heap.size_push ..
        have hneI : l ≠ (s.heap.push (emptyObj w)).objs.size := by rw [hz1]; exact Nat.ne_of_lt (Nat.lt_succ_of_lt hlS)
        have hSf : s.heap.objs.size ∉ [(s.heap.push (emptyObj w)).objs.size, l] := by
          rw [hz1]
          simp only [List.mem_cons, List.not_mem_nil, or_false, not_or]
          exact ⟨Nat.ne_of_lt (Nat.lt_succ_self _), Nat.ne_of_gt hlS⟩
        have hval : ∀ (i : Nat) (v : Value), items[i]? = some v → ∃ p, ks[i]? = some p ∧ v = .ref p.1 := fun i v hv => by
          have z : items.toList[i]? = some v := by rw [Array.getElem?_toList]; exact hv
          rw [hit, List.getElem?_map] at z
          cases e : ks[i]? with
          | none => rw [e] at z; cases z
          | some p =>
            rw [e] at z
            exact ⟨p, rfl, (Option.some.inj z).symm⟩
        have gone : ∀ b, s.heap.objs.size ≤ b → s.heap.get? b = none := fun b hb => by
          cases z : s.heap.get? b with
          | none => rfl
          | some o => exact absurd (Nat.lt_of_lt_of_le (Heap.lt_size z) hb) (Nat.lt_irrefl _)
        refine loopN ((Walks.list hh3 _ l hneI items).toS) s.heap.objs.size
          hSf ks hisz hfew hval s.heap hk (gone _ (Nat.le_refl _)) (fun b hb => gone b (by rw [List.mem_singleton.mp hb, hz1]; exact Nat.le_succ _)) (by show A.units + 1 + 1 + 1 + 8 < cLine; omega) (items.size - 0) 0 _ (by omega) (Nat.zero_le _)
          ⟨⟨_, Heap.get?_push_size _ rfl, rfl, rfl⟩, (hl1.push _)⟩ (fun b o e => Heap.get?_push_of_some _ (Heap.get?_push_of_some _ e)) ?hS0 ?hR
        case hS0 => exact ⟨[], #[], 0, _, setN_new (Heap.get?_push_of_some _ hS), Has.zero ks⟩
        case hR =>
          intro s' L es ep t hm hS' g' kp
          obtain ⟨h', g2, d', tk', os'⟩ := s'
          have eg : g2 = s.gens := hm.gens
          have ed : d' = s.drawn := hm.drawn
          have eo : os' = s.os := hm.os
          subst eg; subst ed; subst eo
          show wpAny _ _ _ _ _ _
          refine wpAny_pure ?_
          show wpAny _ _ (ret Value.none) _ _ _
          rw [hisz] at g'
          exact wpAny_pure ⟨rfl, h', tk', L, es, ep, t, rfl, hS', g', kp⟩
      · cases r₂ with
        | error e => exact hr₂
        | ok fl₂ =>
          cases fl₂ with
          | ret r =>
            obtain ⟨rfl, h', tk, L, es, ep, t, rfl, hS', g', hk'⟩ := hr₂
            repeat (any_goals (first | assumption | wp_step))
            exact q _ _ _ _ _ _ hS' g' hk'
          | _ => exact hr₂.elim
    | _ => exact hr.elim
end
end HF

set_option Elab.async false
set_option autoImplicit false
set_option linter.all false
set_option maxRecDepth 100000
set_option maxHeartbeats 4000000
/-! sorted(set(items)) as data. -/
namespace HF
open PySem PySem.Spec PyProof.Rows L2
mutual
theorem nkD_data : ∀ (d : D) {k : NK}, nkD d = some k → d = k.data
  | .none, k, h => by cases h; rfl
  | .int i, k, h => by cases h; rfl
  | .str x, k, h => by cases h; rfl
  | .tuple ds, k, h => by
    unfold nkD at h
    cases e : nkDs ds with
    | none => rw [e] at h; cases h
    | some ks =>
      rw [e] at h
      cases h
      show PyData.tuple ds = .tuple (NestedKey.datas ks)
      rw [nkDs_data ds e]
  | .bool _, k, h => by cases h
  | .list _, k, h => by cases h
  | .dict _, k, h => by cases h
theorem nkDs_data : ∀ (ds : List D) {ks : List NK}, nkDs ds = some ks → ds = NestedKey.datas ks
  | [], ks, h => by cases h; rfl
  | d :: ds, ks, h => by
    unfold nkDs at h
    cases e : nkD d with
    | none => rw [e] at h; cases h
    | some k =>
      cases e2 : nkDs ds with
      | none => rw [e, e2] at h; cases h
      | some ks' =>
        rw [e, e2] at h
        cases h
        show d :: ds = k.data :: NestedKey.datas ks'
        rw [nkD_data d e, nkDs_data ds e2]
end
mutual
theorem eqv_key : ∀ (a b : NK), PyData.eqv a.data b.data = decide (a = b)
  | .none, b => by cases b <;> simp [NestedKey.data, PyData.eqv]
  | .num i, b => by
    cases b with
    | num j =>
      show (i == j) = _
      by_cases e : i = j
      · subst e; simp
      · rw [beq_eq_false_iff_ne.mpr e, decide_eq_false (by intro z; cases z; exact e rfl)]
    | _ => simp [NestedKey.data, PyData.eqv]
  | .text x, b => by
    cases b with
    | text y =>
      show (x == y) = _
      by_cases e : x = y
      · subst e; simp
      · rw [beq_eq_false_iff_ne.mpr e, decide_eq_false (by intro z; cases z; exact e rfl)]
    | _ => simp [NestedKey.data, PyData.eqv]
  | .tup ks, b => by
    cases b with
    | tup ls =>
      show PyData.eqvAll (NestedKey.datas ks) (NestedKey.datas ls) = _
      rw [eqv_keys ks ls]
      by_cases e : ks = ls
      · subst e; simp
      · rw [decide_eq_false e, decide_eq_false (by intro z; cases z; exact e rfl)]
    | _ => simp [NestedKey.data, PyData.eqv]
theorem eqv_keys : ∀ (a b : List NK), PyData.eqvAll (NestedKey.datas a) (NestedKey.datas b) = decide (a = b)
  | [], [] => rfl
  | [], _ :: _ => by simp [NestedKey.datas, PyData.eqvAll]
  | _ :: _, [] => by simp [NestedKey.datas, PyData.eqvAll]
  | k :: ks, l :: ls => by
    show (PyData.eqv k.data l.data && PyData.eqvAll (NestedKey.datas ks) (NestedKey.datas ls)) = _
    rw [eqv_key k l, eqv_keys ks ls]
    by_cases e : k = l
    · subst e
      simp
    · have e2 : ¬ k :: ks = l :: ls := fun z => e (List.cons.inj z).1
      simp only [decide_eq_false e, decide_eq_false e2, Bool.false_and]
end
def ddK : List NK → List NK
  | [] => []
  | a :: r => if a ∈ r then ddK r else a :: ddK r
theorem ddK_mem {x : NK} : ∀ l : List NK, x ∈ ddK l ↔ x ∈ l
  | [] => Iff.rfl
  | a :: r => by
    unfold ddK
    split
    · rename_i h
      rw [ddK_mem r, List.mem_cons]
      exact ⟨.inr, fun z => z.elim (fun e => e ▸ h) id⟩
    · rw [List.mem_cons, List.mem_cons, ddK_mem r]
theorem ddK_nodup : ∀ l : List NK, (ddK l).Nodup
  | [] => .nil
  | a :: r => by
    unfold ddK
    split
    · exact ddK_nodup r
    · rename_i h
      exact List.nodup_cons.mpr ⟨fun z => h ((ddK_mem r).mp z), ddK_nodup r⟩
theorem ddD_data : ∀ l : List NK, ddD (l.map (·.data)) = (ddK l).map (·.data)
  | [] => rfl
  | a :: r => by
    have e : ((r.map (·.data)).any fun b => PyData.eqv b a.data) = decide (a ∈ r) := by
      rw [List.any_map, Bool.eq_iff_iff]
      simp only [List.any_eq_true, Function.comp, eqv_key, decide_eq_true_eq]
      exact ⟨fun ⟨b, h1, h2⟩ => h2 ▸ h1, fun h => ⟨a, h, rfl⟩⟩
    show (if ((r.map (·.data)).any fun b => PyData.eqv b a.data) = true then ddD (r.map (·.data)) else a.data :: ddD (r.map (·.data))) = _
    rw [e, ddD_data r]
    show _ = List.map _ (if a ∈ r then ddK r else a :: ddK r)
    by_cases h : a ∈ r
    · rw [if_pos (by simpa using h), if_pos h]
    · rw [if_neg (by simpa using h), if_neg h]
      rfl
theorem keys_of : ∀ {xs : List D}, (xs.all fun d => match nkD d with
    | some k => tupNK k && decide (k.depth ≤ 8)
    | none => false) = true → ∃ ks : List NK, xs = ks.map (·.data) ∧ ∀ k ∈ ks, tupNK k = true ∧ k.depth ≤ 8
  | [], _ => ⟨[], rfl, fun k h => (nomatch h)⟩
  | d :: xs, h => by
    rw [List.all_cons, Bool.and_eq_true] at h
    obtain ⟨ks, e, q⟩ := keys_of h.2
    have h1 := h.1
    cases e1 : nkD d with
    | none => rw [e1] at h1; cases h1
    | some k =>
      rw [e1] at h1
      have h2 : (tupNK k && decide (k.depth ≤ 8)) = true := h1
      rw [Bool.and_eq_true, decide_eq_true_eq] at h2
      refine ⟨k :: ks, by rw [List.map_cons, ← nkD_data d e1, ← e], fun k' hk => ?_⟩
      rcases List.mem_cons.mp hk with z | z
      · rw [z]; exact h2
      · exact q k' z
/-! order -/
theorem toks_inj {a b : NK} (al : PySem.W.alike a.data b.data = true) (h : PySem.W.keyToks a.data = PySem.W.keyToks b.data) : a = b := by
  have e := eqv_key a b
  by_cases z : a = b
  · exact z
  · rw [decide_eq_false z] at e
    have q := (PySem.W.toks_eqv _ _ al).2 e
    have q1 := q [] [.inl 0]
    rw [h, lex_irrefl] at q1
    rw [PySem.W.lex_pre] at q1
    exact absurd q1 (by decide)
theorem isort_perm {l m : List NK} (p : l.Perm m) (al : ∀ a ∈ l, ∀ b ∈ l, PySem.W.alike a.data b.data = true) : isort (l.map (·.data)) = isort (m.map (·.data)) := by
  rw [← merge_isort, ← merge_isort]
  have p1 := List.pairwise_mergeSort leD_trans leD_total (l.map (·.data))
  have p2 := List.pairwise_mergeSort leD_trans leD_total (m.map (·.data))
  have q1 := List.mergeSort_perm (l.map (·.data)) leD
  have q2 := List.mergeSort_perm (m.map (·.data)) leD
  refine List.Perm.eq_of_pairwise (le := fun a b => leD a b = true) (fun a b ha hb h1 h2 => ?_) p1 p2 ((q1.trans (p.map _)).trans q2.symm)
  obtain ⟨k, hk, rfl⟩ := List.mem_map.mp (q1.mem_iff.mp ha)
  obtain ⟨k', hk', rfl⟩ := List.mem_map.mp (q2.mem_iff.mp hb)
  unfold leD at h1 h2
  rw [Bool.not_eq_true'] at h1 h2
  rw [toks_inj (al k hk k' (p.mem_iff.mpr hk')) (lex_total _ _ h2 h1)]
/-! the heap's side -/
section
variable {X : Cx} {pins : List (Addr × Obj)} {σ : L2.St} {H : Hp} {s : Shared}
mutual
theorem rep_key (I : L2.Inv X pins σ H s) : ∀ (k : NK) {v : V} {u : Value}, Rep X.K H v k.data → RelV v u → NestedIs s.heap k u
  | .none, _, _, .non, r => by cases r; exact .none
  | .num i, _, _, .int _, r => by obtain ⟨t, rfl⟩ := r; exact .int i t
  | .text x, _, _, .str _, r => by obtain ⟨t, rfl⟩ := r; exact .text x t
  | .tup ks, _, _, .tup h q, r => by
    cases r
    obtain ⟨its, rv, ⟨o, ho, hc, n, hd⟩, _⟩ := I.tuple h
    exact .tup ho hc hd (by simpa using reps_key I ks q rv)
theorem reps_key (I : L2.Inv X pins σ H s) : ∀ (ks : List NK) {vs : List V} {us : List Value}, RepAll X.K H vs (NestedKey.datas ks) → Vals vs us → NestedAll s.heap ks us
  | [], _, _, .nil, .nil => .nil
  | k :: ks, _, _, .cons r q, .cons a b => .cons (rep_key I k r a) (reps_key I ks q b)
end
/-- the set at a, but for its members -/
def SetN0 (w : World) (h : Heap) (a : Addr) (L : List (Addr × NK)) : Prop := ∃ (es : Array (Int × Value)) (ep : Nat) (t : SetTable), (∃ o, h.get? a = some o ∧ o.ExactSet ∧ o.data = .set es ep t) ∧ es.toList = rowsN w L ∧ TabOk t (hsN w L) ∧ (L.map (·.2)).Nodup ∧
    (w.params.followText "set-order" = true ∨ t.led = true) ∧ L.length * 5 < t.mask * 3 ∧ L.length < 64
def SetNO (w : World) (a : Addr) (L : List (Addr × NK)) : HO := .ext fun h => SetN0 w h a L
theorem setNO_ok {P : Program} {w : World} {h : Heap} {a : Addr} {L : List (Addr × NK)} {H' : Hp} (R : SetN0 w h a L) : ObjOk P w H' h a (SetNO w a L) := by
  obtain ⟨es, ep, t, ⟨o, ho, r⟩, q⟩ := R
  refine ⟨⟨es, ep, t, ⟨o, ho, r⟩, q⟩, ⟨o, ho⟩, fun h1 h2 p k => ?_⟩
  obtain ⟨es', ep', t', ⟨o', ho', r'⟩, q'⟩ := (show SetN0 w h1 a L from p)
  exact ⟨es', ep', t', ⟨o', k o' ho', r'⟩, q'⟩
def rSetN (K : PySem.W.Frag) (w : World) : List V → Hp → VK → Prop := fun xs H Q => ∃ (Hc : Hp) (l : Addr) (ks : List (Addr × NK)), xs = [.ref l] ∧ SqL K H l (ks.map fun p => .ref p.1) ∧ Same Hc H ∧ (∀ p ∈ ks, Rep K Hc (.ref p.1) p.2.data ∧ p.2.depth ≤ 8) ∧ ks.length < 64 ∧
  ∀ a L, H a = none → (∀ p ∈ L, p ∈ ks) → (∀ p ∈ ks, p.2 ∈ L.map (·.2)) → (L.map (·.2)).Nodup → Q (.ref a) (upd H a (SetNO w a L))
theorem refs_vals : ∀ {ks : List (Addr × NK)} {us : List Value}, Vals (ks.map fun p => V.ref p.1) us → us = ks.map fun p => Value.ref p.1
  | [], _, .nil => rfl
  | p :: ks, _, .cons r t => by
    cases r
    rw [refs_vals t]
    rfl
theorem crSetN (hc : X.calm = true) (hu : X.A.units + 80 < cLine) : CallR X (.type "set") (rSetN X.K X.w) := by
  intro pins s σ H xs us Q I r h
  obtain ⟨Hc, l, ks, rfl, hl, e, hk, hf, q⟩ := h
  rw [Vals.ref1 r]
  obtain ⟨its, rv, pl, hz⟩ := I.list hl
  have hn : H s.heap.objs.size = none := I.hok.fresh (Nat.le_refl _)
  refine callSetN (P := X.prog) (w := X.w) ks (I.ok.hd hc) pl.isList (by simpa using refs_vals rv) (fun p hp => ⟨rep_key I p.2 ((hk p hp).1.mono e) rfl, (hk p hp).2⟩) hf (by omega) fun h' tk L es ep t R g k => ?_
  have g0 : ∀ p ∈ L, p ∈ ks := fun p hp => List.mem_of_mem_take (g.sub p hp)
  refine ⟨.ref s.heap.objs.size, upd H s.heap.objs.size (SetNO X.w s.heap.objs.size L), I.laid (t' := tk) k (Nat.le_refl _) (setNO_ok ⟨es, ep, t, R.ob, R.rows, R.tab, R.nd, R.led, R.room, R.few⟩), rfl, q _ L hn g0 (fun p hp => g.all p (by rw [List.take_length]; exact hp)) R.nd⟩
def rSortN (K : PySem.W.Frag) (w : World) : List V → Hp → VK → Prop := fun xs H Q => ∃ (Hc : Hp) (a : Addr) (L : List (Addr × NK)), xs = [.ref a] ∧ H a = some (SetNO w a L) ∧ Same Hc H ∧ (∀ p ∈ L, Rep K Hc (.ref p.1) p.2.data ∧ p.2.depth ≤ 8) ∧ sortOk (L.map (·.2.data)) = true ∧
  ∀ ys p, RepAll K Hc ys (isort (L.map (·.2.data))) → H p = none → Q (.ref p) (upd H p (.lst ys))
mutual
theorem rep_reads (I : L2.Inv X pins σ H s) : ∀ (k : NK) {v : V} {u : Value}, Rep X.K H v k.data → RelV v u → Reads s.heap u k.data []
  | .none, _, _, .non, r => by cases r; exact .none
  | .num i, _, _, .int _, r => by obtain ⟨t, rfl⟩ := r; exact .int i t
  | .text x, _, _, .str _, r => by obtain ⟨t, rfl⟩ := r; exact .str x t
  | .tup ks, _, _, .tup h q, r => by
    cases r
    obtain ⟨its, rv, ⟨o, ho, hc, n, hd⟩, _⟩ := I.tuple h
    exact .tuple ho hc hd (by simpa using reps_reads I ks q rv)
theorem reps_reads (I : L2.Inv X pins σ H s) : ∀ (ks : List NK) {vs : List V} {us : List Value}, RepAll X.K H vs (NestedKey.datas ks) → Vals vs us → ReadsAll s.heap us (NestedKey.datas ks) []
  | [], _, _, .nil, .nil => .nil
  | k :: ks, _, _, .cons r q, .cons a b => ReadsAll.cons (as := []) (bs := []) (rep_reads I k r a) (reps_reads I ks q b)
end
theorem each_rows {h : Heap} : ∀ (L : List (Addr × NK)), (∀ p ∈ L, Reads h (.ref p.1) p.2.data []) → PySem.W.EachIs (fun (u : Value) (p : Addr × NK) => ∃ as, Reads h u p.2.data as ∧ True) (L.map fun p => Value.ref p.1) L
  | [], _ => .nil
  | p :: L, k => .cons ⟨[], k p List.mem_cons_self, trivial⟩ (each_rows L fun q hq => k q (List.mem_cons_of_mem _ hq))
theorem each_all {R : Value → Addr × NK → Prop} : ∀ (L : List (Addr × NK)), (∀ p ∈ L, R (.ref p.1) p) → PySem.W.EachIs R (L.map fun p => Value.ref p.1) L
  | [], _ => .nil
  | p :: L, k => .cons (k p List.mem_cons_self) (each_all L fun q hq => k q (List.mem_cons_of_mem _ hq))
theorem each_refs : ∀ {us : List Value} {L : List (Addr × NK)}, PySem.W.EachIs (fun (u : Value) (p : Addr × NK) => u = .ref p.1) us L → us = L.map fun p => Value.ref p.1
  | _, _, .nil => rfl
  | _, _, .cons e t => by rw [e, each_refs t]; rfl
theorem vals_refs : ∀ (L : List (Addr × NK)), Vals (L.map fun p => V.ref p.1) (L.map fun p => Value.ref p.1)
  | [] => .nil
  | _ :: L => .cons rfl (vals_refs L)
theorem rep_rows {K : PySem.W.Frag} {Hc : Hp} : ∀ (L : List (Addr × NK)), (∀ p ∈ L, Rep K Hc (.ref p.1) p.2.data) → RepAll K Hc (L.map fun p => V.ref p.1) (L.map (·.2.data))
  | [], _ => .nil
  | p :: L, k => .cons (k p List.mem_cons_self) (rep_rows L fun q hq => k q (List.mem_cons_of_mem _ hq))
theorem depth_nk {d : D} (h : SeqAt.shaped d = true) : d.depth ≤ 64 := by
  have := SeqAt.depth_of_shaped h
  omega
theorem crSortN (hc : X.calm = true) (hu : X.A.units + 80 < cLine) : CallR X (.builtin "sorted") (rSortN X.K X.w) := by
  intro pins s σ H xs us Q I r h
  obtain ⟨Hc, a, L, rfl, ha, e, hk, ok, q⟩ := h
  obtain ⟨sh, al, so⟩ := sortOk_parts ok
  rw [Vals.ref1 r]
  have R0 : SetN0 X.w s.heap a L := (I.hok a _ ha).1
  obtain ⟨es, ep, t, ⟨o, ho, hex, hd⟩, hrows, T, nd, ld, room, few⟩ := R0
  have hsz := rowsN_len hrows
  have hl1 := T.sz
  rw [List.length_map] at hl1
  refine Calls.call_function_entry kind_sorted plain_sorted entry_sorted (args_sorted1 _) ?_
  unfold Builtin.«sorted»
  refine wpAny_bind (m := checkCount "sorted" 1 1 _) (wpAny_pure ?_)
  refine wpAny_bind (collect_set (A := X.A.in1) (I.ok.hd hc) ⟨o, ho, hex.1, hd⟩ (fits_of (by omega) T.dm (by omega)) (by unfold scanBound; omega) T.ris ld fun s1 vs k1 hz g1 o1 pm => ?_)
  have hes : es.toList.map (·.2) = L.map fun p => Value.ref p.1 := by
    rw [hrows]
    unfold rowsN
    rw [List.map_map]
    rfl
  rw [hes] at pm
  obtain ⟨L', pL, e'⟩ := perm_lift (fun p : Addr × NK => Value.ref p.1) pm L rfl
  have hL' : ∀ p ∈ L', Rep X.K Hc (.ref p.1) p.2.data := fun p hp => (hk p (pL.mem_iff.mp hp)).1
  have hlen : L'.length < 64 := by rw [pL.length_eq]; exact few
  subst e'
  refine wpAny_bind (wpAny_newList ?_ (by rw [List.length_map, sizeLine_eq]; omega))
  have hoL : (s1.heap.push (seqObj "list" (L'.map fun p => Value.ref p.1).toArray 0)).get? s1.heap.objs.size = some (seqObj "list" (L'.map fun p => Value.ref p.1).toArray 0) := Heap.get?_push_size _ rfl
  have kp : ∀ b ob, s.heap.get? b = some ob → (s1.heap.push (seqObj "list" (L'.map fun p => Value.ref p.1).toArray 0)).get? b = some ob := fun b ob z => Heap.get?_push_of_some _ (k1 b ob z)
  have md : L'.map (·.2.data) = (L'.map (·.2)).map (·.data) := by rw [List.map_map]; rfl
  have sub : ∀ d ∈ L'.map (·.2.data), d ∈ L.map (·.2.data) := fun d hd => (pL.map (·.2.data)).mem_iff.mp hd
  have al' : PySem.W.AllAlike (L'.map (·.2.data)) := fun x hx y hy => al x (sub x hx) y (sub y hy)
  have so' : PySem.W.Sortable (L'.map (·.2.data)) := so.imp (fun z d hd => z d (sub d hd)) fun z d hd => z d (sub d hd)
  refine wpAny_bind (wpAny_holding (PySem.W.list_sort_data (s := { s1 with heap := s1.heap.push (seqObj "list" (L'.map fun p => Value.ref p.1).toArray 0) }) (enc := fun p : Addr × NK => p.2.data) (R := fun u p => u = .ref p.1) hoL (each_all L' fun _ _ => rfl)
    (each_all L' fun p hp => ⟨[], PyProof.Rows.Reads.keeps kp (rep_reads I p.2 ((hL' p hp).mono e) rfl), fun z => nomatch z⟩) al' so' (by rw [sizeLine_eq]; omega) (fun p hp => ?_) fun out h1 h2 => ?_))
  · have hd2 := depth_nk (sh _ (sub _ (List.mem_map.mpr ⟨p, hp, rfl⟩)))
    show X.A.units + 1 + 1 + p.2.data.depth < cLine
    omega
  · obtain ⟨c, hc'⟩ := sortedHeap_at (vs := L'.map fun p => Value.ref p.1) (out := out.toArray) hoL
    have e2 := each_refs h2
    generalize hM : L'.mergeSort (PySem.W.dataLe false fun p : Addr × NK => p.2.data) = M at e2
    have pM : M.Perm L' := by rw [← hM]; exact List.mergeSort_perm ..
    have dM : M.map (·.2.data) = isort (L.map (·.2.data)) := by
      have z : M.map (·.2.data) = (L'.map (·.2.data)).mergeSort fun a b => !PySem.W.dataLt b a := by
        rw [← hM, PySem.W.dataLe_eq]
        exact PySem.W.sort_maps (r := fun a b : Addr × NK => !PySem.W.dataLt b.2.data a.2.data) (s := fun a b => !PySem.W.dataLt b a) (fun p : Addr × NK => p.2.data) (l := L') (fun _ _ _ _ => rfl)
      have md2 : L.map (·.2.data) = (L.map (·.2)).map (·.data) := by rw [List.map_map]; rfl
      rw [z, merge_isort, md, md2]
      refine isort_perm (pL.map _) fun x hx y hy => ?_
      obtain ⟨p1, h1, rfl⟩ := List.mem_map.mp hx
      obtain ⟨p2, h2, rfl⟩ := List.mem_map.mp hy
      exact al' _ (List.mem_map.mpr ⟨p1, h1, rfl⟩) _ (List.mem_map.mpr ⟨p2, h2, rfl⟩)
    have hn : H s1.heap.objs.size = none := I.hok.fresh hz
    have hlM : (M.map fun p => V.ref p.1).length ≤ sizeLine := by rw [List.length_map, pM.length_eq, sizeLine_eq]; omega
    have old : ∀ b ob, s.heap.get? b = some ob → (sortedHeap (s1.heap.push (seqObj "list" (L'.map fun p => Value.ref p.1).toArray 0)) s1.heap.objs.size (L'.map fun p => Value.ref p.1) out.toArray).get? b = some ob := fun b ob z => by
      have z1 := k1 b ob z
      have hlt := Heap.lt_size z1
      rw [sortedHeap_old (Nat.ne_of_lt hlt) (by rw [size_push']; exact Nat.lt_succ_of_lt hlt)]
      exact Heap.get?_push_of_some _ z1
    have J : L2.Inv X pins σ (upd H s1.heap.objs.size (.lst (M.map fun p => V.ref p.1))) { s with heap := sortedHeap (s1.heap.push (seqObj "list" (L'.map fun p => Value.ref p.1).toArray 0)) s1.heap.objs.size (L'.map fun p => Value.ref p.1) out.toArray, gens := s1.gens, drawn := s1.drawn, toks := s1.toks } :=
      I.call (ch := []) (Un.laid old hz hn) (I.hok.laid old hz ⟨hlM, out, c, by rw [e2]; exact vals_refs M, hc'⟩) (by rw [g1]; exact I.bare) (fun _ z => nomatch z)
    have es1 : ({ s1 with heap := sortedHeap (s1.heap.push (seqObj "list" (L'.map fun p => Value.ref p.1).toArray 0)) s1.heap.objs.size (L'.map fun p => Value.ref p.1) out.toArray } : Shared) = { s with heap := sortedHeap (s1.heap.push (seqObj "list" (L'.map fun p => Value.ref p.1).toArray 0)) s1.heap.objs.size (L'.map fun p => Value.ref p.1) out.toArray, gens := s1.gens, drawn := s1.drawn, toks := s1.toks } := by
      cases s1
      cases s
      cases o1
      rfl
    refine wpAny_pure ⟨_, rfl, ?_⟩
    show ∃ v H', L2.Inv X pins σ H' { s1 with heap := _ } ∧ _
    rw [es1]
    exact ⟨.ref s1.heap.objs.size, _, J, rfl, q _ _ (by rw [← dM]; exact rep_rows M fun p hp => hL' p (pM.mem_iff.mp hp)) hn⟩
end
end HF

set_option Elab.async false
set_option autoImplicit false
set_option linter.all false
set_option maxRecDepth 100000
set_option maxHeartbeats 4000000
/-! Dicts as data. -/
namespace HF
open PySem PySem.Spec PyProof.Rows L2
theorem keyK_kD {d : D} {k : Key} (h : keyK d = some k) : d = kD k := by
  cases d <;> cases h <;> rfl
theorem isKey_of {d : D} (h : isKey d = true) : ∃ k, d = kD k := by
  unfold isKey at h
  cases e : keyK d with
  | none => rw [e] at h; cases h
  | some k => exact ⟨k, keyK_kD e⟩
theorem isKey_kD (k : Key) : isKey (kD k) = true := by cases k <;> rfl
theorem eqv_kD (a b : Key) : PyData.eqv (kD a) (kD b) = decide (a = b) := by
  cases a with
  | inl i =>
    cases b with
    | inl j =>
      show (i == j) = _
      by_cases e : i = j
      · subst e; simp
      · rw [beq_eq_false_iff_ne.mpr e, decide_eq_false (fun z => e (Sum.inl.inj z))]
    | inr y => simp [kD, PyData.eqv]
  | inr x =>
    cases b with
    | inl j => simp [kD, PyData.eqv]
    | inr y =>
      show (x == y) = _
      by_cases e : x = y
      · subst e; simp
      · rw [beq_eq_false_iff_ne.mpr e, decide_eq_false (fun z => e (Sum.inr.inj z))]
section
variable {K : PySem.W.Frag} {H H' : Hp}
theorem rep_kD {v : V} {k : Key} (r : Rep K H v (kD k)) : v = kV k := by
  cases k with
  | inl i => cases (show Rep K H v (.int i) from r); rfl
  | inr x => cases (show Rep K H v (.str x) from r); rfl
theorem rep_kV (k : Key) : Rep K H (kV k) (kD k) := by
  cases k with
  | inl i => exact .int i
  | inr x => exact .str x
theorem RepK.keysK : ∀ {kvs : List (Key × V)} {ps : List (D × D)}, RepK K H kvs ps → HF.keysK ps = true
  | _, _, .nil => rfl
  | _, _, .cons _ q => by
    show (isKey (kD _) && HF.keysK _) = true
    rw [isKey_kD, RepK.keysK q]
    rfl
theorem RepK.len : ∀ {kvs : List (Key × V)} {ps : List (D × D)}, RepK K H kvs ps → kvs.length = ps.length
  | _, _, .nil => rfl
  | _, _, .cons _ q => congrArg Nat.succ q.len
theorem RepK.look {κ : Key} : ∀ {kvs : List (Key × V)} {ps : List (D × D)}, RepK K H kvs ps → (∃ v d, valV kvs κ = some v ∧ lookD ps (kD κ) = some d ∧ Rep K H v d) ∨ (valV kvs κ = none ∧ lookD ps (kD κ) = none)
  | _, _, .nil => .inr ⟨rfl, rfl⟩
  | _, _, .cons (k := k) (v := v) (vs := vs) (d := d) (ds := ds) r q => by
    by_cases e : k = κ
    · refine .inl ⟨v, d, valV_pos e, ?_, r⟩
      unfold lookD
      rw [List.find?_cons_of_pos (by rw [eqv_kD]; exact decide_eq_true e)]
      rfl
    · have e1 : valV ((k, v) :: vs) κ = valV vs κ := valV_neg e
      have e2 : lookD ((kD k, d) :: ds) (kD κ) = lookD ds (kD κ) := by
        unfold lookD
        rw [List.find?_cons_of_neg (by rw [eqv_kD, decide_eq_false e]; decide)]
      rw [e1, e2]
      exact RepK.look q
theorem RepK.any {κ : Key} : ∀ {kvs : List (Key × V)} {ps : List (D × D)}, RepK K H kvs ps → (kvs.any fun kv => decide (kv.1 = κ)) = (ps.any fun p => PyData.eqv p.1 (kD κ))
  | _, _, .nil => rfl
  | _, _, .cons r q => by
    rw [List.any_cons, List.any_cons, RepK.any q, eqv_kD]
theorem RepK.repl {κ : Key} {v : V} {d : D} (rv : Rep K H v d) : ∀ {kvs : List (Key × V)} {ps : List (D × D)}, RepK K H kvs ps →
    RepK K H (kvs.map fun kv => if kv.1 = κ then (kv.1, v) else kv) (ps.map fun p => if PyData.eqv p.1 (kD κ) = true then (p.1, d) else p)
  | _, _, .nil => .nil
  | _, _, .cons (k := k) r q => by
    rw [List.map_cons, List.map_cons, eqv_kD]
    by_cases e : k = κ
    · rw [if_pos e, if_pos (decide_eq_true e)]
      exact .cons rv (RepK.repl rv q)
    · rw [if_neg e, if_neg (by rw [decide_eq_false e]; decide)]
      exact .cons r (RepK.repl rv q)
theorem RepK.snoc {κ : Key} {v : V} {d : D} (rv : Rep K H v d) : ∀ {kvs : List (Key × V)} {ps : List (D × D)}, RepK K H kvs ps → RepK K H (kvs ++ [(κ, v)]) (ps ++ [(kD κ, d)])
  | _, _, .nil => .cons rv .nil
  | _, _, .cons r q => .cons r (RepK.snoc rv q)
theorem RepK.put {κ : Key} {v : V} {d : D} {kvs : List (Key × V)} {ps : List (D × D)} (q : RepK K H kvs ps) (rv : Rep K H v d) : RepK K H (putK kvs κ v) (putD ps (kD κ) d) := by
  unfold putK putD
  rw [← q.any (κ := κ)]
  split
  · exact q.repl rv
  · exact q.snoc rv
theorem RepK.merge : ∀ {more kvs : List (Key × V)} {ms ps : List (D × D)}, RepK K H more ms → RepK K H kvs ps → RepK K H (mergeK kvs more) (mergeD ps ms)
  | _, _, _, _, .nil, q => q
  | _, _, _, _, .cons r t, q => (RepK.merge t (q.put r) :)
/-- a dict that is looked at -/
theorem RepTop.dict_ps {Hc : Hp} {x : V} {ps : List (D × D)} (h : RepTop K Hc H x (.dict ps)) (ok : HF.keysK (dps ps) = true) : ∃ a kvs, x = .ref a ∧ Rd H a (.dK kvs) ∧ RepK K Hc kvs (dps ps) := by
  generalize hz : (PyData.dict ps) = z at h
  cases h with
  | scr q =>
    unfold scrD at hz
    cases hz
    cases ok
  | dK q r =>
    cases hz
    have : dps ps = ps := by
      cases r with
      | nil => rfl
      | @cons k _ _ _ _ _ _ => cases k <;> rfl
    rw [this]
    exact ⟨_, _, rfl, q, r⟩
  | dF q r =>
    cases hz
    obtain ⟨u, _, q⟩ := q
    exact ⟨_, _, rfl, .inr ⟨u, q⟩, r⟩
  | _ => cases hz
theorem RepTop.dict_of {Hc : Hp} {x : V} {ps : List (D × D)} (h : RepTop K Hc H x (.dict ps)) (ok : HF.keysK ps = true) : ∃ a kvs, x = .ref a ∧ Rd H a (.dK kvs) ∧ RepK K Hc kvs ps := by
  generalize hz : (PyData.dict ps) = z at h
  cases h with
  | scr q =>
    unfold scrD at hz
    cases hz
    cases ok
  | dK q r =>
    cases hz
    exact ⟨_, _, rfl, q, r⟩
  | dF q r =>
    cases hz
    cases ok
  | _ => cases hz
end
/-! ### reading -/
section
variable {X : Cx} {W : WX} {a b c : Expr} {fa fb fc : List SV → Res D} {pos : Pos}
theorem dDix_noexc (x y : D) (c : Str) : dDix x y ≠ .exc c := by
  intro h
  unfold dDix at h
  split at h
  · split at h
    · split at h <;> cases h
    · cases h
  · cases h
theorem noSl_of {e : Expr} (h : PlainIx e) : NoSl e := h
theorem se_dix (hu : X.A.units + 1 < cLine) (ha : PE X a (tU X.K W fa)) (hb : PE X b (tG false X.K W fb)) (hs : NoSl b) : PE X (.Subscript a b pos) (tG false X.K W fun st => do let x ← fa st; let y ← fb st; dDix x y) :=
  (pe_dget hu ha hb hs).weak fun σ H Q ⟨fo, oo, st, R, g⟩ =>
    ⟨fo, oo, st, R, g.bind.mono fun x H1 _ e1 g1 v rv => ⟨fo, oo, st, R.grow e1, g1.bind.mono fun y H2 _ e2 g2 w rw => by
      obtain ⟨d, e3, q⟩ := g2.val (dDix_noexc x y)
      unfold dDix at e3
      split at e3
      · rename_i ps
        split at e3
        · rename_i ok
          rw [Bool.and_eq_true] at ok
          split at e3
          · rename_i d' hl
            cases e3
            obtain ⟨p, kvs, rfl, h1, h2⟩ := RepTop.dict_ps (rv.mono (hid_mono _ e2) e2) ok.2
            obtain ⟨κ, rfl⟩ := isKey_of ok.1
            rcases h2.look (κ := κ) with ⟨u, d2, q1, q2, q3⟩ | ⟨q1, q2⟩
            · rw [hl] at q2
              cases q2
              exact ⟨p, u, rfl, .inl ⟨kvs, κ, h1, rep_kD rw, q1.symm⟩, q H2 (Same.refl _) u q3⟩
            · rw [hl] at q2
              cases q2
          · cases e3
        · cases e3
      · cases e3⟩⟩
theorem dDin_noexc (neg : Bool) (x y : D) (c : Str) : dDin neg x y ≠ .exc c := by
  intro h
  unfold dDin at h
  split at h
  · split at h <;> cases h
  · cases h
theorem din_case {K : PySem.W.Frag} {oo : List (List Addr)} {H : Hp} {y : V} {x : V} {k e : D} {neg : Bool} {d : D} (ry : Rep K (hid oo H) y k) (rx : RepTop K (hid oo H) H x e) (h : dDin neg k e = .ok d) :
    ∃ a o, x = .ref a ∧ DGet H a y o ∧ d = .bool (neg != o.isSome) := by
  unfold dDin at h
  split at h
  · split at h
    · rename_i ok
      rw [Bool.and_eq_true] at ok
      cases h
      obtain ⟨p, kvs, rfl, h1, h2⟩ := RepTop.dict_ps rx ok.2
      obtain ⟨κ, rfl⟩ := isKey_of ok.1
      refine ⟨p, valV kvs κ, rfl, .inl ⟨kvs, κ, h1, rep_kD ry, rfl⟩, ?_⟩
      rcases h2.look (κ := κ) with ⟨u, d2, q1, q2, q3⟩ | ⟨q1, q2⟩ <;> rw [q1, q2] <;> rfl
    · cases h
  · cases h
def cmpIn (neg : Bool) : CmpOp := if neg then .NotIn else .In
def tDinA (neg : Bool) (ty td : TE) : TE := fun σ H Q => ty σ H fun y H1 => td σ H1 fun x H2 => ∃ a o, x = .ref a ∧ DGet H2 a y o ∧ Q (.bl (neg != o.isSome)) H2
theorem pc_dinA (neg : Bool) {td ty : TE} (hu : X.A.units + 1 < cLine) (hi : PE X a ty) (ho : PE X b td) : PC X (cmpIn neg) a b (tDinA neg ty td) := by
  cases neg with
  | false =>
    have h := pc_din hu hi ho
    have e : tDIn ty td = tDinA false ty td := by
      funext σ H Q
      unfold tDIn tDinA
      simp only [Bool.false_bne]
    rw [← e]
    exact h
  | true =>
    have h := pc_dnotin hu hi ho
    have e : tDNotIn ty td = tDinA true ty td := by
      funext σ H Q
      unfold tDNotIn tDinA
      simp only [Bool.true_bne]
    rw [← e]
    exact h
theorem se_din (neg : Bool) (fr : Bool) (hu : X.A.units + 1 < cLine) (ha : PE X a (tG false X.K W fa)) (hb : PE X b (tU X.K W fb)) (hm : behindInMarks (cmpIn neg) b = false) :
    PE X (.Compare a [cmpIn neg] [b] pos) (tG fr X.K W fun st => do let y ← fa st; let x ← fb st; dDin neg y x) :=
  (pe_cmp (pc_dinA neg hu ha hb) hm).weak fun σ H Q ⟨fo, oo, st, R, g⟩ =>
    ⟨fo, oo, st, R, g.bind.mono fun y H1 _ e1 g1 v rv => ⟨fo, oo, st, R.grow e1, g1.bind.mono fun x H2 _ e2 g2 w rw => by
      obtain ⟨d, e3, q⟩ := g2.val (dDin_noexc neg y x)
      obtain ⟨p, o, q1, q2, rfl⟩ := din_case (rv.mono (hid_mono _ e2)) rw e3
      exact ⟨p, o, q1, q2, q H2 (Same.refl _) _ (Rep.flatN rfl fr (.bl _))⟩⟩⟩
theorem se_dinT (neg : Bool) (hu : X.A.units + 1 < cLine) (ha : PE X a (tG false X.K W fa)) (hb : PE X b (tU X.K W fb)) (hm : behindInMarks (cmpIn neg) b = false) :
    PT X (.Compare a [cmpIn neg] [b] pos) (tBo X.K W fun st => bOf (do let y ← fa st; let x ← fb st; dDin neg y x)) :=
  (pt_cmp (pc_dinA neg hu ha hb) hm).weak fun σ H Q ⟨fo, oo, st, R, g⟩ => by
    simp only [bOf_bind] at g
    exact ⟨fo, oo, st, R, g.bind.mono fun y H1 _ e1 g1 v rv => ⟨fo, oo, st, R.grow e1, g1.bind.mono fun x H2 _ e2 g2 w rw => by
      obtain ⟨d, e3, z⟩ := (GoodP.bOf (r := dDin neg y x) g2).val (dDin_noexc neg y x)
      obtain ⟨b, rfl, q⟩ := z H2 (Same.refl _)
      obtain ⟨p, o, q1, q2, q3⟩ := din_case (rv.mono (hid_mono _ e2)) rw e3
      cases q3
      exact ⟨p, o, q1, q2, _, rfl, q⟩⟩⟩
theorem asD_noexc (x : D) (c : Str) : asD x ≠ .exc c := by
  intro h
  unfold asD at h
  split at h
  · split at h <;> cases h
  · cases h
theorem asD_ok {x : D} {ps : List (D × D)} (h : asD x = .ok ps) : ∃ qs, x = .dict qs ∧ ps = dps qs ∧ keysK (dps qs) = true := by
  unfold asD at h
  split at h
  · split at h
    · rename_i ok
      cases h
      exact ⟨_, rfl, rfl, ok⟩
    · cases h
  · cases h
theorem se_dget {apos cpos : Pos} (hu : X.A.units + 1 < cLine) (ha : PE X a (tU X.K W fa)) (hb : PE X b (tG false X.K W fb)) (hc : PE X c (tG false X.K W fc)) (m : M2 X a "get" apos b c cpos) :
    PE X (.Call (.Attribute a "get" apos) [b, c] [] cpos) (tG false X.K W fun st => do let x ← fa st; let ps ← asD x; let y ← fb st; let z ← fc st; dDget ps y z) :=
  (pe_dget2 hu ha hb hc m).weak fun σ H Q ⟨fo, oo, st, R, g⟩ =>
    ⟨fo, oo, st, R, g.bind.mono fun x H1 _ e1 g1 v rv => by
      obtain ⟨ps, e0, q0⟩ := (GoodP.bind (r := asD x) g1).val (asD_noexc x)
      obtain ⟨qs, rfl, rfl, ok⟩ := asD_ok e0
      obtain ⟨p, kvs, rfl, h1, h2⟩ := RepTop.dict_ps rv ok
      have g2 := q0 H1 (Same.refl _)
      refine ⟨p, rfl, .inl ⟨kvs, h1⟩, fo, oo, st, R.grow e1, (GoodP.bind (r := fb st) g2).mono fun y H2 _ e2 g3 w rw => ⟨fo, oo, st, R.grow (e1.trans e2), (GoodP.bind (r := fc st) g3).mono fun z H3 _ e3 g4 u ru => ?_⟩⟩
      have g5 : GoodP X.K W σ H3 (if isKey y = true then Res.ok ((lookD (dps qs) y).getD z) else .bad) _ := g4
      split at g5
      · rename_i hk
        obtain ⟨κ, rfl⟩ := isKey_of hk
        refine ⟨valV kvs κ, .inl ⟨kvs, κ, Same.rd (e2.trans e3) h1, rep_kD (rw.mono (hid_mono _ e3)), rfl⟩, g5 H3 (Same.refl _) _ ?_⟩
        rcases (h2.mono (hid_mono _ (e2.trans e3))).look (κ := κ) with ⟨t, d2, q1, q2, q3⟩ | ⟨q1, q2⟩
        · rw [q1, q2]; exact q3
        · rw [q1, q2]; exact ru
      · exact g5.elim⟩
def rLenD : List V → Hp → VK → Prop := fun xs H Q => ∃ (a : Addr) (kvs : List (Key × V)), xs = [.ref a] ∧ Rd H a (.dK kvs) ∧ Q (.int kvs.length) H
theorem callLenD : CallR X (.builtin "len") rLenD := by
  intro pins s σ H xs us Q I r q
  obtain ⟨a, kvs, rfl, hd, q⟩ := q
  rw [Vals.ref1 r]
  exact d_len I hd fun t s' I' => ⟨.int kvs.length, H, I', ⟨t, rfl⟩, q⟩
theorem se_dlen (fr : Bool) (hg : Gl X "len") (hm : X.mg "len" = none) (p : Pos) (ha : PE X a (tU X.K W fa)) (hs : noS a = true) : PE X (.Call (.Name "len" p) [a] [] pos) (tG fr X.K W fun st => do let x ← fa st; dDlen x) :=
  (pe_callB callLenD hg hm boot_len (pa_cons ha pa_nil (star_cons _ _ hs)) (by decide) (by decide) (star_cons _ _ hs) rfl).weak fun σ H Q ⟨fo, oo, st, R, g⟩ =>
    ⟨fo, oo, st, R, g.bind.mono fun x H1 _ e1 g1 v rv => by
      have g2 : GoodP X.K W σ H1 (dDlen x) _ := g1
      unfold dDlen at g2
      split at g2
      · rename_i ps
        split at g2
        · rename_i ok
          obtain ⟨p, kvs, rfl, h1, h2⟩ := RepTop.dict_of rv ok
          refine ⟨p, kvs, rfl, h1, ?_⟩
          rw [h2.len]
          exact g2 H1 (Same.refl _) _ (Rep.flatN rfl fr (.int _))
        · exact g2.elim
      · exact g2.elim⟩
theorem RepK.nil_own {H : Hp} {p : Addr} {oo : List (List Addr)} : OwnR X.K (hid ([p] :: oo) (upd H p (.dK []))) (upd H p (.dK [])) p (.dict []) := .dK upd_same .nil
theorem se_dnew : PE X (.Dict [] [] pos) (tG true X.K W fun _ => .ok (.dict [])) :=
  pe_dnewK.weak fun σ H Q ⟨fo, oo, st, R, g⟩ => fun p hp => g _ (Same.upd hp) _ (show RepN X.K (fo :: oo) H _ _ _ from .new hp RepK.nil_own)
theorem hid_two {p : Addr} {fo : List Addr} {oo : List (List Addr)} (H : Hp) : hid ((p :: fo) :: oo) H = hid ([p] :: fo :: oo) H := by
  funext a
  unfold hid
  simp
theorem se_ddisp (ha : PE X a (tG false X.K W fa)) (hb : PE X b (tG false X.K W fb)) : PE X (.Dict [some a] [b] pos) (tG true X.K W fun st => do let x ← fa st; let y ← fb st; if isKey x then .ok (.dict [(x, y)]) else .bad) :=
  (pe_disp (pps_cons ha hb pps_nil) rfl rfl (by simp) (show (1 : Nat) ≤ 15 by decide)).weak fun σ H Q ⟨fo, oo, st, R, g⟩ => fun p hp => by
    have e0 : Same H (upd H p (HO.dK [])) := Same.upd hp
    have Rp : StR X.K (p :: fo) σ (upd H p (HO.dK [])) oo st := R.comp (ws := []) hp e0 upd_same rfl
    refine ⟨p :: fo, oo, st, Rp, ?_⟩
    dsimp only at g
    cases h1 : fa st with
    | bad => rw [h1] at g; exact g.elim
    | exc c => rw [h1] at g; exact fun H' e => g H' (e0.trans e)
    | ok x =>
      rw [h1] at g
      refine fun H1 e1 v rv => ⟨p :: fo, oo, st, Rp.grow e1, ?_⟩
      cases h2 : fb st with
      | bad => rw [h2] at g; exact g.elim
      | exc c => rw [h2] at g; exact fun H' e => g H' ((e0.trans e1).trans e)
      | ok y =>
        rw [h2] at g
        have g5 : GoodP X.K W σ H (if isKey x = true then Res.ok (PyData.dict [(x, y)]) else .bad) _ := g
        split at g5
        · rename_i hk
          refine fun H2 e2 w rw => ?_
          obtain ⟨κ, rfl⟩ := isKey_of hk
          have hp2 : H2 p = some (.dK []) := e2 _ _ (e1 _ _ upd_same)
          have hv : v = kV κ := rep_kD rv
          subst hv
          refine ⟨hp2, [(κ, w)], rfl, (by simp), ?_⟩
          have e3 : Same H (upd H2 p (.dK (mergeK [] [(κ, w)]))) := fun q o hq => by
            rw [upd_ne (ne_of_none hq hp)]
            exact e2 _ _ (e1 _ _ (e0 _ _ hq))
          refine g5 _ e3 _ (show RepN X.K (fo :: oo) H _ _ _ from .new hp (.dK (upd_same (H := H2)) ?_))
          rw [← hid_two, hid_upd (by simp)]
          exact .cons rw .nil
        · exact g5.elim
theorem dDictL_noexc (x : D) (c : Str) : dDictL x ≠ .exc c := by
  intro h
  unfold dDictL at h
  split at h
  · split at h
    · split at h <;> cases h
    · cases h
  · cases h
theorem pairs_rep {K : PySem.W.Frag} {Hc H : Hp} (e : Same Hc H) : ∀ {xs : List D} {vs : List V} {ps : List (D × D)}, RepAll K Hc vs xs → xs.mapM unpair = some ps →
    ∃ (as : List Addr) (kvs : List (Key × V)), vs = as.map V.ref ∧ Paired (fun p kv => SqT K H p [kV kv.1, kv.2]) as kvs ∧ RepK K Hc kvs ps
  | [], _, ps, .nil, h => by
    have : ps = [] := by simpa using h.symm
    subst this
    exact ⟨[], [], rfl, .nil, .nil⟩
  | x :: xs, _, ps, .cons r q, h => by
    rw [List.mapM_cons] at h
    cases h1 : unpair x with
    | none => rw [h1] at h; cases h
    | some p =>
      rw [h1] at h
      cases h2 : xs.mapM unpair with
      | none => rw [h2] at h; cases h
      | some ps' =>
        rw [h2] at h
        have h3 : some (p :: ps') = some ps := h
        cases h3
        obtain ⟨as, kvs, e1, e2, e3⟩ := pairs_rep e q h2
        unfold unpair at h1
        split at h1
        · split at h1
          · rename_i hk
            cases h1
            obtain ⟨κ, rfl⟩ := isKey_of hk
            cases r with
            | tup ht rr =>
              cases rr with
              | cons r1 rr =>
                cases rr with
                | cons r2 rr =>
                  cases rr
                  rw [rep_kD r1] at ht
                  exact ⟨_ :: as, (κ, _) :: kvs, by rw [e1]; rfl, .cons (Same.sqT e ht) e2, .cons r2 e3⟩
          · cases h1
        · cases h1
theorem se_dictL (hc : X.calm = true) (hg : Gl X "dict") (hm : X.mg "dict" = none) (p : Pos) (ha : PE X a (tU X.K W fa)) (hs : noS a = true) : PE X (.Call (.Name "dict" p) [a] [] pos) (tG true X.K W fun st => do let x ← fa st; dDictL x) :=
  (pe_callTy (call_dictP hc) hg hm (by decide +kernel) (pa_cons ha pa_nil (star_cons _ _ hs)) (by decide) (by decide) (star_cons _ _ hs) rfl).weak fun σ H Q ⟨fo, oo, st, R, g⟩ =>
    ⟨fo, oo, st, R, g.bind.mono fun x H1 _ e1 g1 v rv => by
      obtain ⟨d, e3, q⟩ := g1.val (dDictL_noexc x)
      unfold dDictL at e3
      split at e3
      · split at e3
        · rename_i ps hps
          split at e3
          · cases e3
            cases rv with
            | lst hl rr =>
              obtain ⟨as, kvs, rfl, h2, h3⟩ := pairs_rep (hid_same _ _) rr hps
              refine ⟨_, as, kvs, rfl, SqL.of hl, h2, fun p hp => q _ (Same.upd hp) _ (RepN.back e1 (.new hp (.dK upd_same ?_)))⟩
              refine (h3.merge (kvs := []) .nil).mono fun a o z => ?_
              obtain ⟨z1, z2⟩ := hid_of z
              have ne : a ≠ p := ne_of_none z1 hp
              rw [hid_get]
              · rw [upd_ne ne]; exact z1
              · rw [List.flatten_cons]
                intro y
                rcases List.mem_append.mp y with y | y
                · exact ne (List.mem_singleton.mp y)
                · exact z2 y
          · cases e3
        · cases e3
      · cases e3⟩
theorem _root_.L2.PE.lockD {e : Expr} {t : TE} (h : PE X e t) : PE X e (fun σ H Q => t σ H fun v H' => ∃ a kvs, v = .ref a ∧ H' a = some (.dK kvs) ∧ ∀ od, Q v (upd H' a (.frz od (.dK kvs)))) :=
  ⟨fun pins s σ H Q I q => thn (h.run pins s σ H _ I q) fun u s1 ⟨v, H1, I1, rv, a, kvs, ev, hd, q⟩ => by
    obtain ⟨od, I2⟩ := I1.lock hd trivial
    exact ⟨v, _, I2, rv, q od⟩⟩
theorem dDictF_noexc (x : D) (c : Str) : dDictF x ≠ .exc c := by
  intro h
  unfold dDictF at h
  cases e : dDictL x with
  | ok d =>
    rw [e] at h
    cases d <;> cases h
  | exc c => exact dDictL_noexc _ _ e
  | bad => rw [e] at h; cases h
theorem se_dictF (hc : X.calm = true) (hg : Gl X "dict") (hm : X.mg "dict" = none) (p : Pos) (ha : PE X a (tU X.K W fa)) (hs : noS a = true) : PE X (.Call (.Name "dict" p) [a] [] pos) (tG false X.K W fun st => do let x ← fa st; dDictF x) :=
  ((pe_callTy (call_dictP hc) hg hm (by decide +kernel) (pa_cons ha pa_nil (star_cons _ _ hs)) (by decide) (by decide) (star_cons _ _ hs) rfl).lockD).weak fun σ H Q ⟨fo, oo, st, R, g⟩ =>
    ⟨fo, oo, st, R, g.bind.mono fun x H1 _ e1 g1 v rv => by
      obtain ⟨d, e3, q⟩ := g1.val (dDictF_noexc x)
      unfold dDictF at e3
      cases e4 : dDictL x with
      | exc c => rw [e4] at e3; cases e3
      | bad => rw [e4] at e3; cases e3
      | ok d4 =>
      rw [e4] at e3
      unfold dDictL at e4
      split at e4
      · split at e4
        · rename_i ps hps
          split at e4
          · cases e4
            cases e3
            cases rv with
            | lst hl rr =>
              obtain ⟨as, kvs, rfl, h2, h3⟩ := pairs_rep (hid_same _ _) rr hps
              refine ⟨_, as, kvs, rfl, SqL.of hl, h2, fun p hp => ⟨p, _, rfl, upd_same, fun od => ?_⟩⟩
              have eS : Same H1 (upd (upd H1 p (.dK (mergeK [] kvs))) p (.frz od (.dK (mergeK [] kvs)))) := fun b o z => by
                have ne : b ≠ p := ne_of_none z hp
                rw [upd_ne ne, upd_ne ne]
                exact z
              have np : p ∉ (fo :: oo).flatten := (R.grow e1).fresh p hp
              refine q _ eS _ (.dF ⟨od, by rw [hid_get np]; exact upd_same⟩ ?_)
              exact (h3.merge (kvs := []) .nil).mono (hid_mono _ eS)
          · cases e4
        · cases e4
      · cases e4⟩
end
end HF

set_option Elab.async false
set_option autoImplicit false
set_option linter.all false
set_option maxRecDepth 100000
set_option maxHeartbeats 4000000
/-! sorted(set(..)), sorted(d.items()). -/
namespace HF
open PySem PySem.Spec PyProof.Rows L2
theorem sortOk_sub {xs ys : List D} (h : sortOk xs = true) (s : ∀ d ∈ ys, d ∈ xs) : sortOk ys = true := by
  unfold sortOk at h ⊢
  simp only [Bool.and_eq_true, Bool.or_eq_true, List.all_eq_true] at h ⊢
  exact ⟨⟨fun a ha => h.1.1 a (s a ha), fun a ha b hb => h.1.2 a (s a ha) b (s b hb)⟩, h.2.imp (fun q a ha => q a (s a ha)) fun q a ha => q a (s a ha)⟩
theorem hid_newp {Hc : Hp} {oo : List (List Addr)} {H H' : Hp} {p : Addr} (hp : H p = none) (e : Same H H') : Same (hid oo H) (hid ([p] :: oo) H') := fun a o z => by
  obtain ⟨z1, z2⟩ := hid_of z
  have ne : a ≠ p := ne_of_none z1 hp
  rw [hid_get]
  · exact e _ _ z1
  · rw [List.flatten_cons]
    intro y
    rcases List.mem_append.mp y with y | y
    · exact ne (List.mem_singleton.mp y)
    · exact z2 y
theorem tup_rows {K : PySem.W.Frag} {Hc : Hp} : ∀ {ks : List NK} {vs : List V}, RepAll K Hc vs (ks.map (·.data)) → (∀ k ∈ ks, tupNK k = true ∧ k.depth ≤ 8) →
    ∃ L : List (Addr × NK), vs = L.map (fun p => V.ref p.1) ∧ L.map (·.2) = ks ∧ ∀ p ∈ L, Rep K Hc (.ref p.1) p.2.data ∧ p.2.depth ≤ 8
  | [], _, .nil, _ => ⟨[], rfl, rfl, fun p h => (nomatch h)⟩
  | k :: ks, _, .cons r q, h => by
    obtain ⟨L, e1, e2, e3⟩ := tup_rows q fun k' hk => h k' (List.mem_cons_of_mem _ hk)
    have h1 := h k List.mem_cons_self
    cases k with
    | tup ls =>
      have r' : Rep K Hc _ (.tuple (NestedKey.datas ls)) := r
      cases r' with
      | @tup a _ _ ht rr =>
        refine ⟨(a, .tup ls) :: L, by rw [e1]; rfl, by rw [List.map_cons, e2], fun p hp => ?_⟩
        rcases List.mem_cons.mp hp with rfl | hp
        · exact ⟨.tup ht rr, h1.2⟩
        · exact e3 p hp
    | _ => exact Bool.noConfusion h1.1
section
variable {X : Cx} {W : WX} {a : Expr} {fa : List SV → Res D} {pos : Pos}
theorem dSSet_noexc (x : D) (c : Str) : dSSet x ≠ .exc c := by
  intro h
  unfold dSSet at h
  split at h
  · split at h <;> cases h
  · cases h
theorem se_sset {p p2 pos2 : Pos} (hc : X.calm = true) (hu : X.A.units + 80 < cLine) (hg : Gl X "sorted") (hm : X.mg "sorted" = none) (hg2 : Gl X "set") (hm2 : X.mg "set" = none) (ha : PE X a (tU X.K W fa)) (hs : noS a = true) :
    PE X (.Call (.Name "sorted" p) [.Call (.Name "set" p2) [a] [] pos2] [] pos) (tG true X.K W fun st => do let x ← fa st; dSSet x) :=
  (pe_callB (crSortN hc hu) hg hm (by decide +kernel) (pa_cons (pe_callTy (crSetN hc hu) hg2 hm2 (by decide +kernel) (pa_cons ha pa_nil (star_cons _ _ hs)) (by decide) (by decide) (star_cons _ _ hs) rfl) pa_nil (star_cons _ _ rfl)) (by decide) (by decide) (star_cons _ _ rfl) rfl).weak
    fun σ H Q ⟨fo, oo, st, R, g⟩ =>
    ⟨fo, oo, st, R, g.bind.mono fun x H1 _ e1 g1 v rv => by
      obtain ⟨d, e3, q⟩ := g1.val (dSSet_noexc x)
      unfold dSSet at e3
      split at e3
      · split at e3
        · rename_i xs ok
          cases e3
          unfold setOk at ok
          simp only [Bool.and_eq_true, decide_eq_true_eq] at ok
          obtain ⟨o1, o2, o3⟩ := ok
          obtain ⟨ks, rfl, hk⟩ := keys_of o1
          cases rv with
          | lst hl rr =>
            obtain ⟨L0, rfl, eK, hL0⟩ := tup_rows rr hk
            refine ⟨hid (fo :: oo) H1, _, L0, rfl, SqL.of hl, hid_same _ _, hL0, ?_, fun s L hs hsub hall hnd => ?_⟩
            · have z := congrArg List.length eK
              rw [List.length_map] at z
              rw [List.length_map] at o3
              omega
            · have eS : Same H1 (upd H1 s (SetNO X.w s L)) := Same.upd hs
              have sub : ∀ d ∈ L.map (·.2.data), d ∈ ks.map (·.data) := fun d hd => by
                obtain ⟨p, hp, rfl⟩ := List.mem_map.mp hd
                refine List.mem_map.mpr ⟨p.2, ?_, rfl⟩
                rw [← eK]
                exact List.mem_map.mpr ⟨p, hsub p hp, rfl⟩
              have ok2 := sortOk_sub o2 sub
              refine ⟨hid (fo :: oo) H1, s, L, rfl, upd_same, (hid_same _ _).trans eS, fun p hp => hL0 p (hsub p hp), ok2, fun ys r hy hr => ?_⟩
              have eP : (L.map (·.2)).Perm (ddK ks) := (List.perm_ext_iff_of_nodup hnd (ddK_nodup ks)).mpr fun k => by
                rw [ddK_mem, ← eK]
                constructor
                · intro h
                  obtain ⟨p, hp, rfl⟩ := List.mem_map.mp h
                  exact List.mem_map.mpr ⟨p, hsub p hp, rfl⟩
                · intro h
                  obtain ⟨p, hp, rfl⟩ := List.mem_map.mp h
                  exact hall p hp
              have eD : isort (L.map (·.2.data)) = isort (ddD (ks.map (·.data))) := by
                rw [ddD_data, show L.map (·.2.data) = (L.map (·.2)).map (·.data) by rw [List.map_map]; rfl]
                refine isort_perm eP fun x hx y hy => ?_
                obtain ⟨_, al, _⟩ := sortOk_parts ok2
                obtain ⟨p, hp, rfl⟩ := List.mem_map.mp hx
                obtain ⟨p', hp', rfl⟩ := List.mem_map.mp hy
                exact al _ (List.mem_map.mpr ⟨p, hp, rfl⟩) _ (List.mem_map.mpr ⟨p', hp', rfl⟩)
              rw [eD] at hy
              have e5 : Same H1 (upd (upd H1 s (SetNO X.w s L)) r (.lst ys)) := eS.trans (Same.upd hr)
              have hr1 : H1 r = none := by
                cases z : H1 r with
                | none => rfl
                | some u => rw [eS _ _ z] at hr; cases hr
              exact q _ e5 _ (RepN.back e1 (.new hr1 (.lst upd_same (hy.mono (hid_newp (Hc := H1) hr1 e5)))))
        · cases e3
      · cases e3⟩
end
end HF

set_option Elab.async false
set_option autoImplicit false
set_option linter.all false
set_option maxRecDepth 100000
set_option maxHeartbeats 4000000
/-! sorted(d.items()). -/
namespace HF
open PySem PySem.Spec PyProof.Rows L2
mutual
theorem reads_lt {h : Heap} : ∀ {v : Value} {d : D} {as : List Addr}, Reads h v d as → ∀ a ∈ as, a < h.objs.size
  | _, _, _, .none, _, z => nomatch z
  | _, _, _, .bool _, _, z => nomatch z
  | _, _, _, .int _ _, _, z => nomatch z
  | _, _, _, .str _ _, _, z => nomatch z
  | _, _, _, .list ho _ _ r, a, z => by
    rcases List.mem_cons.mp z with e | z
    · rw [e]; exact Heap.lt_size ho
    · exact readsAll_lt r a z
  | _, _, _, .tuple _ _ _ r, a, z => readsAll_lt r a z
  | _, _, _, .dict ho _ _ r r2, a, z => by
    rcases List.mem_append.mp z with z | z
    · rcases List.mem_cons.mp z with e | z
      · rw [e]; exact Heap.lt_size ho
      · exact readsAll_lt r a z
    · exact readsAll_lt r2 a z
theorem readsAll_lt {h : Heap} : ∀ {v : List Value} {d : List D} {as : List Addr}, ReadsAll h v d as → ∀ a ∈ as, a < h.objs.size
  | _, _, _, .nil, _, z => nomatch z
  | _, _, _, .cons r q, a, z => by
    rcases List.mem_append.mp z with z | z
    · exact reads_lt r a z
    · exact readsAll_lt q a z
end
/-- a pair that was made: its place, key and value, and what they are as data -/
structure Pr where
  at_ : Addr
  key : Key
  val : V
  dat : D
def Pr.r (b : Pr) : Value := .ref b.at_
def Pr.v (b : Pr) : V := .ref b.at_
def Pr.enc (b : Pr) : D := .tuple [kD b.key, b.dat]
theorem each_prs {R : Value → Pr → Prop} : ∀ (L : List Pr), (∀ b ∈ L, R b.r b) → PySem.W.EachIs R (L.map Pr.r) L
  | [], _ => .nil
  | b :: L, k => .cons (k b List.mem_cons_self) (each_prs L fun q hq => k q (List.mem_cons_of_mem _ hq))
theorem prs_refs : ∀ {us : List Value} {L : List Pr}, PySem.W.EachIs (fun (u : Value) (p : Pr) => u = p.r) us L → us = L.map Pr.r
  | _, _, .nil => rfl
  | _, _, .cons e t => by rw [e, prs_refs t]; rfl
theorem prs_vals : ∀ (L : List Pr), Vals (L.map Pr.v) (L.map Pr.r)
  | [] => .nil
  | _ :: L => .cons rfl (prs_vals L)
def zipPr : List Addr → List (Key × V) → List (D × D) → List Pr
  | a :: as, kv :: kvs, p :: ps => ⟨a, kv.1, kv.2, p.2⟩ :: zipPr as kvs ps
  | _, _, _ => []
theorem zipPr_facts {K : PySem.W.Frag} {Hc : Hp} : ∀ {as : List Addr} {kvs : List (Key × V)} {ps : List (D × D)}, RepK K Hc kvs ps → as.length = kvs.length →
    (zipPr as kvs ps).map (·.at_) = as ∧ (zipPr as kvs ps).map (·.enc) = ps.map pairD ∧ (∀ b ∈ zipPr as kvs ps, Rep K Hc b.val b.dat) ∧ ∀ (j : Nat) (b : Pr), (zipPr as kvs ps)[j]? = some b → as[j]? = some b.at_ ∧ kvs[j]? = some (b.key, b.val)
  | [], _, _, .nil, _ => ⟨rfl, rfl, fun b h => (nomatch h), fun j b h => by simp [zipPr] at h⟩
  | a :: as, _, _, .cons r q, hl => by
    obtain ⟨h1, h2, h3, h4⟩ := zipPr_facts (as := as) q (by simpa using hl)
    refine ⟨by unfold zipPr; rw [List.map_cons, h1], by unfold zipPr; rw [List.map_cons, h2]; rfl, fun b hb => ?_, fun j b hb => ?_⟩
    · unfold zipPr at hb
      rcases List.mem_cons.mp hb with rfl | hb
      · exact r
      · exact h3 b hb
    · unfold zipPr at hb
      cases j with
      | zero => cases hb; exact ⟨rfl, rfl⟩
      | succ j => exact h4 j b hb
  | [], _, _, .cons _ _, hl => by simp at hl
  | _ :: _, _, _, .nil, hl => by simp at hl
section
variable {X : Cx} {pins : List (Addr × Obj)} {σ : L2.St} {H : Hp} {s : Shared}
/-- the view is made -/
def rItemsK : V → List V → Hp → VK → Prop := fun x xs H Q => ∃ (a : Addr) (kvs : List (Key × V)), x = .ref a ∧ xs = [] ∧ Rd H a (.dK kvs) ∧ ∀ p, H p = none → Q (.ref p) (upd H p (DX.itemsO p a))
theorem dk_raw {a : Addr} {kvs : List (Key × V)} (I : L2.Inv X pins σ H s) (h : Rd H a (.dK kvs)) : (a == sysModules) = false ∧ ∃ es ep, s.heap.DictRaw a es ep ∧ es.size = kvs.length ∧ kvs.length ≤ sizeLine ∧
    ∀ (i : Nat) (k : Key) (v : V), kvs[i]? = some (k, v) → ∃ en, es[i]? = some en ∧ RelV (kV k) en.key ∧ RelV v en.val := by
  obtain ⟨z, hd, vs, rel, dd⟩ := dk_rd I.hok h
  obtain ⟨es, ep, hr, hs, he⟩ := dd.raw
  have hl : kvs.length = vs.length := Paired.length rel
  refine ⟨hd, es, ep, hr, by omega, z, fun i k v hk => ?_⟩
  have hi : i < kvs.length := (List.getElem?_eq_some_iff.mp hk).1
  have gt : ∀ {l1 : List (Key × V)} {l2 : List (Key × Value)}, KV l1 l2 → ∀ (i : Nat) (k : Key) (v : V), l1[i]? = some (k, v) → ∃ u, l2[i]? = some (k, u) ∧ RelV v u := by
    intro l1 l2 r
    induction r with
    | nil => intro i k v h; simp at h
    | @cons a b l1 l2 r _ ih =>
      intro i k v h
      cases i with
      | zero =>
        simp at h
        subst h
        obtain ⟨b1, b2⟩ := b
        obtain ⟨r1, r2⟩ := r
        dsimp only at r1 r2
        subst r1
        exact ⟨b2, rfl, r2⟩
      | succ i =>
        obtain ⟨u, h1, h2⟩ := ih i k v (by simpa using h)
        exact ⟨u, by simpa using h1, h2⟩
  obtain ⟨u, hu, ru⟩ := gt rel i k v hk
  obtain ⟨e1, e2⟩ := he i (by omega) k u hu
  exact ⟨es[i]'(by omega), Array.getElem?_eq_getElem (by omega), relV_key e1, by rw [e2]; exact ru⟩
theorem mtItemsK : MtR X "dict.items" rItemsK := by
  intro pins s σ H x xs v us Q I rx rxs h
  obtain ⟨a, kvs, rfl, rfl, ha, q⟩ := h
  cases rx
  cases rxs
  obtain ⟨hd, es, ep, hr, _⟩ := dk_raw I ha
  refine DT.callItems (es := es) (ep := ep) hd hr ?_
  have hf : H s.heap.objs.size = none := I.hok.fresh (Nat.le_refl _)
  exact ⟨.ref s.heap.objs.size, upd H s.heap.objs.size (DX.itemsO s.heap.objs.size a), I.laid (t' := s.toks) (fun b u e => Heap.get?_push_of_some _ e) (Nat.le_refl _) (DX.itemsO_ok (Heap.get?_push_size _ rfl)), rfl, q _ hf⟩
def rSortIts (K : PySem.W.Frag) : List V → Hp → VK → Prop := fun vs H Q => ∃ (Hc : Hp) (p a : Addr) (kvs : List (Key × V)) (ps : List (D × D)), vs = [.ref p] ∧ H p = some (DX.itemsO p a) ∧ Rd H a (.dK kvs) ∧ Same Hc H ∧ RepK K Hc kvs ps ∧ sortOk (ps.map pairD) = true ∧
  ∀ (H' : Hp) (l : Addr) (M : List Pr), Same H H' → H l = none → H' l = some (.lst (M.map Pr.v)) → (∀ b ∈ M, H b.at_ = none ∧ H' b.at_ = some (.tup [kV b.key, b.val]) ∧ Rep K Hc b.val b.dat) → M.map (·.enc) = isort (ps.map pairD) → Q (.ref l) H'
theorem crSortIts (hc : X.calm = true) (hu : X.A.units + 80 < cLine) : CallR X (.builtin "sorted") (rSortIts X.K) := by
  intro pins s σ H xs us Q I r h
  obtain ⟨Hc, p, a, kvs, ps, rfl, hp, ha, e, hk, ok, q⟩ := h
  obtain ⟨sh, al, so⟩ := sortOk_parts ok
  obtain rfl := Vals.ref1 r
  have view : s.heap.IsItemsView p a := (show ObjOk X.prog X.w H s.heap p (DX.itemsO p a) from I.hok p _ hp).1
  obtain ⟨hd, es, ep, hr, hsz, hz, hen⟩ := dk_raw I ha
  refine DT.sortedI (es := es) (ep := ep) (I.ok.hd hc) view hr (by omega) fun h' tk as hkp hlt hl hG => ?_
  have lak : as.length = kvs.length := by omega
  obtain ⟨zA, zE, zR, zI⟩ := zipPr_facts hk lak
  generalize hZ : zipPr as kvs ps = Z at zA zE zR zI
  have nd : as.Nodup := List.Pairwise.imp (fun h => Nat.ne_of_lt h) hG.rise
  have eas : as.map Value.ref = Z.map Pr.r := by rw [← zA, List.map_map]; rfl
  rw [eas]
  -- each pair
  have pr : ∀ b ∈ Z, s.heap.objs.size ≤ b.at_ ∧ ∃ ku vu, RelV (kV b.key) ku ∧ RelV b.val vu ∧ h'.get? b.at_ = some { cls := .type "tuple", data := .seq #[ku, vu] } := fun b hb => by
    obtain ⟨j, hj⟩ := List.getElem?_of_mem hb
    obtain ⟨j1, j2⟩ := zI j b hj
    obtain ⟨en, he, hg⟩ := hG.pairs j b.at_ j1
    obtain ⟨en', he', r1, r2⟩ := hen j _ _ j2
    rw [he] at he'
    cases he'
    exact ⟨Nat.le_of_lt (hG.above _ (List.mem_of_getElem? j1)), _, _, r1, r2, hg⟩
  have hob : (h'.push { cls := .type "list", data := .seq (Z.map Pr.r).toArray }).get? h'.objs.size = some (seqObj "list" (Z.map Pr.r).toArray 0) := Heap.get?_push_size _ rfl
  have kb : ∀ b o, s.heap.get? b = some o → (h'.push { cls := .type "list", data := .seq (Z.map Pr.r).toArray }).get? b = some o := fun b o z => Heap.get?_push_of_some _ (hkp b o z)
  have ne0 : ∀ b o, h'.get? b = some o → b ≠ h'.objs.size := fun b o z => Nat.ne_of_lt (Heap.lt_size z)
  generalize hh2 : h'.push { cls := .type "list", data := .seq (Z.map Pr.r).toArray } = h2 at hob kb ⊢
  have ka : ∀ b o, h'.get? b = some o → h2.get? b = some o := fun b o z => by rw [← hh2]; exact Heap.get?_push_of_some _ z
  have zEm : ∀ d ∈ Z.map (·.enc), d ∈ ps.map pairD := fun d hd => by rw [← zE]; exact hd
  have rd : ∀ b ∈ Z, ∃ bs, Reads h2 (.ref b.at_) b.enc bs ∧ h'.objs.size ∉ bs := fun b hb => by
    obtain ⟨_, ku, vu, r1, r2, hg⟩ := pr b hb
    have hsh := sh _ (zEm _ (List.mem_map.mpr ⟨b, hb, rfl⟩))
    have lay : PyData.canLay0 b.enc = true := SeqAt.canLay_of_shaped hsh
    have lay2 : PyData.canLay0 b.dat = true := by
      unfold Pr.enc at lay
      simp only [PyData.canLay0, PyData.canLayAll0, Bool.and_eq_true] at lay
      exact lay.2.1
    obtain ⟨bs, rb⟩ := Dp.reads I b.dat b.val vu (Rep.dp _ ((zR b hb).mono e) lay2) r2
    have rk : Reads h2 ku (kD b.key) [] := by
      revert r1
      cases b.key with
      | inl i => exact fun ⟨t, z⟩ => by rw [z]; exact .int i t
      | inr x => exact fun ⟨t, z⟩ => by rw [z]; exact .str x t
    refine ⟨bs, ?_, fun z => ?_⟩
    · refine Reads.tuple (ka _ _ hg) rfl rfl ?_
      have := ReadsAll.cons rk (ReadsAll.cons (PyProof.Rows.Reads.keeps kb rb) ReadsAll.nil)
      simpa using this
    · exact absurd (Nat.lt_trans (reads_lt rb _ z) hlt) (Nat.lt_irrefl _)
  have hdep : ∀ b ∈ Z, (Pr.enc b).depth ≤ 64 := fun b hb => depth_nk (sh _ (zEm _ (List.mem_map.mpr ⟨b, hb, rfl⟩)))
  have zl : Z.length ≤ sizeLine := by
    have z := congrArg List.length zA
    rw [List.length_map] at z
    omega
  refine PySem.W.list_sort_data (s := { s with heap := h2, toks := tk }) (enc := Pr.enc) (R := fun u b => u = Pr.r b) hob (each_prs Z fun _ _ => rfl) (each_prs Z rd) (by rw [show Z.map Pr.enc = ps.map pairD from zE]; exact al) (by rw [show Z.map Pr.enc = ps.map pairD from zE]; exact so) zl (fun b hb => ?_) fun out h1 h3 => ?_
  · have := hdep b hb
    show X.A.units + 1 + 1 + (Pr.enc b).depth < cLine
    omega
  · have e2 := prs_refs h3
    generalize hM : Z.mergeSort (PySem.W.dataLe false Pr.enc) = M at e2
    have pM : M.Perm Z := by rw [← hM]; exact List.mergeSort_perm ..
    have dM : M.map (·.enc) = isort (ps.map pairD) := by
      rw [← hM, PySem.W.dataLe_eq]
      have := PySem.W.sort_maps (r := fun a b : Pr => !PySem.W.dataLt b.enc a.enc) (s := fun a b => !PySem.W.dataLt b a) (fun b : Pr => b.enc) (l := Z) (fun _ _ _ _ => rfl)
      refine this.trans ?_
      rw [show Z.map (fun b : Pr => b.enc) = ps.map pairD from zE, merge_isort]
    have kF : ∀ b o, b ≠ h'.objs.size → h2.get? b = some o → (sortedHeap h2 h'.objs.size (Z.map Pr.r) out.toArray).get? b = some o := fun b o hb z => (sortedHeap_old hb (Heap.lt_size z)).trans z
    have kS : ∀ b o, s.heap.get? b = some o → (sortedHeap h2 h'.objs.size (Z.map Pr.r) out.toArray).get? b = some o := fun b o z => kF b o (ne0 _ _ (hkp b o z)) (kb b o z)
    obtain ⟨eF, heF⟩ := sortedHeap_at (vs := Z.map Pr.r) (out := out.toArray) hob
    have I1 : L2.Inv X pins σ H { s with heap := sortedHeap h2 h'.objs.size (Z.map Pr.r) out.toArray, toks := tk } := I.kept (t' := tk) kS
    have hn0 : H h'.objs.size = none := I.hok.fresh (Nat.le_of_lt hlt)
    have hlen : (M.map Pr.v).length ≤ sizeLine := by rw [List.length_map, pM.length_eq]; exact zl
    have I2 : L2.Inv X pins σ (upd H h'.objs.size (.lst (M.map Pr.v))) { s with heap := sortedHeap h2 h'.objs.size (Z.map Pr.r) out.toArray, toks := tk } :=
      I1.take (h' := sortedHeap h2 h'.objs.size (Z.map Pr.r) out.toArray) (t' := tk) (fun b ob _ z => z) (I.fpOk (Nat.le_of_lt hlt) hn0) ⟨hlen, out, eF, by rw [e2]; exact prs_vals M, heF⟩
    have fr : ∀ b ∈ Z, H b.at_ = none := fun b hb => I.hok.fresh (pr b hb).1
    have neL : ∀ b ∈ Z, b.at_ ≠ h'.objs.size := fun b hb => by
      obtain ⟨_, _, _, _, _, hg⟩ := pr b hb
      exact ne0 _ _ hg
    obtain ⟨H2, I3, g, qt⟩ := DX.takeT (P := fun c vs => ∃ b ∈ Z, b.at_ = c ∧ vs = [kV b.key, b.val]) I as _ I2 nd fun c hc => by
      rw [← zA] at hc
      obtain ⟨b, hb, rfl⟩ := List.mem_map.mp hc
      obtain ⟨hlo, ku, vu, r1, r2, hg⟩ := pr b hb
      refine ⟨hlo, ?_, [kV b.key, b.val], ⟨b, hb, rfl, rfl⟩, fun H3 => ⟨(by rw [sizeLine_eq]; show 2 ≤ 16777216; omega), [ku, vu], .cons r1 (.cons r2 .nil), ⟨_, kF _ _ (neL b hb) (ka _ _ hg), rfl, 0, rfl⟩⟩⟩
      rw [upd_ne (neL b hb)]
      exact fr b hb
    have gr : Same H H2 := fun b o z => g b o (by rw [upd_ne (ne_of_none z hn0)]; exact z)
    have ndZ : (Z.map (·.at_)).Nodup := by rw [zA]; exact nd
    refine ⟨.ref h'.objs.size, H2, I3, rfl, q H2 h'.objs.size M gr hn0 (g _ _ upd_same) (fun b hb => ?_) dM⟩
    have hb' := pM.mem_iff.mp hb
    refine ⟨fr b hb', ?_, zR b hb'⟩
    obtain ⟨vs, ⟨b2, hb2, eat, ev⟩, hH⟩ := qt b.at_ (by rw [← zA]; exact List.mem_map.mpr ⟨b, hb', rfl⟩)
    have eb : b2 = b := by
      obtain ⟨i, hi⟩ := List.getElem?_of_mem hb'
      obtain ⟨j, hj⟩ := List.getElem?_of_mem hb2
      have h1 : (Z.map (·.at_))[i]? = some b.at_ := by rw [List.getElem?_map, hi]; rfl
      have h2 : (Z.map (·.at_))[j]? = some b.at_ := by rw [List.getElem?_map, hj, ← eat]; rfl
      have : i = j := (List.getElem?_inj (List.getElem?_eq_some_iff.mp h1).1 ndZ).mp (h1.trans h2.symm)
      subst this
      rw [hi] at hj
      cases hj
      rfl
    rw [ev, eb] at hH
    exact hH
end
section
variable {X : Cx} {W : WX} {a : Expr} {fa : List SV → Res D} {pos : Pos}
theorem dSItems_noexc (x : D) (c : Str) : dSItems x ≠ .exc c := by
  intro h
  unfold dSItems at h
  split at h
  · split at h <;> cases h
  · cases h
theorem pe_itemsK {td : TE} {apos cpos : Pos} (ho : PE X a td) (hbase : attributeBase a "items" X.env (eval a X.env) = eval a X.env) (hline : (apos.endLine == cpos.line) = true) :
    PE X (.Call (.Attribute a "items" apos) [] [] cpos) (fun σ H Q => td σ H fun x H1 => ∃ (p : Addr) (kvs : List (Key × V)), x = .ref p ∧ Rd H1 p (.dK kvs) ∧ ∀ w, H1 w = none → Q (.ref w) (upd H1 w (DX.itemsO w p))) := by
  refine ⟨fun pins s σ H Q I h => ?_⟩
  refine wpAny_Call_method0_late hbase hline (thn (ho.run pins s σ H _ I h) fun v s1 ⟨x, H1, I1, r1, p, kvs, ex, hd, q1⟩ => ?_)
  subst ex
  obtain rfl : v = Value.ref p := r1
  obtain ⟨h1, h2, _⟩ := isD_at I1 (.inl ⟨kvs, hd⟩)
  exact ⟨"dict", "dict.items", PySem.F.plainAttrs_dict, PySem.F.slot_dict_items, PySem.F.type_dict_items, h1, h2, Calls.callWith_builtin rfl (PySem.evalArgs_none (mtItemsK pins s1 σ H1 (.ref p) [] (Value.ref p) [] Q I1 rfl .nil ⟨p, kvs, rfl, rfl, hd, q1⟩))⟩
theorem se_sitems {p apos cpos : Pos} (hc : X.calm = true) (hu : X.A.units + 80 < cLine) (hg : Gl X "sorted") (hm : X.mg "sorted" = none) (ha : PE X a (tU X.K W fa)) (hbase : attributeBase a "items" X.env (eval a X.env) = eval a X.env) (hline : (apos.endLine == cpos.line) = true) :
    PE X (.Call (.Name "sorted" p) [.Call (.Attribute a "items" apos) [] [] cpos] [] pos) (tG true X.K W fun st => do let x ← fa st; dSItems x) :=
  (pe_callB (crSortIts hc hu) hg hm (by decide +kernel) (pa_cons (pe_itemsK ha hbase hline) pa_nil (star_cons _ _ rfl)) (by decide) (by decide) (star_cons _ _ rfl) rfl).weak
    fun σ H Q ⟨fo, oo, st, R, g⟩ =>
    ⟨fo, oo, st, R, g.bind.mono fun x H1 _ e1 g1 v rv => by
      obtain ⟨d, e3, q⟩ := g1.val (dSItems_noexc x)
      unfold dSItems at e3
      split at e3
      · split at e3
        · rename_i _ ps _ ok
          rw [Bool.and_eq_true] at ok
          cases e3
          obtain ⟨a', kvs, rfl, h1, h2⟩ := RepTop.dict_of rv ok.1
          refine ⟨a', kvs, rfl, h1, fun w hw => ?_⟩
          have eS : Same H1 (upd H1 w (DX.itemsO w a')) := Same.upd hw
          refine ⟨hid (fo :: oo) H1, w, a', kvs, ps, rfl, upd_same, Same.rd eS h1, (hid_same _ _).trans eS, h2, ok.2, fun H' l M e4 hl hL hM hE => ?_⟩
          have e5 := eS.trans e4
          have hl1 : H1 l = none := by
            cases z : H1 l with
            | none => rfl
            | some u => rw [eS _ _ z] at hl; cases hl
          have n1 : ∀ b ∈ M, H1 b.at_ = none := fun b hb => by
            cases z : H1 b.at_ with
            | none => rfl
            | some u => have y := (hM b hb).1; rw [eS _ _ z] at y; cases y
          refine q _ e5 _ (RepN.back e1 (.new hl1 (.lst hL ?_)))
          rw [← hE]
          have key : ∀ L : List Pr, (∀ b ∈ L, b ∈ M) → RepAll X.K (hid ([l] :: fo :: oo) H') (L.map Pr.v) (L.map (·.enc)) := by
            intro L
            induction L with
            | nil => exact fun _ => .nil
            | cons b L ih =>
              intro hs
              obtain ⟨m1, m2, m3⟩ := hM b (hs b List.mem_cons_self)
              have hbl : b.at_ ≠ l := fun z => by rw [z, hL] at m2; cases m2
              have nb : b.at_ ∉ ([l] :: fo :: oo).flatten := by
                rw [List.flatten_cons]
                intro y
                rcases List.mem_append.mp y with y | y
                · exact hbl (List.mem_singleton.mp y)
                · exact (R.grow e1).fresh _ (n1 b (hs b List.mem_cons_self)) y
              refine .cons (.tup (SqT.of (by rw [hid_get nb]; exact m2)) (.cons (rep_kV _) (.cons (m3.mono ?_) .nil))) (ih fun b' hb' => hs b' (List.mem_cons_of_mem _ hb'))
              exact hid_newp (Hc := H1) hl1 e5
          exact key M fun _ h => h
        · cases e3
      · cases e3⟩
end
end HF

set_option Elab.async false
set_option autoImplicit false
set_option linter.all false
set_option maxRecDepth 100000
set_option maxHeartbeats 4000000
/-! x.index(y). -/
namespace HF
open PySem PySem.Spec PyProof.Rows L2
section
variable {X : Cx} {W : WX} {a b : Expr} {fa fb : List SV → Res D}
theorem dIndex_noexc (x y : D) (c : Str) : dIndex x y ≠ .exc c := by
  intro h
  unfold dIndex at h
  split at h
  · split at h
    · split at h <;> cases h
    · cases h
  · cases h
theorem few_oneI {q : Expr} {env : Env} {cpos : Pos} (h : noS q = true) : ((backTo cpos (starEach [q] env)).all (fun x => !x.1) && (backToKw cpos (keywordEach [] env)).all (fun x => x.1.isSome)
      && decide ([q].length + ([] : List Keyword).length + (if ([] : List Keyword).isEmpty then 0 else 1) < 30)) = true := by
  rw [star_cons _ _ h]
  rfl
theorem asL_noexc (x : D) (c : Str) : asL x ≠ .exc c := by
  intro h
  unfold asL at h
  split at h <;> cases h
theorem se_index {apos cpos : Pos} (fr : Bool) (hu : X.A.units + 65 < cLine) (ha : PE X a (tU X.K W fa)) (hb : PE X b (tU X.K W fb)) (hs : noS b = true) (hbase : attributeBase a "index" X.env (eval a X.env) = eval a X.env) (hline : (apos.endLine == cpos.line) = true) :
    PE X (.Call (.Attribute a "index" apos) [b] [] cpos) (tG fr X.K W fun st => do let x ← fa st; let ys ← asL x; let y ← fb st; dIndex (.list ys) y) :=
  (pe_bm PySem.F.plainAttrs_list PySem.F.slot_list_index PySem.F.type_list_index (mt_indexD hu) ha (pa_cons hb pa_nil (star_cons _ _ hs)) hbase (few_oneI hs) hline (star_cons _ _ hs) (star_no _ _ _ rfl)).weak fun σ H Q ⟨fo, oo, st, R, g⟩ =>
    ⟨fo, oo, st, R, g.bind.mono fun x H1 _ e1 g1 v rv => by
      obtain ⟨ys, e0, q0⟩ := (GoodP.bind (r := asL x) g1).val (asL_noexc x)
      have hx : x = .list ys := by cases x <;> cases e0; rfl
      subst hx
      have g2 := q0 H1 (Same.refl _)
      cases rv with
      | lst hl rr =>
        refine ⟨.inl ⟨rfl, _, SqL.of hl⟩, fo, oo, st, R.grow e1, (GoodP.bind (r := fb st) g2).mono fun y H2 _ e2 g3 w rw => ?_⟩
        obtain ⟨d, e4, q⟩ := g3.val (dIndex_noexc _ y)
        unfold dIndex at e4
        dsimp only at e4
        split at e4
        · rename_i ok
          rw [Bool.and_eq_true] at ok
          split at e4
          · rename_i j hj
            cases e4
            obtain ⟨z, h1, h2⟩ := List.findIdx?_eq_some_iff_getElem.mp hj
            have rl : RepTop X.K (hid (fo :: oo) H2) H2 _ (.list ys) := RepTop.mono (hid_mono _ e2) e2 (.lst hl rr)
            refine ⟨_, w, y, ys, j, ys[j], rfl, rfl, rl.dp ok.1, rw.dp ok.2, ok.1, ok.2, List.getElem?_eq_getElem z, h1, fun m z' hm hz => ?_, q H2 (Same.refl _) _ (Rep.flatN rfl fr (.int _))⟩
            have := h2 m hm
            rw [List.getElem?_eq_getElem (by omega)] at hz
            cases hz
            simpa using this
          · cases e4
        · cases e4⟩
end
end HF

set_option Elab.async false
set_option autoImplicit false
set_option linter.all false
set_option maxRecDepth 100000
set_option maxHeartbeats 4000000
/-! A text is checked against the small language. -/
namespace HF
open PySem PySem.Spec PyProof.Rows L2
structure Ck where
  fns : List (Nat × Str)
  nums : List (Str × Int)
  txts : List (Str × Str)
  sc : Scope
  N : List Str
  fn : Str → Bool
  excs : List Str := []
  ro : Bool := false
  ownF : Nat → Bool := fun _ => false
def freeNames : List Str := ["range", "zip", "enumerate", "isinstance", "int", "bool", "str", "tuple", "list", "len", "all", "any", "sorted", "abs", "min", "max", "sum", "set", "dict"]
/-- a def, as its callers know it -/
def FnFact (P : Program) (w : World) (K : PySem.W.Frag) (mg : Str → Option Value) (base : Heap) (k : Nat) (x : Str) (g : List D → Res D) : Prop :=
  ∃ f fd ps, mg x = some (.ref f) ∧ PySem.W.keepIn K (.ref f) = true ∧ Binds K fd ps [] ∧ FnOk P w K mg base (L2.CX P w) k f fd ps (spOf K g)
def FnFactO (P : Program) (w : World) (K : PySem.W.Frag) (mg : Str → Option Value) (base : Heap) (k : Nat) (x : Str) (g : List D → Res D) : Prop :=
  ∃ f fd ps, mg x = some (.ref f) ∧ PySem.W.keepIn K (.ref f) = true ∧ Binds K fd ps [] ∧ FnOk P w K mg base (L2.CX P w) k f fd ps (spOfO K g)
structure CxOk (C : Ck) (φ : Nat → List D → Res D) (k : Nat) (X : Cx) (W : WX) : Prop where
  nN : X.N = C.N
  nd : X.N.Nodup
  sc : X.env.scope = C.sc
  fn : X.fn = C.fn
  calm : X.calm = true
  room : Room k X.A
  tk : Takes X W
  calls : ∀ i x, C.fns.lookup i = some x → FnFact X.prog X.w X.K X.mg X.base k x (φ i)
  callsO : ∀ i x, C.fns.lookup i = some x → C.ownF i = true → FnFactO X.prog X.w X.K X.mg X.base k x (φ i)
  nums : ∀ p ∈ C.nums, ∃ t, X.mg p.1 = some (.int p.2 t)
  txts : ∀ p ∈ C.txts, ∃ t, X.mg p.1 = some (.str p.2 t)
  free : ∀ x ∈ freeNames, X.mg x = none
  excs : ∀ x ∈ C.excs, X.mg x = some (.ref (He.ga X.K x)) ∧ (He.Fa.exc x).ok X.K = true
def visC (C : Ck) (i : Nat) (x : Str) : Bool := decide (C.N[i]? = some x) && (decide (C.sc.names.lookup x = some .local) || (decide (C.sc.names.lookup x = some .cell) || decide (C.sc.names.lookup x = some .free))) && (decide ((x == ("__debug__" : Str)) = false) && decide ((x == ("__classdict__" : Str)) = false))
def gloC (C : Ck) (x : Str) : Bool := decide (C.sc.names.lookup x = some .globalImplicit) && decide ((x == ("__debug__" : Str)) = false)
/-- a name that is stored into -/
def setC (C : Ck) (i : Nat) (x : Str) : Bool := decide (C.N[i]? = some x) && (decide (C.sc.names.lookup x = some .local) || (decide (C.sc.names.lookup x = some .cell) && C.fn x))
def noSl : Expr → Bool
  | .Slice _ _ _ _ => false
  | _ => true
/-- no test of its own form -/
def plainT : Expr → Bool
  | .UnaryOp .Not _ _ => false
  | .BoolOp _ _ _ => false
  | .IfExp _ _ _ _ => false
  | .Compare _ _ _ _ => false
  | _ => true
def noBase : Expr → Bool
  | .Call (.Name _ _) [] [] _ => false
  | _ => true
def isBO : Expr → Bool
  | .BoolOp _ _ _ => true
  | _ => false
def lenEs : Es → Nat
  | .nil => 0
  | .cons _ r => lenEs r + 1
def chkNames (C : Ck) : List Nat → List Expr → Bool
  | [], [] => true
  | i :: is, .Name x _ :: xs => setC C i x && chkNames C is xs
  | _, _ => false
def chkTg (C : Ck) : Tg → Expr → Bool
  | .one i, .Name x _ => setC C i x
  | .tup is, .Tuple xs _ _ => chkNames C is xs
  | _, _ => false
def inner (C : Ck) (scope : Scope) : Ck := { C with sc := relS scope C.sc, fn := fun x => scope.names.lookup x == some .cell }
mutual
def chkE : E → Ck → Expr → Bool
  | .non, _, x => (match x with
    | .Constant .none _ _ => true
    | _ => false)
  | .bl b, _, x => (match x with
    | .Constant (.bool c) _ _ => decide (b = c)
    | _ => false)
  | .int i, _, x => (match x with
    | .Constant (.int c) _ _ => decide (i = c)
    | _ => false)
  | .str s, _, x => (match x with
    | .Constant (.str c) _ _ => decide (s = c)
    | _ => false)
  | .loc i, C, x => (match x with
    | .Name y _ => visC C i y
    | _ => false)
  | .tr i, C, x => (match x with
    | .Name y _ => visC C i y
    | _ => false)
  | .gint y i, C, x => (match x with
    | .Name z _ => decide (z = y) && gloC C z && decide ((y, i) ∈ C.nums)
    | _ => false)
  | .gstr y i, C, x => (match x with
    | .Name z _ => decide (z = y) && gloC C z && decide ((y, i) ∈ C.txts)
    | _ => false)
  | .tup es, C, x => (match x with
    | .Tuple xs _ _ => chkEs es C xs && decide (lenEs es ≤ 16777216)
    | _ => false)
  | .lst es, C, x => (match x with
    | .List xs _ => chkEs es C xs && decide (lenEs es ≤ 16777216)
    | _ => false)
  | .bin o a b, C, x => (match x with
    | .BinOp p o' q _ => decide (o' = opOf o) && (chkE a C p && chkE b C q)
    | _ => false)
  | .neg a, C, x => (match x with
    | .UnaryOp .USub p _ => chkE a C p
    | _ => false)
  | .not a, C, x => (match x with
    | .UnaryOp .Not p _ => chkE a C p
    | _ => false)
  | .cmp o a b, C, x => (match x with
    | .Compare p [o'] [q] _ => decide (o' = o) && (chkE a C p && chkE b C q) && !behindInMarks o q
    | _ => false)
  | .chain o o' a b c, C, x => (match x with
    | .Compare p [o1, o2] [q, r] _ => (decide (o1 = o) && decide (o2 = o')) && (chkE a C p && (chkE b C q && chkE c C r)) && !behindInMarks o' r
    | _ => false)
  | .chain3 o o' o2 a b c d, C, x => (match x with
    | .Compare p [p1, p2, p3] [q, r, u] _ => (decide (p1 = o) && (decide (p2 = o') && decide (p3 = o2))) && (chkE a C p && (chkE b C q && (chkE c C r && chkE d C u))) && !behindInMarks o2 u
    | _ => false)
  | .and a b, C, x => (match x with
    | .BoolOp .And (p :: q :: rest) pos => chkE a C p && (match rest with
      | [] => chkE b C q
      | r :: rest' => isBO (.BoolOp .And (q :: r :: rest') pos) && chkE b C (.BoolOp .And (q :: r :: rest') pos))
    | _ => false)
  | .or a b, C, x => (match x with
    | .BoolOp .Or (p :: q :: rest) pos => chkE a C p && (match rest with
      | [] => chkE b C q
      | r :: rest' => isBO (.BoolOp .Or (q :: r :: rest') pos) && chkE b C (.BoolOp .Or (q :: r :: rest') pos))
    | _ => false)
  | .ite c a b, C, x => (match x with
    | .IfExp p q r _ => chkE c C p && (chkE a C q && chkE b C r)
    | _ => false)
  | .ix a i, C, x => (match x with
    | .Subscript p q _ => (chkE a C p && chkE i C q) && noSl q
    | _ => false)
  | .sl a lo hi, C, x => (match x with
    | .Subscript p (.Slice l h none _) _ => chkE a C p && (chkEo lo C l && chkEo hi C h)
    | _ => false)
  | .rev a lo, C, x => (match x with
    | .Subscript p (.Slice l none (some (.UnaryOp .USub (.Constant (.int c) _ _) _)) _) _ => (chkE a C p && chkEo lo C l) && decide (c = 1)
    | _ => false)
  | .call f es, C, x => (match x with
    | .Call (.Name y _) (a :: as) [] _ => decide (C.fns.lookup f = some y) && gloC C y && chkEs es C (a :: as)
    | _ => false)
  | .bi b es, C, x => (match x with
    | .Call (.Name y _) (a :: as) [] _ => decide (y = biName b) && (gloC C y && decide (y ∈ freeNames)) && chkEs es C (a :: as)
    | _ => false)
  | .isI a t, C, x => (match x with
    | .Call (.Name y _) [p, .Name z _] [] _ => (decide (y = "isinstance") && gloC C y) && (decide (z = tyStr t) && (gloC C z && decide (z ∈ freeNames))) && chkE a C p
    | _ => false)
  | .comp own t s c e, C, x => (match x with
    | .ListComp elt [⟨tg, it, ifs, 0⟩] scope _ => blkC C.N C.sc scope own && ((tgIx t).all fun i => decide (i ∈ own.map (·.2))) && (chkI s C tg it && (chkTg (inner C scope) t tg && ((match c, ifs with
      | .no, [] => true
      | .yes f, [q] => chkE f (inner C scope) q
      | _, _ => false) && chkE e (inner C scope) elt)))
    | _ => false)
  | .dnew, _, x => (match x with
    | .Dict [] [] _ => true
    | _ => false)
  | .ddisp a b, C, x => (match x with
    | .Dict [some p] [q] _ => chkE a C p && chkE b C q
    | _ => false)
  | .dix a i, C, x => (match x with
    | .Subscript p q _ => (chkE a C p && chkE i C q) && noSl q
    | _ => false)
  | .din neg a b, C, x => (match x with
    | .Compare p [o'] [q] _ => decide (o' = cmpIn neg) && (chkE a C p && chkE b C q) && !behindInMarks (cmpIn neg) q
    | _ => false)
  | .dget a b d, C, x => (match x with
    | .Call (.Attribute p m apos) [q, r] [] cpos => (decide (m = "get") && ((apos.endLine == cpos.line) && noBase p)) && (chkE a C p && (chkE b C q && chkE d C r))
    | _ => false)
  | .sitems a, C, x => (match x with
    | .Call (.Name y _) [.Call (.Attribute p m apos) [] [] cpos] [] _ => ((decide (y = "sorted") && gloC C y) && (decide (m = "items") && ((apos.endLine == cpos.line) && noBase p))) && chkE a C p
    | _ => false)
  | .dictL a, C, x => (match x with
    | .Call (.Name y _) [p] [] _ => (decide (y = "dict") && gloC C y) && chkE a C p
    | _ => false)
  | .dictF a, C, x => (match x with
    | .Call (.Name y _) [p] [] _ => (decide (y = "dict") && gloC C y) && chkE a C p
    | _ => false)
  | .dlen a, C, x => (match x with
    | .Call (.Name y _) [p] [] _ => (decide (y = "len") && gloC C y) && chkE a C p
    | _ => false)
  | .sset a, C, x => (match x with
    | .Call (.Name y _) [.Call (.Name z _) [p] [] _] [] _ => ((decide (y = "sorted") && gloC C y) && (decide (z = "set") && gloC C z)) && chkE a C p
    | _ => false)
  | .callO f es, C, x => (match x with
    | .Call (.Name y _) (a :: as) [] _ => (decide (C.fns.lookup f = some y) && C.ownF f) && gloC C y && chkEs es C (a :: as)
    | _ => false)
  | .index a b, C, x => (match x with
    | .Call (.Attribute p m apos) [q] [] cpos => (decide (m = "index") && ((apos.endLine == cpos.line) && noBase p)) && (chkE a C p && chkE b C q)
    | _ => false)
def chkEs : Es → Ck → List Expr → Bool
  | .nil, _, xs => (match xs with
    | [] => true
    | _ => false)
  | .cons e es, C, xs => (match xs with
    | x :: r => chkE e C x && chkEs es C r
    | [] => false)
def chkEo : Eo → Ck → Option Expr → Bool
  | .no, _, x => (match x with
    | none => true
    | _ => false)
  | .yes e, C, x => (match x with
    | some y => chkE e C y
    | none => false)
def chkI : It → Ck → Expr → Expr → Bool
  | .val e, C, _, x => chkE e C x && noSet x
  | .rng1 a, C, _, x => (match x with
    | .Call (.Name y _) [p] [] _ => (decide (y = "range") && gloC C y) && chkE a C p
    | _ => false)
  | .rng2 a b, C, _, x => (match x with
    | .Call (.Name y _) [p, q] [] _ => (decide (y = "range") && gloC C y) && (chkE a C p && chkE b C q)
    | _ => false)
  | .zip a b, C, tg, x => (match tg, x with
    | .Tuple _ _ _, .Call (.Name y _) [p, q] [] _ => (decide (y = "zip") && gloC C y) && (chkE a C p && chkE b C q)
    | _, _ => false)
  | .enum a, C, tg, x => (match tg, x with
    | .Tuple _ _ _, .Call (.Name y _) [p] [] _ => (decide (y = "enumerate") && gloC C y) && chkE a C p
    | _, _ => false)
end
end HF

set_option Elab.async false
set_option autoImplicit false
set_option linter.all false
set_option maxRecDepth 100000
set_option maxHeartbeats 4000000
/-! A text that is checked does what is reckoned: expressions. -/
namespace HF
open PySem PySem.Spec PyProof.Rows L2
/-- laid anew, or flat -/
def frB : E → Bool
  | .loc _ => false
  | .tr _ => false
  | .ix _ _ => false
  | .call _ _ => false
  | .dix _ _ => false
  | .dget _ _ _ => false
  | .dictF _ => false
  | .and _ b => frB b
  | .or _ b => frB b
  | .ite _ a b => frB a && frB b
  | _ => true
structure OkE (φ : Nat → List D → Res D) (X : Cx) (W : WX) (e : E) (x : Expr) : Prop where
  v : PE X x (tG (frB e) X.K W (ev φ e))
  u : PE X x (tU X.K W fun st => use st e (ev φ e st))
  t : PT X x (tBo X.K W fun st => bOf (ev φ e st))
  w : isBO x = true → PW X x (tBo X.K W fun st => bOf (ev φ e st))
  n : noS x = true
section
variable {φ : Nat → List D → Res D} {X : Cx} {W : WX} {e : E} {x : Expr} {k : Nat} {C : Ck}
theorem plain_true (h : plainT x = true) (env : Env) (whole : Sem Value) : isTrue x env whole = (do let v ← whole; standAt x.pos; holding [v] (truthy v)) := by
  cases x <;> first
    | rfl
    | cases h
    | (rename_i op _ _
       cases op <;> first | rfl | cases h)
theorem OkE.of_v (hu : frzE e = true) (hp : plainT x = true) (hn : noS x = true) (v : PE X x (tG (frB e) X.K W (ev φ e))) : OkE φ X W e x where
  v := v
  u := by
    have q := tG_use v
    cases e <;> first | exact q | cases hu
  t := se_val v (plain_true hp X.env)
  w := fun h => by cases x <;> first | exact Bool.noConfusion h | exact Bool.noConfusion hp
  n := hn
theorem OkE.of_t (hu : frzE e = true) (hb : isBO x = false) (hn : noS x = true) (v : PE X x (tG (frB e) X.K W (ev φ e))) (t : PT X x (tBo X.K W fun st => bOf (ev φ e st))) : OkE φ X W e x where
  v := v
  u := by
    have q := tG_use v
    cases e <;> first | exact q | cases hu
  t := t
  w := fun h => by rw [hb] at h; cases h
  n := hn
theorem OkE.of_w (hu : frzE e = true) (hn : noS x = true) (v : PE X x (tG (frB e) X.K W (ev φ e))) (w : PW X x (tBo X.K W fun st => bOf (ev φ e st))) : OkE φ X W e x where
  v := v
  u := by
    have q := tG_use v
    cases e <;> first | exact q | cases hu
  t := w.pt
  w := fun _ => w
  n := hn
theorem OkE.low (o : OkE φ X W e x) : PE X x (tG false X.K W (ev φ e)) := tG_low o.v
theorem tG_any {fr fr' : Bool} {f : List SV → Res D} (h : PE X x (tG fr X.K W f)) (i : fr' = true → fr = true) : PE X x (tG fr' X.K W f) := by
  cases fr' with
  | false => exact tG_low h
  | true => rw [i rfl] at h; exact h
theorem use_frz {st : List SV} {r : Res D} (h : frzE e = true) : use st e r = r := by
  cases e <;> first | rfl | cases h
/-- a source of a walk -/
theorem OkE.s {fz : Bool} (o : OkE φ X W e x) (h : fz = true → frzE e = true) : PE X x (tS fz X.K W fun st => use st e (ev φ e st)) := by
  cases fz with
  | false => exact o.u
  | true =>
    have : (fun st => use st e (ev φ e st)) = ev φ e := funext fun st => use_frz (h rfl)
    rw [this]
    exact o.low
theorem vis_of (c : CxOk C φ k X W) {i : Nat} {y : Str} {p : Pos} (h : visC C i y = true) : PE X (.Name y p) (tVar i) := by
  unfold visC at h
  simp only [Bool.and_eq_true, Bool.or_eq_true, decide_eq_true_eq] at h
  refine pe_var (by rw [c.nN]; exact h.1.1) ?_ h.2.1 h.2.2
  unfold Vis
  rw [c.sc]
  exact h.1.2
theorem glo_of (c : CxOk C φ k X W) {y : Str} (h : gloC C y = true) : Gl X y ∧ (y == ("__debug__" : Str)) = false := by
  unfold gloC at h
  simp only [Bool.and_eq_true, decide_eq_true_eq] at h
  refine ⟨?_, h.2⟩
  show X.env.scope.names.lookup y = _
  rw [c.sc]
  exact h.1
theorem CxOk.hu (c : CxOk C φ k X W) : X.A.units + 80 < cLine := by have := c.room.un; omega
theorem CxOk.hu2 (c : CxOk C φ k X W) : X.A.units + 65 < cLine := by have := c.room.un; omega
theorem plain_ix {q : Expr} (h : noSl q = true) : PlainIx q := fun o i => by cases q <;> first | rfl | cases h
theorem set_of (c : CxOk C φ k X W) {i : Nat} {y : Str} (h : setC C i y = true) : X.N[i]? = some y ∧ L2.Loc X.env.scope y ∧ (X.fn y = true ∨ X.env.scope.names.lookup y = some .local) := by
  unfold setC at h
  simp only [Bool.and_eq_true, Bool.or_eq_true, decide_eq_true_eq] at h
  refine ⟨by rw [c.nN]; exact h.1, ?_, ?_⟩
  · unfold L2.Loc
    rw [c.sc]
    rcases h.2 with z | z
    · exact .inl z
    · exact .inr z.1
  · rw [c.sc, c.fn]
    rcases h.2 with z | z
    · exact .inr z
    · exact .inl z.2
theorem names_cons {i : Nat} {is : List Nat} {y : Expr} {ys : List Expr} (h : chkNames C (i :: is) (y :: ys) = true) : ∃ z p, y = .Name z p ∧ setC C i z = true ∧ chkNames C is ys = true := by
  cases y <;> first
    | (rename_i z p
       have h' : (setC C i z && chkNames C is ys) = true := h
       rw [Bool.and_eq_true] at h'
       exact ⟨z, p, rfl, h'.1, h'.2⟩)
    | exact absurd h (by simp [chkNames])
theorem names_len : ∀ {is : List Nat} {xs : List Expr} (env : Env), chkNames C is xs = true → (assignEach xs env).length = is.length ∧ (assignEach xs env).findIdx? (·.1) = none
  | [], [], _, _ => ⟨rfl, rfl⟩
  | [], _ :: _, _, h => by simp [chkNames] at h
  | i :: is, [], _, h => by simp [chkNames] at h
  | i :: is, y :: ys, env, h => by
    obtain ⟨z, p, rfl, _, h2⟩ := names_cons h
    obtain ⟨h3, h4⟩ := names_len (is := is) env h2
    refine ⟨?_, ?_⟩
    · show (assignEach ys env).length + 1 = is.length + 1
      rw [h3]
    · show ((false, assign (.Name z p) env) :: assignEach ys env).findIdx? (·.1) = none
      rw [List.findIdx?_cons]
      simp [h4]
theorem names_pgs (c : CxOk C φ k X W) : ∀ {is : List Nat} {xs : List Expr}, chkNames C is xs = true → PGs X xs (gNames is)
  | [], [], _ => pgs_nil
  | [], _ :: _, h => by simp [chkNames] at h
  | i :: is, [], h => by simp [chkNames] at h
  | i :: is, y :: ys, h => by
    obtain ⟨z, p, rfl, h1, h2⟩ := names_cons h
    obtain ⟨q1, q2, q3⟩ := set_of c h1
    exact pgs_cons (pg_name c.nd q1 q2 q3) (names_pgs c h2) rfl
theorem tg_pg (c : CxOk C φ k X W) {t : Tg} {tg : Expr} (h : chkTg C t tg = true) : PG X tg (gOf X.K t) := by
  cases t with
  | one i =>
    cases tg <;> first
      | (rename_i y p
         obtain ⟨q1, q2, q3⟩ := set_of c (show setC C i y = true from h)
         exact pg_name c.nd q1 q2 q3)
      | cases h
  | tup is =>
    cases tg <;> first
      | (rename_i xs kk p
         have h' : chkNames C is xs = true := h
         exact pg_tup c.calm (names_pgs c h') (names_len _ h').1 (names_len _ h').2)
      | cases h
end
end HF

set_option Elab.async false
set_option autoImplicit false
set_option linter.all false
set_option maxRecDepth 100000
set_option maxHeartbeats 4000000
/-! Expressions, all forms. -/
namespace HF
open PySem PySem.Spec PyProof.Rows L2
section
variable {X : Cx} {W : WX} {c a b : Expr} {fc fa fb : List SV → Res D} {pos : Pos}
theorem pt_ifExp {tc ta tb : TT} (hc : PT X c tc) (ha : PT X a ta) (hb : PT X b tb) : PT X (.IfExp c a b pos) (fun σ H Q => tc σ H fun k H1 => if k = true then ta σ H1 Q else tb σ H1 Q) := by
  refine ⟨fun pins s σ H Q I h => ?_⟩
  show wpAny _ X.A (do if ← isTrue c X.env (eval c X.env) then isTrue a X.env (eval a X.env) else isTrue b X.env (eval b X.env)) _ _ s
  refine wpAny_bind (thn (hc.run pins s σ H _ I h) fun d s1 ⟨H1, I1, q1⟩ => ?_)
  cases d with
  | true => exact ha.run pins s1 σ H1 Q I1 q1
  | false => exact hb.run pins s1 σ H1 Q I1 q1
theorem se_iteT (hc : PT X c (tBo X.K W fun st => bOf (fc st))) (ha : PT X a (tBo X.K W fun st => bOf (fa st))) (hb : PT X b (tBo X.K W fun st => bOf (fb st))) :
    PT X (.IfExp c a b pos) (tBo X.K W fun st => bOf (do if (← bOf (fc st)) then fa st else fb st)) :=
  (pt_ifExp hc ha hb).weak fun σ H Q ⟨fo, oo, st, R, g⟩ => by
    simp only [bOf_bind] at g
    exact ⟨fo, oo, st, R, g.bind.mono fun k H1 _ e1 g1 => by
      cases k with
      | true => exact iteT ⟨fo, oo, st, R.grow e1, g1⟩
      | false => exact iteF ⟨fo, oo, st, R.grow e1, g1⟩⟩
theorem pw_one_and {t : TT} (h : PT X a t) : PW X (.BoolOp .And [a] pos) t := pw_and1 h
theorem pw_one_or {t : TT} (h : PT X a t) : PW X (.BoolOp .Or [a] pos) t := pw_or1 h
end
theorem blk_ok {C : Ck} {φ : Nat → List D → Res D} {k : Nat} {X : Cx} {W : WX} (c : CxOk C φ k X W) (scope : Scope) (s : Shared) (H : Hp) (L : Addr) (cl : List (Str × Addr)) (fp : List Addr) :
    CxOk (inner C scope) φ k (X.blk s H scope (compEnvC scope cl L X.env) fp) WF where
  nN := c.nN
  nd := c.nd
  sc := by
    show relabel scope X.env = relS scope C.sc
    rw [← c.sc]
    rfl
  fn := rfl
  calm := c.calm
  room := c.room
  tk := fun u s' ⟨a, B, sI, pins, σ, H, cls, d, e, I, nb, up, sky, na, os, ag, w⟩ => w.elim
  calls := c.calls
  callsO := c.callsO
  nums := c.nums
  txts := c.txts
  free := c.free
  excs := c.excs
theorem CxOk.hu1 {C : Ck} {φ : Nat → List D → Res D} {k : Nat} {X : Cx} {W : WX} (c : CxOk C φ k X W) : X.A.units + 1 < cLine := by have := c.room.un; omega
theorem noSl_cases {q : Expr} (h : noSl q = true) : NoSl q := fun o i => by cases q <;> first | rfl | cases h
theorem free_sorted : ("sorted" : Str) ∈ freeNames := by decide +kernel
theorem free_set : ("set" : Str) ∈ freeNames := by decide +kernel
theorem base_of {X : Cx} {o : Expr} {m : Str} (h : noBase o = true) : attributeBase o m X.env (eval o X.env) = eval o X.env := by
  unfold attributeBase
  split
  · cases h
  · rfl
theorem m2_of {X : Cx} {o e f : Expr} {apos cpos : Pos} (ho : noBase o = true) (he : noS e = true) (hf : noS f = true) (hl : (apos.endLine == cpos.line) = true) : M2 X o "get" apos e f cpos where
  base := base_of ho
  few := by
    rw [star_cons _ _ he, star_cons _ _ hf]
    rfl
  line := hl
  trees := by
    rw [star_cons _ _ he, star_cons _ _ hf]
    rfl
structure OkEs (φ : Nat → List D → Res D) (X : Cx) (W : WX) (es : Es) (xs : List Expr) : Prop where
  a : PA X xs (tL X.K W (evs φ es))
  u : PA X xs (tLU X.K W (evu φ es))
  n : (xs.all noS) = true
theorem evs_len (φ : Nat → List D → Res D) : ∀ (es : Es) (st : List SV) (ds : List D), evs φ es st = .ok ds → ds.length = lenEs es
  | .nil, st, ds, h => by
    unfold evs at h
    cases h
    rfl
  | .cons e es, st, ds, h => by
    unfold evs at h
    cases h1 : ev φ e st with
    | ok x =>
      rw [h1] at h
      cases h2 : evs φ es st with
      | ok xs =>
        rw [Res.ok_bind, h2] at h
        cases h
        show xs.length + 1 = _
        rw [evs_len φ es st xs h2]
        rfl
      | exc c => rw [Res.ok_bind, h2] at h; cases h
      | bad => rw [Res.ok_bind, h2] at h; cases h
    | exc c => rw [h1] at h; cases h
    | bad => rw [h1] at h; cases h
theorem size_le (φ : Nat → List D → Res D) {es : Es} (h : lenEs es ≤ 16777216) : ∀ st ds, evs φ es st = .ok ds → ds.length ≤ 16777216 := fun st ds e => by rw [evs_len φ es st ds e]; exact h
mutual
theorem okE : ∀ (e : E) {C : Ck} {φ : Nat → List D → Res D} {k : Nat} {X : Cx} {W : WX} {x : Expr}, CxOk C φ k X W → chkE e C x = true → OkE φ X W e x
  | .non, C, φ, k, X, W, x, c, h => by
    unfold chkE at h
    split at h
    · exact .of_v rfl rfl rfl (pe_const _ pe_non rfl fun _ => .non)
    · cases h
  | .bl b, C, φ, k, X, W, x, c, h => by
    unfold chkE at h
    split at h
    · cases of_decide_eq_true h
      exact .of_v rfl rfl rfl (pe_const _ pe_bl rfl fun _ => .bl b)
    · cases h
  | .int i, C, φ, k, X, W, x, c, h => by
    unfold chkE at h
    split at h
    · cases of_decide_eq_true h
      exact .of_v rfl rfl rfl (pe_const _ pe_int rfl fun _ => .int i)
    · cases h
  | .str s, C, φ, k, X, W, x, c, h => by
    unfold chkE at h
    split at h
    · cases of_decide_eq_true h
      exact .of_v rfl rfl rfl (pe_const _ pe_str rfl fun _ => .str s)
    · cases h
  | .loc i, C, φ, k, X, W, x, c, h => by
    unfold chkE at h
    split at h
    · exact .of_v rfl rfl rfl (pe_loc (vis_of c h))
    · cases h
  | .tr i, C, φ, k, X, W, x, c, h => by
    unfold chkE at h
    split at h
    · rename_i y p
      have v : PE X (.Name y p) (tG false X.K W (ev φ (.tr i))) := (vis_of c h).weak fun σ H Q ⟨fo, oo, st, R, g⟩ => g.elim
      exact ⟨v, pe_locT (vis_of c h), se_val v (plain_true rfl X.env), fun z => Bool.noConfusion z, rfl⟩
    · cases h
  | .gint y i, C, φ, k, X, W, x, c, h => by
    unfold chkE at h
    split at h
    · simp only [Bool.and_eq_true, decide_eq_true_eq] at h
      obtain ⟨⟨h1, h2⟩, h3⟩ := h
      obtain ⟨t, ht⟩ := c.nums _ h3
      obtain ⟨g1, g2⟩ := glo_of c h2
      subst h1
      exact .of_v rfl rfl rfl (se_gint _ g1 ht g2)
    · cases h
  | .gstr y i, C, φ, k, X, W, x, c, h => by
    unfold chkE at h
    split at h
    · simp only [Bool.and_eq_true, decide_eq_true_eq] at h
      obtain ⟨⟨h1, h2⟩, h3⟩ := h
      obtain ⟨t, ht⟩ := c.txts _ h3
      obtain ⟨g1, g2⟩ := glo_of c h2
      subst h1
      exact .of_v rfl rfl rfl (se_gstr _ g1 ht g2)
    · cases h
  | .tup es, C, φ, k, X, W, x, c, h => by
    unfold chkE at h
    split at h
    · simp only [Bool.and_eq_true, decide_eq_true_eq] at h
      exact .of_v rfl rfl rfl (se_tup _ (okEs es c h.1).a (size_le φ h.2))
    · cases h
  | .lst es, C, φ, k, X, W, x, c, h => by
    unfold chkE at h
    split at h
    · simp only [Bool.and_eq_true, decide_eq_true_eq] at h
      exact .of_v rfl rfl rfl (se_lst _ (okEs es c h.1).a (size_le φ h.2))
    · cases h
  | .bin o a b, C, φ, k, X, W, x, c, h => by
    unfold chkE at h
    split at h
    · simp only [Bool.and_eq_true, decide_eq_true_eq] at h
      obtain ⟨h1, h2, h3⟩ := h
      subst h1
      exact .of_v rfl rfl rfl (se_bin (okE a c h2).u (okE b c h3).u)
    · cases h
  | .neg a, C, φ, k, X, W, x, c, h => by
    unfold chkE at h
    split at h
    · exact .of_v rfl rfl rfl (se_neg _ (okE a c h).low)
    · cases h
  | .not a, C, φ, k, X, W, x, c, h => by
    unfold chkE at h
    split at h
    · exact .of_t rfl rfl rfl (se_not _ (okE a c h).t (okE a c h).low) (se_notT (okE a c h).t)
    · cases h
  | .cmp o a b, C, φ, k, X, W, x, c, h => by
    unfold chkE at h
    split at h
    · simp only [Bool.and_eq_true, decide_eq_true_eq, Bool.not_eq_true'] at h
      obtain ⟨⟨h1, h2, h3⟩, h4⟩ := h
      subst h1
      exact .of_t rfl rfl rfl (se_cmp _ c.hu2 (okE a c h2).u (okE b c h3).u h4) (se_cmpT c.hu2 (okE a c h2).u (okE b c h3).u h4)
    · cases h
  | .chain o o' a b d, C, φ, k, X, W, x, c, h => by
    unfold chkE at h
    split at h
    · simp only [Bool.and_eq_true, decide_eq_true_eq, Bool.not_eq_true'] at h
      obtain ⟨⟨⟨h1, h1'⟩, h2, h3, h4⟩, h5⟩ := h
      subst h1 h1'
      exact .of_t rfl rfl rfl (se_chain _ c.hu2 (okE a c h2).u (okE b c h3).u (okE d c h4).u h5) (se_chainT c.hu2 (okE a c h2).u (okE b c h3).u (okE d c h4).u h5)
    · cases h
  | .chain3 o o' o2 a b d e, C, φ, k, X, W, x, c, h => by
    unfold chkE at h
    split at h
    · simp only [Bool.and_eq_true, decide_eq_true_eq, Bool.not_eq_true'] at h
      obtain ⟨⟨⟨h1, h1', h1''⟩, h2, h3, h4, h5⟩, h6⟩ := h
      subst h1 h1' h1''
      exact .of_t rfl rfl rfl (se_chain3 _ c.hu2 (okE a c h2).u (okE b c h3).u (okE d c h4).u (okE e c h5).u h6) (se_chain3T c.hu2 (okE a c h2).u (okE b c h3).u (okE d c h4).u (okE e c h5).u h6)
    · cases h
  | .and a b, C, φ, k, X, W, x, c, h => by
    unfold chkE at h
    split at h
    · rename_i p q rest pos
      rw [Bool.and_eq_true] at h
      obtain ⟨h1, h2⟩ := h
      have ha := okE a c h1
      cases rest with
      | nil =>
        have hb := okE b c h2
        exact .of_w rfl rfl (se_and ha.low (pe_one hb.v)) (se_andW ha.t (pw_and1 hb.t))
      | cons r rest' =>
        have h3 : chkE b C (.BoolOp .And (q :: r :: rest') pos) = true := by
          rw [Bool.and_eq_true] at h2
          exact h2.2
        have hb := okE b c h3
        exact .of_w rfl rfl (se_and ha.low hb.v) (se_andW ha.t (hb.w rfl))
    · cases h
  | .or a b, C, φ, k, X, W, x, c, h => by
    unfold chkE at h
    split at h
    · rename_i p q rest pos
      rw [Bool.and_eq_true] at h
      obtain ⟨h1, h2⟩ := h
      have ha := okE a c h1
      cases rest with
      | nil =>
        have hb := okE b c h2
        exact .of_w rfl rfl (se_or ha.low (pe_one hb.v)) (se_orW ha.t (pw_or1 hb.t))
      | cons r rest' =>
        have h3 : chkE b C (.BoolOp .Or (q :: r :: rest') pos) = true := by
          rw [Bool.and_eq_true] at h2
          exact h2.2
        have hb := okE b c h3
        exact .of_w rfl rfl (se_or ha.low hb.v) (se_orW ha.t (hb.w rfl))
    · cases h
  | .ite d a b, C, φ, k, X, W, x, c, h => by
    unfold chkE at h
    split at h
    · simp only [Bool.and_eq_true] at h
      obtain ⟨h1, h2, h3⟩ := h
      have hd := okE d c h1
      have ha := okE a c h2
      have hb := okE b c h3
      exact .of_t rfl rfl rfl (se_ite hd.t (tG_any ha.v fun z => ((Bool.and_eq_true _ _).mp z).1) (tG_any hb.v fun z => ((Bool.and_eq_true _ _).mp z).2)) (se_iteT hd.t ha.t hb.t)
    · cases h
  | .ix a i, C, φ, k, X, W, x, c, h => by
    unfold chkE at h
    split at h
    · simp only [Bool.and_eq_true] at h
      exact .of_v rfl rfl rfl (se_ix (okE a c h.1.1).u (okE i c h.1.2).low (plain_ix h.2))
    · cases h
  | .sl a lo hi, C, φ, k, X, W, x, c, h => by
    unfold chkE at h
    split at h
    · simp only [Bool.and_eq_true] at h
      exact .of_v rfl rfl rfl (se_sl (okE a c h.1).u (okEo lo c h.2.1) (okEo hi c h.2.2))
    · cases h
  | .rev a lo, C, φ, k, X, W, x, c, h => by
    unfold chkE at h
    split at h
    · simp only [Bool.and_eq_true, decide_eq_true_eq] at h
      obtain ⟨⟨h1, h2⟩, h3⟩ := h
      subst h3
      exact .of_v rfl rfl rfl (se_rev (okE a c h1).u (okEo lo c h2))
    · cases h
  | .call f es, C, φ, k, X, W, x, c, h => by
    unfold chkE at h
    split at h
    · simp only [Bool.and_eq_true, decide_eq_true_eq] at h
      obtain ⟨⟨h1, h2⟩, h3⟩ := h
      obtain ⟨fa, fd, ps, hm, hk, hb, F⟩ := c.calls f _ h1
      obtain ⟨g1, g2⟩ := glo_of c h2
      have he := okEs es c h3
      exact .of_v rfl rfl rfl (se_call F c.room g1 hm hk hb c.tk he.a g2 he.n)
    · cases h
  | .bi b es, C, φ, k, X, W, x, c, h => by
    unfold chkE at h
    split at h
    · simp only [Bool.and_eq_true, decide_eq_true_eq] at h
      obtain ⟨⟨h1, h2, h4⟩, h3⟩ := h
      obtain ⟨g1, g2⟩ := glo_of c h2
      have he := okEs es c h3
      subst h1
      exact .of_v rfl rfl rfl (se_bi _ c.hu c.calm g1 (c.free _ h4) he.u he.n)
    · cases h
  | .isI a t, C, φ, k, X, W, x, c, h => by
    unfold chkE at h
    split at h
    · simp only [Bool.and_eq_true, decide_eq_true_eq] at h
      obtain ⟨⟨⟨h1, h2⟩, h3, h4, h5⟩, h6⟩ := h
      obtain ⟨g1, g2⟩ := glo_of c h2
      obtain ⟨g3, g4⟩ := glo_of c h4
      have ha := okE a c h6
      subst h1 h3
      exact .of_v rfl rfl rfl (se_isI _ g1 (c.free _ (by simp [freeNames])) g3 (c.free _ h5) ha.u ha.n)
    · cases h
  | .comp own t s d e, C, φ, k, X, W, x, c, h => by
    unfold chkE at h
    split at h
    · rename_i elt tg it ifs scope pos
      simp only [Bool.and_eq_true] at h
      obtain ⟨⟨h1, h2⟩, h3, h4, h5, h6⟩ := h
      obtain ⟨hi, hn⟩ := okI s c h3
      have hix : ∀ i ∈ tgIx t, i ∈ own.map (·.2) := fun i z => of_decide_eq_true (List.all_eq_true.mp h2 i z)
      have hts : ∀ (s : Shared) (H : Hp) (L : Addr) (cl : List (Str × Addr)) (fp : List Addr), PTs (X.blk s H scope (compEnvC scope cl L X.env) fp) ifs (tBo X.K WF (evC φ d)) := by
        intro s H L cl fp
        cases d with
        | no =>
          cases ifs with
          | nil => exact ⟨fun pins s σ H Q I q => pts_nil.run pins s σ H Q I (let ⟨fo, oo, st, R, g⟩ := q; g H (Same.refl _))⟩
          | cons a b => cases h5
        | yes f =>
          cases ifs with
          | nil => cases h5
          | cons a b =>
            cases b with
            | nil => exact pts_one (okE f (blk_ok c scope s H L cl fp) h5).t
            | cons _ _ => cases h5
      exact .of_v rfl rfl rfl ((pe_lc c.calm c.nd hi (blkOk_by (by rw [c.nN, c.sc]; exact h1)) (fun s H L cl fp => tg_pg (blk_ok c scope s H L cl fp) h4) hts
        (fun s H L cl fp => (okE e (blk_ok c scope s H L cl fp) h6).low) (folded_no hn)).weak fun σ H Q q => comp_core hix σ H Q q)
    · cases h
  | .dnew, C, φ, k, X, W, x, c, h => by
    unfold chkE at h
    split at h
    · exact .of_v rfl rfl rfl se_dnew
    · cases h
  | .ddisp a b, C, φ, k, X, W, x, c, h => by
    unfold chkE at h
    split at h
    · simp only [Bool.and_eq_true] at h
      exact .of_v rfl rfl rfl (se_ddisp (okE a c h.1).low (okE b c h.2).low)
    · cases h
  | .dix a i, C, φ, k, X, W, x, c, h => by
    unfold chkE at h
    split at h
    · simp only [Bool.and_eq_true] at h
      exact .of_v rfl rfl rfl (se_dix c.hu1 (okE a c h.1.1).u (okE i c h.1.2).low (noSl_cases h.2))
    · cases h
  | .din neg a b, C, φ, k, X, W, x, c, h => by
    unfold chkE at h
    split at h
    · simp only [Bool.and_eq_true, decide_eq_true_eq, Bool.not_eq_true'] at h
      obtain ⟨⟨h1, h2, h3⟩, h4⟩ := h
      subst h1
      exact .of_t rfl rfl rfl (se_din neg _ c.hu1 (okE a c h2).low (okE b c h3).u h4) (se_dinT neg c.hu1 (okE a c h2).low (okE b c h3).u h4)
    · cases h
  | .dget a b d, C, φ, k, X, W, x, c, h => by
    unfold chkE at h
    split at h
    · simp only [Bool.and_eq_true, decide_eq_true_eq] at h
      obtain ⟨⟨h1, h5, h6⟩, h2, h3, h4⟩ := h
      subst h1
      have hb := okE b c h3
      have hd := okE d c h4
      exact .of_v rfl rfl rfl (se_dget c.hu1 (okE a c h2).u hb.low hd.low (m2_of h6 hb.n hd.n h5))
    · cases h
  | .sitems a, C, φ, k, X, W, x, c, h => by
    unfold chkE at h
    split at h
    · simp only [Bool.and_eq_true, decide_eq_true_eq] at h
      obtain ⟨⟨⟨h1, h2⟩, h3, h4, h6⟩, h5⟩ := h
      subst h1 h3
      exact .of_v rfl rfl rfl (se_sitems c.calm c.hu (glo_of c h2).1 (c.free _ free_sorted) (okE a c h5).u (base_of h6) h4)
    · cases h
  | .dictL a, C, φ, k, X, W, x, c, h => by
    unfold chkE at h
    split at h
    · simp only [Bool.and_eq_true, decide_eq_true_eq] at h
      obtain ⟨⟨h1, h2⟩, h5⟩ := h
      subst h1
      exact .of_v rfl rfl rfl (se_dictL c.calm (glo_of c h2).1 (c.free _ (by simp [freeNames])) _ (okE a c h5).u (okE a c h5).n)
    · cases h
  | .dictF a, C, φ, k, X, W, x, c, h => by
    unfold chkE at h
    split at h
    · simp only [Bool.and_eq_true, decide_eq_true_eq] at h
      obtain ⟨⟨h1, h2⟩, h5⟩ := h
      subst h1
      exact .of_v rfl rfl rfl (se_dictF c.calm (glo_of c h2).1 (c.free _ (by simp [freeNames])) _ (okE a c h5).u (okE a c h5).n)
    · cases h
  | .dlen a, C, φ, k, X, W, x, c, h => by
    unfold chkE at h
    split at h
    · simp only [Bool.and_eq_true, decide_eq_true_eq] at h
      obtain ⟨⟨h1, h2⟩, h5⟩ := h
      subst h1
      exact .of_v rfl rfl rfl (se_dlen _ (glo_of c h2).1 (c.free _ (by simp [freeNames])) _ (okE a c h5).u (okE a c h5).n)
    · cases h
  | .sset a, C, φ, k, X, W, x, c, h => by
    unfold chkE at h
    split at h
    · simp only [Bool.and_eq_true, decide_eq_true_eq] at h
      obtain ⟨⟨⟨h1, h2⟩, h3, h4⟩, h5⟩ := h
      subst h1 h3
      exact .of_v rfl rfl rfl (se_sset c.calm c.hu (glo_of c h2).1 (c.free _ free_sorted) (glo_of c h4).1 (c.free _ free_set) (okE a c h5).u (okE a c h5).n)
    · cases h
  | .callO f es, C, φ, k, X, W, x, c, h => by
    unfold chkE at h
    split at h
    · simp only [Bool.and_eq_true, decide_eq_true_eq] at h
      obtain ⟨⟨⟨h1, h4⟩, h2⟩, h3⟩ := h
      obtain ⟨fa, fd, ps, hm, hk, hb, F⟩ := c.callsO f _ h1 h4
      obtain ⟨g1, g2⟩ := glo_of c h2
      have he := okEs es c h3
      exact .of_v rfl rfl rfl (se_callO F c.room g1 hm hk hb c.tk he.a g2 he.n)
    · cases h
  | .index a b, C, φ, k, X, W, x, c, h => by
    unfold chkE at h
    split at h
    · simp only [Bool.and_eq_true, decide_eq_true_eq] at h
      obtain ⟨⟨h1, h5, h6⟩, h2, h3⟩ := h
      subst h1
      have hb := okE b c h3
      exact .of_v rfl rfl rfl (se_index _ c.hu2 (okE a c h2).u hb.u hb.n (base_of h6) h5)
    · cases h
theorem okEs : ∀ (es : Es) {C : Ck} {φ : Nat → List D → Res D} {k : Nat} {X : Cx} {W : WX} {xs : List Expr}, CxOk C φ k X W → chkEs es C xs = true → OkEs φ X W es xs
  | .nil, C, φ, k, X, W, x, c, h => by
    unfold chkEs at h
    split at h
    · exact ⟨sa_nil, su_nil, rfl⟩
    · cases h
  | .cons e es, C, φ, k, X, W, x, c, h => by
    unfold chkEs at h
    split at h
    · rw [Bool.and_eq_true] at h
      have he := okE e c h.1
      have hr := okEs es c h.2
      exact ⟨sa_cons he.low hr.a (star_cons _ _ he.n), su_cons he.u hr.u (star_cons _ _ he.n), by rw [List.all_cons, he.n, hr.n]; rfl⟩
    · cases h
theorem okEo : ∀ (e : Eo) {C : Ck} {φ : Nat → List D → Res D} {k : Nat} {X : Cx} {W : WX} {x : Option Expr}, CxOk C φ k X W → chkEo e C x = true → PO X x (tOI X.K W (evO φ e))
  | .no, C, φ, k, X, W, x, c, h => by
    unfold chkEo at h
    split at h
    · exact se_noO
    · cases h
  | .yes e, C, φ, k, X, W, x, c, h => by
    unfold chkEo at h
    split at h
    · exact se_someO (okE e c h).low
    · cases h
theorem okI : ∀ (s : It) {C : Ck} {φ : Nat → List D → Res D} {k : Nat} {X : Cx} {W : WX} {tg x : Expr}, CxOk C φ k X W → chkI s C tg x = true → PI X tg x (tI (itFz s) X.K W (evI φ s)) ∧ noSet x = true
  | .val e, C, φ, k, X, W, tg, x, c, h => by
    unfold chkI at h
    rw [Bool.and_eq_true] at h
    exact ⟨si_val ((okE e c h.1).s fun z => z), h.2⟩
  | .rng1 a, C, φ, k, X, W, tg, x, c, h => by
    unfold chkI at h
    split at h
    · simp only [Bool.and_eq_true, decide_eq_true_eq] at h
      obtain ⟨⟨h1, h2⟩, h3⟩ := h
      have ha := okE a c h3
      subst h1
      exact ⟨si_rng1 (glo_of c h2).1 (c.free _ (by simp [freeNames])) ha.low ha.n, rfl⟩
    · cases h
  | .rng2 a b, C, φ, k, X, W, tg, x, c, h => by
    unfold chkI at h
    split at h
    · simp only [Bool.and_eq_true, decide_eq_true_eq] at h
      obtain ⟨⟨h1, h2⟩, h3, h4⟩ := h
      have ha := okE a c h3
      have hb := okE b c h4
      subst h1
      exact ⟨si_rng2 (glo_of c h2).1 (c.free _ (by simp [freeNames])) ha.low hb.low ha.n hb.n, rfl⟩
    · cases h
  | .zip a b, C, φ, k, X, W, tg, x, c, h => by
    unfold chkI at h
    split at h
    · simp only [Bool.and_eq_true, decide_eq_true_eq] at h
      obtain ⟨⟨h1, h2⟩, h3, h4⟩ := h
      have ha := okE a c h3
      have hb := okE b c h4
      subst h1
      exact ⟨si_zip (glo_of c h2).1 (c.free _ (by simp [freeNames])) (ha.s fun z => ((Bool.and_eq_true _ _).mp z).1) (hb.s fun z => ((Bool.and_eq_true _ _).mp z).2) ha.n hb.n, rfl⟩
    · cases h
  | .enum a, C, φ, k, X, W, tg, x, c, h => by
    unfold chkI at h
    split at h
    · simp only [Bool.and_eq_true, decide_eq_true_eq] at h
      obtain ⟨⟨h1, h2⟩, h3⟩ := h
      have ha := okE a c h3
      subst h1
      exact ⟨si_enum (glo_of c h2).1 (c.free _ (by simp [freeNames])) (ha.s fun z => z) ha.n, rfl⟩
    · cases h
end
end HF

set_option Elab.async false
set_option autoImplicit false
set_option linter.all false
set_option maxRecDepth 100000
set_option maxHeartbeats 4000000
/-! Slots through statements. -/
namespace HF
open PySem PySem.Spec PyProof.Rows L2
/-- what stood ahead stands, and is nobody's -/
def Kp (H : Hp) (oo : List (List Addr)) (H' : Hp) (oo' : List (List Addr)) : Prop := ∀ B : Hp, Same B H → (∀ p ∈ oo.flatten, B p = none) → Same B H' ∧ ∀ p ∈ oo'.flatten, B p = none
section
variable {H H1 H2 : Hp} {o0 o1 o2 : List (List Addr)}
theorem Kp.refl : Kp H o0 H o0 := fun _ h n => ⟨h, n⟩
theorem Kp.trans (a : Kp H o0 H1 o1) (b : Kp H1 o1 H2 o2) : Kp H o0 H2 o2 := fun B h n => let ⟨h1, n1⟩ := a B h n; b B h1 n1
theorem Kp.same (e : Same H H1) : Kp H o0 H1 o0 := fun _ h n => ⟨h.trans e, n⟩
theorem mem_set {oo : List (List Addr)} {i : Nat} {l : List Addr} {p : Addr} (h : p ∈ (oo.set i l).flatten) : p ∈ oo.flatten ∨ p ∈ l := by
  obtain ⟨m, hm, hp⟩ := List.mem_flatten.mp h
  rcases List.mem_or_eq_of_mem_set hm with z | z
  · exact .inl (List.mem_flatten.mpr ⟨m, z, hp⟩)
  · exact .inr (z ▸ hp)
theorem Kp.drop {i : Nat} : Kp H o0 H (o0.set i []) := fun B h n => ⟨h, fun p hp => (mem_set hp).elim (n p) fun z => by cases z⟩
theorem Kp.own {i : Nat} {p : Addr} (h : H p = none) (e : Same H H1) : Kp H o0 H1 (o0.set i [p]) := fun B hB n => ⟨hB.trans e, fun q hq => (mem_set hq).elim (n q) fun z => by
  rw [List.mem_singleton.mp z]
  cases w : B p with
  | none => rfl
  | some u => rw [hB _ _ w] at h; cases h⟩
theorem Kp.upd {p : Addr} {o : HO} (h : p ∈ o0.flatten) : Kp H o0 (upd H p o) o0 := fun B hB n => ⟨fun a u q => by
  have ne : a ≠ p := fun e => by rw [e, n p h] at q; cases q
  rw [upd_ne ne]
  exact hB _ _ q, n⟩
/-- what was seen ahead is seen -/
theorem Kp.hid {fo : List Addr} (k : Kp H o0 H1 o1) : Same (hid (fo :: o0) H) (hid (fo :: o1) H1) := fun a o q => by
  obtain ⟨s, n⟩ := k (HF.hid (fo :: o0) H) (hid_same _ _) fun p hp => by
    unfold HF.hid
    rw [if_pos]
    rw [List.flatten_cons]
    exact List.mem_append_right _ hp
  have h1 := s a o q
  obtain ⟨_, hn⟩ := hid_of q
  rw [hid_get]
  · exact h1
  · intro z
    rw [List.flatten_cons] at z
    rcases List.mem_append.mp z with z | z
    · exact hn (by rw [List.flatten_cons]; exact List.mem_append_left _ z)
    · rw [n a z] at q
      cases q
theorem nodup_drop {fo : List Addr} : ∀ {oo : List (List Addr)} (i : Nat), (fo ++ oo.flatten).Nodup → (fo ++ (oo.set i []).flatten).Nodup := fun {oo} i h => by
  refine h.sublist (List.Sublist.append_left ?_ _)
  induction oo generalizing i with
  | nil => exact .refl _
  | cons a r ih =>
    cases i with
    | zero =>
      show (([] : List Addr) :: r).flatten.Sublist (a :: r).flatten
      rw [List.flatten_cons, List.flatten_cons, List.nil_append]
      exact List.sublist_append_right _ _
    | succ j =>
      show (a :: r.set j []).flatten.Sublist (a :: r).flatten
      rw [List.flatten_cons, List.flatten_cons]
      exact (ih j (by
        rw [List.flatten_cons, ← List.append_assoc] at h
        exact (h.sublist (List.Sublist.append_right (List.sublist_append_left _ _) _)))).append_left _
theorem own_out {fo : List Addr} {p : Addr} : ∀ {oo : List (List Addr)} {i : Nat}, (fo ++ oo.flatten).Nodup → oo[i]? = some [p] → p ∉ fo ∧ p ∉ (oo.set i []).flatten := fun {oo i} h e => by
  have hp : p ∈ oo.flatten := List.mem_flatten.mpr ⟨[p], List.mem_of_getElem? e, List.mem_singleton.mpr rfl⟩
  rw [List.nodup_append] at h
  obtain ⟨h1, h2, h3⟩ := h
  refine ⟨fun z => h3 p z p hp rfl, ?_⟩
  clear h1 h3 hp
  induction oo generalizing i with
  | nil => cases e
  | cons a r ih =>
    rw [List.flatten_cons, List.nodup_append] at h2
    obtain ⟨h4, h5, h6⟩ := h2
    cases i with
    | zero =>
      have e' : a = [p] := by simpa using e
      subst e'
      intro z
      have z' : p ∈ r.flatten := by
        have : p ∈ (([] : List Addr) :: r).flatten := z
        simpa using this
      exact h6 p (List.mem_singleton.mpr rfl) p z' rfl
    | succ j =>
      have e' : r[j]? = some [p] := by simpa using e
      intro z
      have z' : p ∈ (a :: r.set j []).flatten := z
      rw [List.flatten_cons] at z'
      rcases List.mem_append.mp z' with z' | z'
      · exact h6 p z' p (List.mem_flatten.mpr ⟨[p], List.mem_of_getElem? e', List.mem_singleton.mpr rfl⟩) rfl
      · exact ih e' h5 z'
theorem nodup_own {fo : List Addr} {p : Addr} {oo : List (List Addr)} (i : Nat) (h : (fo ++ oo.flatten).Nodup) (hp : p ∉ (fo :: oo).flatten) : (fo ++ (oo.set i [p]).flatten).Nodup := by
  rw [List.flatten_cons] at hp
  have hp1 : p ∉ fo := fun z => hp (List.mem_append_left _ z)
  have hp2 : p ∉ oo.flatten := fun z => hp (List.mem_append_right _ z)
  rw [List.nodup_append] at h ⊢
  obtain ⟨h1, h2, h3⟩ := h
  refine ⟨h1, ?_, fun a ha b hb => ?_⟩
  · clear h1 h3 hp hp1
    induction oo generalizing i with
    | nil => exact h2
    | cons a r ih =>
      rw [List.flatten_cons, List.nodup_append] at h2
      obtain ⟨h4, h5, h6⟩ := h2
      rw [List.flatten_cons] at hp2
      have hp3 : p ∉ r.flatten := fun z => hp2 (List.mem_append_right _ z)
      have hp4 : p ∉ a := fun z => hp2 (List.mem_append_left _ z)
      cases i with
      | zero =>
        show ([p] :: r).flatten.Nodup
        rw [List.flatten_cons]
        exact List.nodup_cons.mpr ⟨hp3, h5⟩
      | succ j =>
        show (a :: r.set j [p]).flatten.Nodup
        rw [List.flatten_cons, List.nodup_append]
        refine ⟨h4, ih j hp3 h5, fun x hx y hy => ?_⟩
        rcases mem_set hy with z | z
        · exact h6 x hx y z
        · rw [List.mem_singleton.mp z]
          exact fun e => hp4 (e ▸ hx)
  · rcases mem_set hb with z | z
    · exact h3 a ha b z
    · rw [List.mem_singleton.mp z]
      exact fun e => hp1 (e ▸ ha)
end
section
variable {K : PySem.W.Frag} {fo : List Addr} {σ : L2.St} {H H' : Hp} {oo : List (List Addr)} {st : List SV}
theorem hid_drop (i : Nat) : Same (hid (fo :: oo) H) (hid (fo :: oo.set i []) H) := hid_sub fun a z => by
  rw [List.flatten_cons] at z ⊢
  rcases List.mem_append.mp z with z | z
  · exact List.mem_append_left _ z
  · exact List.mem_append_right _ ((mem_set z).elim id fun z => by cases z)
theorem StR.setF (R : StR K fo σ H oo st) (i : Nat) {v : V} {d : D} (r : Rep K (hid (fo :: oo.set i []) H) v d) : StR K fo (σ.set i (some v)) H (oo.set i []) (st.set i (.fz d)) := by
  refine ⟨by rw [List.length_set, List.length_set]; exact R.lenV, by rw [List.length_set, List.length_set]; exact R.lenO, R.foin, nodup_drop i R.nodup, fun j => ?_⟩
  by_cases e : i = j
  · subst e
    by_cases hlt : i < st.length
    · rw [List.getElem?_set_self hlt, List.getElem?_set_self (by rw [R.lenV]; exact hlt), List.getElem?_set_self (by rw [R.lenO]; exact hlt)]
      exact ⟨rfl, v, rfl, r⟩
    · rw [List.getElem?_eq_none (l := st.set i _) (by rw [List.length_set]; omega)]
      trivial
  · rw [List.getElem?_set_ne e, List.getElem?_set_ne e, List.getElem?_set_ne e]
    exact (R.slots j).mono (hid_drop i) fun _ _ _ _ u q => q
theorem StR.setO (R : StR K fo σ H oo st) (i : Nat) {p : Addr} {d : D} (hp : H p = none) (e0 : Same H H') (r : OwnR K (hid ([p] :: fo :: oo) H') H' p d) : StR K fo (σ.set i (some (.ref p))) H' (oo.set i [p]) (st.set i (.own d)) := by
  have sub : Same (hid ([p] :: fo :: oo) H') (hid (fo :: oo.set i [p]) H') := hid_sub fun a z => by
    rw [List.flatten_cons] at z
    rcases List.mem_append.mp z with z | z
    · rw [List.flatten_cons, List.flatten_cons]
      exact List.mem_append_right _ (List.mem_append_left _ z)
    · rcases mem_set z with z | z
      · rw [List.flatten_cons, List.flatten_cons]
        exact List.mem_append_right _ (List.mem_append_right _ z)
      · rw [List.flatten_cons]
        exact List.mem_append_left _ z
  have sub2 : Same (hid (fo :: oo) H) (hid (fo :: oo.set i [p]) H') := fun a o q => by
    obtain ⟨h1, h2⟩ := hid_of q
    rw [hid_get]
    · exact e0 _ _ h1
    · intro z
      rw [List.flatten_cons] at z
      rw [List.flatten_cons] at h2
      rcases List.mem_append.mp z with z | z
      · exact h2 (List.mem_append_left _ z)
      · rcases mem_set z with z | z
        · exact h2 (List.mem_append_right _ z)
        · rw [List.mem_singleton.mp z, hp] at h1
          cases h1
  refine ⟨by rw [List.length_set, List.length_set]; exact R.lenV, by rw [List.length_set, List.length_set]; exact R.lenO, fun q hq => let ⟨o, z⟩ := R.foin q hq; ⟨o, e0 _ _ z⟩, nodup_own i R.nodup (R.fresh p hp), fun j => ?_⟩
  by_cases e : i = j
  · subst e
    by_cases hlt : i < st.length
    · rw [List.getElem?_set_self hlt, List.getElem?_set_self (by rw [R.lenV]; exact hlt), List.getElem?_set_self (by rw [R.lenO]; exact hlt)]
      exact ⟨p, rfl, rfl, r.mono sub fun _ h => h⟩
    · rw [List.getElem?_eq_none (l := st.set i _) (by rw [List.length_set]; omega)]
      trivial
  · rw [List.getElem?_set_ne e, List.getElem?_set_ne e, List.getElem?_set_ne e]
    exact (R.slots j).mono sub2 fun _ _ _ _ u q => e0 _ _ q
/-- a slot's own object is let stand for good -/
theorem StR.own_at (R : StR K fo σ H oo st) {i : Nat} {d : D} (h : st[i]? = some (.own d)) : ∃ p, oo[i]? = some [p] ∧ σ[i]? = some (some (.ref p)) ∧ OwnR K (hid (fo :: oo) H) H p d ∧ p ∉ fo ∧ p ∉ (oo.set i []).flatten ∧ p ∈ oo.flatten := by
  have q := R.slots i
  rw [h] at q
  obtain ⟨p, h1, h2, h3⟩ := q
  obtain ⟨n1, n2⟩ := own_out R.nodup h1
  exact ⟨p, h1, h2, h3, n1, n2, List.mem_flatten.mpr ⟨[p], List.mem_of_getElem? h1, List.mem_singleton.mpr rfl⟩⟩
theorem OwnR.see {oo oo' : List (List Addr)} {p : Addr} {d : D} (n : p ∉ oo'.flatten) (s : Same (hid oo H) (hid oo' H)) : OwnR K (hid oo H) H p d → Rep K (hid oo' H) (.ref p) d
  | .lst h r => .lst (by rw [hid_get n]; exact h) (r.mono s)
  | .dK h r => .dK (Rd.of (by rw [hid_get n]; exact h)) (r.mono s)
theorem StR.frz (R : StR K fo σ H oo st) {i : Nat} {d : D} (h : st[i]? = some (.own d)) : StR K fo σ H (oo.set i []) (st.set i (.fz d)) := by
  obtain ⟨p, h1, h2, h3, n1, n2, _⟩ := R.own_at h
  have r : Rep K (hid (fo :: oo.set i []) H) (.ref p) d := h3.see (by
    rw [List.flatten_cons]
    intro z
    exact (List.mem_append.mp z).elim n1 n2) (hid_drop i)
  have q := R.setF i (v := .ref p) r
  have e : σ.set i (some (.ref p)) = σ := by
    apply List.ext_getElem?
    intro j
    by_cases z : i = j
    · subst z
      rw [List.getElem?_set_self (List.getElem?_eq_some_iff.mp h2).1, h2]
    · rw [List.getElem?_set_ne z]
  rw [e] at q
  exact q
/-- a slot's own object is changed -/
theorem StR.change (R : StR K fo σ H oo st) {i : Nat} {p : Addr} {d d' : D} {o : HO} (h : st[i]? = some (.own d)) (hp : oo[i]? = some [p]) (r : OwnR K (hid (fo :: oo) (upd H p o)) (upd H p o) p d') : StR K fo σ (upd H p o) oo (st.set i (.own d')) := by
  obtain ⟨p', h1, h2, h3, n1, n2, hin⟩ := R.own_at h
  rw [hp] at h1
  cases h1
  have hin' : p ∈ (fo :: oo).flatten := by rw [List.flatten_cons]; exact List.mem_append_right _ hin
  have same : hid (fo :: oo) (upd H p o) = hid (fo :: oo) H := hid_upd hin'
  refine ⟨by rw [List.length_set]; exact R.lenV, by rw [List.length_set]; exact R.lenO, fun q hq => ?_, R.nodup, fun j => ?_⟩
  · obtain ⟨u, z⟩ := R.foin q hq
    exact ⟨u, by rw [upd_ne (fun e : q = p => n1 (e ▸ hq))]; exact z⟩
  · by_cases e : i = j
    · subst e
      rw [List.getElem?_set_self (List.getElem?_eq_some_iff.mp h).1]
      exact ⟨p, hp, h2, r⟩
    · rw [List.getElem?_set_ne e]
      refine (R.slots j).mono (by rw [same]; exact Same.refl _) fun q l hl hq u z => ?_
      have hqm : q ∈ (oo.set i []).flatten := List.mem_flatten.mpr ⟨l, List.mem_of_getElem? (by rw [List.getElem?_set_ne e]; exact hl), hq⟩
      rw [upd_ne (fun e : q = p => n2 (e ▸ hqm))]
      exact z
end
end HF

set_option Elab.async false
set_option autoImplicit false
set_option linter.all false
set_option maxRecDepth 100000
set_option maxHeartbeats 4000000
/-! Statements: the check, and readings. -/
namespace HF
open PySem PySem.Spec PyProof.Rows L2
def otherC : Expr → Bool
  | .SetComp _ _ _ _ => true
  | .DictComp _ _ _ _ _ => true
  | _ => false
def anyC : Expr → Bool
  | .ListComp _ _ _ _ => true
  | .SetComp _ _ _ _ => true
  | .DictComp _ _ _ _ _ => true
  | _ => false
def lcSwap (C : Ck) (y : Str) (p : Pos) : Expr → Bool
  | .ListComp _ _ scope q => decide (C.sc.names.lookup y = some .local) && (p.line == q.line) && !(scope.names.any fun (n, k) => n == y && (k == .local || k == .cell))
  | _ => false
def isTup : Expr → Bool
  | .Tuple _ _ _ => true
  | .List _ _ => true
  | _ => false
def isStar : Expr → Bool
  | .Starred _ _ => true
  | _ => false
def swNames (sc : Scope) (line : Nat) (ts : List Expr) : List Str := ts.filterMap fun
    | .Name id pos => if sc.names.lookup id == some .local && pos.line == line then some id else none
    | _ => none
/-- which stores are exchanged -/
def swD (ts vs : List Expr) (sc : Scope) : Option (Option (List Str)) :=
  if (!(ts.length == 2 || ts.length == 3) || vs.length != ts.length || sc.kind != .function) = true then some none
  else if (vs.any isStar) = true then some none
  else if ((swNames sc ((ts.head?.map (·.pos.line)).getD 0) ts).length != ts.length || (swNames sc ((ts.head?.map (·.pos.line)).getD 0) ts).eraseDups.length != (swNames sc ((ts.head?.map (·.pos.line)).getD 0) ts).length) = true then some none
  else if (vs.all (foldedForSure 8)) = true then some none
  else if (vs.all (constantsAlone 8)) = true then none
  else some (some (swNames sc ((ts.head?.map (·.pos.line)).getD 0) ts))
theorem swD_ok {ts vs : List Expr} {env : Env} {o : Option (List Str)} {k k2 : Nat} {p p2 : Pos} (hk : env.scope.kind = .function) (h : swD ts vs env.scope = some o) : swappedStores [.Tuple ts k p] (.Tuple vs k2 p2) env = pure o := by
  have hb : env.blockKind = env.scope.kind := by unfold Env.blockKind; rw [hk]; rfl
  unfold swD swNames at h
  unfold swappedStores
  simp only [hb]
  show (if _ then _ else _) = _
  split at h
  · rename_i h1
    refine Eq.trans (if_pos (by exact h1)) ?_
    cases h
    rfl
  · rename_i h1
    refine Eq.trans (if_neg (by exact h1)) ?_
    show (if _ then _ else _) = _
    split at h
    · rename_i h2
      refine Eq.trans (if_pos (by exact h2)) ?_
      cases h
      rfl
    · rename_i h2
      refine Eq.trans (if_neg (by exact h2)) ?_
      show (if _ then _ else _) = _
      split at h
      · rename_i h3
        refine Eq.trans (if_pos (by exact h3)) ?_
        cases h
        rfl
      · rename_i h3
        refine Eq.trans (if_neg (by exact h3)) ?_
        show (if _ then _ else _) = _
        split at h
        · rename_i h4
          refine Eq.trans (if_pos (by exact h4)) ?_
          cases h
          rfl
        · rename_i h4
          refine Eq.trans (if_neg (by exact h4)) ?_
          show (if _ then _ else _) = _
          split at h
          · cases h
          · rename_i h5
            refine Eq.trans (if_neg (by exact h5)) ?_
            cases h
            rfl
theorem swap_name {C : Ck} {env : Env} {y : Str} {p : Pos} {l : Nat} {x : Expr} (hs : env.scope = C.sc) (hk : C.sc.kind = .function) (h : otherC x = false) : swapsWith x (some (.Name y p)) l env = pure (lcSwap C y p x) := by
  cases x <;> first
    | rfl
    | exact Bool.noConfusion h
    | (rename_i elt gens scope q
       have hb : env.blockKind = .function := by unfold Env.blockKind; rw [hs, hk]; rfl
       have hy : env.kindOf y = C.sc.names.lookup y := by show env.scope.names.lookup y = _; rw [hs]
       unfold swapsWith lcSwap
       simp only [hb, hy, Expr.pos]
       show pure _ = pure _
       congr 1
       cases hd : C.sc.names.lookup y with
       | none => rfl
       | some kk => cases kk <;> rfl)
theorem swap_tup {x : Expr} {ts : List Expr} {k : Nat} {p : Pos} {l : Nat} {env : Env} : swapsWith x (some (.Tuple ts k p)) l env = pure false := by
  cases x <;> rfl
theorem swap_no {x : Expr} {l : Nat} {env : Env} (h : anyC x = false) : swapsWith x none l env = pure false := by
  cases x <;> first | rfl | cases h
theorem swap_sub {x o q : Expr} {p : Pos} {l : Nat} {env : Env} (h : anyC x = false) : swapsWith x (some (.Subscript o q p)) l env = pure false := by
  cases x <;> first | rfl | cases h
theorem stores_no {x : Expr} {ts : List Expr} {k : Nat} {p : Pos} {env : Env} (h : isTup x = false) : swappedStores [.Tuple ts k p] x env = pure none := by
  cases x <;> first | rfl | cases h
def frs : Es → List Bool → Bool
  | .nil, [] => true
  | .cons e es, b :: fl => (!b || frB e) && frs es fl
  | _, _ => false
def fnKind (C : Ck) : Bool := decide (C.sc.kind = .function)
mutual
def chkS : S → Ck → Stmt → Bool
  | .set i e, C, x => (match x with
    | .Assign [.Name y p] z _ => setC C i y && (chkE e C z && !otherC z)
    | _ => false)
  | .setO i e, C, x => (match x with
    | .Assign [.Name y p] z _ => setC C i y && (chkE e C z && !otherC z) && frB e
    | _ => false)
  | .unp is e, C, x => (match x with
    | .Assign [.Tuple ts _ _] z _ => chkNames C is ts && (chkE e C z && !isTup z)
    | _ => false)
  | .par is es, C, x => (match x with
    | .Assign [.Tuple ts _ _] (.Tuple vs _ _) _ => chkNames C is ts && (chkEs es C vs && decide (lenEs es ≤ 16777216)) && (match swD ts vs C.sc with
      | some none => true
      | some (some ns) => (match ts, is, vs with
        | [.Name a _, .Name b _], [i, j], [_, _] => decide (ns = [a, b]) && (decide (i ≠ j) && (decide (C.sc.names.lookup a = some .local) && decide (C.sc.names.lookup b = some .local)))
        | [.Name a _, .Name b _, .Name c _], [i, j, l], [_, _, _] => decide (ns = [a, b, c]) && ((decide (i ≠ j) && (decide (i ≠ l) && decide (j ≠ l))) && (decide (C.sc.names.lookup a = some .local) && (decide (C.sc.names.lookup b = some .local) && decide (C.sc.names.lookup c = some .local))))
        | _, _, _ => false)
      | none => false)
    | _ => false)
  | .parO is fl es, C, x => (match x with
    | .Assign [.Tuple ts _ _] (.Tuple vs _ _) _ => chkNames C is ts && (chkEs es C vs && (frs es fl && decide (lenEs es ≤ 16777216))) && (match swD ts vs C.sc with
      | some none => true
      | some (some ns) => (match ts, is, vs with
        | [.Name a _, .Name b _], [i, j], [_, _] => decide (ns = [a, b]) && (decide (i ≠ j) && (decide (C.sc.names.lookup a = some .local) && decide (C.sc.names.lookup b = some .local)))
        | [.Name a _, .Name b _, .Name c _], [i, j, l], [_, _, _] => decide (ns = [a, b, c]) && ((decide (i ≠ j) && (decide (i ≠ l) && decide (j ≠ l))) && (decide (C.sc.names.lookup a = some .local) && (decide (C.sc.names.lookup b = some .local) && decide (C.sc.names.lookup c = some .local))))
        | _, _, _ => false)
      | none => false)
    | _ => false)
  | .ext i e, C, x => (match x with
    | .Expr (.Call (.Attribute (.Name y _) a apos) [q] [] cpos) _ => (decide (a = "extend") && visC C i y) && (chkE e C q && (apos.endLine == cpos.line))
    | _ => false)
  | .app i e, C, x => (match x with
    | .Expr (.Call (.Attribute (.Name y _) a apos) [q] [] cpos) _ => (decide (a = "append") && visC C i y) && (chkE e C q && (apos.endLine == cpos.line))
    | _ => false)
  | .dput i k e, C, x => (match x with
    | .Assign [.Subscript (.Name y _) q _] z _ => (visC C i y && (chkE k C q && noSl q)) && (chkE e C z && !anyC z)
    | _ => false)
  | .expr e, C, x => (match x with
    | .Expr z _ => chkE e C z && !anyC z
    | _ => false)
  | .ret e, C, x => (match x with
    | .Return (some z) _ => chkE e C z && !C.ro
    | _ => false)
  | .retO i, C, x => (match x with
    | .Return (some (.Name y _)) _ => visC C i y
    | _ => false)
  | .retN, C, x => (match x with
    | .Return none _ => true
    | _ => false)
  | .ite c a b, C, x => (match x with
    | .If z p q _ => chkE c C z && (chkSs a C p && chkSs b C q)
    | _ => false)
  | .for t s b, C, x => (match x with
    | .For tg it p [] _ => chkI s C tg it && (chkTg C t tg && chkSs b C p)
    | _ => false)
  | .while c b, C, x => (match x with
    | .While z p [] _ => chkE c C z && chkSs b C p
    | _ => false)
  | .brk, C, x => (match x with
    | .Break _ => true
    | _ => false)
  | .cnt, C, x => (match x with
    | .Continue _ => true
    | _ => false)
  | .pass, C, x => (match x with
    | .Pass _ => true
    | _ => false)
  | .raise c, C, x => (match x with
    | .Raise (some (.Call (.Name y _) [.Constant (.str _) _ _] [] _)) none _ => decide (y = c) && (decide (c ∈ C.excs) && gloC C c)
    | _ => false)
  | .frz _, _, _ => false
def chkSs : Ss → Ck → List Stmt → Bool
  | .nil, _, xs => (match xs with
    | [] => true
    | _ => false)
  | .cons s r, C, xs => (match s with
    | .frz _ => chkSs r C xs
    | s => (match xs with
      | x :: ys => chkS s C x && chkSs r C ys
      | [] => false))
end
/-! ### readings -/
/-- whether what is returned has to be new -/
class RO where
  own : Bool
def RetV [RO] (K : PySem.W.Frag) (fo : List Addr) (H : Hp) (oo : List (List Addr)) (v : V) (d : D) : Prop := Rep K (hid [fo] H) v d ∧ (RO.own = true → flatD d = true ∨ ∃ p, v = .ref p ∧ p ∈ oo.flatten ∧ OwnR K (hid [[p], fo] H) H p d)
def FlQ [RO] (K : PySem.W.Frag) (D : Ends) (fo : List Addr) (oo : List (List Addr)) : Fl → L2.St → Hp → Prop
  | .nx, σ, H => D.nx σ H
  | .brk, σ, H => D.bk σ H
  | .cnt, σ, H => D.ct σ H
  | .ret d, _, H => ∀ v, RetV K fo H oo v d → D.rt v H
def GS [RO] (K : PySem.W.Frag) (W : WX) (fo : List Addr) (r : SR) (H : Hp) (oo : List (List Addr)) (D : Ends) : Prop := match r with
  | .ok fl st' => ∀ σ' H' oo', StR K fo σ' H' oo' st' → Kp H oo H' oo' → FlQ K D fo oo' fl σ' H'
  | .exc c st' => ∀ σ' H' oo', StR K fo σ' H' oo' st' → Kp H oo H' oo' → W (.ref (He.ga K c)) none σ' H'
  | .bad => False
def tSt [RO] (K : PySem.W.Frag) (W : WX) (f : List SV → SR) : TS := fun D σ H => ∃ fo oo st, StR K fo σ H oo st ∧ GS K W fo (f st) H oo D
section
variable [RO] {K : PySem.W.Frag} {W : WX} {fo : List Addr} {σ : L2.St} {H H' : Hp} {oo oo' : List (List Addr)} {st : List SV} {D : Ends}
theorem GS.kp {r : SR} (g : GS K W fo r H oo D) (k : Kp H oo H' oo') : GS K W fo r H' oo' D := by
  cases r with
  | ok fl st' => exact fun σ' H2 o2 R k2 => g σ' H2 o2 R (k.trans k2)
  | exc c st' => exact fun σ' H2 o2 R k2 => g σ' H2 o2 R (k.trans k2)
  | bad => exact g
theorem GS.of {α : Type} {r : Res α} {f : α → SR} (R : StR K fo σ H oo st) (g : GS K W fo (SR.of r st f) H oo D) : GoodP K W σ H r fun a H' => GS K W fo (f a) H' oo D := by
  cases r with
  | ok a => exact fun H' e => GS.kp (r := f a) g (Kp.same e)
  | exc c => exact fun H' e => g σ H' oo (R.grow e) (Kp.same e)
  | bad => exact g
end
section
variable {X : Cx}
theorem _root_.L2.PS.weak {s : Stmt} {t t' : TS} (h : PS X s t) (w : ∀ D σ H, t' D σ H → t D σ H) : PS X s t' := ⟨fun pins s σ H D I q => h.run pins s σ H D I (w D σ H q)⟩
theorem _root_.L2.PSs.weak {s : List Stmt} {t t' : TS} (h : PSs X s t) (w : ∀ D σ H, t' D σ H → t D σ H) : PSs X s t' := ⟨fun pins s σ H D I q => h.run pins s σ H D I (w D σ H q)⟩
end
end HF

set_option Elab.async false
set_option autoImplicit false
set_option linter.all false
set_option maxRecDepth 100000
set_option maxHeartbeats 4000000
/-! Statements do what is reckoned. -/
namespace HF
open PySem PySem.Spec PyProof.Rows L2
section
variable [RO] {φ : Nat → List D → Res D} {X : Cx} {W : WX} {k : Nat} {C : Ck}
/-- name = value, whichever order the stores take -/
theorem ok_name {e : E} {i : Nat} {y : Str} {p pos : Pos} {x : Expr} (c : CxOk C φ k X W) (hk : C.sc.kind = .function) (hs : setC C i y = true) (he : chkE e C x = true) (ho : otherC x = false) :
    PS X (.Assign [.Name y p] x pos) (tAsg (tG (frB e) X.K W (ev φ e)) (gName i)) := by
  obtain ⟨q1, q2, q3⟩ := set_of c hs
  have hsw := swap_name (y := y) (p := p) (l := pos.line) c.sc hk ho
  cases hl : lcSwap C y p x with
  | false =>
    rw [hl] at hsw
    exact ps_set c.nd q1 q2 (okE e c he).v hsw q3
  | true =>
    rw [hl] at hsw
    cases x <;> try exact Bool.noConfusion hl
    rename_i elt gens scope q
    cases e <;> try (unfold chkE at he; exact Bool.noConfusion he)
    rename_i own t s d e
    have hloc : X.env.scope.names.lookup y = some .local := by
      rw [c.sc]
      unfold lcSwap at hl
      simp only [Bool.and_eq_true, decide_eq_true_eq] at hl
      exact hl.1.1
    unfold chkE at he
    split at he
    · rename_i elt' tg it ifs scope' pos' heq
      cases heq
      simp only [Bool.and_eq_true] at he
      obtain ⟨⟨h1, h2⟩, h3, h4, h5, h6⟩ := he
      obtain ⟨hi, hn⟩ := okI s c h3
      have hix : ∀ i ∈ tgIx t, i ∈ own.map (·.2) := fun i z => of_decide_eq_true (List.all_eq_true.mp h2 i z)
      have hts : ∀ (s : Shared) (H : Hp) (L : Addr) (cl : List (Str × Addr)) (fp : List Addr), PTs (X.blk s H scope (compEnvC scope cl L X.env) fp) ifs (tBo X.K WF (evC φ d)) := by
        intro s H L cl fp
        cases d with
        | no =>
          cases ifs with
          | nil => exact ⟨fun pins s σ H Q I q => pts_nil.run pins s σ H Q I (let ⟨fo, oo, st, R, g⟩ := q; g H (Same.refl _))⟩
          | cons a b => cases h5
        | yes f =>
          cases ifs with
          | nil => cases h5
          | cons a b =>
            cases b with
            | nil => exact pts_one (okE f (blk_ok c scope s H L cl fp) h5).t
            | cons _ _ => cases h5
      exact (ps_setLc c.calm c.nd q1 hloc hsw hi (blkOk_by (by rw [c.nN, c.sc]; exact h1)) (fun s H L cl fp => tg_pg (blk_ok c scope s H L cl fp) h4) hts
        (fun s H L cl fp => (okE e (blk_ok c scope s H L cl fp) h6).low) (folded_no hn)).weak fun D σ H q => comp_core hix σ H _ q
    · cases he
/-- what a return gives -/
def tR (K : PySem.W.Frag) (W : WX) (f : List SV → Res D) : TE := fun σ H Q => ∃ fo oo st, StR K fo σ H oo st ∧ GoodP K W σ H (f st) fun d H' => ∀ v, Rep K (hid [fo] H') v d → Q v H'
theorem hid_top {fo : List Addr} {oo : List (List Addr)} {H : Hp} : Same (hid (fo :: oo) H) (hid [fo] H) := hid_sub fun a z => by
  rw [List.flatten_cons]
  exact List.mem_append_left _ (by simpa using z)
theorem OkE.r {e : E} {x : Expr} (o : OkE φ X W e x) (hv : ∀ i, e = .tr i → PE X x (tVar i)) : PE X x (tR X.K W fun st => use st e (ev φ e st)) := by
  by_cases h : frzE e = true
  · have : (fun st => use st e (ev φ e st)) = ev φ e := funext fun st => use_frz h
    rw [this]
    exact o.low.weak fun σ H Q ⟨fo, oo, st, R, g⟩ => ⟨fo, oo, st, R, g.mono fun d H' _ _ q v r => q v (r.mono hid_top)⟩
  · cases e <;> try exact absurd rfl h
    rename_i i
    refine (hv i rfl).weak fun σ H Q ⟨fo, oo, st, R, g⟩ => ?_
    have g' : GoodP X.K W σ H (getT st i) _ := g
    obtain ⟨d, e1, q⟩ := g'.val (getT_noexc st i)
    unfold getT at e1
    split at e1
    · rename_i d' hs
      cases e1
      have z := R.slots i
      rw [hs] at z
      obtain ⟨_, v, h1, h2⟩ := z
      exact ⟨v, h1, q H (Same.refl _) v (h2.mono hid_top)⟩
    · rename_i d' hs
      cases e1
      obtain ⟨p, h1, h2, h3, n1, _, _⟩ := R.own_at hs
      exact ⟨.ref p, h2, q H (Same.refl _) _ (h3.see (by simpa using n1) hid_top)⟩
    · cases e1
theorem for_core {D : Ends} {wi : List SV → Res (List PyData)} {t : Tg} {fb : List SV → SR} (σ : L2.St) (H : Hp) (h : ∃ fo oo st, StR X.K fo σ H oo st ∧ GS X.K W fo (SR.of (wi st) st fun xs => forL (fun x τ => bindT t x τ) fb xs st) H oo D) :
    tFor (tI true X.K W wi) (gOf X.K t) (tSt X.K W fb) D σ H := by
  obtain ⟨fo, oo, st, R, g⟩ := h
  refine ⟨fo, oo, st, R, (GS.of R g).mono fun xs H1 _ e1 g1 J wk hl => ?_⟩
  refine ⟨fun i m σ H => m = xs.length - i ∧ i ≤ xs.length ∧ ∃ o2 s2, StR X.K fo σ H o2 s2 ∧ Kp H1 oo H o2 ∧ GS X.K W fo (forL (fun x τ => bindT t x τ) fb (xs.drop i) s2) H o2 D, ⟨xs.length, by simp, Nat.zero_le _, oo, st, R.grow e1, Kp.refl, by rw [List.drop_zero]; exact g1⟩, ?_⟩
  rintro i m σ2 H2 ⟨rfl, hi, o2, s2, R2, k2, g2⟩
  have tn := wk (fo :: o2) H2 i (fun z => by cases z) k2.hid R2.fresh
  by_cases hlt : i < xs.length
  · obtain ⟨x, hx⟩ : ∃ x, xs[i]? = some x := ⟨xs[i], by simp [hlt]⟩
    obtain ⟨go, yl⟩ := tn.1 x hx
    have hdrop : xs.drop i = x :: xs.drop (i + 1) := by
      rw [List.drop_eq_getElem_cons hlt]
      rw [List.getElem?_eq_getElem hlt] at hx
      cases hx
      rfl
    rw [hdrop] at g2
    refine .inr ⟨go, fun σ' H' => ∃ o3 s3, StR X.K fo σ' H' o3 s3 ∧ Kp H1 oo H' o3 ∧ GS X.K W fo (forL (fun x τ => bindT t x τ) fb (xs.drop (i + 1)) s3) H' o3 D, fun σ' H' hN => ⟨xs.length - (i + 1), by omega, rfl, hlt, hN⟩, fun v H3 hv => ?_⟩
    obtain ⟨s23, rv⟩ := yl v H3 hv
    unfold forL at g2
    cases hb : bindT t x s2 with
    | exc c => rw [hb] at g2; exact g2.elim
    | bad => rw [hb] at g2; exact g2.elim
    | ok τ =>
      rw [hb] at g2
      refine bind_ok (R2.grow s23) rv hb fun σ' R3 _ => ⟨fo, o2, τ, R3, ?_⟩
      have k3 : Kp H2 o2 H3 o2 := Kp.same s23
      cases hf : fb τ with
      | bad => simp only [hf] at g2
               exact g2.elim
      | exc c ρ =>
        simp only [hf] at g2
        exact GS.kp (r := .exc c ρ) g2 k3
      | ok fl ρ =>
        simp only [hf] at g2
        cases fl with
        | nx => exact fun σ' H' o' R' k' => ⟨o', ρ, R', (k2.trans k3).trans k', GS.kp g2 (k3.trans k')⟩
        | cnt => exact fun σ' H' o' R' k' => ⟨o', ρ, R', (k2.trans k3).trans k', GS.kp g2 (k3.trans k')⟩
        | brk => exact fun σ' H' o' R' k' => g2 σ' H' o' R' (k3.trans k')
        | ret d => exact fun σ' H' o' R' k' => g2 σ' H' o' R' (k3.trans k')
  · have hie : i = xs.length := by omega
    subst hie
    rw [List.drop_length] at g2
    exact .inl ⟨tn.2 (Nat.le_refl _), g2 σ2 H2 o2 R2 Kp.refl⟩
theorem while_core {D : Ends} {fc : List SV → Res Bool} {fb : List SV → SR} {fu : Nat} (σ : L2.St) (H : Hp) (h : ∃ fo oo st, StR X.K fo σ H oo st ∧ GS X.K W fo (whileL fc fb fu st) H oo D) :
    tWhile (tBo X.K W fc) (tSt X.K W fb) D σ H := by
  obtain ⟨fo, oo, st, R, g⟩ := h
  refine ⟨fun m σ H => ∃ o2 s2, StR X.K fo σ H o2 s2 ∧ GS X.K W fo (whileL fc fb m s2) H o2 D, ⟨fu, oo, st, R, g⟩, ?_⟩
  rintro m σ2 H2 ⟨o2, s2, R2, g2⟩
  cases m with
  | zero => exact g2.elim
  | succ n =>
    unfold whileL at g2
    refine ⟨fo, o2, s2, R2, (GS.of R2 g2).mono fun b H3 _ e3 g3 => ?_⟩
    cases b with
    | false => exact iteF (g3 σ2 H3 o2 (R2.grow e3) Kp.refl)
    | true =>
      rw [if_pos rfl] at g3
      refine iteT ⟨fun σ' H' => ∃ o3 s3, StR X.K fo σ' H' o3 s3 ∧ GS X.K W fo (whileL fc fb n s3) H' o3 D, fun σ' H' hN => ⟨n, Nat.lt_succ_self _, hN⟩, fo, o2, s2, R2.grow e3, ?_⟩
      cases hf : fb s2 with
      | bad => simp only [hf] at g3
               exact g3.elim
      | exc c ρ =>
        simp only [hf] at g3
        exact g3
      | ok fl ρ =>
        simp only [hf] at g3
        cases fl with
        | nx => exact fun σ' H' o' R' k' => ⟨o', ρ, R', GS.kp g3 k'⟩
        | cnt => exact fun σ' H' o' R' k' => ⟨o', ρ, R', GS.kp g3 k'⟩
        | brk => exact g3
        | ret d => exact g3
end
end HF

set_option Elab.async false
set_option autoImplicit false
set_option linter.all false
set_option maxRecDepth 100000
set_option maxHeartbeats 4000000
/-! Several names at once, some of them owners. -/
namespace HF
open PySem PySem.Spec PyProof.Rows L2
inductive Pv (K : PySem.W.Frag) (hl : List Addr) (oo : List (List Addr)) (H : Hp) : List V → List D → List Bool → List Addr → Prop
  | nil : Pv K hl oo H [] [] [] []
  | val {v : V} {d : D} {vs : List V} {ds : List D} {fl : List Bool} {ps : List Addr} : Rep K (hid (hl :: oo) H) v d → Pv K hl oo H vs ds fl ps → Pv K hl oo H (v :: vs) (d :: ds) (false :: fl) ps
  | own {p : Addr} {d : D} {vs : List V} {ds : List D} {fl : List Bool} {ps : List Addr} : OwnR K (hid (hl :: oo) H) H p d → Pv K hl oo H vs ds fl ps → Pv K hl oo H (.ref p :: vs) (d :: ds) (true :: fl) (p :: ps)
section
variable {K : PySem.W.Frag} {fo : List Addr} {σ : L2.St} {H H' : Hp} {oo : List (List Addr)} {st : List SV}
theorem mem_fl {a : Addr} {fo : List Addr} {oo : List (List Addr)} : a ∈ (fo :: oo).flatten ↔ a ∈ fo ∨ a ∈ oo.flatten := by
  rw [List.flatten_cons, List.mem_append]
theorem hid_perm {f1 f2 : List Addr} (h : ∀ a, a ∈ f2 → a ∈ f1) : Same (hid (f1 :: oo) H) (hid (f2 :: oo) H) := hid_sub fun a z => by
  rw [mem_fl] at z ⊢
  exact z.imp (h a) id
theorem StR.perm {f1 f2 : List Addr} (R : StR K f1 σ H oo st) (h : ∀ a, a ∈ f2 ↔ a ∈ f1) (nd : f2.Nodup) : StR K f2 σ H oo st := by
  have n := List.nodup_append.mp R.nodup
  refine ⟨R.lenV, R.lenO, fun p hp => R.foin p ((h p).mp hp), List.nodup_append.mpr ⟨nd, n.2.1, fun a ha b hb => n.2.2 a ((h a).mp ha) b hb⟩, fun i => (R.slots i).mono (hid_perm fun a => (h a).mp) fun _ _ _ _ u q => q⟩
theorem OwnR.hidm {h1 h2 : List (List Addr)} {p : Addr} {d : D} (c : Same (hid h1 H) (hid h2 H')) (e : ∀ o, H p = some o → H' p = some o) (r : OwnR K (hid h1 H) H p d) : OwnR K (hid h2 H') H' p d := r.mono c e
theorem Pv.mono {oo' : List (List Addr)} {hl hl' : List Addr} {vs : List V} {ds : List D} {fl : List Bool} {ps : List Addr} (c : Same (hid (hl :: oo) H) (hid (hl' :: oo') H')) (e : Same H H') : Pv K hl oo H vs ds fl ps → Pv K hl' oo' H' vs ds fl ps
  | .nil => .nil
  | .val r q => .val (r.mono c) (Pv.mono c e q)
  | .own r q => .own (r.mono c fun o z => e _ _ z) (Pv.mono c e q)
theorem Pv.len {hl : List Addr} {vs : List V} {ds : List D} {fl : List Bool} {ps : List Addr} : Pv K hl oo H vs ds fl ps → vs.length = ds.length
  | .nil => rfl
  | .val _ q => congrArg Nat.succ (Pv.len q)
  | .own _ q => congrArg Nat.succ (Pv.len q)
/-- what a call's frame hides comes to a slot -/
theorem StR.take {p : Addr} {d : D} (R : StR K (p :: fo) σ H oo st) (i : Nat) (r : OwnR K (hid ((p :: fo) :: oo) H) H p d) : StR K fo (σ.set i (some (.ref p))) H (oo.set i [p]) (st.set i (.own d)) := by
  have n := R.nodup
  rw [List.cons_append] at n
  obtain ⟨n1, n2⟩ := List.nodup_cons.mp n
  have sub : Same (hid ((p :: fo) :: oo) H) (hid (fo :: oo.set i [p]) H) := hid_sub fun a z => by
    rw [mem_fl] at z ⊢
    rcases z with z | z
    · exact .inl (List.mem_cons_of_mem _ z)
    · rcases mem_set z with z | z
      · exact .inr z
      · rw [List.mem_singleton.mp z]
        exact .inl List.mem_cons_self
  refine ⟨by rw [List.length_set, List.length_set]; exact R.lenV, by rw [List.length_set, List.length_set]; exact R.lenO, fun q hq => R.foin q (List.mem_cons_of_mem _ hq), nodup_own i n2 (by rw [List.flatten_cons]; exact n1), fun j => ?_⟩
  by_cases e : i = j
  · subst e
    by_cases hlt : i < st.length
    · rw [List.getElem?_set_self hlt, List.getElem?_set_self (by rw [R.lenV]; exact hlt), List.getElem?_set_self (by rw [R.lenO]; exact hlt)]
      exact ⟨p, rfl, rfl, r.mono sub fun _ h => h⟩
    · rw [List.getElem?_eq_none (l := st.set i _) (by rw [List.length_set]; omega)]
      trivial
  · rw [List.getElem?_set_ne e, List.getElem?_set_ne e, List.getElem?_set_ne e]
    exact (R.slots j).mono sub fun _ _ _ _ u q => q
/-- the stores -/
theorem pars_ok {Q : L2.St → Prop} : ∀ {is : List Nat} {vs : List V} {ds : List D} {fl : List Bool} {ps hl : List Addr} {σ : L2.St} {oo : List (List Addr)} {st : List SV}, hl = ps ++ fo → StR K hl σ H oo st → Pv K hl oo H vs ds fl ps → ds.length = is.length →
    (∀ σ' oo', StR K fo σ' H oo' (setParO st is fl ds) → (∀ q ∈ oo'.flatten, q ∈ oo.flatten ∨ q ∈ ps) → Q σ') → Q (List.foldl (fun s q => s.set q.1 (some q.2)) σ (is.zip vs))
  | [], _, _, _, _, _, σ, oo, st, e, R, pv, hl, k => by
    cases pv with
    | nil => exact k σ oo (by rw [e] at R; exact R) fun q hq => .inl hq
    | val _ _ => cases hl
    | own _ _ => cases hl
  | i :: is, _, _, _, _, hd, σ, oo, st, e, R, pv, hl, k => by
    cases pv with
    | nil => cases hl
    | val r q =>
      have c : Same (hid (hd :: oo) H) (hid (hd :: oo.set i []) H) := hid_drop i
      refine pars_ok (is := is) e (R.setF i (r.mono c)) (q.mono c (Same.refl _)) (by simpa using hl) fun σ' oo' R' hq => k σ' oo' R' fun a ha => ?_
      rcases hq a ha with z | z
      · exact .inl ((mem_set z).elim id fun z => by cases z)
      · exact .inr z
    | @own p d vs ds fl ps r q =>
      have e' : hd = p :: (ps ++ fo) := e
      subst e'
      have c : Same (hid ((p :: (ps ++ fo)) :: oo) H) (hid ((ps ++ fo) :: oo.set i [p]) H) := hid_sub fun a z => by
        rw [mem_fl] at z ⊢
        rcases z with z | z
        · exact .inl (List.mem_cons_of_mem _ z)
        · rcases mem_set z with z | z
          · exact .inr z
          · rw [List.mem_singleton.mp z]
            exact .inl List.mem_cons_self
      refine pars_ok (is := is) rfl (R.take (fo := ps ++ fo) i r) (q.mono c (Same.refl _)) (by simpa using hl) fun σ' oo' R' hq => k σ' oo' R' fun a ha => ?_
      rcases hq a ha with z | z
      · rcases mem_set z with z | z
        · exact .inl z
        · rw [List.mem_singleton.mp z]
          exact .inr List.mem_cons_self
      · exact .inr (List.mem_cons_of_mem _ z)
end
def tLO (K : PySem.W.Frag) (W : WX) (f : List SV → Res (List D)) (fl : List Bool) : TA := fun σ H Q => ∃ fo oo st, StR K fo σ H oo st ∧ GoodP K W σ H (f st) fun ds H' => ∀ vs ps, StR K (ps ++ fo) σ H' oo st → Pv K (ps ++ fo) oo H' vs ds fl ps → (∀ p ∈ ps, H p = none) → Q vs H'
section
variable {φ : Nat → List D → Res D} {X : Cx} {W : WX} {k : Nat} {C : Ck}
theorem okEsO : ∀ (es : Es) {fl : List Bool} {xs : List Expr}, CxOk C φ k X W → chkEs es C xs = true → frs es fl = true → PA X xs (tLO X.K W (fun st => do let ds ← evs φ es st; if fits fl ds then .ok ds else .bad) fl)
  | .nil, fl, xs, c, h, hf => by
    unfold chkEs at h
    split at h
    · cases fl with
      | nil => exact pa_nil.weak fun σ H Q ⟨fo, oo, st, R, g⟩ => g H (Same.refl _) [] [] R .nil fun p hp => by cases hp
      | cons b fl => cases hf
    · cases h
  | .cons e es, fl, xs, c, h, hf => by
    cases fl with
    | nil => cases hf
    | cons b fl =>
      unfold chkEs at h
      split at h
      · rw [Bool.and_eq_true] at h
        have hf' : ((!b || frB e) && frs es fl) = true := hf
        rw [Bool.and_eq_true] at hf'
        have he := okE e c h.1
        have hr := okEsO es (fl := fl) c h.2 hf'.2
        refine (pa_cons (tG_any (fr' := b) he.v fun hb => by rw [hb] at hf'; simpa using hf'.1) hr (star_cons _ _ he.n)).weak fun σ H Q ⟨fo, oo, st, R, g⟩ => ?_
        have g' : GoodP X.K W σ H (ev φ e st >>= fun d => evs φ es st >>= fun ds => if ((!b || ownable d) && fits fl ds) = true then Res.ok (d :: ds) else .bad) fun ds H' => ∀ vs ps, StR X.K (ps ++ fo) σ H' oo st → Pv X.K (ps ++ fo) oo H' vs ds (b :: fl) ps → (∀ p ∈ ps, H p = none) → Q vs H' := by
          have z := g
          dsimp only at z
          unfold evs at z
          cases h1 : ev φ e st with
          | ok d =>
            rw [h1] at z
            cases h2 : evs φ es st with
            | ok ds => rw [h2] at z; exact z
            | exc c => rw [h2] at z; exact z
            | bad => rw [h2] at z; exact z
          | exc c => rw [h1] at z; exact z
          | bad => rw [h1] at z; exact z
        refine ⟨fo, oo, st, R, g'.bind.mono fun d H1 _ e1 g1 v rv => ?_⟩
        have g2 : GoodP X.K W σ H1 (evs φ es st >>= fun ds => if fits fl ds = true then Res.ok ds else .bad) fun ds H' => (!b || ownable d) = true ∧ ∀ vs ps, StR X.K (ps ++ fo) σ H' oo st → Pv X.K (ps ++ fo) oo H' vs (d :: ds) (b :: fl) ps → (∀ p ∈ ps, H p = none) → Q vs H' := by
          cases h2 : evs φ es st with
          | ok ds =>
            rw [h2] at g1
            have g3 : GoodP X.K W σ H1 (if ((!b || ownable d) && fits fl ds) = true then Res.ok (d :: ds) else .bad) _ := g1
            show GoodP X.K W σ H1 (if fits fl ds = true then Res.ok ds else .bad) _
            cases q1 : (!b || ownable d) <;> cases q2 : fits fl ds <;> rw [q1, q2] at g3
            · exact g3.elim
            · exact g3.elim
            · exact g3.elim
            · exact fun H2 e2 => ⟨rfl, g3 H2 e2⟩
          | exc c => rw [h2] at g1; exact g1
          | bad => rw [h2] at g1; exact g1
        cases b with
        | false =>
          refine ⟨fo, oo, st, R.grow e1, g2.mono fun ds H2 _ e2 ⟨_, q⟩ vs ps R2 pv hps => q _ ps R2 (.val ?_ pv) fun p hp => ?_⟩
          · refine (show Rep X.K (hid (fo :: oo) H1) v d from rv).mono fun a o z => ?_
            obtain ⟨z1, z2⟩ := hid_of z
            rw [hid_get]
            · exact e2 _ _ z1
            · rw [mem_fl] at z2 ⊢
              rintro (w | w)
              · rcases List.mem_append.mp w with w | w
                · rw [hps a w] at z1; cases z1
                · exact z2 (.inl w)
              · exact z2 (.inr w)
          · cases q : H p with
            | none => rfl
            | some u => exact absurd (hps p hp) (by rw [e1 _ _ q]; intro z; cases z)
        | true =>
          cases (show RepN X.K (fo :: oo) H H1 v d from rv) with
          | old hfl _ =>
            refine ⟨fo, oo, st, R.grow e1, g2.mono fun ds H2 _ e2 ⟨ho, _⟩ => ?_⟩
            exfalso
            cases d <;> first | exact Bool.noConfusion hfl | exact Bool.noConfusion ho
          | @new p _ hp hw =>
            have hpin : ∃ o, H1 p = some o := hw.there
            obtain ⟨o, ho⟩ := hpin
            have R1 : StR X.K (p :: fo) σ H1 oo st := by
              have z := R.comp (ws := []) hp e1 ho rfl
              exact z
            refine ⟨p :: fo, oo, st, R1, g2.mono fun ds H2 _ e2 ⟨_, q⟩ vs ps R2 pv hps => ?_⟩
            have hmem : ∀ a, a ∈ p :: (ps ++ fo) ↔ a ∈ ps ++ (p :: fo) := fun a => by
              simp only [List.mem_cons, List.mem_append]
              constructor
              · rintro (z | z | z)
                · exact .inr (.inl z)
                · exact .inl z
                · exact .inr (.inr z)
              · rintro (z | z | z)
                · exact .inr (.inl z)
                · exact .inl z
                · exact .inr (.inr z)
            have nd : (p :: (ps ++ fo)).Nodup := by
              have z := (List.nodup_append.mp R2.nodup).1
              have z' : (ps ++ p :: fo).Nodup := z
              exact (List.perm_middle.nodup_iff).mp z'
            have cc : Same (hid ((ps ++ p :: fo) :: oo) H2) (hid ((p :: (ps ++ fo)) :: oo) H2) := hid_perm fun a => (hmem a).mp
            refine q _ (p :: ps) (R2.perm hmem nd) (.own ?_ (pv.mono cc (Same.refl _))) fun a ha => ?_
            · refine hw.mono (fun a o z => ?_) fun o z => e2 _ _ z
              obtain ⟨z1, z2⟩ := hid_of z
              rw [hid_get]
              · exact e2 _ _ z1
              · rw [mem_fl]
                rw [List.flatten_cons, List.mem_append, mem_fl] at z2
                rintro (w | w)
                · rcases List.mem_cons.mp w with w | w
                  · exact z2 (.inl (List.mem_singleton.mpr w))
                  · rcases List.mem_append.mp w with w | w
                    · rw [hps a w] at z1; cases z1
                    · exact z2 (.inr (.inl w))
                · exact z2 (.inr (.inr w))
            · rcases List.mem_cons.mp ha with z | z
              · rw [z]; exact hp
              · cases q : H a with
                | none => rfl
                | some u => exact absurd (hps a z) (by rw [e1 _ _ q]; intro z; cases z)
      · cases h
end
end HF

set_option Elab.async false
set_option autoImplicit false
set_option linter.all false
set_option maxRecDepth 100000
set_option maxHeartbeats 4000000
/-! Statements, all forms. -/
namespace HF
open PySem PySem.Spec PyProof.Rows L2
theorem _root_.L2.PG.or {X : Cx} {tg : Expr} {t t' : TG} (h : PG X tg t) (h' : PG X tg t') : PG X tg (fun v σ H Q => t v σ H Q ∨ t' v σ H Q) := ⟨fun pins s σ H v u Q I r q => q.elim (h.run pins s σ H v u Q I r) (h'.run pins s σ H v u Q I r)⟩
theorem few_one {q : Expr} {env : Env} {cpos : Pos} (h : noS q = true) : ((backTo cpos (starEach [q] env)).all (fun x => !x.1) && (backToKw cpos (keywordEach [] env)).all (fun x => x.1.isSome)
      && decide ([q].length + ([] : List Keyword).length + (if ([] : List Keyword).isEmpty then 0 else 1) < 30)) = true := by
  rw [star_cons _ _ h]
  rfl
theorem swap_sole {x : Expr} {ts : List Expr} {k : Nat} {p : Pos} {l : Nat} {env : Env} : swapsWithSole [.Tuple ts k p] x l env = pure false := by
  cases x <;> rfl
theorem gNames_fold {Q : L2.St → Hp → Prop} {H : Hp} : ∀ {is : List Nat} {vs : List V} {σ : L2.St}, vs.length = is.length → Q (List.foldl (fun s q => s.set q.1 (some q.2)) σ (is.zip vs)) H → gNames is vs σ H Q
  | [], [], _, _, q => ⟨rfl, q⟩
  | [], _ :: _, _, h, _ => by cases h
  | _ :: _, [], _, h, _ => by cases h
  | i :: is, v :: vs, σ, h, q => ⟨v, vs, rfl, gNames_fold (is := is) (by simpa using h) q⟩
theorem Pv.two {K : PySem.W.Frag} {hl ps : List Addr} {oo : List (List Addr)} {H : Hp} {vs : List V} {ds : List D} {fl : List Bool} (p : Pv K hl oo H vs ds fl ps) (h : ds.length = 2) : ∃ v w, vs = [v, w] := by
  have := p.len
  rw [h] at this
  match vs, this with
  | [v, w], _ => exact ⟨v, w, rfl⟩
theorem Pv.three {K : PySem.W.Frag} {hl ps : List Addr} {oo : List (List Addr)} {H : Hp} {vs : List V} {ds : List D} {fl : List Bool} (p : Pv K hl oo H vs ds fl ps) (h : ds.length = 3) : ∃ u v w, vs = [u, v, w] := by
  have := p.len
  rw [h] at this
  match vs, this with
  | [u, v, w], _ => exact ⟨u, v, w, rfl⟩
theorem Kp.pars {H H' : Hp} {oo oo' : List (List Addr)} {ps : List Addr} (e : Same H H') (h : ∀ q ∈ oo'.flatten, q ∈ oo.flatten ∨ q ∈ ps) (n : ∀ p ∈ ps, H p = none) : Kp H oo H' oo' := fun B hB nB => ⟨hB.trans e, fun q hq => (h q hq).elim (nB q) fun z => by
  cases w : B q with
  | none => rfl
  | some u => have q1 := hB _ _ w; rw [n q z] at q1; cases q1⟩
section
variable [RO] {φ : Nat → List D → Res D} {X : Cx} {W : WX} {k : Nat} {C : Ck} {fu : Nat}
theorem seq_ok {fs : List SV → SR} {s : Stmt} {r : Ss} {xs : List Stmt} (hs : PS X s (tSt X.K W fs)) (hr : PSs X xs (tSt X.K W (evSs φ fu r))) : PSs X (s :: xs) (tSt X.K W fun st => thenS (fs st) fun τ => evSs φ fu r τ) :=
  (pss_cons hs hr).weak fun D σ H ⟨fo, oo, st, R, g⟩ => by
    refine ⟨fo, oo, st, R, ?_⟩
    dsimp only at g ⊢
    cases h : fs st with
    | bad => rw [h] at g; exact g.elim
    | exc c ρ => rw [h] at g; exact g
    | ok fl ρ =>
      rw [h] at g
      cases fl with
      | nx => exact fun σ' H' oo' R' k' => ⟨fo, oo', ρ, R', GS.kp g k'⟩
      | brk => exact g
      | cnt => exact g
      | ret d => exact g
theorem stores_ok {is : List Nat} {ts : List Expr} {kk : Nat} {p : Pos} (c : CxOk C φ k X W) (hn : chkNames C is ts = true) : PG X (.Tuple ts kk p) (gOf X.K (.tup is)) := tg_pg c (t := .tup is) hn
mutual
theorem okS : ∀ (s : S) {C : Ck} {φ : Nat → List D → Res D} {k : Nat} {X : Cx} {W : WX} {x : Stmt}, CxOk C φ k X W → (C.sc.kind = .function ∧ C.ro = RO.own) → PassesOwn (model X.prog X.w) X.A X.env X.xe → chkS s C x = true → PS X x (tSt X.K W (evS φ fu s))
  | .set i e, C, φ, k, X, W, x, c, hk, hp, h => by
    unfold chkS at h
    split at h
    · simp only [Bool.and_eq_true, Bool.not_eq_true'] at h
      obtain ⟨h1, h2, h3⟩ := h
      refine (ok_name c hk.1 h1 h2 h3).weak fun D σ H ⟨fo, oo, st, R, g⟩ => ⟨fo, oo, st, R, (GS.of R (by unfold evS at g; exact g)).mono fun d H1 _ e1 g1 v rv => ?_⟩
      have g2 : GS X.K W fo (.ok .nx (st.set i (.fz d))) H1 oo D := g1
      exact g2 _ H1 _ ((R.grow e1).setF i ((RepF.rep R.fresh rv).mono (hid_drop i))) Kp.drop
    · cases h
  | .setO i e, C, φ, k, X, W, x, c, hk, hp, h => by
    unfold chkS at h
    split at h
    · simp only [Bool.and_eq_true, Bool.not_eq_true'] at h
      obtain ⟨⟨h1, h2, h3⟩, h4⟩ := h
      refine (ok_name c hk.1 h1 h2 h3).weak fun D σ H ⟨fo, oo, st, R, g⟩ => ?_
      unfold evS at g
      refine ⟨fo, oo, st, R, (GS.of R g).mono fun d H1 e0 e1 _ v rv => ?_⟩
      rw [e0] at g
      have g1 : GS X.K W fo (if ownable d = true then .ok .nx (st.set i (.own d)) else .bad) H oo D := g
      rw [h4] at rv
      cases ho : ownable d with
      | false => rw [ho, if_neg (by decide)] at g1; exact g1.elim
      | true =>
        rw [ho, if_pos rfl] at g1
        cases (show RepN X.K (fo :: oo) H H1 v d from rv) with
        | new hp hw => exact g1 _ H1 _ (R.setO i hp e1 hw) (Kp.own hp e1)
        | old hf _ => cases d <;> first | exact Bool.noConfusion hf | exact Bool.noConfusion ho
    · cases h
  | .unp is e, C, φ, k, X, W, x, c, hk, hp, h => by
    unfold chkS at h
    split at h
    · simp only [Bool.and_eq_true, Bool.not_eq_true'] at h
      obtain ⟨h1, h2, h3⟩ := h
      refine (ps_asg (okE e c h2).u ((stores_ok c h1).or (pg_unl c.calm (names_pgs c h1) (names_len _ h1).1 (names_len _ h1).2)) swap_sole (stores_no h3)).weak fun D σ H ⟨fo, oo, st, R, g⟩ => ?_
      unfold evS at g
      refine ⟨fo, oo, st, R, (GS.of R g).mono fun d H1 e0 e1 g1 v rv => ?_⟩
      cases d with
      | tuple ds =>
        have g2 : GS X.K W fo (if ds.length = is.length ∧ noOwn st is = true then .ok .nx (setAll st is ds) else .bad) H1 oo D := g1
        split at g2
        · rename_i hn
          cases rv with
          | tup ht rr =>
            have rt : Rep X.K (hid (fo :: oo) H1) _ (.tuple ds) := .tup ht rr
            refine .inl (bind_ok (t := .tup is) (R.grow e1) rt (st' := setAll st is ds) ?_ fun σ' R' _ => g2 σ' H1 oo R' Kp.refl)
            show (if ds.length = is.length ∧ noOwn st is = true then Res.ok (setAll st is ds) else .bad) = _
            rw [if_pos hn]
        · exact g2.elim
      | none => exact g1.elim
      | bool _ => exact g1.elim
      | int _ => exact g1.elim
      | str _ => exact g1.elim
      | list ds =>
        have g2 : GS X.K W fo (if ds.length = is.length ∧ noOwn st is = true then .ok .nx (setAll st is ds) else .bad) H1 oo D := g1
        split at g2
        · rename_i hn
          cases rv with
          | lst ht rr => exact .inr ⟨_, _, rfl, SqL.of ht, by rw [rr.len]; exact hn.1, puts_ok (R.grow e1) hn.2 rr hn.1 fun σ' R' _ => g2 σ' H1 oo R' Kp.refl⟩
        · exact g2.elim
      | dict _ => exact g1.elim
    · cases h
  | .par is es, C, φ, k, X, W, x, c, hk, hp, h => by
    unfold chkS at h
    split at h
    · rename_i ts kk p vs k2 p2 pos
      simp only [Bool.and_eq_true, decide_eq_true_eq] at h
      obtain ⟨⟨h1, h2, h3⟩, h4⟩ := h
      have he := okEs es c h2
      have hkX : X.env.scope.kind = .function := by rw [c.sc]; exact hk.1
      cases hs : swD ts vs C.sc with
      | none => rw [hs] at h4; exact Bool.noConfusion h4
      | some o =>
        rw [hs] at h4
        rw [← c.sc] at hs
        have hsw := fun k k2 p p2 => swD_ok (k := k) (k2 := k2) (p := p) (p2 := p2) hkX hs
        cases o with
        | none =>
          refine (ps_asg (se_tup false he.a (size_le φ h3)) (stores_ok c h1) swap_sole (hsw _ _ _ _)).weak fun D σ H ⟨fo, oo, st, R, g⟩ => ?_
          unfold evS at g
          have g0 := GS.of R g
          refine ⟨fo, oo, st, R, ?_⟩
          show GoodP X.K W σ H (evs φ es st >>= fun ds => Res.ok (PyData.tuple ds)) _
          cases hd : evs φ es st with
          | bad => rw [hd] at g0; exact g0.elim
          | exc z => rw [hd] at g0; exact g0
          | ok ds =>
            rw [hd] at g0
            refine fun H1 e1 v rv => ?_
            have g2 : GS X.K W fo (if ds.length = is.length ∧ noOwn st is = true then .ok .nx (setAll st is ds) else .bad) H1 oo D := g0 H1 e1
            split at g2
            · rename_i hn
              refine bind_ok (t := .tup is) (R.grow e1) rv (st' := setAll st is ds) ?_ fun σ' R' _ => g2 σ' H1 oo R' Kp.refl
              show (if ds.length = is.length ∧ noOwn st is = true then Res.ok (setAll st is ds) else .bad) = _
              rw [if_pos hn]
            · exact g2.elim
        | some ns =>
          dsimp only at h4
          split at h4
          · rename_i a pa b pb i j v1 v2
            simp only [Bool.and_eq_true, decide_eq_true_eq] at h4
            obtain ⟨h5, h6, h7, h8⟩ := h4
            subst h5
            obtain ⟨za, qa, ea, sa, hr⟩ := names_cons h1
            cases ea
            obtain ⟨zb, qb, eb, sb, _⟩ := names_cons hr
            cases eb
            refine (ps_par c.calm c.nd (set_of c sa).1 (set_of c sb).1 h6 (by rw [c.sc]; exact h7) (by rw [c.sc]; exact h8) he.a (hsw _ _ _ _) swap_sole).weak fun D σ H ⟨fo, oo, st, R, g⟩ => ?_
            unfold evS at g
            refine ⟨fo, oo, st, R, (GS.of R g).mono fun ds H1 e0 e1 g1 us ru => ?_⟩
            have g2 : GS X.K W fo (if ds.length = 2 ∧ noOwn st [i, j] = true then .ok .nx (setAll st [i, j] ds) else .bad) H1 oo D := g1
            split at g2
            · rename_i hn
              cases ru with
              | nil => exact absurd hn.1 (by simp)
              | cons r1 rr =>
                cases rr with
                | nil => exact absurd hn.1 (by simp)
                | cons r2 rr =>
                  cases rr with
                  | cons _ _ => exact absurd hn.1 (by simp)
                  | nil =>
                    obtain ⟨n1, n2⟩ := noOwn_cons hn.2
                    exact ⟨_, _, rfl, g2 _ H1 oo (((R.grow e1).put n1 r1).put (noOwn_set n2) r2) Kp.refl⟩
            · exact g2.elim
          · rename_i a pa b pb d pd i j l v1 v2 v3
            simp only [Bool.and_eq_true, decide_eq_true_eq] at h4
            obtain ⟨h5, ⟨h6, h6', h6''⟩, h7, h8, h9⟩ := h4
            subst h5
            obtain ⟨za, qa, ea, sa, hr⟩ := names_cons h1
            cases ea
            obtain ⟨zb, qb, eb, sb, hr⟩ := names_cons hr
            cases eb
            obtain ⟨zd, qd, ed, sd, _⟩ := names_cons hr
            cases ed
            refine (ps_par3 c.calm c.nd (set_of c sa).1 (set_of c sb).1 (set_of c sd).1 h6 h6' h6'' (by rw [c.sc]; exact h7) (by rw [c.sc]; exact h8) (by rw [c.sc]; exact h9) he.a (hsw _ _ _ _) swap_sole).weak fun D σ H ⟨fo, oo, st, R, g⟩ => ?_
            unfold evS at g
            refine ⟨fo, oo, st, R, (GS.of R g).mono fun ds H1 e0 e1 g1 us ru => ?_⟩
            have g2 : GS X.K W fo (if ds.length = 3 ∧ noOwn st [i, j, l] = true then .ok .nx (setAll st [i, j, l] ds) else .bad) H1 oo D := g1
            split at g2
            · rename_i hn
              cases ru with
              | nil => exact absurd hn.1 (by simp)
              | cons r1 rr =>
                cases rr with
                | nil => exact absurd hn.1 (by simp)
                | cons r2 rr =>
                  cases rr with
                  | nil => exact absurd hn.1 (by simp)
                  | cons r3 rr =>
                    cases rr with
                    | cons _ _ => exact absurd hn.1 (by simp)
                    | nil =>
                      obtain ⟨n1, n2⟩ := noOwn_cons hn.2
                      obtain ⟨n2', n3⟩ := noOwn_cons n2
                      exact ⟨_, _, _, rfl, g2 _ H1 oo ((((R.grow e1).put n1 r1).put (noOwn_set n2') r2).put (noOwn_set (noOwn_set n3)) r3) Kp.refl⟩
            · exact g2.elim
          · exact Bool.noConfusion h4
    · cases h
  | .parO is fl es, C, φ, k, X, W, x, c, hk, hp, h => by
    unfold chkS at h
    split at h
    · rename_i ts kk p vs k2 p2 pos
      simp only [Bool.and_eq_true, decide_eq_true_eq] at h
      obtain ⟨⟨h1, h2, hfr, h3⟩, h4⟩ := h
      have he := okEsO es (fl := fl) c h2 hfr
      have hkX : X.env.scope.kind = .function := by rw [c.sc]; exact hk.1
      cases hs : swD ts vs C.sc with
      | none => rw [hs] at h4; exact Bool.noConfusion h4
      | some o =>
        rw [hs] at h4
        rw [← c.sc] at hs
        have hsw := fun k k2 p p2 => swD_ok (k := k) (k2 := k2) (p := p) (p2 := p2) hkX hs
        have core : ∀ {D : Ends} {σ : L2.St} {H H1 : Hp} {fo : List Addr} {oo : List (List Addr)} {st : List SV} {ds : List PyData} {us : List V} {ps : List Addr},
            GS X.K W fo (SR.of (do let ds ← evs φ es st; if fits fl ds = true then Res.ok ds else .bad) st fun ds => if ds.length = is.length then .ok .nx (setParO st is fl ds) else .bad) H oo D →
            (do let ds ← evs φ es st; if fits fl ds = true then Res.ok ds else Res.bad) = .ok ds → Same H H1 → StR X.K (ps ++ fo) σ H1 oo st → Pv X.K (ps ++ fo) oo H1 us ds fl ps → (∀ p ∈ ps, H p = none) →
            us.length = is.length ∧ D.nx (List.foldl (fun s q => s.set q.1 (some q.2)) σ (is.zip us)) H1 := by
          intro D σ H H1 fo oo st ds us ps g e0 e1 R2 pv hps
          rw [e0] at g
          have g2 : GS X.K W fo (if ds.length = is.length then .ok .nx (setParO st is fl ds) else .bad) H oo D := g
          split at g2
          · rename_i hn
            exact ⟨by rw [pv.len]; exact hn, pars_ok (Q := fun σ' => D.nx σ' H1) rfl R2 pv hn fun σ' oo' R' hq => g2 σ' H1 oo' R' (Kp.pars e1 hq hps)⟩
          · exact g2.elim
        cases o with
        | none =>
          refine (ps_asg (pe_tup he) (stores_ok c h1) swap_sole (hsw _ _ _ _)).weak fun D σ H ⟨fo, oo, st, R, g⟩ => ?_
          unfold evS at g
          refine ⟨fo, oo, st, R, (GS.of R g).mono fun ds H1 e0 e1 g1 us ps R2 pv hps => ?_⟩
          have hlen : ds.length ≤ 16777216 := by
            refine size_le φ h3 st ds ?_
            cases hd : evs φ es st with
            | ok d2 =>
              rw [hd] at e0
              have e0' : (if fits fl d2 = true then Res.ok d2 else .bad) = Res.ok ds := e0
              split at e0'
              · exact e0'
              · cases e0'
            | exc z => rw [hd] at e0; cases e0
            | bad => rw [hd] at e0; cases e0
          refine ⟨by rw [pv.len, sizeLine_eq]; exact hlen, fun q hq => ?_⟩
          have e2 : Same H (upd H1 q (.tup us)) := e1.trans (Same.upd hq)
          have z := core (H1 := upd H1 q (.tup us)) g e0 e2 (R2.grow (Same.upd hq)) (pv.mono (hid_mono _ (Same.upd hq)) (Same.upd hq)) hps
          exact ⟨q, us, rfl, SqT.of upd_same, z.1, gNames_fold z.1 z.2⟩
        | some ns =>
          dsimp only at h4
          split at h4
          · rename_i a pa b pb i j v1 v2
            simp only [Bool.and_eq_true, decide_eq_true_eq] at h4
            obtain ⟨h5, h6, h7, h8⟩ := h4
            subst h5
            obtain ⟨za, qa, ea, sa, hr⟩ := names_cons h1
            cases ea
            obtain ⟨zb, qb, eb, sb, _⟩ := names_cons hr
            cases eb
            refine (ps_par c.calm c.nd (set_of c sa).1 (set_of c sb).1 h6 (by rw [c.sc]; exact h7) (by rw [c.sc]; exact h8) he (hsw _ _ _ _) swap_sole).weak fun D σ H ⟨fo, oo, st, R, g⟩ => ?_
            unfold evS at g
            refine ⟨fo, oo, st, R, (GS.of R g).mono fun ds H1 e0 e1 g1 us ps R2 pv hps => ?_⟩
            have z := core g e0 e1 R2 pv hps
            obtain ⟨v, w, rfl⟩ := pv.two (by rw [← pv.len]; exact z.1)
            exact ⟨v, w, rfl, z.2⟩
          · rename_i a pa b pb d pd i j l v1 v2 v3
            simp only [Bool.and_eq_true, decide_eq_true_eq] at h4
            obtain ⟨h5, ⟨h6, h6', h6''⟩, h7, h8, h9⟩ := h4
            subst h5
            obtain ⟨za, qa, ea, sa, hr⟩ := names_cons h1
            cases ea
            obtain ⟨zb, qb, eb, sb, hr⟩ := names_cons hr
            cases eb
            obtain ⟨zd, qd, ed, sd, _⟩ := names_cons hr
            cases ed
            refine (ps_par3 c.calm c.nd (set_of c sa).1 (set_of c sb).1 (set_of c sd).1 h6 h6' h6'' (by rw [c.sc]; exact h7) (by rw [c.sc]; exact h8) (by rw [c.sc]; exact h9) he (hsw _ _ _ _) swap_sole).weak fun D σ H ⟨fo, oo, st, R, g⟩ => ?_
            unfold evS at g
            refine ⟨fo, oo, st, R, (GS.of R g).mono fun ds H1 e0 e1 g1 us ps R2 pv hps => ?_⟩
            have z := core g e0 e1 R2 pv hps
            obtain ⟨u, v, w, rfl⟩ := pv.three (by rw [← pv.len]; exact z.1)
            exact ⟨u, v, w, rfl, z.2⟩
          · exact Bool.noConfusion h4
    · cases h
  | .ext i e, C, φ, k, X, W, x, c, hk, hp, h => by
    unfold chkS at h
    split at h
    · simp only [Bool.and_eq_true, decide_eq_true_eq] at h
      obtain ⟨⟨h1, h2⟩, h3, h4⟩ := h
      subst h1
      have he := okE e c h3
      refine (ps_expr (pe_bm PySem.F.plainAttrs_list PySem.F.slot_list_extend PySem.F.type_list_extend mt_extend (vis_of c h2) (pa_cons he.low pa_nil (star_cons _ _ he.n)) rfl (few_one he.n) h4 (star_cons _ _ he.n) (star_no _ _ _ rfl)) (swap_no rfl)).weak fun D σ H ⟨fo, oo, st, R, g⟩ => ?_
      unfold evS at g
      split at g
      · rename_i xs hs
        have g0 := GS.of R g
        obtain ⟨p, h5, h6, h7, n1, n2, hin⟩ := R.own_at hs
        cases h7 with
        | lst hl rl =>
          rename_i vs
          refine ⟨_, h6, .inl ⟨rfl, vs, SqL.of hl⟩, fo, oo, st, R, g0.mono fun d H1 e0 e1 g1 v rv => ?_⟩
          have hl1 := e1 _ _ hl
          cases d <;> try exact g1.elim
          rename_i ys
          have g1' : GS X.K W fo (if xs.length + ys.length ≤ 16777216 then .ok .nx (st.set i (.own (.list (xs ++ ys)))) else .bad) H1 oo D := g1
          split at g1'
          · rename_i hz
            have hin' : p ∈ (fo :: oo).flatten := by rw [List.flatten_cons]; exact List.mem_append_right _ hin
            cases (show Rep X.K (hid (fo :: oo) H1) v (.list ys) from rv) with
            | lst hb rb =>
              refine ⟨p, _, vs, _, rfl, rfl, hl1, (hid_of hb).1, by rw [sizeLine_eq, rl.len, rb.len]; exact hz, ?_⟩
              refine g1' σ _ oo ((R.grow e1).change hs h5 (.lst upd_same ?_)) (Kp.upd hin)
              rw [hid_upd hin']
              exact (rl.mono (hid_mono _ e1)).app rb
          · exact g1'.elim
      · exact g.elim
    · cases h
  | .app i e, C, φ, k, X, W, x, c, hk, hp, h => by
    unfold chkS at h
    split at h
    · simp only [Bool.and_eq_true, decide_eq_true_eq] at h
      obtain ⟨⟨h1, h2⟩, h3, h4⟩ := h
      subst h1
      have he := okE e c h3
      refine (ps_expr (pe_bm PySem.F.plainAttrs_list PySem.F.slot_list_append PySem.F.type_list_append mt_append (vis_of c h2) (pa_cons he.low pa_nil (star_cons _ _ he.n)) rfl (few_one he.n) h4 (star_cons _ _ he.n) (star_no _ _ _ rfl)) (swap_no rfl)).weak fun D σ H ⟨fo, oo, st, R, g⟩ => ?_
      unfold evS at g
      split at g
      · rename_i xs hs
        have g0 := GS.of R g
        obtain ⟨p, h5, h6, h7, n1, n2, hin⟩ := R.own_at hs
        cases h7 with
        | lst hl rl =>
          rename_i vs
          refine ⟨_, h6, .inl ⟨rfl, vs, SqL.of hl⟩, fo, oo, st, R, g0.mono fun d H1 e0 e1 g1 v rv => ?_⟩
          have hl1 := e1 _ _ hl
          split at g1
          · rename_i hz
            refine ⟨p, vs, v, rfl, rfl, hl1, by rw [sizeLine_eq, rl.len]; exact hz, ?_⟩
            have hin' : p ∈ (fo :: oo).flatten := by rw [List.flatten_cons]; exact List.mem_append_right _ hin
            have g2 : GS X.K W fo (.ok .nx (st.set i (.own (.list (xs ++ [d]))))) H1 oo D := g1
            refine g2 σ _ oo ((R.grow e1).change hs h5 (.lst upd_same ?_)) (Kp.upd hin)
            rw [hid_upd hin']
            exact (rl.mono (hid_mono _ e1)).app (.cons rv .nil)
          · exact g1.elim
      · exact g.elim
    · cases h
  | .expr e, C, φ, k, X, W, x, c, hk, hp, h => by
    unfold chkS at h
    split at h
    · simp only [Bool.and_eq_true, Bool.not_eq_true'] at h
      refine (ps_expr (okE e c h.1).low (swap_no h.2)).weak fun D σ H ⟨fo, oo, st, R, g⟩ => ?_
      unfold evS at g
      refine ⟨fo, oo, st, R, (GS.of R g).mono fun d H1 e0 e1 g1 v rv => ?_⟩
      have g2 : GS X.K W fo (.ok .nx st) H1 oo D := g1
      exact g2 σ H1 oo (R.grow e1) Kp.refl
    · cases h
  | .dput i kk e, C, φ, k, X, W, x, c, hk, hp, h => by
    unfold chkS at h
    split at h
    · simp only [Bool.and_eq_true, Bool.not_eq_true'] at h
      obtain ⟨⟨h1, h2, h3⟩, h4, h5⟩ := h
      refine (ps_dput c.hu1 (vis_of c h1) (okE kk c h2).low (okE e c h4).low (swap_sub h5)).weak fun D σ H ⟨fo, oo, st, R, g⟩ => ?_
      unfold evS at g
      refine ⟨fo, oo, st, R, (GS.of R g).mono fun d H1 e0 e1 g1 v rv => ?_⟩
      split at g1
      · rename_i ps hs
        obtain ⟨p, h6, h7, h8, n1, n2, hin⟩ := R.own_at hs
        refine ⟨.ref p, h7, fo, oo, st, R.grow e1, (GS.of (R.grow e1) g1).mono fun y H2 e2 e3 g2 w rw => ?_⟩
        have g3 : GS X.K W fo (if (isKey y && keysK ps && decide (ps.length < 16777216)) = true then .ok .nx (st.set i (.own (.dict (putD ps y d)))) else .bad) H2 oo D := g2
        split at g3
        · rename_i ok
          simp only [Bool.and_eq_true, decide_eq_true_eq] at ok
          obtain ⟨κ, rfl⟩ := isKey_of ok.1.1
          have e13 := e1.trans e3
          cases h8 with
          | dK hd rd =>
            rename_i kvs
            have hd2 := e13 _ _ hd
            have hin' : p ∈ (fo :: oo).flatten := by rw [List.flatten_cons]; exact List.mem_append_right _ hin
            have hw : w = kV κ := rep_kD rw
            subst hw
            refine ⟨p, _, rfl, DPut.k hd2 (by rw [sizeLine_eq, rd.len]; exact ok.2), ?_⟩
            refine g3 σ _ oo (((R.grow e1).grow e3).change hs h6 (.dK upd_same ?_)) (Kp.upd hin)
            rw [hid_upd hin']
            exact (rd.mono (hid_mono _ e13)).put (rv.mono (hid_mono _ e3))
        · exact g3.elim
      · exact g1.elim
    · cases h
  | .retO i, C, φ, k, X, W, x, c, hk, hp, h => by
    unfold chkS at h
    split at h
    · refine (ps_ret (vis_of c h)).weak fun D σ H ⟨fo, oo, st, R, g⟩ => ?_
      unfold evS at g
      split at g
      · rename_i d hs
        obtain ⟨p, h6, h7, h8, n1, n2, hin⟩ := R.own_at hs
        have g2 : GS X.K W fo (.ok (.ret d) st) H oo D := g
        refine ⟨.ref p, h7, g2 σ H oo R Kp.refl _ ⟨h8.see (by simpa using n1) hid_top, fun _ => .inr ⟨p, rfl, hin, h8.mono (hid_sub fun a z => ?_) fun o z => z⟩⟩⟩
        rw [List.flatten_cons, List.flatten_cons, List.flatten_nil, List.append_nil] at z
        rw [List.flatten_cons]
        rcases List.mem_append.mp z with z | z
        · rw [List.mem_singleton.mp z]
          exact List.mem_append_right _ hin
        · exact List.mem_append_left _ z
      · exact g.elim
    · cases h
  | .ret e, C, φ, k, X, W, x, c, hk, hp, h => by
    unfold chkS at h
    split at h
    · rw [Bool.and_eq_true, Bool.not_eq_true'] at h
      obtain ⟨h, hro⟩ := h
      rw [hk.2] at hro
      refine (ps_ret ((okE e c h).r fun i hi => ?_)).weak fun D σ H ⟨fo, oo, st, R, g⟩ => ?_
      · subst hi
        unfold chkE at h
        split at h
        · exact vis_of c h
        · cases h
      unfold evS at g
      refine ⟨fo, oo, st, R, (GS.of R g).mono fun d H1 e0 e1 g1 v rv => ?_⟩
      have g2 : GS X.K W fo (.ok (.ret d) st) H1 oo D := g1
      exact g2 σ H1 oo (R.grow e1) Kp.refl v ⟨rv, fun z => by rw [hro] at z; cases z⟩
    · cases h
  | .retN, C, φ, k, X, W, x, c, hk, hp, h => by
    unfold chkS at h
    split at h
    · refine ps_retN.weak fun D σ H ⟨fo, oo, st, R, g⟩ => ?_
      have g2 : GS X.K W fo (.ok (.ret .none) st) H oo D := by unfold evS at g; exact g
      exact g2 σ H oo R Kp.refl .non ⟨.non, fun _ => .inl rfl⟩
    · cases h
  | .ite d a b, C, φ, k, X, W, x, c, hk, hp, h => by
    unfold chkS at h
    split at h
    · simp only [Bool.and_eq_true] at h
      refine (ps_if (okE d c h.1).t (okSs a c hk hp h.2.1) (okSs b c hk hp h.2.2)).weak fun D σ H ⟨fo, oo, st, R, g⟩ => ?_
      unfold evS at g
      refine ⟨fo, oo, st, R, (GS.of R g).mono fun t H1 e0 e1 g1 => ?_⟩
      cases t with
      | true => exact iteT ⟨fo, oo, st, R.grow e1, g1⟩
      | false => exact iteF ⟨fo, oo, st, R.grow e1, g1⟩
    · cases h
  | .for t s b, C, φ, k, X, W, x, c, hk, hp, h => by
    unfold chkS at h
    split at h
    · simp only [Bool.and_eq_true] at h
      obtain ⟨h1, h2, h3⟩ := h
      obtain ⟨hi, hn⟩ := okI s c h1
      cases hf : itFz s with
      | false =>
        refine PS.weak (t := tNever) ps_never fun D σ H ⟨fo, oo, st, R, g⟩ => ?_
        unfold evS at g
        rw [hf] at g
        exact g
      | true =>
        rw [hf] at hi
        refine (ps_for hp c.calm hi (tg_pg c h2) (okSs b c hk hp h3) (folded_no hn)).weak fun D σ H ⟨fo, oo, st, R, g⟩ => for_core σ H ⟨fo, oo, st, R, ?_⟩
        unfold evS at g
        rw [hf] at g
        exact g
    · cases h
  | .while d b, C, φ, k, X, W, x, c, hk, hp, h => by
    unfold chkS at h
    split at h
    · simp only [Bool.and_eq_true] at h
      refine (ps_while hp (okE d c h.1).t (okSs b c hk hp h.2)).weak fun D σ H ⟨fo, oo, st, R, g⟩ => while_core (fu := fu) σ H ⟨fo, oo, st, R, ?_⟩
      unfold evS at g
      exact g
    · cases h
  | .brk, C, φ, k, X, W, x, c, hk, hp, h => by
    unfold chkS at h
    split at h
    · refine ps_break.weak fun D σ H ⟨fo, oo, st, R, g⟩ => ?_
      have g2 : GS X.K W fo (.ok .brk st) H oo D := by unfold evS at g; exact g
      exact g2 σ H oo R Kp.refl
    · cases h
  | .cnt, C, φ, k, X, W, x, c, hk, hp, h => by
    unfold chkS at h
    split at h
    · refine ps_continue.weak fun D σ H ⟨fo, oo, st, R, g⟩ => ?_
      have g2 : GS X.K W fo (.ok .cnt st) H oo D := by unfold evS at g; exact g
      exact g2 σ H oo R Kp.refl
    · cases h
  | .pass, C, φ, k, X, W, x, c, hk, hp, h => by
    unfold chkS at h
    split at h
    · refine ps_pass.weak fun D σ H ⟨fo, oo, st, R, g⟩ => ?_
      have g2 : GS X.K W fo (.ok .nx st) H oo D := by unfold evS at g; exact g
      exact g2 σ H oo R Kp.refl
    · cases h
  | .raise z, C, φ, k, X, W, x, c, hk, hp, h => by
    unfold chkS at h
    split at h
    · simp only [Bool.and_eq_true, decide_eq_true_eq] at h
      obtain ⟨h1, h2, h3⟩ := h
      subst h1
      obtain ⟨hm, hx⟩ := c.excs _ h2
      obtain ⟨g1, g2⟩ := glo_of c h3
      obtain ⟨q1, q2, q3, q4⟩ := He.exc_ok hx
      refine (ps_raise c.calm c.tk (pmk_own PySem.F.excBase_ValueError q1 hm q2 (raises_own q3 q4) g1 g2)).weak fun D σ H ⟨fo, oo, st, R, g⟩ => ?_
      unfold evS at g
      exact g σ H oo R Kp.refl
    · cases h
  | .frz i, C, φ, k, X, W, x, c, hk, hp, h => by
    unfold chkS at h
    cases h
theorem okSs : ∀ (s : Ss) {C : Ck} {φ : Nat → List D → Res D} {k : Nat} {X : Cx} {W : WX} {xs : List Stmt}, CxOk C φ k X W → (C.sc.kind = .function ∧ C.ro = RO.own) → PassesOwn (model X.prog X.w) X.A X.env X.xe → chkSs s C xs = true → PSs X xs (tSt X.K W (evSs φ fu s))
  | .nil, C, φ, k, X, W, xs, c, hk, hp, h => by
    unfold chkSs at h
    split at h
    · refine pss_nil.weak fun D σ H ⟨fo, oo, st, R, g⟩ => ?_
      have g2 : GS X.K W fo (.ok .nx st) H oo D := by unfold evSs at g; exact g
      exact g2 σ H oo R Kp.refl
    · cases h
  | .cons s r, C, φ, k, X, W, xs, c, hk, hp, h => by
    unfold chkSs at h
    split at h
    · rename_i i
      refine (okSs r c hk hp h).weak fun D σ H ⟨fo, oo, st, R, g⟩ => ?_
      unfold evSs evS at g
      split at g
      · rename_i d hs
        exact ⟨fo, _, _, R.frz hs, GS.kp g Kp.drop⟩
      · rename_i d hs
        exact ⟨fo, oo, st, R, g⟩
      · exact g.elim
    · split at h
      · rw [Bool.and_eq_true] at h
        refine (seq_ok (okS s c hk hp h.1) (okSs r c hk hp h.2)).weak fun D σ H ⟨fo, oo, st, R, g⟩ => ⟨fo, oo, st, R, ?_⟩
        unfold evSs at g
        exact g
      · cases h
end
end
end HF

set_option Elab.async false
set_option autoImplicit false
set_option linter.all false
set_option maxRecDepth 100000
set_option maxHeartbeats 4000000
/-! Functions. -/
namespace HF
open PySem PySem.Spec PyProof.Rows L2
theorem lookup_zip {x : Str} : ∀ {ps : List Str} {us : List Value}, us.length = ps.length → x ∈ ps → ∃ u, (ps.zip us).lookup x = some u
  | [], _, _, h => by cases h
  | p :: ps, [], hl, _ => by cases hl
  | p :: ps, u :: us, hl, h => by
    rw [List.zip_cons_cons, List.lookup_cons]
    cases e : x == p with
    | true => exact ⟨u, rfl⟩
    | false =>
      rcases List.mem_cons.mp h with z | z
      · subst z; simp at e
      · exact lookup_zip (by simpa using hl) z
theorem missing_none {ps : List Str} {us : List Value} (hl : us.length = ps.length) : (ps.filter fun n => ((ps.zip us).lookup n).isNone) = [] := by
  rw [List.filter_eq_nil_iff]
  intro x hx
  obtain ⟨u, e⟩ := lookup_zip hl hx
  rw [e]
  exact Bool.false_ne_true
theorem fm_congr {α β : Type} {f g : α → Option β} : ∀ {l : List α}, (∀ x ∈ l, f x = g x) → l.filterMap f = l.filterMap g
  | [], _ => rfl
  | x :: l, h => by
    rw [List.filterMap_cons, List.filterMap_cons, h x List.mem_cons_self, fm_congr fun y hy => h y (List.mem_cons_of_mem _ hy)]
theorem binds_all : ∀ {ps : List Str} {us : List Value}, us.length = ps.length → ps.Nodup → (ps.filterMap fun n => ((ps.zip us).lookup n).map (n, ·)) = ps.zip us
  | [], [], _, _ => rfl
  | p :: ps, [], hl, _ => by cases hl
  | [], _ :: _, hl, _ => by cases hl
  | p :: ps, u :: us, hl, nd => by
    obtain ⟨h1, h2⟩ := List.nodup_cons.mp nd
    rw [List.zip_cons_cons, List.filterMap_cons]
    have e0 : List.lookup p ((p, u) :: ps.zip us) = some u := by rw [List.lookup_cons]; simp
    rw [e0]
    show (p, u) :: _ = _
    congr 1
    refine (fm_congr fun x hx => ?_).trans (binds_all (ps := ps) (us := us) (by simpa using hl) h2)
    rw [List.lookup_cons]
    have : (x == p) = false := by
      rw [beq_eq_false_iff_ne]
      exact fun e => h1 (e ▸ hx)
    rw [this]
theorem bind_plain {fd : FuncData} {as : List Arg} {us : List Value} (hp : fd.params = ⟨[], as, none, [], [], none, []⟩) (hd : fd.defaults = .none) (hl : us.length = (as.map (·.arg)).length) (nd : (as.map (·.arg)).Nodup) : bindArgs fd ⟨us, []⟩ = pure ((as.map (·.arg)).zip us) := by
  have m := missing_none hl
  have b := binds_all hl nd
  unfold bindArgs
  have hs : seqItems? Value.none = pure Option.none := rfl
  simp only [hp, hd, hs]
  generalize as.map (·.arg) = ps at hl nd m b ⊢
  have hg : ¬ (us.length > ps.length) := by omega
  simp [hl, m, b]
/-- what the whole text has -/
structure Tx where
  defs : List (Fn × Stmt)
  nums : List (Str × Int)
  txts : List (Str × Str)
  excs : List Str
  own : List Nat := []
def Tx.T (t : Tx) : List Fn := t.defs.map (·.1)
def mkD (q : Fn × Stmt) : He.DefD := ⟨(q.1.name, none), q.1.name, q.1.name, defArgs q.2, defBody q.2, defScope q.2, [], []⟩
def Tx.fn (t : Tx) : List He.DefD := t.defs.map mkD
def Tx.fa (t : Tx) : List He.Fa := t.defs.map (fun q => .glo q.1.name) ++ (freeNames.map (fun x => .free x) ++ (t.nums.map (fun p => .int p.1 p.2) ++ (t.txts.map (fun p => .str p.1 p.2) ++ (t.excs.map (fun x => .glo x) ++ t.excs.map fun x => .exc x))))
def Tx.ck (t : Tx) (q : Fn × Stmt) : Ck where
  fns := t.defs.map fun q => (q.1.id, q.1.name)
  nums := t.nums
  txts := t.txts
  excs := t.excs
  sc := defScope q.2
  N := q.1.ns
  fn := fun _ => true
  ro := decide (q.1.id ∈ t.own)
  ownF := fun i => decide (i ∈ t.own)
def parB (ps : List Str) (p : Arguments) : Bool := match p with
  | ⟨[], as, none, [], [], none, []⟩ => decide (as.map (·.arg) = ps)
  | _ => false
def scB (N P : List Str) (sc : Scope) : Bool := (decide (sc.kind = .function) && (decide (sc.isCoroutine = false) && decide (sc.isGenerator = false))) && ((decide N.Nodup && decide (N.take P.length = P)) && ((P.all fun x => decide (sc.names.lookup x = some .local) || decide (sc.names.lookup x = some .cell)) && sc.names.all fun y => decide (y.2 ≠ .free)))
def Tx.okF (t : Tx) (q : Fn × Stmt) : Bool := (parB q.1.ps (defArgs q.2) && scB q.1.ns q.1.ps (defScope q.2)) && chkSs q.1.body (t.ck q) (defBody q.2)
def Tx.ok (t : Tx) : Bool := t.defs.all t.okF
theorem scB_ok {N P : List Str} {sc : Scope} (h : scB N P sc = true) : FnScope N P sc := by
  unfold scB at h
  simp only [Bool.and_eq_true, decide_eq_true_eq, List.all_eq_true, Bool.or_eq_true] at h
  obtain ⟨⟨h1, h2, h3⟩, ⟨h4, h5⟩, h6, h7⟩ := h
  exact ⟨h1, h2, h3, h4, h5, h6, h7⟩
theorem parB_ok {ps : List Str} {p : Arguments} (h : parB ps p = true) : ∃ as : List Arg, p = ⟨[], as, none, [], [], none, []⟩ ∧ as.map (·.arg) = ps := by
  unfold parB at h
  split at h
  · exact ⟨_, rfl, of_decide_eq_true h⟩
  · cases h
theorem start_ok {K : PySem.W.Frag} {fo : List Addr} {H : Hp} {N : List Str} {vs : List V} {ds : List D} (hf : ∀ p ∈ fo, ∃ o, H p = some o) (nd : fo.Nodup) (r : RepAll K (hid [fo] H) vs ds) (hl : ds.length ≤ N.length) :
    StR K fo (L2.start N vs) H (List.replicate N.length []) (start0 N.length ds) := by
  have hvl := r.len
  have hz : (List.replicate N.length ([] : List Addr)).flatten = [] := by
    rw [List.flatten_eq_nil_iff]
    exact fun l hl => List.eq_of_mem_replicate hl
  have hh : hid (fo :: List.replicate N.length []) H = hid [fo] H := by
    funext a
    unfold hid
    rw [List.flatten_cons, hz, List.append_nil, List.flatten_cons, List.flatten_nil, List.append_nil]
  refine ⟨?_, ?_, hf, by rw [hz, List.append_nil]; exact nd, fun i => ?_⟩
  · unfold L2.start start0
    simp [hvl]
  · unfold start0
    simp
    omega
  · rw [hh]
    by_cases hi : i < ds.length
    · have e1 : (start0 N.length ds)[i]? = some (.fz ds[i]) := by
        unfold start0
        rw [List.getElem?_append_left (by simpa using hi)]
        simp [hi]
      have e2 : (L2.start N vs)[i]? = some (some (vs[i]'(by omega))) := by
        unfold L2.start
        rw [List.getElem?_append_left (by simp; omega)]
        simp [hvl, hi]
      obtain ⟨v, h1, h2⟩ := r.get (i := i) (d := ds[i]) (by simp [hi])
      rw [e1, e2]
      refine ⟨by rw [List.getElem?_replicate, if_pos (by omega)], v, ?_, h2⟩
      rw [List.getElem?_eq_getElem (by omega)] at h1
      cases h1
      rfl
    · have e1 : (start0 N.length ds)[i]? = if i < N.length then some .no else none := by
        unfold start0
        rw [List.getElem?_append_right (by simpa using Nat.le_of_not_lt hi), List.getElem?_replicate]
        simp only [List.length_map]
        by_cases hn : i < N.length
        · rw [if_pos (by omega), if_pos hn]
        · rw [if_neg (by omega), if_neg hn]
      rw [e1]
      by_cases hn : i < N.length
      · rw [if_pos hn, List.getElem?_replicate, if_pos hn]
        rfl
      · rw [if_neg hn]
        trivial
/-- what the run up to the law gives -/
structure TopOk (t : Tx) (P : Program) (w : World) (K : PySem.W.Frag) (mg : Str → Option Value) (base : Heap) : Prop where
  fa : ∀ f ∈ t.fa, f.ok K = true
  fn : ∀ q ∈ t.defs, ∃ fd, FunD K q.1.name q.1.name (defArgs q.2) (defBody q.2) (defScope q.2) [] [] (He.ga K q.1.name) fd
  In : ∃ h, K.In h ∧ h.Ns mainGlobals mg
section
variable {t : Tx} {P : Program} {w : World} {K : PySem.W.Frag} {mg : Str → Option Value} {base : Heap} {fu : Nat}
theorem TopOk.mem_glo (q : Fn × Stmt) (h : q ∈ t.defs) : He.Fa.glo q.1.name ∈ t.fa := List.mem_append_left _ (List.mem_map.mpr ⟨q, h, rfl⟩)
theorem fn_binds {q : Fn × Stmt} {fd : FuncData} (ho : t.okF q = true) (F : FunD K q.1.name q.1.name (defArgs q.2) (defBody q.2) (defScope q.2) [] [] (He.ga K q.1.name) fd) :
    Binds K fd q.1.ps [] ∧ ∀ (s : Shared) (us : List Value), us.length = q.1.ps.length → BindsTo s fd ⟨us, []⟩ (q.1.ps.zip us) := by
  unfold Tx.okF at ho
  simp only [Bool.and_eq_true] at ho
  obtain ⟨⟨h1, h2⟩, h3⟩ := ho
  obtain ⟨as, e1, e2⟩ := parB_ok h1
  have S := scB_ok h2
  have nd : (as.map (·.arg)).Nodup := by rw [e2, ← S.pre]; exact S.nd.sublist (List.take_sublist _ _)
  refine ⟨F.bindsN fun kV doc pm an cdv ct us hl => ?_, F.bindsA fun kV doc pm an cdv ct us hl => ?_⟩
  · rw [← e2]
    exact bind_plain e1 rfl (by rw [e2]; exact hl) nd
  · rw [← e2]
    exact bind_plain e1 rfl (by rw [e2]; exact hl) nd
def Tx.at (t : Tx) (i : Nat) : Option (Fn × Stmt) := t.defs.find? fun q => i == q.1.id
theorem Tx.at_mem {i : Nat} {q : Fn × Stmt} (h : t.at i = some q) : q ∈ t.defs := List.mem_of_find?_eq_some h
theorem fns_lookup (i : Nat) : ∀ l : List (Fn × Stmt), (l.map fun q => (q.1.id, q.1.name)).lookup i = (l.find? fun q => i == q.1.id).map (·.1.name)
  | [] => rfl
  | q :: l => by
    rw [List.map_cons, List.lookup_cons, List.find?_cons]
    cases h : i == q.1.id with
    | true => rfl
    | false => exact fns_lookup i l
theorem T_find (i : Nat) : ∀ l : List (Fn × Stmt), (l.map (·.1)).find? (fun F => i == F.id) = (l.find? fun q => i == q.1.id).map (·.1)
  | [] => rfl
  | q :: l => by
    rw [List.map_cons, List.find?_cons, List.find?_cons]
    cases h : i == q.1.id with
    | true => rfl
    | false => exact T_find i l
def spX (b : Bool) (K : PySem.W.Frag) (g : List D → Res D) : Sp := match b with
  | true => spOfO K g
  | false => spOf K g
theorem fnOk_sp {P : Program} {w : World} {K : PySem.W.Frag} {mg : Str → Option Value} {base : Heap} {k : Nat} {f : Addr} {fd : FuncData} {ps : List Str} {sp sp' : Sp} (F : FnOk P w K mg base (L2.CX P w) k f fd ps sp) (h : ∀ vs H Q E, sp' vs H Q E → sp vs H Q E) : FnOk P w K mg base (L2.CX P w) k f fd ps sp' :=
  ⟨fun vs H Q E z => F.len vs H Q E (h _ _ _ _ z), fun A outer s H args us vs Q E hr he hb hv hs => F.run A outer s H args us vs Q E hr he hb hv (h _ _ _ _ hs)⟩
theorem hid_none {H : Hp} {fo : List Addr} (h : ∀ p ∈ fo, ∃ o, H p = some o) : ∀ p, H p = none → p ∉ [fo].flatten := fun p hp hm => by
  rw [List.flatten_cons, List.flatten_nil, List.append_nil] at hm
  obtain ⟨o, e⟩ := h p hm
  rw [hp] at e
  cases e
theorem spOfO_of {K : PySem.W.Frag} {g : List D → Res D} {vs : List V} {H : Hp} {Q : VK} {E : XK} (h : spOf K g vs H Q E) : spOfO K g vs H Q E := by
  obtain ⟨fo, ds, hf, r, z⟩ := h
  refine ⟨fo, ds, hf, r, ?_⟩
  revert z
  cases g ds with
  | ok d => exact fun z v H' e rn => z v H' e (RepN.rep (hid_none hf.2) rn)
  | exc c => exact fun z => z
  | bad => exact fun z => z
theorem spX_low {b : Bool} {K : PySem.W.Frag} {g : List D → Res D} {vs : List V} {H : Hp} {Q : VK} {E : XK} (h : spOf K g vs H Q E) : spX b K g vs H Q E := by
  cases b with
  | true => exact spOfO_of h
  | false => exact h
theorem spX_cases {b : Bool} {K : PySem.W.Frag} {g : List D → Res D} {vs : List V} {H : Hp} {Q : VK} {E : XK} (h : spX b K g vs H Q E) : ∃ fo ds, (fo.Nodup ∧ ∀ p ∈ fo, ∃ o, H p = some o) ∧ RepAll K (hid [fo] H) vs ds ∧ match g ds with
  | .ok d => ∀ v H', Same H H' → (if b = true then RepN K [fo] H H' v d else Rep K (hid [fo] H') v d) → Q v H'
  | .exc c => ∀ H', Same H H' → E (.ref (He.ga K c)) none H'
  | .bad => False := by
  cases b with
  | true => exact h
  | false => exact h
theorem fns_ok (top : TopOk t P w K mg base) (ok : t.ok = true) : ∀ (n i : Nat) (q : Fn × Stmt), t.at i = some q → ∀ fd, FunD K q.1.name q.1.name (defArgs q.2) (defBody q.2) (defScope q.2) [] [] (He.ga K q.1.name) fd →
    FnOk P w K mg base (L2.CX P w) n (He.ga K q.1.name) fd q.1.ps (spX (decide (i ∈ t.own)) K (run t.T fu n i)) := by
  obtain ⟨h, KX, G⟩ := top.In
  intro n
  induction n with
  | zero =>
    intro i q hq fd F
    refine ⟨fun vs H Q E z => ?_, fun A outer s H args us vs Q E _ _ _ _ z => ?_⟩
    · obtain ⟨fo, ds, _, _, z⟩ := spX_cases z
      exact z.elim
    · obtain ⟨fo, ds, _, _, z⟩ := spX_cases z
      exact z.elim
  | succ n ih =>
    intro i q hq fd F
    have hm := Tx.at_mem hq
    have ho := List.all_eq_true.mp ok q hm
    have ho' := ho
    unfold Tx.okF at ho
    simp only [Bool.and_eq_true] at ho
    obtain ⟨⟨h1, h2⟩, h3⟩ := ho
    have S := scB_ok h2
    have hT : findF t.T i = some q.1 := by
      unfold findF Tx.T
      rw [T_find, show t.defs.find? (fun q => i == q.1.id) = some q from hq]
      rfl
    have hpn : q.1.ps.length ≤ q.1.ns.length := by
      have := congrArg List.length S.pre
      rw [List.length_take] at this
      omega
    refine F.ok S (fun vs H Q E z => ?_) fun cdv A outer s H vs Q E hr z => ?_
    · obtain ⟨fo, ds, _, r, z⟩ := spX_cases z
      unfold run at z
      rw [hT] at z
      rw [r.len]
      dsimp only at z
      by_cases hd : ds.length = q.1.ps.length
      · exact hd
      · rw [if_neg hd] at z
        exact z.elim
    · obtain ⟨fo, ds, hf, r, z⟩ := spX_cases z
      unfold run at z
      rw [hT] at z
      dsimp only at z
      by_cases hd : ds.length = q.1.ps.length
      · rw [if_pos hd] at z
        have cx : CxOk (t.ck q) (run t.T fu n) n (cxOf (L2.CX P w) P w K mg base q.1.ns q.1.name (defScope q.2) (He.ga K q.1.name) cdv A outer s H E) (fun cls d _ H => E cls d H) := {
          nN := rfl
          nd := S.nd
          sc := rfl
          fn := rfl
          calm := rfl
          room := hr
          tk := takes_of rfl rfl rfl rfl
          calls := fun j x hx => by
            have hx' : (t.defs.map fun q => (q.1.id, q.1.name)).lookup j = some x := hx
            rw [fns_lookup] at hx'
            cases hj : t.defs.find? (fun q => j == q.1.id) with
            | none => rw [hj] at hx'; cases hx'
            | some q' =>
              rw [hj] at hx'
              cases hx'
              have hm' := List.mem_of_find?_eq_some hj
              obtain ⟨fd', F'⟩ := top.fn q' hm'
              exact ⟨_, fd', q'.1.ps, He.glo_ok KX G (top.fa _ (TopOk.mem_glo q' hm')), F'.kp, (fn_binds (List.all_eq_true.mp ok q' hm') F').1, fnOk_sp (ih j q' hj fd' F') fun vs H Q E z => spX_low z⟩
          callsO := fun j x hx ho => by
            have hx' : (t.defs.map fun q => (q.1.id, q.1.name)).lookup j = some x := hx
            rw [fns_lookup] at hx'
            cases hj : t.defs.find? (fun q => j == q.1.id) with
            | none => rw [hj] at hx'; cases hx'
            | some q' =>
              rw [hj] at hx'
              cases hx'
              have hm' := List.mem_of_find?_eq_some hj
              obtain ⟨fd', F'⟩ := top.fn q' hm'
              have z := ih j q' hj fd' F'
              rw [show decide (j ∈ t.own) = true from ho] at z
              exact ⟨_, fd', q'.1.ps, He.glo_ok KX G (top.fa _ (TopOk.mem_glo q' hm')), F'.kp, (fn_binds (List.all_eq_true.mp ok q' hm') F').1, z⟩
          nums := fun p hp => He.int_ok KX G (top.fa _ (List.mem_append_right _ (List.mem_append_right _ (List.mem_append_left _ (List.mem_map.mpr ⟨p, hp, rfl⟩)))))
          txts := fun p hp => He.str_ok KX G (top.fa _ (List.mem_append_right _ (List.mem_append_right _ (List.mem_append_right _ (List.mem_append_left _ (List.mem_map.mpr ⟨p, hp, rfl⟩))))))
          free := fun x hx => He.free_ok KX G (top.fa _ (List.mem_append_right _ (List.mem_append_left _ (List.mem_map.mpr ⟨x, hx, rfl⟩))))
          excs := fun x hx => ⟨He.glo_ok KX G (top.fa _ (List.mem_append_right _ (List.mem_append_right _ (List.mem_append_right _ (List.mem_append_right _ (List.mem_append_left _ (List.mem_map.mpr ⟨x, hx, rfl⟩))))))),
            top.fa _ (List.mem_append_right _ (List.mem_append_right _ (List.mem_append_right _ (List.mem_append_right _ (List.mem_append_right _ (List.mem_map.mpr ⟨x, hx, rfl⟩))))))⟩ }
        have hid : i = q.1.id := by simpa using List.find?_some (show t.defs.find? (fun q => i == q.1.id) = some q from hq)
        letI : RO := ⟨decide (q.1.id ∈ t.own)⟩
        refine ⟨_, okSs (fu := fu) q.1.body cx ⟨S.kind, rfl⟩ (passes_of rfl) h3, fo, List.replicate q.1.ns.length [], start0 q.1.ns.length ds, start_ok hf.2 hf.1 r (by omega), ?_⟩
        have hz : ∀ p ∈ (List.replicate q.1.ns.length ([] : List Addr)).flatten, H p = none := fun p hp => by
          rw [List.flatten_eq_nil_iff.mpr fun l hl => List.eq_of_mem_replicate hl] at hp
          cases hp
        revert z
        cases evSs (run t.T fu n) fu q.1.body (start0 q.1.ns.length ds) with
        | bad => exact fun z => z
        | exc c ρ => exact fun z σ' H' oo' R k => z H' (k H (Same.refl _) hz).1
        | ok fl ρ =>
          cases fl with
          | nx =>
            refine fun z σ' H' oo' R k => z .non H' (k H (Same.refl _) hz).1 ?_
            split
            · exact .old rfl .non
            · exact .non
          | ret d =>
            refine fun z σ' H' oo' R k v rv => z v H' (k H (Same.refl _) hz).1 ?_
            split
            · rename_i ho
              rw [hid] at ho
              rcases rv.2 ho with hf | ⟨p, e1, e2, e3⟩
              · exact .old hf rv.1
              · subst e1
                exact .new ((k H (Same.refl _) hz).2 p e2) e3
            · exact rv.1
          | brk => exact fun z => z.elim
          | cnt => exact fun z => z.elim
      · rw [if_neg hd] at z
        exact z.elim
/-- facts by the head -/
theorem top_of {h : Heap} (KX : K.In h) (G : h.Ns mainGlobals mg) (c : He.SaysD t.fa t.fn K) : TopOk t P w K mg base where
  fa := fun f hf => by
    have c1 := (He.ba (show ((t.fa.all fun f => f.ok K) && t.fn.all fun d => d.ok K) = true from congrArg (fun z : He.AlD => z.1) c)).1
    exact List.all_eq_true.mp c1 f hf
  fn := fun q hq => by
    obtain ⟨i, hi⟩ := List.getElem?_of_mem hq
    exact c.def_ i (d := mkD q) (by unfold Tx.fn; rw [List.getElem?_map, hi]; rfl)
  In := ⟨h, KX, G⟩
theorem law_go {h : Heap} {f : Addr} {i n : Nat} {q : Fn × Stmt} {x : Str} (ok : t.ok = true) (hq : t.at i = some q) (hx : q.1.ps = [x]) (KX : K.In h) (G : h.Ns mainGlobals mg) (hmg : mg q.1.name = some (.ref f)) (c : He.SaysD t.fa t.fn K)
    (pure : ∀ ns : List Int, ns.length ≤ 63 → run t.T fu n i [scrD ns] = .ok (.bool true)) :
    ∃ (K : PySem.W.Frag) (fd : FuncData) (sp : Sp), K.In h ∧ (∀ (s : Shared) (u : Value), BindsTo s fd ⟨[u], []⟩ [(x, u)]) ∧
        (∀ (H : Hp) (a : Addr) (ns : List Int), ns.length ≤ 63 → Only H → SqL K H a (ns.map V.int) → sp [.ref a] H (fun v _ => v = .bl true) fun _ _ _ => False) ∧
        ∀ base : Heap, K.In base → base.Ns mainGlobals mg → FnOk P w K mg base (L2.CX P w) n f fd [x] sp := by
  have top0 : TopOk t P w K mg h := top_of KX G c
  obtain ⟨fd, F⟩ := top0.fn q (Tx.at_mem hq)
  have e := hmg.symm.trans (He.glo_ok KX G (top0.fa _ (TopOk.mem_glo q (Tx.at_mem hq))))
  cases e
  have b := (fn_binds (List.all_eq_true.mp ok q (Tx.at_mem hq)) F).2
  rw [hx] at b
  refine ⟨K, fd, spOf K (run t.T fu n i), KX, fun s u => b s [u] rfl, fun H a ns hl _ hS => ?_, fun base _ _ => ?_⟩
  · refine ⟨[], [scrD ns], ⟨.nil, fun p hp => by cases hp⟩, .cons (.scr ?_) .nil, ?_⟩
    · have e : hid [[]] H = H := by
        funext a
        unfold hid
        rw [if_neg (by simp)]
      rw [e]
      exact hS
    · rw [pure ns hl]
      intro v H' _ r
      cases r
      rfl
  · have z := fnOk_sp (sp' := spOf K (run t.T fu n i)) (fns_ok (P := P) (w := w) (fu := fu) (base := base) (top_of KX G c) ok n i q hq fd F) fun vs H Q E z => spX_low z
    rw [hx] at z
    exact z
end
end HF

set_option Elab.async false
set_option autoImplicit false
set_option linter.all false
set_option maxRecDepth 100000
set_option maxHeartbeats 4000000
/-! The end. -/
namespace HF
open PySem PySem.Spec PyProof.Rows L2
def CXA (P : Program) : CXT := fun outer H s E e s' => ∃ w : World, L2.CX P w outer H s E e s'
theorem fn_any {P : Program} {w : World} {K : PySem.W.Frag} {mg : Str → Option Value} {base : Heap} {k : Nat} {f : Addr} {fd : FuncData} {ps : List Str} {sp : Sp} (F : FnOk P w K mg base (L2.CX P w) k f fd ps sp) : FnOk P w K mg base (CXA P) k f fd ps sp :=
  ⟨F.len, fun A outer s H args us vs Q E hr he hb hv hs => codeAny_mono (F.run A outer s H args us vs Q E hr he hb hv hs) fun r s' hq => by
    cases r with
    | error e => exact ⟨w, hq⟩
    | ok fl => cases fl <;> exact hq⟩
theorem noEnd {P : Program} (H : Hp) (s : Shared) (e : Value) (s' : Shared) : CXA P [] H s (fun _ _ _ => False) e s' → False := fun ⟨_, _, _, _, _, _, _, _, _, _, _, _, _, z⟩ => z
theorem law_end {t : Tx} {P : Program} {w : World} {K : PySem.W.Frag} {mg : Str → Option Value} {fu : Nat} {h : Heap} {f : Addr} {i n : Nat} {q : Fn × Stmt} {x : Str} (ok : t.ok = true) (hq : t.at i = some q) (hx : q.1.ps = [x]) (KX : K.In h) (G : h.Ns mainGlobals mg) (hmg : mg q.1.name = some (.ref f)) (c : He.SaysD t.fa t.fn K)
    (pure : ∀ ns : List Int, ns.length ≤ 63 → run t.T fu n i [scrD ns] = .ok (.bool true)) :
    ∃ (K : PySem.W.Frag) (fd : FuncData) (sp : Sp), K.In h ∧ (∀ (s : Shared) (u : Value), BindsTo s fd ⟨[u], []⟩ [(x, u)]) ∧
        (∀ (H : Hp) (a : Addr) (ns : List Int), ns.length ≤ 63 → Only H → SqL K H a (ns.map V.int) → sp [.ref a] H (fun v _ => v = .bl true) fun _ _ _ => False) ∧
        ∀ base : Heap, K.In base → base.Ns mainGlobals mg → FnOk P w K mg base (CXA P) n f fd [x] sp := by
  obtain ⟨K', fd, sp, a, b, c', d⟩ := law_go (P := P) (w := w) (fu := fu) ok hq hx KX G hmg c pure
  exact ⟨K', fd, sp, a, b, c', fun base h1 h2 => fn_any (d base h1 h2)⟩
end HF

set_option Elab.async false
set_option autoImplicit false
set_option linter.all false
set_option maxRecDepth 100000
set_option maxHeartbeats 4000000
/-! Reckoning: steps, and the draw. -/
namespace HF
open PySem PySem.Spec PyProof.Rows L2
theorem call_eq {T : List Fn} {fu n i : Nat} {ds : List D} {F : Fn} (h : findF T i = some F) (hl : ds.length = F.ps.length) : run T fu (n + 1) i ds = retOf (evSs (run T fu n) fu F.body (start0 F.ns.length ds)) := by
  show (match findF T i with
    | some F => if ds.length = F.ps.length then retOf (evSs (run T fu n) fu F.body (start0 F.ns.length ds)) else .bad
    | none => .bad) = _
  rw [h]
  exact if_pos hl
section
variable {φ : Nat → List D → Res D} {fu : Nat} {σ τ : List SV} {r : Ss} {s : S}
theorem st_seq (h : evS φ fu s σ = .ok .nx τ) : evSs φ fu (.cons s r) σ = evSs φ fu r τ := by
  show thenS (evS φ fu s σ) _ = _
  rw [h]
  rfl
theorem st_fin {d : D} {ρ : List SV} (h : evS φ fu s σ = .ok (.ret d) ρ) : evSs φ fu (.cons s r) σ = .ok (.ret d) ρ := by
  show thenS (evS φ fu s σ) _ = _
  rw [h]
  rfl
theorem st_exc {c : Str} {ρ : List SV} (h : evS φ fu s σ = .exc c ρ) : evSs φ fu (.cons s r) σ = .exc c ρ := by
  show thenS (evS φ fu s σ) _ = _
  rw [h]
  rfl
theorem st_set {i : Nat} {e : E} {d : D} (h : ev φ e σ = .ok d) : evS φ fu (.set i e) σ = .ok .nx (σ.set i (.fz d)) := by
  show SR.of (ev φ e σ) σ _ = _
  rw [h]
  rfl
theorem st_setO {i : Nat} {e : E} {d : D} (h : ev φ e σ = .ok d) (ho : ownable d = true) : evS φ fu (.setO i e) σ = .ok .nx (σ.set i (.own d)) := by
  show SR.of (ev φ e σ) σ (fun d => if ownable d = true then _ else _) = _
  rw [h]
  show (if ownable d = true then _ else _) = _
  rw [if_pos ho]
theorem st_ifT {c : E} {a b : Ss} (h : ev φ c σ = .ok (.bool true)) : evS φ fu (.ite c a b) σ = evSs φ fu a σ := by
  show SR.of (bOf (ev φ c σ)) σ _ = _
  rw [h]
  rfl
theorem st_ifF {c : E} {a b : Ss} (h : ev φ c σ = .ok (.bool false)) : evS φ fu (.ite c a b) σ = evSs φ fu b σ := by
  show SR.of (bOf (ev φ c σ)) σ _ = _
  rw [h]
  rfl
theorem st_if0 {c : E} {a : Ss} (h : ev φ c σ = .ok (.bool false)) : evS φ fu (.ite c a .nil) σ = .ok .nx σ := (st_ifF h).trans rfl
theorem st_ret {e : E} {d : D} (h : use σ e (ev φ e σ) = .ok d) : evS φ fu (.ret e) σ = .ok (.ret d) σ := by
  show SR.of (use σ e (ev φ e σ)) σ _ = _
  rw [h]
  rfl
end
theorem wh_step {c : List SV → Res Bool} {b : List SV → SR} {n : Nat} {σ ρ : List SV} (h : c σ = .ok true) (h2 : b σ = .ok .nx ρ) : whileL c b (n + 1) σ = whileL c b n ρ := by
  conv => lhs; unfold whileL
  rw [h]
  simp only [SR.of, if_true, h2]
theorem wh_end {c : List SV → Res Bool} {b : List SV → SR} {n : Nat} {σ : List SV} (h : c σ = .ok false) : whileL c b (n + 1) σ = .ok .nx σ := by
  conv => lhs; unfold whileL
  rw [h]
  rfl
def b_rest : Ss := .cons (.set 5 (.bin .fdiv (.loc 5) (.int 1000000)))
      (.cons (.set 4 (.bin .sub (.loc 4) (.int 1)))
      .nil)
def c_rest : E := .and (.cmp .Gt (.loc 5) (.int 0)) (.cmp .Gt (.loc 4) (.int 0))
def b_tail : Ss := (.cons (.set 3 (.bin .mod (.bin .add (.bin .mul (.bin .mod (.loc 3) (.int 2147483563)) (.int 69069)) (.bin .mul (.int 104723) (.bin .add (.loc 1) (.int 1)))) (.int 2147483563)))
      (.cons (.set 3 (.bin .mod (.bin .add (.bin .mul (.loc 3) (.loc 3)) (.bin .fdiv (.loc 3) (.int 3))) (.int 2147483399)))
      (.cons (.ret (.bin .mod (.bin .fdiv (.bin .mod (.bin .add (.bin .mul (.loc 3) (.loc 3)) (.bin .fdiv (.loc 3) (.int 7))) (.int 2147483647)) (.int 11)) (.loc 2)))
      .nil)))
def b_deep : Ss := (.cons (.set 5 (.bin .fdiv (.loc 3) (.bin .pow (.int 10) (.int 18))))
      (.cons (.while c_rest b_rest)
      (.cons (.ite (.cmp .Gt (.loc 5) (.int 0))
      (.cons (.ret (.bin .mod (.bin .mod (.loc 5) (.int 1000000)) (.loc 2)))
      .nil)
      .nil)
      .nil)))
def b_cell : Ss := (.cons (.set 3 (.ix (.loc 0) (.bin .mod (.loc 1) (.bi .len (.cons (.loc 0) .nil)))))
      (.cons (.set 4 (.bin .fdiv (.loc 1) (.bi .len (.cons (.loc 0) .nil))))
      (.cons (.ite (.and (.cmp .GtE (.loc 3) (.bin .pow (.int 10) (.int 18))) (.cmp .Lt (.loc 4) (.int 60)))
      b_deep
      .nil)
      (.cons (.set 3 (.bin .add (.loc 3) (.bin .mul (.int 6553) (.bin .fdiv (.loc 1) (.bi .len (.cons (.loc 0) .nil))))))
      .nil))))
def b_drawn : Ss := (.cons (.set 3 (.bin .mul (.int 7) (.loc 1)))
      (.cons (.ite (.cmp .NotEq (.loc 0) (.lst .nil))
      b_cell
      .nil)
      b_tail))
def f_drawn : Fn := ⟨1001, "_law_drawn", ["_law_script", "_law_k", "_law_many"], ["_law_script", "_law_k", "_law_many", "_law_cell", "_law_turn", "_law_rest"], b_drawn⟩
section
variable (φ : Nat → List D → Res D) (fu : Nat)
theorem cmul_lit {i j : Int} (h : -18446744073709551616 < j ∧ j < 18446744073709551616) : cmulB i j = true := by
  unfold cmulB
  simp [h]
theorem cmul_lit' {i j : Int} (h : -18446744073709551616 < i ∧ i < 18446744073709551616) : cmulB i j = true := by
  unfold cmulB
  simp [h]
theorem tail_ok (S : D) (k m c : Int) (x4 x5 : SV) (hm : 0 < m) : ∃ d, 0 ≤ d ∧ d < m ∧ ∃ ρ, evSs φ fu b_tail [.fz S, .fz (.int k), .fz (.int m), .fz (.int c), x4, x5] = .ok (.ret (.int d)) ρ := by
  have e1 : ∃ c1 : Int, (0 ≤ c1 ∧ c1 < 2147483563) ∧ ev φ (.bin .mod (.bin .add (.bin .mul (.bin .mod (.loc 3) (.int 2147483563)) (.int 69069)) (.bin .mul (.int 104723) (.bin .add (.loc 1) (.int 1)))) (.int 2147483563)) [.fz S, .fz (.int k), .fz (.int m), .fz (.int c), x4, x5] = .ok (.int c1) := by
    refine ⟨(c % 2147483563 * 69069 + 104723 * (k + 1)) % 2147483563, ⟨Int.emod_nonneg _ (by decide), Int.emod_lt_of_pos _ (by decide)⟩, ?_⟩
    simp [ev, use, getF, dBin, cmul_lit (i := c % 2147483563) (j := 69069) (by decide), cmul_lit' (i := 104723) (j := k + 1) (by decide)]
  obtain ⟨c1, h1, e1⟩ := e1
  have e2 : ∃ c2 : Int, (0 ≤ c2 ∧ c2 < 2147483399) ∧ ev φ (.bin .mod (.bin .add (.bin .mul (.loc 3) (.loc 3)) (.bin .fdiv (.loc 3) (.int 3))) (.int 2147483399)) [.fz S, .fz (.int k), .fz (.int m), .fz (.int c1), x4, x5] = .ok (.int c2) := by
    refine ⟨(c1 * c1 + c1 / 3) % 2147483399, ⟨Int.emod_nonneg _ (by decide), Int.emod_lt_of_pos _ (by decide)⟩, ?_⟩
    simp [ev, use, getF, dBin, cmul_lit (i := c1) (j := c1) (by omega)]
  obtain ⟨c2, h2, e2⟩ := e2
  have e3 : ∃ d : Int, (0 ≤ d ∧ d < m) ∧ ev φ (.bin .mod (.bin .fdiv (.bin .mod (.bin .add (.bin .mul (.loc 3) (.loc 3)) (.bin .fdiv (.loc 3) (.int 7))) (.int 2147483647)) (.int 11)) (.loc 2)) [.fz S, .fz (.int k), .fz (.int m), .fz (.int c2), x4, x5] = .ok (.int d) := by
    refine ⟨(c2 * c2 + c2 / 7) % 2147483647 / 11 % m, ⟨Int.emod_nonneg _ (by omega), Int.emod_lt_of_pos _ hm⟩, ?_⟩
    simp [ev, use, getF, dBin, cmul_lit (i := c2) (j := c2) (by omega), hm]
  obtain ⟨d, h3, e3⟩ := e3
  refine ⟨d, h3.1, h3.2, [.fz S, .fz (.int k), .fz (.int m), .fz (.int c2), x4, x5], ?_⟩
  exact (st_seq (st_set e1)).trans ((st_seq (st_set e2)).trans (st_fin (st_ret e3)))
theorem rest_ok (S : D) (k m c : Int) : ∀ (t fu' : Nat) (r : Int), t < fu' → ∃ r' t' : Int, 0 ≤ t' ∧ whileL (fun τ => bOf (ev φ c_rest τ)) (fun τ => evSs φ fu b_rest τ) fu' [.fz S, .fz (.int k), .fz (.int m), .fz (.int c), .fz (.int t), .fz (.int r)] =
    .ok .nx [.fz S, .fz (.int k), .fz (.int m), .fz (.int c), .fz (.int t'), .fz (.int r')] := by
  intro t
  induction t with
  | zero =>
    intro fu' r hf
    obtain ⟨n, rfl⟩ : ∃ n, fu' = n + 1 := ⟨fu' - 1, by omega⟩
    refine ⟨r, 0, Int.le_refl _, ?_⟩
    unfold whileL
    have : bOf (ev φ c_rest [.fz S, .fz (.int k), .fz (.int m), .fz (.int c), .fz (.int (0 : Nat)), .fz (.int r)]) = .ok false := by
      by_cases hr : 0 < r <;> simp [c_rest, ev, use, getF, dCmp, bOf, hr]
    rw [this]
    rfl
  | succ t ih =>
    intro fu' r hf
    obtain ⟨n, rfl⟩ : ∃ n, fu' = n + 1 := ⟨fu' - 1, by omega⟩
    by_cases hr : 0 < r
    · have h1 : bOf (ev φ c_rest [.fz S, .fz (.int k), .fz (.int m), .fz (.int c), .fz (.int (t + 1 : Nat)), .fz (.int r)]) = .ok true := by
        have : (0 : Int) < (t + 1 : Nat) := by omega
        simp [c_rest, ev, use, getF, dCmp, bOf, hr, this]
      have h2 : evSs φ fu b_rest [.fz S, .fz (.int k), .fz (.int m), .fz (.int c), .fz (.int (t + 1 : Nat)), .fz (.int r)] = .ok .nx [.fz S, .fz (.int k), .fz (.int m), .fz (.int c), .fz (.int (t : Nat)), .fz (.int (r / 1000000))] := by
        have e1 : ev φ (.bin .fdiv (.loc 5) (.int 1000000)) [.fz S, .fz (.int k), .fz (.int m), .fz (.int c), .fz (.int (t + 1 : Nat)), .fz (.int r)] = .ok (.int (r / 1000000)) := by
          simp [ev, use, getF, dBin]
        have e2 : ev φ (.bin .sub (.loc 4) (.int 1)) [.fz S, .fz (.int k), .fz (.int m), .fz (.int c), .fz (.int (t + 1 : Nat)), .fz (.int (r / 1000000))] = .ok (.int (t : Nat)) := by
          simp [ev, use, getF, dBin]
        exact (st_seq (st_set e1)).trans ((st_seq (st_set e2)).trans rfl)
      obtain ⟨r', t', h3, h4⟩ := ih n (r / 1000000) (by omega)
      refine ⟨r', t', h3, ?_⟩
      rw [wh_step h1 h2]
      exact h4
    · refine ⟨r, (t + 1 : Nat), by omega, ?_⟩
      unfold whileL
      have : bOf (ev φ c_rest [.fz S, .fz (.int k), .fz (.int m), .fz (.int c), .fz (.int (t + 1 : Nat)), .fz (.int r)]) = .ok false := by
        simp [c_rest, ev, use, getF, dCmp, bOf, hr]
      rw [this]
      rfl
theorem scr_get (ns : List Int) (k : Int) (h : ns ≠ []) : ∃ c : Int, dIx (scrD ns) (.int (k % (ns.length : Int))) = .ok (.int c) := by
  have hl : 0 < ns.length := List.length_pos_iff.mpr h
  have h0 : 0 ≤ k % (ns.length : Int) := Int.emod_nonneg _ (by omega)
  have h1 : k % (ns.length : Int) < ns.length := Int.emod_lt_of_pos _ (by omega)
  obtain ⟨j, hj⟩ : ∃ j : Nat, k % (ns.length : Int) = j := ⟨(k % (ns.length : Int)).toNat, by omega⟩
  have hjl : j < ns.length := by omega
  refine ⟨ns[j], ?_⟩
  rw [hj]
  show (match atI (ns.map PyData.int) (j : Int) with
    | some d => Res.ok d
    | none => .bad) = _
  rw [atI_nat (j := j) (v := .int ns[j]) (by simp [hjl])]
theorem scr_ne (ns : List Int) : dCmp .NotEq (scrD ns) (.list []) = .ok (decide (ns ≠ [])) := by
  cases ns with
  | nil => rfl
  | cons a l => rfl
theorem drawn_ok (hf : 60 ≤ fu) (ns : List Int) (hn63 : ns.length ≤ 63) (k m : Int) (hk : 0 ≤ k) (hm : 0 < m) : ∃ d, 0 ≤ d ∧ d < m ∧ retOf (evSs φ fu b_drawn (start0 6 [scrD ns, .int k, .int m])) = .ok (.int d) := by
  have fin : ∀ c x4 x5, ∃ d, 0 ≤ d ∧ d < m ∧ retOf (evSs φ fu b_tail [.fz (scrD ns), .fz (.int k), .fz (.int m), .fz (.int c), x4, x5]) = .ok (.int d) := fun c x4 x5 => by
    obtain ⟨d, h1, h2, ρ, h3⟩ := tail_ok φ fu (scrD ns) k m c x4 x5 hm
    exact ⟨d, h1, h2, by rw [h3]; rfl⟩
  have e1 : ev φ (.bin .mul (.int 7) (.loc 1)) [.fz (scrD ns), .fz (.int k), .fz (.int m), .no, .no, .no] = .ok (.int (7 * k)) := by
    simp [ev, use, getF, dBin, cmul_lit' (i := 7) (j := k) (by decide)]
  have s0 : start0 6 [scrD ns, .int k, .int m] = [.fz (scrD ns), .fz (.int k), .fz (.int m), .no, .no, .no] := rfl
  rw [s0]
  unfold b_drawn
  rw [st_seq (st_set e1)]
  have ec : ev φ (.cmp .NotEq (.loc 0) (.lst .nil)) [.fz (scrD ns), .fz (.int k), .fz (.int m), .fz (.int (7 * k)), .no, .no] = .ok (.bool (decide (ns ≠ []))) := by
    show (do let x ← Res.ok (scrD ns); let y ← Res.ok (PyData.list []); let c ← dCmp .NotEq x y; Res.ok (PyData.bool c)) = _
    simp only [Res.ok_bind]
    rw [scr_ne]
    rfl
  by_cases hn : ns = []
  · rw [decide_eq_false (by simpa using hn)] at ec
    have := st_seq (r := b_tail) (st_if0 (fu := fu) (a := b_cell) ec)
    show ∃ d, 0 ≤ d ∧ d < m ∧ retOf (evSs φ fu _ [.fz (scrD ns), .fz (.int k), .fz (.int m), .fz (.int (7 * k)), .no, .no]) = .ok (.int d)
    rw [this]
    exact fin _ _ _
  · rw [decide_eq_true hn] at ec
    have hl : 0 < ns.length := List.length_pos_iff.mpr hn
    obtain ⟨c, hc⟩ := scr_get ns k hn
    have elen : ∀ x3 x4 x5, ev φ (.bi .len (.cons (.loc 0) .nil)) [.fz (scrD ns), .fz (.int k), .fz (.int m), x3, x4, x5] = .ok (.int ns.length) := fun x3 x4 x5 => by
      show Res.ok (PyData.int ((ns.map PyData.int).length : Nat)) = _
      rw [List.length_map]
    have emod : ∀ x3 x4 x5, ev φ (.bin .mod (.loc 1) (.bi .len (.cons (.loc 0) .nil))) [.fz (scrD ns), .fz (.int k), .fz (.int m), x3, x4, x5] = .ok (.int (k % ns.length)) := fun x3 x4 x5 => by
      show (do let x ← Res.ok (PyData.int k); let y ← ev φ (.bi .len (.cons (.loc 0) .nil)) [.fz (scrD ns), .fz (.int k), .fz (.int m), x3, x4, x5]; dBin .mod x y) = _
      rw [elen]
      show (if 0 < (ns.length : Int) then Res.ok (PyData.int (k % ns.length)) else .bad) = _
      rw [if_pos (by omega)]
    have ediv : ∀ x3 x4 x5, ev φ (.bin .fdiv (.loc 1) (.bi .len (.cons (.loc 0) .nil))) [.fz (scrD ns), .fz (.int k), .fz (.int m), x3, x4, x5] = .ok (.int (k / ns.length)) := fun x3 x4 x5 => by
      show (do let x ← Res.ok (PyData.int k); let y ← ev φ (.bi .len (.cons (.loc 0) .nil)) [.fz (scrD ns), .fz (.int k), .fz (.int m), x3, x4, x5]; dBin .fdiv x y) = _
      rw [elen]
      show (if 0 < (ns.length : Int) ∧ (ns.length : Int).natAbs < 2 ^ 100 then Res.ok (PyData.int (k / ns.length)) else .bad) = _
      rw [if_pos ⟨by omega, by
        have : (ns.length : Int).natAbs = ns.length := by simp
        rw [this]
        exact Nat.lt_of_le_of_lt hn63 (by decide)⟩]
    have ix : ev φ (.ix (.loc 0) (.bin .mod (.loc 1) (.bi .len (.cons (.loc 0) .nil)))) [.fz (scrD ns), .fz (.int k), .fz (.int m), .fz (.int (7 * k)), .no, .no] = .ok (.int c) := by
      show (do let x ← Res.ok (scrD ns); let y ← ev φ (.bin .mod (.loc 1) (.bi .len (.cons (.loc 0) .nil))) [.fz (scrD ns), .fz (.int k), .fz (.int m), .fz (.int (7 * k)), .no, .no]; dIx x y) = _
      rw [emod]
      exact hc
    have h3 := ediv (.fz (.int c)) .no .no
    have last : ∀ x4 x5, ∃ c', evSs φ fu (.cons (.set 3 (.bin .add (.loc 3) (.bin .mul (.int 6553) (.bin .fdiv (.loc 1) (.bi .len (.cons (.loc 0) .nil)))))) .nil) [.fz (scrD ns), .fz (.int k), .fz (.int m), .fz (.int c), x4, x5] = .ok .nx [.fz (scrD ns), .fz (.int k), .fz (.int m), .fz (.int c'), x4, x5] := fun x4 x5 => by
      have e5 : ev φ (.bin .add (.loc 3) (.bin .mul (.int 6553) (.bin .fdiv (.loc 1) (.bi .len (.cons (.loc 0) .nil))))) [.fz (scrD ns), .fz (.int k), .fz (.int m), .fz (.int c), x4, x5] = .ok (.int (c + 6553 * (k / ns.length))) := by
        show (do let x ← Res.ok (PyData.int c); let y ← (do let z ← Res.ok (PyData.int 6553); let u ← ev φ (.bin .fdiv (.loc 1) (.bi .len (.cons (.loc 0) .nil))) [.fz (scrD ns), .fz (.int k), .fz (.int m), .fz (.int c), x4, x5]; dBin .mul z u); dBin .add x y) = _
        rw [ediv]
        simp [dBin, cmul_lit' (i := 6553) (j := k / ns.length) (by decide)]
      exact ⟨_, (st_seq (st_set e5)).trans rfl⟩
    have nn : 0 ≤ k / (ns.length : Int) := Int.ediv_nonneg hk (by omega)
    have cell : (∃ c' x4 x5, evSs φ fu b_cell [.fz (scrD ns), .fz (.int k), .fz (.int m), .fz (.int (7 * k)), .no, .no] = .ok .nx [.fz (scrD ns), .fz (.int k), .fz (.int m), .fz (.int c'), x4, x5]) ∨
        ∃ d, 0 ≤ d ∧ d < m ∧ ∃ ρ, evSs φ fu b_cell [.fz (scrD ns), .fz (.int k), .fz (.int m), .fz (.int (7 * k)), .no, .no] = .ok (.ret (.int d)) ρ := by
      unfold b_cell
      rw [st_seq (st_set ix)]
      have h3' : ev φ (.bin .fdiv (.loc 1) (.bi .len (.cons (.loc 0) .nil))) [.fz (scrD ns), .fz (.int k), .fz (.int m), .fz (.int c), .no, .no] = .ok (.int (k / ns.length)) := h3
      have s2 := st_seq (fu := fu) (r := (.cons (.ite (.and (.cmp .GtE (.loc 3) (.bin .pow (.int 10) (.int 18))) (.cmp .Lt (.loc 4) (.int 60))) b_deep .nil)
        (.cons (.set 3 (.bin .add (.loc 3) (.bin .mul (.int 6553) (.bin .fdiv (.loc 1) (.bi .len (.cons (.loc 0) .nil)))))) .nil))) (st_set (i := 4) h3')
      have s3 : evSs φ fu (.cons (.set 4 (.bin .fdiv (.loc 1) (.bi .len (.cons (.loc 0) .nil)))) (.cons (.ite (.and (.cmp .GtE (.loc 3) (.bin .pow (.int 10) (.int 18))) (.cmp .Lt (.loc 4) (.int 60))) b_deep .nil)
        (.cons (.set 3 (.bin .add (.loc 3) (.bin .mul (.int 6553) (.bin .fdiv (.loc 1) (.bi .len (.cons (.loc 0) .nil)))))) .nil))) (List.set [.fz (scrD ns), .fz (.int k), .fz (.int m), .fz (.int (7 * k)), .no, .no] 3 (.fz (.int c))) = _ := s2
      rw [s3]
      have econd : ev φ (.and (.cmp .GtE (.loc 3) (.bin .pow (.int 10) (.int 18))) (.cmp .Lt (.loc 4) (.int 60))) [.fz (scrD ns), .fz (.int k), .fz (.int m), .fz (.int c), .fz (.int (k / ns.length)), .no] = .ok (.bool (decide (1000000000000000000 ≤ c) && decide (k / (ns.length : Int) < 60))) := by
        have hp : dBin .pow (.int 10) (.int 18) = .ok (.int 1000000000000000000) := by kernel_rfl
        by_cases h : (1000000000000000000 : Int) ≤ c <;> simp [ev, use, getF, dCmp, dLt, bOf, hp, h]
      cases hb : (decide (1000000000000000000 ≤ c) && decide (k / (ns.length : Int) < 60)) with
      | false =>
        rw [hb] at econd
        obtain ⟨c', hc'⟩ := last (.fz (.int (k / ns.length))) .no
        exact .inl ⟨c', _, _, (st_seq (st_if0 econd)).trans hc'⟩
      | true =>
        rw [hb] at econd
        simp only [Bool.and_eq_true, decide_eq_true_eq] at hb
        have ed : ev φ (.bin .fdiv (.loc 3) (.bin .pow (.int 10) (.int 18))) [.fz (scrD ns), .fz (.int k), .fz (.int m), .fz (.int c), .fz (.int (k / ns.length)), .no] = .ok (.int (c / 1000000000000000000)) := by
          have hp : dBin .pow (.int 10) (.int 18) = .ok (.int 1000000000000000000) := by kernel_rfl
          simp [ev, use, getF, hp]
          rfl
        obtain ⟨t, ht⟩ : ∃ t : Nat, k / (ns.length : Int) = t := ⟨(k / (ns.length : Int)).toNat, by omega⟩
        rw [ht] at econd ed hb
        obtain ⟨r', t', ht', hw⟩ := rest_ok φ fu (scrD ns) k m c t fu (c / 1000000000000000000) (by omega)
        have hw' : evS φ fu (.while c_rest b_rest) [.fz (scrD ns), .fz (.int k), .fz (.int m), .fz (.int c), .fz (.int (t : Int)), .fz (.int (c / 1000000000000000000))] = .ok .nx [.fz (scrD ns), .fz (.int k), .fz (.int m), .fz (.int c), .fz (.int t'), .fz (.int r')] := hw
        have deep : evSs φ fu b_deep [.fz (scrD ns), .fz (.int k), .fz (.int m), .fz (.int c), .fz (.int (t : Int)), .no] = if 0 < r' then .ok (.ret (.int (r' % 1000000 % m))) [.fz (scrD ns), .fz (.int k), .fz (.int m), .fz (.int c), .fz (.int t'), .fz (.int r')] else .ok .nx [.fz (scrD ns), .fz (.int k), .fz (.int m), .fz (.int c), .fz (.int t'), .fz (.int r')] := by
          unfold b_deep
          rw [st_seq (st_set ed)]
          refine (st_seq hw').trans ?_
          have eg : ev φ (.cmp .Gt (.loc 5) (.int 0)) [.fz (scrD ns), .fz (.int k), .fz (.int m), .fz (.int c), .fz (.int t'), .fz (.int r')] = .ok (.bool (decide (0 < r'))) := by
            simp [ev, use, getF, dCmp]
          by_cases hr : 0 < r'
          · rw [decide_eq_true hr] at eg
            rw [if_pos hr]
            have er : ev φ (.bin .mod (.bin .mod (.loc 5) (.int 1000000)) (.loc 2)) [.fz (scrD ns), .fz (.int k), .fz (.int m), .fz (.int c), .fz (.int t'), .fz (.int r')] = .ok (.int (r' % 1000000 % m)) := by
              simp [ev, use, getF, dBin, hm]
            exact st_fin ((st_ifT eg).trans (st_fin (st_ret er)))
          · rw [decide_eq_false hr] at eg
            rw [if_neg hr]
            exact (st_seq (st_if0 eg)).trans rfl
        rw [ht]
        by_cases hr : 0 < r'
        · rw [if_pos hr] at deep
          exact .inr ⟨_, Int.emod_nonneg _ (by omega), Int.emod_lt_of_pos _ hm, _, st_fin ((st_ifT econd).trans deep)⟩
        · rw [if_neg hr] at deep
          obtain ⟨c', hc'⟩ := last (.fz (.int t')) (.fz (.int r'))
          exact .inl ⟨c', _, _, (st_seq ((st_ifT econd).trans deep)).trans hc'⟩
    show ∃ d, 0 ≤ d ∧ d < m ∧ retOf (evSs φ fu (.cons (.ite (.cmp .NotEq (.loc 0) (.lst .nil)) b_cell .nil) b_tail) [.fz (scrD ns), .fz (.int k), .fz (.int m), .fz (.int (7 * k)), .no, .no]) = .ok (.int d)
    rcases cell with ⟨c', x4, x5, h⟩ | ⟨d, h1, h2, ρ, h⟩
    · rw [st_seq ((st_ifT ec).trans h)]
      exact fin _ _ _
    · refine ⟨d, h1, h2, ?_⟩
      rw [st_fin ((st_ifT ec).trans h)]
      rfl
end
end HF

set_option Elab.async false
set_option autoImplicit false
set_option linter.all false
set_option maxRecDepth 100000
set_option maxHeartbeats 4000000
/-! The defs of the program, and those that several laws share, in the small language (printed by gen.py lib). -/
namespace HF
open PySem PySem.Spec PyProof.Rows L2
def f_is_whole_s1 : S := .ret (.and (.isI (.loc 0) .int) (.and (.not (.isI (.loc 0) .bool)) (.chain .LtE .LtE (.loc 1) (.loc 0) (.loc 2))))
def f_is_whole : Fn := ⟨10, "is_whole", ["thing", "least", "most"], ["thing", "least", "most"],
    (.cons f_is_whole_s1 .nil)⟩
def f_is_name_s1 : S := .ret (.and (.isI (.loc 0) .str) (.and (.chain .LtE .LtE (.int 1) (.bi .len (.cons (.loc 0) .nil)) (.int 6)) (.bi .all (.cons (.comp [("sign", 1)] (.one 1) (.val (.loc 0)) .no (.cmp .In (.loc 1) (.gstr "SMALL" "abcdefghijklmnopqrstuvwxyz"))) .nil))))
def f_is_name : Fn := ⟨11, "is_name", ["thing"], ["thing", "sign"],
    (.cons f_is_name_s1 .nil)⟩
def f_is_cell_s1 : S := .ret (.and (.isI (.loc 0) .tuple) (.and (.cmp .Eq (.bi .len (.cons (.loc 0) .nil)) (.int 2)) (.bi .all (.cons (.comp [("part", 1)] (.one 1) (.val (.loc 0)) .no (.call 10 (.cons (.loc 1) (.cons (.int 0) (.cons (.gint "MOST_PART" 9) .nil))))) .nil))))
def f_is_cell : Fn := ⟨12, "is_cell", ["thing"], ["thing", "part"],
    (.cons f_is_cell_s1 .nil)⟩
def f_is_rising_s1 : S := .ret (.bi .all (.cons (.comp [("one", 1), ("other", 2)] (.tup [1, 2]) (.zip (.loc 0) (.sl (.loc 0) (.yes (.int 1)) .no)) .no (.cmp .Lt (.loc 1) (.loc 2))) .nil))
def f_is_rising : Fn := ⟨13, "is_rising", ["things"], ["things", "one", "other"],
    (.cons f_is_rising_s1 .nil)⟩
def f_is_islands_s1 : S := .ite (.or (.not (.isI (.loc 0) .tuple)) (.or (.cmp .Gt (.bi .len (.cons (.loc 0) .nil)) (.gint "MOST_ISLANDS" 12)) (.not (.bi .all (.cons (.comp [("cell", 1)] (.one 1) (.val (.loc 0)) .no (.call 12 (.cons (.loc 1) .nil))) .nil)))))
      (.cons (.ret (.bl false))
      .nil)
      .nil
def f_is_islands_s2 : S := .ret (.call 13 (.cons (.loc 0) .nil))
def f_is_islands : Fn := ⟨14, "is_islands", ["thing"], ["thing", "cell"],
    (.cons f_is_islands_s1 (.cons f_is_islands_s2 .nil))⟩
def f_is_ship_s1 : S := .ite (.or (.not (.isI (.loc 2) .tuple)) (.or (.cmp .NotEq (.bi .len (.cons (.loc 2) .nil)) (.int 3)) (.or (.not (.call 11 (.cons (.ix (.loc 2) (.int 0)) .nil))) (.not (.call 10 (.cons (.ix (.loc 2) (.int 1)) (.cons (.int 0) (.cons (.gint "MOST_PART" 9) .nil))))))))
      (.cons (.ret (.bl false))
      .nil)
      .nil
def f_is_ship_s2 : S := .set 3 (.ix (.loc 2) (.int 2))
def f_is_ship_s3 : S := .ite (.or (.not (.isI (.loc 3) .tuple)) (.cmp .NotEq (.bi .len (.cons (.loc 3) .nil)) (.bin .add (.loc 0) (.int 1))))
      (.cons (.ret (.bl false))
      .nil)
      .nil
def f_is_ship_s4 : S := .ret (.bi .all (.cons (.comp [("cell", 4)] (.one 4) (.val (.loc 3)) .no (.and (.call 12 (.cons (.loc 4) .nil)) (.cmp .NotIn (.loc 4) (.loc 1)))) .nil))
def f_is_ship : Fn := ⟨15, "is_ship", ["last", "islands", "thing"], ["last", "islands", "thing", "course", "cell"],
    (.cons f_is_ship_s1 (.cons f_is_ship_s2 (.cons f_is_ship_s3 (.cons f_is_ship_s4 .nil))))⟩
def f_is_mist_s1 : S := .ite (.or (.not (.isI (.loc 1) .tuple)) (.cmp .NotEq (.bi .len (.cons (.loc 1) .nil)) (.int 5)))
      (.cons (.ret (.bl false))
      .nil)
      .nil
def f_is_mist_s2 : S := .unp [2, 3, 4, 5, 6] (.loc 1)
def f_is_mist_s3 : S := .ite (.or (.not (.call 10 (.cons (.loc 2) (.cons (.int 0) (.cons (.loc 0) .nil))))) (.or (.not (.call 10 (.cons (.loc 3) (.cons (.loc 2) (.cons (.loc 0) .nil))))) (.not (.call 10 (.cons (.loc 6) (.cons (.int 0) (.cons (.gint "MOST_PART" 9) .nil)))))))
      (.cons (.ret (.bl false))
      .nil)
      .nil
def f_is_mist_s4 : S := .ret (.and (.call 12 (.cons (.loc 4) .nil)) (.and (.call 12 (.cons (.loc 5) .nil)) (.and (.cmp .LtE (.ix (.loc 4) (.int 0)) (.ix (.loc 5) (.int 0))) (.cmp .LtE (.ix (.loc 4) (.int 1)) (.ix (.loc 5) (.int 1))))))
def f_is_mist : Fn := ⟨16, "is_mist", ["last", "thing"], ["last", "thing", "first", "until", "one", "other", "most"],
    (.cons f_is_mist_s1 (.cons f_is_mist_s2 (.cons f_is_mist_s3 (.cons f_is_mist_s4 .nil))))⟩
def f_is_fleet_s1 : S := .ite (.or (.not (.isI (.loc 0) .tuple)) (.or (.cmp .NotEq (.bi .len (.cons (.loc 0) .nil)) (.int 4)) (.not (.call 10 (.cons (.ix (.loc 0) (.int 0)) (.cons (.int 0) (.cons (.gint "MOST_LAST" 7) .nil)))))))
      (.cons (.ret (.bl false))
      .nil)
      .nil
def f_is_fleet_s2 : S := .unp [1, 2, 3, 4] (.loc 0)
def f_is_fleet_s3 : S := .ite (.or (.not (.call 14 (.cons (.loc 2) .nil))) (.or (.not (.isI (.loc 3) .tuple)) (.not (.chain .LtE .LtE (.int 1) (.bi .len (.cons (.loc 3) .nil)) (.gint "MOST_SHIPS" 5)))))
      (.cons (.ret (.bl false))
      .nil)
      .nil
def f_is_fleet_s4 : S := .ite (.or (.not (.bi .all (.cons (.comp [("ship", 5)] (.one 5) (.val (.loc 3)) .no (.call 15 (.cons (.loc 1) (.cons (.loc 2) (.cons (.loc 5) .nil))))) .nil))) (.not (.call 13 (.cons (.comp [("ship", 5)] (.one 5) (.val (.loc 3)) .no (.ix (.loc 5) (.int 0))) .nil))))
      (.cons (.ret (.bl false))
      .nil)
      .nil
def f_is_fleet_s5 : S := .ite (.or (.not (.isI (.loc 4) .tuple)) (.or (.cmp .Gt (.bi .len (.cons (.loc 4) .nil)) (.gint "MOST_MISTS" 4)) (.not (.bi .all (.cons (.comp [("mist", 6)] (.one 6) (.val (.loc 4)) .no (.call 16 (.cons (.loc 1) (.cons (.loc 6) .nil)))) .nil)))))
      (.cons (.ret (.bl false))
      .nil)
      .nil
def f_is_fleet_s6 : S := .ret (.call 13 (.cons (.loc 4) .nil))
def f_is_fleet : Fn := ⟨17, "is_fleet", ["thing"], ["thing", "last", "islands", "ships", "mists", "ship", "mist"],
    (.cons f_is_fleet_s1 (.cons f_is_fleet_s2 (.cons f_is_fleet_s3 (.cons f_is_fleet_s4 (.cons f_is_fleet_s5 (.cons f_is_fleet_s6 .nil))))))⟩
def f_look_fleet_s1 : S := .ite (.not (.call 17 (.cons (.loc 0) .nil)))
      (.cons (.raise "NoFleet")
      .nil)
      .nil
def f_look_fleet : Fn := ⟨18, "look_fleet", ["thing"], ["thing"],
    (.cons f_look_fleet_s1 .nil)⟩
def f_plain_names_s1 : S := .ret (.comp [("ship", 1)] (.one 1) (.val (.ix (.loc 0) (.int 2))) .no (.ix (.loc 1) (.int 0)))
def f_plain_names : Fn := ⟨19, "plain_names", ["fleet"], ["fleet", "ship"],
    (.cons f_plain_names_s1 .nil)⟩
def f_names_of_s1 : S := .expr (.call 18 (.cons (.loc 0) .nil))
def f_names_of_s2 : S := .ret (.call 19 (.cons (.loc 0) .nil))
def f_names_of : Fn := ⟨20, "names_of", ["fleet"], ["fleet"],
    (.cons f_names_of_s1 (.cons f_names_of_s2 .nil))⟩
def f__law_names_s1 : S := .ret (.comp [("_law_ship", 1)] (.one 1) (.val (.ix (.loc 0) (.int 2))) .no (.ix (.loc 1) (.int 0)))
def f__law_names : Fn := ⟨1003, "_law_names", ["_law_fleet_here"], ["_law_fleet_here", "_law_ship"],
    (.cons f__law_names_s1 .nil)⟩
def f_look_ship_s1 : S := .ite (.or (.not (.call 11 (.cons (.loc 1) .nil))) (.cmp .NotIn (.loc 1) (.call 19 (.cons (.loc 0) .nil))))
      (.cons (.raise "NoShip")
      .nil)
      .nil
def f_look_ship : Fn := ⟨21, "look_ship", ["fleet", "thing"], ["fleet", "thing"],
    (.cons f_look_ship_s1 .nil)⟩
def f_look_hour_s1 : S := .ite (.not (.call 10 (.cons (.loc 0) (.cons (.int 0) (.cons (.loc 1) .nil)))))
      (.cons (.raise "NoHour")
      .nil)
      .nil
def f_look_hour : Fn := ⟨22, "look_hour", ["thing", "last"], ["thing", "last"],
    (.cons f_look_hour_s1 .nil)⟩
def f_is_in_s1 : S := .par [2, 3] (.cons (.ix (.loc 0) (.int 2)) (.cons (.ix (.loc 0) (.int 3)) .nil))
def f_is_in_s2 : S := .ret (.and (.chain .LtE .LtE (.ix (.loc 2) (.int 0)) (.ix (.loc 1) (.int 0)) (.ix (.loc 3) (.int 0))) (.chain .LtE .LtE (.ix (.loc 2) (.int 1)) (.ix (.loc 1) (.int 1)) (.ix (.loc 3) (.int 1))))
def f_is_in : Fn := ⟨23, "is_in", ["mist", "cell"], ["mist", "cell", "one", "other"],
    (.cons f_is_in_s1 (.cons f_is_in_s2 .nil))⟩
def f_is_between_s1 : S := .ite (.cmp .In (.loc 2) (.tup (.cons (.loc 0) (.cons (.loc 1) .nil))))
      (.cons (.ret (.bl false))
      .nil)
      .nil
def f_is_between_s2 : S := .ite (.cmp .NotEq (.bin .mul (.bin .sub (.ix (.loc 2) (.int 0)) (.ix (.loc 0) (.int 0))) (.bin .sub (.ix (.loc 1) (.int 1)) (.ix (.loc 0) (.int 1)))) (.bin .mul (.bin .sub (.ix (.loc 2) (.int 1)) (.ix (.loc 0) (.int 1))) (.bin .sub (.ix (.loc 1) (.int 0)) (.ix (.loc 0) (.int 0)))))
      (.cons (.ret (.bl false))
      .nil)
      .nil
def f_is_between_s3 : S := .set 3 (.chain .LtE .LtE (.bi .min2 (.cons (.ix (.loc 0) (.int 0)) (.cons (.ix (.loc 1) (.int 0)) .nil))) (.ix (.loc 2) (.int 0)) (.bi .max2 (.cons (.ix (.loc 0) (.int 0)) (.cons (.ix (.loc 1) (.int 0)) .nil))))
def f_is_between_s4 : S := .ret (.and (.loc 3) (.chain .LtE .LtE (.bi .min2 (.cons (.ix (.loc 0) (.int 1)) (.cons (.ix (.loc 1) (.int 1)) .nil))) (.ix (.loc 2) (.int 1)) (.bi .max2 (.cons (.ix (.loc 0) (.int 1)) (.cons (.ix (.loc 1) (.int 1)) .nil)))))
def f_is_between : Fn := ⟨24, "is_between", ["one", "other", "cell"], ["one", "other", "cell", "is_wide"],
    (.cons f_is_between_s1 (.cons f_is_between_s2 (.cons f_is_between_s3 (.cons f_is_between_s4 .nil))))⟩
def f_sees_at_s1 : S := .par [6, 7] (.cons (.ix (.ix (.loc 2) (.int 2)) (.loc 1)) (.cons (.ix (.ix (.loc 3) (.int 2)) (.loc 1)) .nil))
def f_sees_at_s2 : S := .set 4 (.bi .max2 (.cons (.bi .abs (.cons (.bin .sub (.ix (.loc 6) (.int 0)) (.ix (.loc 7) (.int 0))) .nil)) (.cons (.bi .abs (.cons (.bin .sub (.ix (.loc 6) (.int 1)) (.ix (.loc 7) (.int 1))) .nil)) .nil)))
def f_sees_at_s3 : S := .ite (.or (.cmp .Eq (.loc 2) (.loc 3)) (.cmp .Gt (.loc 4) (.ix (.loc 2) (.int 1))))
      (.cons (.ret (.bl false))
      .nil)
      .nil
def f_sees_at_s4 : S := .for (.one 5) (.val (.ix (.loc 0) (.int 3)))
      (.cons (.ite (.and (.chain .LtE .LtE (.ix (.loc 5) (.int 0)) (.loc 1) (.ix (.loc 5) (.int 1))) (.and (.or (.call 23 (.cons (.loc 5) (.cons (.loc 6) .nil))) (.call 23 (.cons (.loc 5) (.cons (.loc 7) .nil)))) (.cmp .Gt (.loc 4) (.ix (.loc 5) (.int 4)))))
      (.cons (.ret (.bl false))
      .nil)
      .nil)
      .nil)
def f_sees_at_s5 : S := .ret (.not (.bi .any (.cons (.comp [("cell", 8)] (.one 8) (.val (.ix (.loc 0) (.int 1))) .no (.call 24 (.cons (.loc 6) (.cons (.loc 7) (.cons (.loc 8) .nil))))) .nil)))
def f_sees_at : Fn := ⟨25, "sees_at", ["fleet", "hour", "one", "other"], ["fleet", "hour", "one", "other", "apart", "mist", "here", "there", "cell"],
    (.cons f_sees_at_s1 (.cons f_sees_at_s2 (.cons f_sees_at_s3 (.cons f_sees_at_s4 (.cons f_sees_at_s5 .nil)))))⟩
def f_ship_of_s1 : S := .ret (.ix (.ix (.loc 0) (.int 2)) (.index (.call 19 (.cons (.loc 0) .nil)) (.loc 1)))
def f_ship_of : Fn := ⟨26, "ship_of", ["fleet", "name"], ["fleet", "name"],
    (.cons f_ship_of_s1 .nil)⟩
def f_sees_s1 : S := .expr (.call 18 (.cons (.loc 0) .nil))
def f_sees_s2 : S := .expr (.call 22 (.cons (.loc 1) (.cons (.ix (.loc 0) (.int 0)) .nil)))
def f_sees_s3 : S := .expr (.call 21 (.cons (.loc 0) (.cons (.loc 2) .nil)))
def f_sees_s4 : S := .expr (.call 21 (.cons (.loc 0) (.cons (.loc 3) .nil)))
def f_sees_s5 : S := .ret (.call 25 (.cons (.loc 0) (.cons (.loc 1) (.cons (.call 26 (.cons (.loc 0) (.cons (.loc 2) .nil))) (.cons (.call 26 (.cons (.loc 0) (.cons (.loc 3) .nil))) .nil)))))
def f_sees : Fn := ⟨27, "sees", ["fleet", "hour", "one", "other"], ["fleet", "hour", "one", "other"],
    (.cons f_sees_s1 (.cons f_sees_s2 (.cons f_sees_s3 (.cons f_sees_s4 (.cons f_sees_s5 .nil)))))⟩
def f_plain_sightings_s1 : S := .setO 1 (.lst .nil)
def f_plain_sightings_s2 : S := .for (.one 2) (.rng1 (.bin .add (.ix (.loc 0) (.int 0)) (.int 1)))
      (.cons (.for (.one 3) (.val (.ix (.loc 0) (.int 2)))
      (.cons (.for (.one 4) (.val (.ix (.loc 0) (.int 2)))
      (.cons (.ite (.call 25 (.cons (.loc 0) (.cons (.loc 2) (.cons (.loc 3) (.cons (.loc 4) .nil)))))
      (.cons (.app 1 (.tup (.cons (.loc 2) (.cons (.ix (.loc 3) (.int 0)) (.cons (.ix (.loc 4) (.int 0)) .nil)))))
      .nil)
      .nil)
      .nil))
      .nil))
      .nil)
def f_plain_sightings_s3 : S := .ret (.tr 1)
def f_plain_sightings : Fn := ⟨28, "plain_sightings", ["fleet"], ["fleet", "found", "hour", "one", "other"],
    (.cons f_plain_sightings_s1 (.cons f_plain_sightings_s2 (.cons f_plain_sightings_s3 .nil)))⟩
def f_sightings_s1 : S := .expr (.call 18 (.cons (.loc 0) .nil))
def f_sightings_s2 : S := .ret (.call 28 (.cons (.loc 0) .nil))
def f_sightings : Fn := ⟨29, "sightings", ["fleet"], ["fleet"],
    (.cons f_sightings_s1 (.cons f_sightings_s2 .nil))⟩
def f__law_fleet2_s1 : S := .parO [6, 7, 8] [false, true, false] (.cons (.bin .add (.int 1) (.call 1001 (.cons (.loc 0) (.cons (.loc 1) (.cons (.int 5) .nil))))) (.cons (.lst .nil) (.cons (.lst .nil) .nil)))
def f__law_fleet2_s2 : S := .for (.one 3) (.rng1 (.bin .add (.int 2) (.call 1001 (.cons (.loc 0) (.cons (.bin .add (.loc 1) (.int 1)) (.cons (.bin .sub (.loc 2) (.int 1)) .nil))))))
      (.cons (.set 9 (.bin .add (.bin .add (.loc 1) (.int 10)) (.bin .mul (.int 14) (.loc 3))))
      (.cons (.parO [13, 14, 15] [false, false, true] (.cons (.call 1001 (.cons (.loc 0) (.cons (.loc 9) (.cons (.int 5) .nil)))) (.cons (.call 1001 (.cons (.loc 0) (.cons (.bin .add (.loc 9) (.int 1)) (.cons (.int 4) .nil)))) (.cons (.lst .nil) .nil))))
      (.cons (.for (.one 10) (.rng1 (.bin .add (.loc 6) (.int 1)))
      (.cons (.set 13 (.bi .max2 (.cons (.int 0) (.cons (.bi .min2 (.cons (.int 9) (.cons (.bin .sub (.bin .add (.loc 13) (.call 1001 (.cons (.loc 0) (.cons (.bin .add (.bin .add (.loc 9) (.int 3)) (.loc 10)) (.cons (.int 3) .nil))))) (.int 1)) .nil))) .nil))))
      (.cons (.set 14 (.bi .max2 (.cons (.int 0) (.cons (.bi .min2 (.cons (.int 9) (.cons (.bin .add (.loc 14) (.bin .fdiv (.call 1001 (.cons (.loc 0) (.cons (.bin .add (.bin .add (.loc 9) (.int 8)) (.loc 10)) (.cons (.int 3) .nil)))) (.int 2))) .nil))) .nil))))
      (.cons (.app 15 (.tup (.cons (.loc 13) (.cons (.loc 14) .nil))))
      .nil))))
      (.cons (.set 8 (.bin .add (.loc 8) (.tr 15)))
      (.cons (.app 7 (.tup (.cons (.ix (.str "abcde") (.loc 3)) (.cons (.ix (.lst (.cons (.int 0) (.cons (.int 1) (.cons (.int 1) (.cons (.int 2) (.cons (.int 3) .nil)))))) (.call 1001 (.cons (.loc 0) (.cons (.bin .add (.loc 9) (.int 2)) (.cons (.int 5) .nil))))) (.cons (.bi .tuple (.cons (.tr 15) .nil)) .nil)))))
      .nil)))))
def f__law_fleet2_s3 : S := .set 4 (.comp [("_law_k", 3)] (.one 3) (.rng1 (.int 3)) .no (.tup (.cons (.call 1001 (.cons (.loc 0) (.cons (.bin .add (.bin .add (.loc 1) (.int 2)) (.loc 3)) (.cons (.int 6) .nil)))) (.cons (.call 1001 (.cons (.loc 0) (.cons (.bin .add (.bin .add (.loc 1) (.int 5)) (.loc 3)) (.cons (.int 5) .nil)))) .nil))))
def f__law_fleet2_s4 : S := .set 4 (.sset (.comp [("_law_cell", 18)] (.one 18) (.val (.loc 4)) (.yes (.cmp .NotIn (.loc 18) (.loc 8))) (.loc 18)))
def f__law_fleet2_s5 : S := .setO 5 (.lst .nil)
def f__law_fleet2_s6 : S := .for (.one 3) (.rng1 (.call 1001 (.cons (.loc 0) (.cons (.bin .add (.loc 1) (.int 8)) (.cons (.int 3) .nil)))))
      (.cons (.set 11 (.call 1001 (.cons (.loc 0) (.cons (.bin .add (.bin .add (.loc 1) (.int 90)) (.bin .mul (.int 6) (.loc 3))) (.cons (.bin .add (.loc 6) (.int 1)) .nil)))))
      (.cons (.set 12 (.bin .add (.loc 11) (.call 1001 (.cons (.loc 0) (.cons (.bin .add (.bin .add (.loc 1) (.int 91)) (.bin .mul (.int 6) (.loc 3))) (.cons (.bin .add (.bin .sub (.loc 6) (.loc 11)) (.int 1)) .nil))))))
      (.cons (.par [13, 14] (.cons (.call 1001 (.cons (.loc 0) (.cons (.bin .add (.bin .add (.loc 1) (.int 92)) (.bin .mul (.int 6) (.loc 3))) (.cons (.int 5) .nil)))) (.cons (.call 1001 (.cons (.loc 0) (.cons (.bin .add (.bin .add (.loc 1) (.int 93)) (.bin .mul (.int 6) (.loc 3))) (.cons (.int 5) .nil)))) .nil)))
      (.cons (.par [16, 17] (.cons (.call 1001 (.cons (.loc 0) (.cons (.bin .add (.bin .add (.loc 1) (.int 94)) (.bin .mul (.int 6) (.loc 3))) (.cons (.int 4) .nil)))) (.cons (.call 1001 (.cons (.loc 0) (.cons (.bin .add (.bin .add (.loc 1) (.int 95)) (.bin .mul (.int 6) (.loc 3))) (.cons (.int 3) .nil)))) .nil)))
      (.cons (.app 5 (.tup (.cons (.loc 11) (.cons (.loc 12) (.cons (.tup (.cons (.loc 13) (.cons (.loc 14) .nil))) (.cons (.tup (.cons (.bin .add (.loc 13) (.loc 16)) (.cons (.bin .add (.loc 14) (.loc 16)) .nil))) (.cons (.loc 17) .nil)))))))
      .nil)))))
def f__law_fleet2_s7 : S := .ret (.tup (.cons (.loc 6) (.cons (.bi .tuple (.cons (.loc 4) .nil)) (.cons (.bi .tuple (.cons (.tr 7) .nil)) (.cons (.bi .tuple (.cons (.sset (.tr 5)) .nil)) .nil)))))
def f__law_fleet2 : Fn := ⟨1007, "_law_fleet", ["_law_script", "_law_at", "_law_most"], ["_law_script", "_law_at", "_law_most", "_law_k", "_law_islands", "_law_mists", "_law_last", "_law_ships", "_law_used", "_law_here", "_law_hour", "_law_first", "_law_until", "_law_x", "_law_y", "_law_course", "_law_over", "_law_most_seen", "_law_cell"],
    (.cons f__law_fleet2_s1 (.cons f__law_fleet2_s2 (.cons f__law_fleet2_s3 (.cons f__law_fleet2_s4 (.cons f__law_fleet2_s5 (.cons f__law_fleet2_s6 (.cons f__law_fleet2_s7 .nil)))))))⟩
def f__law_hidden_s1 : S := .for (.tup [3, 4]) (.val (.loc 2))
      (.cons (.par [5, 6] (.cons (.bin .sub (.loc 3) (.ix (.loc 0) (.int 0))) (.cons (.bin .sub (.loc 4) (.ix (.loc 0) (.int 1))) .nil)))
      (.cons (.par [7, 8] (.cons (.bin .sub (.ix (.loc 1) (.int 0)) (.loc 3)) (.cons (.bin .sub (.ix (.loc 1) (.int 1)) (.loc 4)) .nil)))
      (.cons (.ite (.and (.cmp .Eq (.bin .mul (.loc 5) (.loc 8)) (.bin .mul (.loc 6) (.loc 7))) (.cmp .Gt (.bin .add (.bin .mul (.loc 5) (.loc 7)) (.bin .mul (.loc 6) (.loc 8))) (.int 0)))
      (.cons (.ret (.bl true))
      .nil)
      .nil)
      .nil)))
def f__law_hidden_s2 : S := .ret (.bl false)
def f__law_hidden : Fn := ⟨1008, "_law_hidden", ["_law_here", "_law_there", "_law_islands"], ["_law_here", "_law_there", "_law_islands", "_law_x", "_law_y", "_law_dx", "_law_dy", "_law_ex", "_law_ey"],
    (.cons f__law_hidden_s1 (.cons f__law_hidden_s2 .nil))⟩
def f__law_sees_s1 : S := .set 4 (.dictF (.comp [("_law_ship", 17)] (.one 17) (.val (.ix (.loc 0) (.int 2))) .no (.tup (.cons (.ix (.loc 17) (.int 0)) (.cons (.loc 17) .nil)))))
def f__law_sees_s2 : S := .par [6, 7] (.cons (.dix (.loc 4) (.loc 2)) (.cons (.dix (.loc 4) (.loc 3)) .nil))
def f__law_sees_s3 : S := .par [8, 9] (.cons (.ix (.ix (.loc 6) (.int 2)) (.loc 1)) (.cons (.ix (.ix (.loc 7) (.int 2)) (.loc 1)) .nil))
def f__law_sees_s4 : S := .set 5 (.ix (.loc 6) (.int 1))
def f__law_sees_s5 : S := .for (.tup [10, 11, 12, 13, 14]) (.val (.ix (.loc 0) (.int 3)))
      (.cons (.for (.tup [15, 16]) (.val (.tup (.cons (.loc 8) (.cons (.loc 9) .nil))))
      (.cons (.ite (.and (.cmp .LtE (.loc 10) (.loc 1)) (.and (.cmp .LtE (.loc 1) (.loc 11)) (.and (.cmp .LtE (.ix (.loc 12) (.int 0)) (.loc 15)) (.and (.cmp .LtE (.loc 15) (.ix (.loc 13) (.int 0))) (.and (.cmp .LtE (.ix (.loc 12) (.int 1)) (.loc 16)) (.cmp .LtE (.loc 16) (.ix (.loc 13) (.int 1))))))))
      (.cons (.set 5 (.bi .min2 (.cons (.loc 5) (.cons (.loc 14) .nil))))
      .nil)
      .nil)
      .nil))
      .nil)
def f__law_sees_s6 : S := .ite (.or (.cmp .Eq (.loc 2) (.loc 3)) (.or (.cmp .Gt (.bi .abs (.cons (.bin .sub (.ix (.loc 8) (.int 0)) (.ix (.loc 9) (.int 0))) .nil)) (.loc 5)) (.cmp .Gt (.bi .abs (.cons (.bin .sub (.ix (.loc 8) (.int 1)) (.ix (.loc 9) (.int 1))) .nil)) (.loc 5))))
      (.cons (.ret (.bl false))
      .nil)
      .nil
def f__law_sees_s7 : S := .ret (.not (.call 1008 (.cons (.loc 8) (.cons (.loc 9) (.cons (.ix (.loc 0) (.int 1)) .nil)))))
def f__law_sees : Fn := ⟨1009, "_law_sees", ["_law_fleet_here", "_law_hour", "_law_one", "_law_other"], ["_law_fleet_here", "_law_hour", "_law_one", "_law_other", "_law_ships", "_law_most", "_law_first", "_law_second", "_law_here", "_law_there", "_law_begin", "_law_until", "_law_low", "_law_high", "_law_least_sight", "_law_x", "_law_y", "_law_ship"],
    (.cons f__law_sees_s1 (.cons f__law_sees_s2 (.cons f__law_sees_s3 (.cons f__law_sees_s4 (.cons f__law_sees_s5 (.cons f__law_sees_s6 (.cons f__law_sees_s7 .nil)))))))⟩
def f__law_rows_s1 : S := .par [2, 3] (.cons (.lst .nil) (.cons (.call 1003 (.cons (.loc 0) .nil)) .nil))
def f__law_rows_s2 : S := .for (.one 1) (.rng1 (.bin .add (.ix (.loc 0) (.int 0)) (.int 1)))
      (.cons (.for (.one 4) (.val (.loc 3))
      (.cons (.set 2 (.bin .add (.loc 2) (.comp [("_law_other", 5)] (.one 5) (.val (.loc 3)) (.yes (.call 1009 (.cons (.loc 0) (.cons (.loc 1) (.cons (.loc 4) (.cons (.loc 5) .nil)))))) (.tup (.cons (.loc 1) (.cons (.loc 4) (.cons (.loc 5) .nil)))))))
      .nil))
      .nil)
def f__law_rows_s3 : S := .ret (.loc 2)
def f__law_rows : Fn := ⟨1010, "_law_rows", ["_law_fleet_here"], ["_law_fleet_here", "_law_hour", "_law_found", "_law_names_here", "_law_one", "_law_other"],
    (.cons f__law_rows_s1 (.cons f__law_rows_s2 (.cons f__law_rows_s3 .nil)))⟩
def f_cleared_s1 : S := .expr (.call 18 (.cons (.loc 0) .nil))
def f_cleared_s2 : S := .ret (.bin .add (.sl (.loc 0) .no (.yes (.int 3))) (.tup (.cons (.tup .nil) .nil)))
def f_cleared : Fn := ⟨30, "cleared", ["fleet"], ["fleet"],
    (.cons f_cleared_s1 (.cons f_cleared_s2 .nil))⟩
def f_spread_s1 : S := .setO 3 (.ddisp (.loc 1) (.loc 2))
def f_spread_s2 : S := .for (.tup [4, 5, 6]) (.val (.loc 0))
      (.cons (.ite (.and (.din false (.loc 6) (.tr 3)) (.and (.cmp .LtE (.dix (.tr 3) (.loc 6)) (.loc 4)) (.din true (.loc 5) (.tr 3))))
      (.cons (.dput 3 (.loc 5) (.bin .add (.loc 4) (.int 1)))
      .nil)
      .nil)
      .nil)
def f_spread_s3 : S := .ret (.tr 3)
def f_spread : Fn := ⟨31, "spread", ["rows", "ship", "hour"], ["rows", "ship", "hour", "found", "when", "seer", "seen"],
    (.cons f_spread_s1 (.cons f_spread_s2 (.cons f_spread_s3 .nil)))⟩
def f_earliest_s1 : S := .expr (.call 18 (.cons (.loc 0) .nil))
def f_earliest_s2 : S := .expr (.call 21 (.cons (.loc 0) (.cons (.loc 1) .nil)))
def f_earliest_s3 : S := .expr (.call 22 (.cons (.loc 2) (.cons (.ix (.loc 0) (.int 0)) .nil)))
def f_earliest_s4 : S := .ret (.sitems (.call 31 (.cons (.call 28 (.cons (.loc 0) .nil)) (.cons (.loc 1) (.cons (.loc 2) .nil)))))
def f_earliest : Fn := ⟨32, "earliest", ["fleet", "ship", "hour"], ["fleet", "ship", "hour"],
    (.cons f_earliest_s1 (.cons f_earliest_s2 (.cons f_earliest_s3 (.cons f_earliest_s4 .nil))))⟩
def f_is_of_form_s1 : S := .ret (.and (.isI (.loc 0) .tuple) (.and (.cmp .Eq (.bi .len (.cons (.loc 0) .nil)) (.int 3)) (.call 10 (.cons (.ix (.loc 0) (.int 0)) (.cons (.int 0) (.cons (.gint "MOST_LAST" 7) .nil))))))
def f_is_of_form : Fn := ⟨33, "is_of_form", ["thing"], ["thing"],
    (.cons f_is_of_form_s1 .nil)⟩
def f_is_plain_chain_s1 : S := .ite (.not (.isI (.loc 4) .list))
      (.cons (.ret (.bl false))
      .nil)
      .nil
def f_is_plain_chain_s2 : S := .ite (.or (.cmp .Eq (.loc 1) (.loc 3)) (.cmp .Eq (.loc 4) (.lst .nil)))
      (.cons (.ret (.and (.cmp .Eq (.loc 1) (.loc 3)) (.cmp .Eq (.loc 4) (.lst .nil))))
      .nil)
      .nil
def f_is_plain_chain_s3 : S := .par [6, 7] (.cons (.loc 1) (.cons (.loc 2) .nil))
def f_is_plain_chain_s4 : S := .for (.one 5) (.val (.loc 4))
      (.cons (.ite (.or (.not (.call 33 (.cons (.loc 5) .nil))) (.or (.cmp .NotIn (.loc 5) (.loc 0)) (.or (.cmp .Lt (.ix (.loc 5) (.int 0)) (.loc 7)) (.cmp .NotEq (.ix (.loc 5) (.int 2)) (.loc 6)))))
      (.cons (.ret (.bl false))
      .nil)
      .nil)
      (.cons (.par [6, 7] (.cons (.ix (.loc 5) (.int 1)) (.cons (.bin .add (.ix (.loc 5) (.int 0)) (.int 1)) .nil)))
      .nil))
def f_is_plain_chain_s5 : S := .ret (.cmp .Eq (.loc 6) (.loc 3))
def f_is_plain_chain : Fn := ⟨34, "is_plain_chain", ["rows", "ship", "hour", "goal", "thing"], ["rows", "ship", "hour", "goal", "thing", "row", "here", "since"],
    (.cons f_is_plain_chain_s1 (.cons f_is_plain_chain_s2 (.cons f_is_plain_chain_s3 (.cons f_is_plain_chain_s4 (.cons f_is_plain_chain_s5 .nil)))))⟩
def f_look_ends_s1 : S := .expr (.call 18 (.cons (.loc 0) .nil))
def f_look_ends_s2 : S := .expr (.call 21 (.cons (.loc 0) (.cons (.loc 1) .nil)))
def f_look_ends_s3 : S := .expr (.call 21 (.cons (.loc 0) (.cons (.loc 3) .nil)))
def f_look_ends_s4 : S := .expr (.call 22 (.cons (.loc 2) (.cons (.ix (.loc 0) (.int 0)) .nil)))
def f_look_ends : Fn := ⟨35, "look_ends", ["fleet", "ship", "hour", "goal"], ["fleet", "ship", "hour", "goal"],
    (.cons f_look_ends_s1 (.cons f_look_ends_s2 (.cons f_look_ends_s3 (.cons f_look_ends_s4 .nil))))⟩
def f_is_chain_s1 : S := .expr (.call 35 (.cons (.loc 0) (.cons (.loc 1) (.cons (.loc 2) (.cons (.loc 3) .nil)))))
def f_is_chain_s2 : S := .ret (.call 34 (.cons (.call 28 (.cons (.loc 0) .nil)) (.cons (.loc 1) (.cons (.loc 2) (.cons (.loc 3) (.cons (.loc 4) .nil))))))
def f_is_chain : Fn := ⟨36, "is_chain", ["fleet", "ship", "hour", "goal", "thing"], ["fleet", "ship", "hour", "goal", "thing"],
    (.cons f_is_chain_s1 (.cons f_is_chain_s2 .nil))⟩
def f_first_chain_s1 : S := .expr (.call 35 (.cons (.loc 0) (.cons (.loc 1) (.cons (.loc 2) (.cons (.loc 3) .nil)))))
def f_first_chain_s2 : S := .ret (.call 37 (.cons (.call 28 (.cons (.loc 0) .nil)) (.cons (.loc 1) (.cons (.loc 2) (.cons (.loc 3) .nil)))))
def f_first_chain : Fn := ⟨38, "first_chain", ["fleet", "ship", "hour", "goal"], ["fleet", "ship", "hour", "goal"],
    (.cons f_first_chain_s1 (.cons f_first_chain_s2 .nil))⟩
def f_bar_s1 : S := .expr (.call 35 (.cons (.loc 0) (.cons (.loc 1) (.cons (.loc 2) (.cons (.loc 3) .nil)))))
def f_bar_s2 : S := .expr (.call 22 (.cons (.loc 4) (.cons (.bin .add (.ix (.loc 0) (.int 0)) (.int 1)) .nil)))
def f_bar_s3 : S := .set 5 (.call 31 (.cons (.call 28 (.cons (.loc 0) .nil)) (.cons (.loc 1) (.cons (.loc 2) .nil))))
def f_bar_s4 : S := .ret (.ite (.and (.din false (.loc 3) (.loc 5)) (.cmp .LtE (.dix (.loc 5) (.loc 3)) (.loc 4))) .non (.sitems (.loc 5)))
def f_bar : Fn := ⟨39, "bar", ["fleet", "ship", "hour", "goal", "by"], ["fleet", "ship", "hour", "goal", "by", "found"],
    (.cons f_bar_s1 (.cons f_bar_s2 (.cons f_bar_s3 (.cons f_bar_s4 .nil))))⟩
def f_is_bar_s1 : S := .expr (.call 35 (.cons (.loc 0) (.cons (.loc 1) (.cons (.loc 2) (.cons (.loc 3) .nil)))))
def f_is_bar_s2 : S := .expr (.call 22 (.cons (.loc 4) (.cons (.bin .add (.ix (.loc 0) (.int 0)) (.int 1)) .nil)))
def f_is_bar_s3 : S := .ite (.or (.not (.isI (.loc 5) .list)) (.not (.bi .all (.cons (.comp [("row", 11)] (.one 11) (.val (.loc 5)) .no (.and (.isI (.loc 11) .tuple) (.cmp .Eq (.bi .len (.cons (.loc 11) .nil)) (.int 2)))) .nil))))
      (.cons (.ret (.bl false))
      .nil)
      .nil
def f_is_bar_s4 : S := .set 6 (.call 19 (.cons (.loc 0) .nil))
def f_is_bar_s5 : S := .ite (.not (.bi .all (.cons (.comp [("row", 11)] (.one 11) (.val (.loc 5)) .no (.and (.call 11 (.cons (.ix (.loc 11) (.int 0)) .nil)) (.and (.cmp .In (.ix (.loc 11) (.int 0)) (.loc 6)) (.call 10 (.cons (.ix (.loc 11) (.int 1)) (.cons (.int 0) (.cons (.bin .add (.ix (.loc 0) (.int 0)) (.int 1)) .nil))))))) .nil)))
      (.cons (.ret (.bl false))
      .nil)
      .nil
def f_is_bar_s6 : S := .ite (.not (.bi .all (.cons (.comp [("one", 12), ("other", 13)] (.tup [12, 13]) (.zip (.loc 5) (.sl (.loc 5) (.yes (.int 1)) .no)) .no (.cmp .Lt (.ix (.loc 12) (.int 0)) (.ix (.loc 13) (.int 0)))) .nil)))
      (.cons (.ret (.bl false))
      .nil)
      .nil
def f_is_bar_s7 : S := .set 7 (.dictF (.loc 5))
def f_is_bar_s8 : S := .ite (.or (.din true (.loc 1) (.loc 7)) (.or (.cmp .Gt (.dix (.loc 7) (.loc 1)) (.loc 2)) (.and (.din false (.loc 3) (.loc 7)) (.cmp .LtE (.dix (.loc 7) (.loc 3)) (.loc 4)))))
      (.cons (.ret (.bl false))
      .nil)
      .nil
def f_is_bar_s9 : S := .for (.tup [8, 9, 10]) (.val (.call 28 (.cons (.loc 0) .nil)))
      (.cons (.ite (.and (.din false (.loc 10) (.loc 7)) (.and (.cmp .LtE (.dix (.loc 7) (.loc 10)) (.loc 8)) (.or (.din true (.loc 9) (.loc 7)) (.cmp .Gt (.dix (.loc 7) (.loc 9)) (.bin .add (.loc 8) (.int 1))))))
      (.cons (.ret (.bl false))
      .nil)
      .nil)
      .nil)
def f_is_bar_s10 : S := .ret (.bl true)
def f_is_bar : Fn := ⟨40, "is_bar", ["fleet", "ship", "hour", "goal", "by", "thing"], ["fleet", "ship", "hour", "goal", "by", "thing", "names", "held", "when", "seer", "seen", "row", "one", "other"],
    (.cons f_is_bar_s1 (.cons f_is_bar_s2 (.cons f_is_bar_s3 (.cons f_is_bar_s4 (.cons f_is_bar_s5 (.cons f_is_bar_s6 (.cons f_is_bar_s7 (.cons f_is_bar_s8 (.cons f_is_bar_s9 (.cons f_is_bar_s10 .nil))))))))))⟩
def f_bounds_for_s1 : S := .setO 3 (.ddisp (.loc 1) (.loc 2))
def f_bounds_for_s2 : S := .for (.tup [4, 5, 6]) (.val (.rev (.loc 0) .no))
      (.cons (.ite (.and (.din false (.loc 5) (.tr 3)) (.and (.cmp .LtE (.bin .add (.loc 4) (.int 1)) (.dix (.tr 3) (.loc 5))) (.din true (.loc 6) (.tr 3))))
      (.cons (.dput 3 (.loc 6) (.loc 4))
      .nil)
      .nil)
      .nil)
def f_bounds_for_s3 : S := .retO 3
def f_bounds_for : Fn := ⟨41, "bounds_for", ["rows", "goal", "by"], ["rows", "goal", "by", "found", "when", "seer", "seen"],
    (.cons f_bounds_for_s1 (.cons f_bounds_for_s2 (.cons f_bounds_for_s3 .nil)))⟩
def f_plain_latest_s1 : S := .setO 3 (.callO 41 (.cons (.call 28 (.cons (.loc 0) .nil)) (.cons (.loc 1) (.cons (.loc 2) .nil))))
def f_plain_latest_s2 : S := .dput 3 (.loc 1) (.bi .min2 (.cons (.loc 2) (.cons (.ix (.loc 0) (.int 0)) .nil)))
def f_plain_latest_s3 : S := .ret (.sitems (.tr 3))
def f_plain_latest : Fn := ⟨42, "plain_latest", ["fleet", "goal", "by"], ["fleet", "goal", "by", "found"],
    (.cons f_plain_latest_s1 (.cons f_plain_latest_s2 (.cons f_plain_latest_s3 .nil)))⟩
def f_latest_s1 : S := .expr (.call 18 (.cons (.loc 0) .nil))
def f_latest_s2 : S := .expr (.call 21 (.cons (.loc 0) (.cons (.loc 1) .nil)))
def f_latest_s3 : S := .expr (.call 22 (.cons (.loc 2) (.cons (.bin .add (.ix (.loc 0) (.int 0)) (.int 1)) .nil)))
def f_latest_s4 : S := .ret (.call 42 (.cons (.loc 0) (.cons (.loc 1) (.cons (.loc 2) .nil))))
def f_latest : Fn := ⟨43, "latest", ["fleet", "goal", "by"], ["fleet", "goal", "by"],
    (.cons f_latest_s1 (.cons f_latest_s2 (.cons f_latest_s3 (.cons f_latest_s4 .nil))))⟩
def f__law_spread_s1 : S := .setO 3 (.ddisp (.loc 1) (.loc 2))
def f__law_spread_s2 : S := .for (.one 4) (.rng2 (.loc 2) (.int 9))
      (.cons (.set 5 (.comp [("_law_at", 7), ("_law_seer", 6), ("_law_seen", 8)] (.tup [7, 6, 8]) (.val (.loc 0)) (.yes (.and (.cmp .Eq (.loc 7) (.loc 4)) (.cmp .LtE (.dget (.tr 3) (.loc 8) (.int 99)) (.loc 4)))) (.loc 6)))
      (.cons (.for (.one 6) (.val (.loc 5))
      (.cons (.dput 3 (.loc 6) (.bi .min2 (.cons (.dget (.tr 3) (.loc 6) (.int 99)) (.cons (.bin .add (.loc 4) (.int 1)) .nil))))
      .nil))
      .nil))
def f__law_spread_s3 : S := .ret (.tr 3)
def f__law_spread : Fn := ⟨1016, "_law_spread", ["_law_rows_here", "_law_ship", "_law_hour"], ["_law_rows_here", "_law_ship", "_law_hour", "_law_found", "_law_when", "_law_more", "_law_seer", "_law_at", "_law_seen"],
    (.cons f__law_spread_s1 (.cons f__law_spread_s2 (.cons f__law_spread_s3 .nil)))⟩
def f_is_showings_s1 : S := .ite (.or (.not (.isI (.loc 1) .list)) (.not (.bi .all (.cons (.comp [("row", 3)] (.one 3) (.val (.loc 1)) .no (.and (.isI (.loc 3) .tuple) (.cmp .Eq (.bi .len (.cons (.loc 3) .nil)) (.int 2)))) .nil))))
      (.cons (.ret (.bl false))
      .nil)
      .nil
def f_is_showings_s2 : S := .set 2 (.call 19 (.cons (.loc 0) .nil))
def f_is_showings_s3 : S := .ite (.not (.bi .all (.cons (.comp [("row", 3)] (.one 3) (.val (.loc 1)) .no (.and (.call 10 (.cons (.ix (.loc 3) (.int 0)) (.cons (.int 0) (.cons (.ix (.loc 0) (.int 0)) .nil)))) (.and (.call 11 (.cons (.ix (.loc 3) (.int 1)) .nil)) (.cmp .In (.ix (.loc 3) (.int 1)) (.loc 2))))) .nil)))
      (.cons (.ret (.bl false))
      .nil)
      .nil
def f_is_showings_s4 : S := .ret (.call 13 (.cons (.loc 1) .nil))
def f_is_showings : Fn := ⟨44, "is_showings", ["fleet", "thing"], ["fleet", "thing", "names", "row"],
    (.cons f_is_showings_s1 (.cons f_is_showings_s2 (.cons f_is_showings_s3 (.cons f_is_showings_s4 .nil))))⟩
def f_look_showings_s1 : S := .ite (.not (.call 44 (.cons (.loc 0) (.cons (.loc 1) .nil))))
      (.cons (.raise "NoShowings")
      .nil)
      .nil
def f_look_showings : Fn := ⟨45, "look_showings", ["fleet", "thing"], ["fleet", "thing"],
    (.cons f_look_showings_s1 .nil)⟩
def f_seen_of_s1 : S := .ret (.comp [("row", 2)] (.one 2) (.val (.loc 0)) (.yes (.cmp .In (.tup (.cons (.ix (.loc 2) (.int 0)) (.cons (.ix (.loc 2) (.int 2)) .nil))) (.loc 1))) (.loc 2))
def f_seen_of : Fn := ⟨46, "seen_of", ["rows", "showings"], ["rows", "showings", "row"],
    (.cons f_seen_of_s1 .nil)⟩
def f_by_showings_s1 : S := .expr (.call 18 (.cons (.loc 0) .nil))
def f_by_showings_s2 : S := .expr (.call 21 (.cons (.loc 0) (.cons (.loc 1) .nil)))
def f_by_showings_s3 : S := .expr (.call 22 (.cons (.loc 2) (.cons (.ix (.loc 0) (.int 0)) .nil)))
def f_by_showings_s4 : S := .expr (.call 45 (.cons (.loc 0) (.cons (.loc 3) .nil)))
def f_by_showings_s5 : S := .ret (.sitems (.call 31 (.cons (.call 46 (.cons (.call 28 (.cons (.loc 0) .nil)) (.cons (.loc 3) .nil))) (.cons (.loc 1) (.cons (.loc 2) .nil)))))
def f_by_showings : Fn := ⟨47, "by_showings", ["fleet", "ship", "hour", "showings"], ["fleet", "ship", "hour", "showings"],
    (.cons f_by_showings_s1 (.cons f_by_showings_s2 (.cons f_by_showings_s3 (.cons f_by_showings_s4 (.cons f_by_showings_s5 .nil)))))⟩
def f_are_names_s1 : S := .ite (.or (.not (.isI (.loc 1) .tuple)) (.or (.cmp .Eq (.loc 1) (.tup .nil)) (.not (.bi .all (.cons (.comp [("name", 2)] (.one 2) (.val (.loc 1)) .no (.call 11 (.cons (.loc 2) .nil))) .nil)))))
      (.cons (.ret (.bl false))
      .nil)
      .nil
def f_are_names_s2 : S := .ret (.and (.call 13 (.cons (.loc 1) .nil)) (.bi .all (.cons (.comp [("name", 2)] (.one 2) (.val (.loc 1)) .no (.cmp .In (.loc 2) (.call 19 (.cons (.loc 0) .nil)))) .nil)))
def f_are_names : Fn := ⟨48, "are_names", ["fleet", "thing"], ["fleet", "thing", "name"],
    (.cons f_are_names_s1 (.cons f_are_names_s2 .nil))⟩
def f_look_task_s1 : S := .expr (.call 18 (.cons (.loc 0) .nil))
def f_look_task_s2 : S := .expr (.call 21 (.cons (.loc 0) (.cons (.loc 1) .nil)))
def f_look_task_s3 : S := .ite (.not (.call 48 (.cons (.loc 0) (.cons (.loc 3) .nil))))
      (.cons (.raise "NoGoals")
      .nil)
      .nil
def f_look_task_s4 : S := .expr (.call 22 (.cons (.loc 2) (.cons (.ix (.loc 0) (.int 0)) .nil)))
def f_look_task_s5 : S := .expr (.call 22 (.cons (.loc 4) (.cons (.bin .add (.ix (.loc 0) (.int 0)) (.int 1)) .nil)))
def f_look_task : Fn := ⟨49, "look_task", ["fleet", "ship", "hour", "goals", "by"], ["fleet", "ship", "hour", "goals", "by"],
    (.cons f_look_task_s1 (.cons f_look_task_s2 (.cons f_look_task_s3 (.cons f_look_task_s4 (.cons f_look_task_s5 .nil)))))⟩
def f_do_have_s1 : S := .ret (.bi .all (.cons (.comp [("name", 3)] (.one 3) (.val (.loc 1)) .no (.and (.din false (.loc 3) (.loc 0)) (.cmp .LtE (.dix (.loc 0) (.loc 3)) (.loc 2)))) .nil))
def f_do_have : Fn := ⟨50, "do_have", ["found", "goals", "by"], ["found", "goals", "by", "name"],
    (.cons f_do_have_s1 .nil)⟩
def f_lots_of_s1 : S := .set 1 (.lst (.cons (.tup .nil) .nil))
def f_lots_of_s2 : S := .for (.one 2) (.val (.loc 0))
      (.cons (.set 1 (.bin .add (.loc 1) (.comp [("lot", 3)] (.one 3) (.val (.loc 1)) .no (.bin .add (.loc 3) (.tup (.cons (.loc 2) .nil))))))
      .nil)
def f_lots_of_s3 : S := .ret (.loc 1)
def f_lots_of : Fn := ⟨51, "lots_of", ["names"], ["names", "found", "name", "lot"],
    (.cons f_lots_of_s1 (.cons f_lots_of_s2 (.cons f_lots_of_s3 .nil)))⟩
def f_is_enough_s1 : S := .expr (.call 49 (.cons (.loc 0) (.cons (.loc 1) (.cons (.loc 2) (.cons (.loc 3) (.cons (.loc 4) .nil))))))
def f_is_enough_s2 : S := .ite (.not (.call 44 (.cons (.loc 0) (.cons (.loc 5) .nil))))
      (.cons (.ret (.bl false))
      .nil)
      .nil
def f_is_enough_s3 : S := .ret (.call 50 (.cons (.call 31 (.cons (.call 46 (.cons (.call 28 (.cons (.loc 0) .nil)) (.cons (.loc 5) .nil))) (.cons (.loc 1) (.cons (.loc 2) .nil)))) (.cons (.loc 3) (.cons (.loc 4) .nil))))
def f_is_enough : Fn := ⟨54, "is_enough", ["fleet", "ship", "hour", "goals", "by", "thing"], ["fleet", "ship", "hour", "goals", "by", "thing"],
    (.cons f_is_enough_s1 (.cons f_is_enough_s2 (.cons f_is_enough_s3 .nil)))⟩
def f_look_asked_s1 : S := .expr (.call 18 (.cons (.loc 0) .nil))
def f_look_asked_s2 : S := .expr (.call 21 (.cons (.loc 0) (.cons (.loc 1) .nil)))
def f_look_asked_s3 : S := .expr (.call 21 (.cons (.loc 0) (.cons (.loc 3) .nil)))
def f_look_asked_s4 : S := .ite (.cmp .Eq (.loc 3) (.loc 1))
      (.cons (.raise "NoShip")
      .nil)
      .nil
def f_look_asked_s5 : S := .expr (.call 22 (.cons (.loc 2) (.cons (.ix (.loc 0) (.int 0)) .nil)))
def f_look_asked_s6 : S := .expr (.call 22 (.cons (.loc 4) (.cons (.bin .add (.ix (.loc 0) (.int 0)) (.int 1)) .nil)))
def f_look_asked : Fn := ⟨55, "look_asked", ["fleet", "ship", "hour", "goal", "by"], ["fleet", "ship", "hour", "goal", "by"],
    (.cons f_look_asked_s1 (.cons f_look_asked_s2 (.cons f_look_asked_s3 (.cons f_look_asked_s4 (.cons f_look_asked_s5 (.cons f_look_asked_s6 .nil))))))⟩
def f_others_of_s1 : S := .ret (.comp [("name", 3)] (.one 3) (.val (.call 19 (.cons (.loc 0) .nil))) (.yes (.cmp .NotIn (.loc 3) (.tup (.cons (.loc 1) (.cons (.loc 2) .nil))))) (.loc 3))
def f_others_of : Fn := ⟨56, "others_of", ["fleet", "ship", "goal"], ["fleet", "ship", "goal", "name"],
    (.cons f_others_of_s1 .nil)⟩
def f_clear_of_s1 : S := .ret (.comp [("row", 2)] (.one 2) (.val (.loc 0)) (.yes (.and (.cmp .NotIn (.ix (.loc 2) (.int 1)) (.loc 1)) (.cmp .NotIn (.ix (.loc 2) (.int 2)) (.loc 1)))) (.loc 2))
def f_clear_of : Fn := ⟨57, "clear_of", ["rows", "names"], ["rows", "names", "row"],
    (.cons f_clear_of_s1 .nil)⟩
def f_comes_s1 : S := .set 5 (.call 31 (.cons (.loc 0) (.cons (.loc 1) (.cons (.loc 2) .nil))))
def f_comes_s2 : S := .ret (.and (.din false (.loc 3) (.loc 5)) (.cmp .LtE (.dix (.loc 5) (.loc 3)) (.loc 4)))
def f_comes : Fn := ⟨58, "comes", ["rows", "ship", "hour", "goal", "by"], ["rows", "ship", "hour", "goal", "by", "found"],
    (.cons f_comes_s1 (.cons f_comes_s2 .nil))⟩
def f_must_s1 : S := .expr (.call 55 (.cons (.loc 0) (.cons (.loc 1) (.cons (.loc 2) (.cons (.loc 3) (.cons (.loc 4) .nil))))))
def f_must_s2 : S := .set 5 (.call 28 (.cons (.loc 0) .nil))
def f_must_s3 : S := .ite (.not (.call 58 (.cons (.loc 5) (.cons (.loc 1) (.cons (.loc 2) (.cons (.loc 3) (.cons (.loc 4) .nil)))))))
      (.cons (.ret .non)
      .nil)
      .nil
def f_must_s4 : S := .set 6 (.call 56 (.cons (.loc 0) (.cons (.loc 1) (.cons (.loc 3) .nil))))
def f_must_s5 : S := .ret (.comp [("name", 7)] (.one 7) (.val (.loc 6)) (.yes (.not (.call 58 (.cons (.call 57 (.cons (.loc 5) (.cons (.lst (.cons (.loc 7) .nil)) .nil))) (.cons (.loc 1) (.cons (.loc 2) (.cons (.loc 3) (.cons (.loc 4) .nil)))))))) (.loc 7))
def f_must : Fn := ⟨59, "must", ["fleet", "ship", "hour", "goal", "by"], ["fleet", "ship", "hour", "goal", "by", "rows", "others", "name"],
    (.cons f_must_s1 (.cons f_must_s2 (.cons f_must_s3 (.cons f_must_s4 (.cons f_must_s5 .nil)))))⟩
def f_least_cut_s1 : S := .expr (.call 55 (.cons (.loc 0) (.cons (.loc 1) (.cons (.loc 2) (.cons (.loc 3) (.cons (.loc 4) .nil))))))
def f_least_cut_s2 : S := .set 5 (.call 28 (.cons (.loc 0) .nil))
def f_least_cut_s3 : S := .set 6 (.call 51 (.cons (.call 56 (.cons (.loc 0) (.cons (.loc 1) (.cons (.loc 3) .nil)))) .nil))
def f_least_cut_s4 : S := .set 7 (.comp [("lot", 8)] (.one 8) (.val (.loc 6)) (.yes (.not (.call 58 (.cons (.call 57 (.cons (.loc 5) (.cons (.loc 8) .nil))) (.cons (.loc 1) (.cons (.loc 2) (.cons (.loc 3) (.cons (.loc 4) .nil)))))))) (.tup (.cons (.bi .len (.cons (.loc 8) .nil)) (.cons (.loc 8) .nil))))
def f_least_cut_s5 : S := .ret (.ite (.cmp .NotEq (.loc 7) (.lst .nil)) (.ix (.bi .min1 (.cons (.loc 7) .nil)) (.int 1)) .non)
def f_least_cut : Fn := ⟨60, "least_cut", ["fleet", "ship", "hour", "goal", "by"], ["fleet", "ship", "hour", "goal", "by", "rows", "lots", "some", "lot"],
    (.cons f_least_cut_s1 (.cons f_least_cut_s2 (.cons f_least_cut_s3 (.cons f_least_cut_s4 (.cons f_least_cut_s5 .nil)))))⟩
def f_is_cut_s1 : S := .expr (.call 55 (.cons (.loc 0) (.cons (.loc 1) (.cons (.loc 2) (.cons (.loc 3) (.cons (.loc 4) .nil))))))
def f_is_cut_s2 : S := .ite (.or (.not (.isI (.loc 5) .tuple)) (.or (.not (.bi .all (.cons (.comp [("name", 7)] (.one 7) (.val (.loc 5)) .no (.call 11 (.cons (.loc 7) .nil))) .nil))) (.not (.call 13 (.cons (.loc 5) .nil)))))
      (.cons (.ret (.bl false))
      .nil)
      .nil
def f_is_cut_s3 : S := .set 6 (.call 56 (.cons (.loc 0) (.cons (.loc 1) (.cons (.loc 3) .nil))))
def f_is_cut_s4 : S := .ite (.not (.bi .all (.cons (.comp [("name", 7)] (.one 7) (.val (.loc 5)) .no (.cmp .In (.loc 7) (.loc 6))) .nil)))
      (.cons (.ret (.bl false))
      .nil)
      .nil
def f_is_cut_s5 : S := .ret (.not (.call 58 (.cons (.call 57 (.cons (.call 28 (.cons (.loc 0) .nil)) (.cons (.loc 5) .nil))) (.cons (.loc 1) (.cons (.loc 2) (.cons (.loc 3) (.cons (.loc 4) .nil)))))))
def f_is_cut : Fn := ⟨61, "is_cut", ["fleet", "ship", "hour", "goal", "by", "thing"], ["fleet", "ship", "hour", "goal", "by", "thing", "others", "name"],
    (.cons f_is_cut_s1 (.cons f_is_cut_s2 (.cons f_is_cut_s3 (.cons f_is_cut_s4 (.cons f_is_cut_s5 .nil)))))⟩
def f_best_lots_s1 : S := .set 1 (.lst .nil)
def f_best_lots_s2 : S := .for (.tup [2, 3]) (.enum (.loc 0))
      (.cons (.set 4 (.comp [("other", 6)] (.one 6) (.val (.sl (.loc 0) (.yes (.bin .add (.loc 2) (.int 1))) .no)) (.yes (.not (.bi .any (.cons (.comp [("name", 7)] (.one 7) (.val (.loc 6)) .no (.cmp .In (.loc 7) (.loc 3))) .nil)))) (.loc 6)))
      (.cons (.set 5 (.bin .add (.lst (.cons (.loc 3) .nil)) (.call 62 (.cons (.loc 4) .nil))))
      (.cons (.set 1 (.ite (.cmp .Gt (.bi .len (.cons (.loc 5) .nil)) (.bi .len (.cons (.loc 1) .nil))) (.loc 5) (.loc 1)))
      .nil)))
def f_best_lots_s3 : S := .ret (.loc 1)
def f_best_lots : Fn := ⟨62, "best_lots", ["lots"], ["lots", "best", "at", "lot", "rest", "some", "other", "name"],
    (.cons f_best_lots_s1 (.cons f_best_lots_s2 (.cons f_best_lots_s3 .nil)))⟩
def f_straight_s1 : S := .ret (.comp [("row", 3)] (.one 3) (.val (.loc 0)) (.yes (.and (.cmp .NotEq (.ix (.loc 3) (.int 1)) (.loc 1)) (.cmp .NotEq (.ix (.loc 3) (.int 2)) (.loc 2)))) (.loc 3))
def f_straight : Fn := ⟨63, "straight", ["rows", "ship", "goal"], ["rows", "ship", "goal", "row"],
    (.cons f_straight_s1 .nil)⟩
def f_rows_by_s1 : S := .set 5 (.call 57 (.cons (.loc 0) (.cons (.comp [("name", 7)] (.one 7) (.val (.loc 3)) (.yes (.cmp .NotIn (.loc 7) (.loc 4))) (.loc 7)) .nil)))
def f_rows_by_s2 : S := .ret (.comp [("row", 6)] (.one 6) (.val (.loc 5)) (.yes (.or (.cmp .Eq (.loc 4) (.tup .nil)) (.or (.cmp .NotEq (.ix (.loc 6) (.int 1)) (.loc 2)) (.cmp .NotEq (.ix (.loc 6) (.int 2)) (.loc 1))))) (.loc 6))
def f_rows_by : Fn := ⟨64, "rows_by", ["rows", "ship", "goal", "others", "lot"], ["rows", "ship", "goal", "others", "lot", "some", "row", "name"],
    (.cons f_rows_by_s1 (.cons f_rows_by_s2 .nil))⟩
def f_most_apart_s1 : S := .expr (.call 55 (.cons (.loc 0) (.cons (.loc 1) (.cons (.loc 2) (.cons (.loc 3) (.cons (.loc 4) .nil))))))
def f_most_apart_s2 : S := .par [6, 7] (.cons (.call 63 (.cons (.call 28 (.cons (.loc 0) .nil)) (.cons (.loc 1) (.cons (.loc 3) .nil)))) (.cons (.call 56 (.cons (.loc 0) (.cons (.loc 1) (.cons (.loc 3) .nil)))) .nil))
def f_most_apart_s3 : S := .set 5 (.comp [("lot", 8)] (.one 8) (.val (.call 51 (.cons (.loc 7) .nil))) (.yes (.call 58 (.cons (.call 64 (.cons (.loc 6) (.cons (.loc 1) (.cons (.loc 3) (.cons (.loc 7) (.cons (.loc 8) .nil)))))) (.cons (.loc 1) (.cons (.loc 2) (.cons (.loc 3) (.cons (.loc 4) .nil))))))) (.loc 8))
def f_most_apart_s4 : S := .ret (.comp [("lot", 8)] (.one 8) (.val (.call 62 (.cons (.loc 5) .nil))) .no (.call 37 (.cons (.call 64 (.cons (.loc 6) (.cons (.loc 1) (.cons (.loc 3) (.cons (.loc 7) (.cons (.loc 8) .nil)))))) (.cons (.loc 1) (.cons (.loc 2) (.cons (.loc 3) .nil))))))
def f_most_apart : Fn := ⟨65, "most_apart", ["fleet", "ship", "hour", "goal", "by"], ["fleet", "ship", "hour", "goal", "by", "lots", "rows", "others", "lot"],
    (.cons f_most_apart_s1 (.cons f_most_apart_s2 (.cons f_most_apart_s3 (.cons f_most_apart_s4 .nil))))⟩
def f_without_s1 : S := .expr (.call 18 (.cons (.loc 0) .nil))
def f_without_s2 : S := .expr (.call 21 (.cons (.loc 0) (.cons (.loc 1) .nil)))
def f_without_s3 : S := .ite (.cmp .Eq (.bi .len (.cons (.ix (.loc 0) (.int 2)) .nil)) (.int 1))
      (.cons (.raise "NoShip")
      .nil)
      .nil
def f_without_s4 : S := .ret (.bin .add (.sl (.loc 0) .no (.yes (.int 2))) (.tup (.cons (.bi .tuple (.cons (.comp [("ship", 2)] (.one 2) (.val (.ix (.loc 0) (.int 2))) (.yes (.cmp .NotEq (.ix (.loc 2) (.int 0)) (.loc 1))) (.loc 2)) .nil)) (.cons (.ix (.loc 0) (.int 3)) .nil))))
def f_without : Fn := ⟨67, "without", ["fleet", "name"], ["fleet", "name", "ship"],
    (.cons f_without_s1 (.cons f_without_s2 (.cons f_without_s3 (.cons f_without_s4 .nil))))⟩
def f_look_both_s1 : S := .expr (.call 18 (.cons (.loc 0) .nil))
def f_look_both_s2 : S := .expr (.call 18 (.cons (.loc 1) .nil))
def f_look_both_s3 : S := .ite (.or (.cmp .NotEq (.ix (.loc 0) (.int 0)) (.ix (.loc 1) (.int 0))) (.cmp .NotEq (.call 19 (.cons (.loc 0) .nil)) (.call 19 (.cons (.loc 1) .nil))))
      (.cons (.raise "NoFleet")
      .nil)
      .nil
def f_look_both : Fn := ⟨68, "look_both", ["one", "other"], ["one", "other"],
    (.cons f_look_both_s1 (.cons f_look_both_s2 (.cons f_look_both_s3 .nil)))⟩
def f_parting_s1 : S := .expr (.call 68 (.cons (.loc 0) (.cons (.loc 1) .nil)))
def f_parting_s2 : S := .par [3, 4] (.cons (.call 28 (.cons (.loc 0) .nil)) (.cons (.call 28 (.cons (.loc 1) .nil)) .nil))
def f_parting_s3 : S := .for (.one 2) (.val (.call 19 (.cons (.loc 0) .nil)))
      (.cons (.for (.one 5) (.rng1 (.bin .add (.ix (.loc 0) (.int 0)) (.int 1)))
      (.cons (.par [7, 8] (.cons (.call 31 (.cons (.loc 3) (.cons (.loc 2) (.cons (.loc 5) .nil)))) (.cons (.call 31 (.cons (.loc 4) (.cons (.loc 2) (.cons (.loc 5) .nil)))) .nil)))
      (.cons (.for (.one 6) (.val (.call 19 (.cons (.loc 0) .nil)))
      (.cons (.ite (.cmp .NotEq (.dget (.loc 7) (.loc 6) .non) (.dget (.loc 8) (.loc 6) .non))
      (.cons (.ret (.tup (.cons (.loc 2) (.cons (.loc 5) (.cons (.loc 6) .nil)))))
      .nil)
      .nil)
      .nil))
      .nil)))
      .nil)
def f_parting_s4 : S := .ret .non
def f_parting : Fn := ⟨69, "parting", ["one", "other"], ["one", "other", "ship", "mine", "yours", "hour", "goal", "here", "there"],
    (.cons f_parting_s1 (.cons f_parting_s2 (.cons f_parting_s3 (.cons f_parting_s4 .nil))))⟩
def f_are_alike_s1 : S := .ret (.cmp .Is (.call 69 (.cons (.loc 0) (.cons (.loc 1) .nil))) .non)
def f_are_alike : Fn := ⟨70, "are_alike", ["one", "other"], ["one", "other"],
    (.cons f_are_alike_s1 .nil)⟩
def f__wall_s1 : S := .while (.bl true)
      (.cons .pass
      .nil)
def f__wall : Fn := ⟨72, "_wall", ["k"], ["k"],
    (.cons f__wall_s1 .nil)⟩
def f_turned_s1 : S := .setO 4 (.lst .nil)
def f_turned_s2 : S := .for (.tup [5, 6, 7]) (.val (.ix (.loc 0) (.int 2)))
      (.cons (.app 4 (.tup (.cons (.loc 5) (.cons (.loc 6) (.cons (.ite (.cmp .Eq (.loc 5) (.loc 1)) (.bin .add (.bin .add (.sl (.loc 7) .no (.yes (.loc 2))) (.tup (.cons (.loc 3) .nil))) (.sl (.loc 7) (.yes (.bin .add (.loc 2) (.int 1))) .no)) (.loc 7)) .nil)))))
      .nil)
def f_turned_s3 : S := .ret (.bin .add (.sl (.loc 0) .no (.yes (.int 2))) (.tup (.cons (.bi .tuple (.cons (.tr 4) .nil)) (.cons (.ix (.loc 0) (.int 3)) .nil))))
def f_turned : Fn := ⟨73, "turned", ["fleet", "name", "hour", "cell"], ["fleet", "name", "hour", "cell", "ships", "ship", "sight", "course"],
    (.cons f_turned_s1 (.cons f_turned_s2 (.cons f_turned_s3 .nil)))⟩
def f_ship_in_s1 : S := .ite (.cmp .Lt (.bi .len (.cons (.loc 0) .nil)) (.int 3))
      (.cons (.raise "NoText")
      .nil)
      .nil
def f_ship_in_s2 : S := .ret (.tup (.cons (.ix (.loc 0) (.int 0)) (.cons (.call 76 (.cons (.ix (.loc 0) (.int 1)) .nil)) (.cons (.bi .tuple (.cons (.comp [("part", 1)] (.one 1) (.val (.sl (.loc 0) (.yes (.int 2)) .no)) .no (.call 77 (.cons (.loc 1) .nil))) .nil)) .nil))))
def f_ship_in : Fn := ⟨78, "ship_in", ["parts"], ["parts", "part"],
    (.cons f_ship_in_s1 (.cons f_ship_in_s2 .nil))⟩
def f_mist_in_s1 : S := .ite (.cmp .NotEq (.bi .len (.cons (.loc 0) .nil)) (.int 5))
      (.cons (.raise "NoText")
      .nil)
      .nil
def f_mist_in_s2 : S := .ret (.tup (.cons (.call 76 (.cons (.ix (.loc 0) (.int 0)) .nil)) (.cons (.call 76 (.cons (.ix (.loc 0) (.int 1)) .nil)) (.cons (.call 77 (.cons (.ix (.loc 0) (.int 2)) .nil)) (.cons (.call 77 (.cons (.ix (.loc 0) (.int 3)) .nil)) (.cons (.call 76 (.cons (.ix (.loc 0) (.int 4)) .nil)) .nil))))))
def f_mist_in : Fn := ⟨79, "mist_in", ["parts"], ["parts"],
    (.cons f_mist_in_s1 (.cons f_mist_in_s2 .nil))⟩
def f_fleet_text_s1 : S := .expr (.call 18 (.cons (.loc 0) .nil))
def f_fleet_text_s2 : S := .ret (.call 75 (.cons (.loc 0) .nil))
def f_fleet_text : Fn := ⟨83, "fleet_text", ["fleet"], ["fleet"],
    (.cons f_fleet_text_s1 (.cons f_fleet_text_s2 .nil))⟩
def f_is_world_of_s1 : S := .ite (.or (.not (.isI (.loc 1) .tuple)) (.cmp .NotEq (.bi .len (.cons (.loc 1) .nil)) (.bi .len (.cons (.ix (.loc 0) (.int 2)) .nil))))
      (.cons (.ret (.bl false))
      .nil)
      .nil
def f_is_world_of_s2 : S := .ret (.bi .all (.cons (.comp [("part", 2)] (.one 2) (.val (.loc 1)) .no (.call 10 (.cons (.loc 2) (.cons (.int 0) (.cons (.bin .add (.ix (.loc 0) (.int 0)) (.int 1)) .nil))))) .nil))
def f_is_world_of : Fn := ⟨85, "is_world_of", ["fleet", "thing"], ["fleet", "thing", "part"],
    (.cons f_is_world_of_s1 (.cons f_is_world_of_s2 .nil))⟩
def f_are_worlds_of_s1 : S := .ite (.or (.not (.isI (.loc 1) .tuple)) (.not (.chain .LtE .LtE (.int 1) (.bi .len (.cons (.loc 1) .nil)) (.gint "MOST_WORLDS" 24))))
      (.cons (.ret (.bl false))
      .nil)
      .nil
def f_are_worlds_of_s2 : S := .ret (.and (.bi .all (.cons (.comp [("world", 2)] (.one 2) (.val (.loc 1)) .no (.call 85 (.cons (.loc 0) (.cons (.loc 2) .nil)))) .nil)) (.call 13 (.cons (.loc 1) .nil)))
def f_are_worlds_of : Fn := ⟨86, "are_worlds_of", ["fleet", "thing"], ["fleet", "thing", "world"],
    (.cons f_are_worlds_of_s1 (.cons f_are_worlds_of_s2 .nil))⟩
def f_is_world_s1 : S := .expr (.call 18 (.cons (.loc 0) .nil))
def f_is_world_s2 : S := .ret (.call 85 (.cons (.loc 0) (.cons (.loc 1) .nil)))
def f_is_world : Fn := ⟨87, "is_world", ["fleet", "thing"], ["fleet", "thing"],
    (.cons f_is_world_s1 (.cons f_is_world_s2 .nil))⟩
def f_are_worlds_s1 : S := .expr (.call 18 (.cons (.loc 0) .nil))
def f_are_worlds_s2 : S := .ret (.call 86 (.cons (.loc 0) (.cons (.loc 1) .nil)))
def f_are_worlds : Fn := ⟨88, "are_worlds", ["fleet", "thing"], ["fleet", "thing"],
    (.cons f_are_worlds_s1 (.cons f_are_worlds_s2 .nil))⟩
def f__law_pick_s1 : S := .set 3 (.ite (.cmp .NotEq (.loc 0) (.lst .nil)) (.ix (.loc 0) (.bin .mod (.loc 1) (.bi .len (.cons (.loc 0) .nil)))) (.int 0))
def f__law_pick_s2 : S := .par [5, 6] (.cons (.bin .fdiv (.loc 3) (.bin .pow (.int 10) (.int 18))) (.cons (.bin .fdiv (.loc 1) (.bi .max2 (.cons (.bi .len (.cons (.loc 0) .nil)) (.cons (.int 1) .nil)))) .nil))
def f__law_pick_s3 : S := .while (.and (.cmp .Gt (.loc 5) (.int 0)) (.cmp .Gt (.loc 6) (.int 0)))
      (.cons (.par [5, 6] (.cons (.bin .fdiv (.loc 5) (.int 840)) (.cons (.bin .sub (.loc 6) (.int 1)) .nil)))
      .nil)
def f__law_pick_s4 : S := .ite (.cmp .Gt (.loc 5) (.int 0))
      (.cons (.ret (.bin .mod (.bin .mod (.loc 5) (.int 840)) (.loc 2)))
      .nil)
      .nil
def f__law_pick_s5 : S := .set 4 (.bin .mod (.bin .mul (.bin .add (.bin .mul (.loc 3) (.int 31)) (.bin .mul (.int 6151) (.bin .add (.loc 1) (.int 1)))) (.int 40692)) (.int 2147483399))
def f__law_pick_s6 : S := .ret (.bin .mod (.bin .mod (.bin .add (.bin .mul (.loc 4) (.loc 4)) (.bin .fdiv (.loc 4) (.int 31))) (.int 2147483629)) (.loc 2))
def f__law_pick : Fn := ⟨1072, "_law_pick", ["_law_script", "_law_k", "_law_many"], ["_law_script", "_law_k", "_law_many", "_law_cell", "_law_drawn", "_law_rest", "_law_turn"],
    (.cons f__law_pick_s1 (.cons f__law_pick_s2 (.cons f__law_pick_s3 (.cons f__law_pick_s4 (.cons f__law_pick_s5 (.cons f__law_pick_s6 .nil))))))⟩
def f__law_fleet5_s1 : S := .par [9, 3] (.cons (.bin .add (.int 1) (.call 1072 (.cons (.loc 0) (.cons (.loc 1) (.cons (.int 3) .nil))))) (.cons (.lst (.cons (.str "sa") (.cons (.str "sb") (.cons (.str "sc") (.cons (.str "sd") (.cons (.str "se") .nil)))))) .nil))
def f__law_fleet5_s2 : S := .set 3 (.sl (.loc 3) .no (.yes (.bin .add (.int 2) (.call 1072 (.cons (.loc 0) (.cons (.bin .add (.loc 1) (.int 1)) (.cons (.bin .sub (.loc 2) (.int 1)) .nil)))))))
def f__law_fleet5_s3 : S := .set 4 (.ite (.cmp .Eq (.call 1072 (.cons (.loc 0) (.cons (.bin .add (.loc 1) (.int 2)) (.cons (.int 3) .nil)))) (.int 0)) (.tup (.cons (.tup (.cons (.int 1) (.cons (.int 1) .nil))) .nil)) (.tup .nil))
def f__law_fleet5_s4 : S := .set 5 (.comp [("_law_k", 10)] (.one 10) (.rng1 (.int 12)) .no (.tup (.cons (.bin .mod (.loc 10) (.int 4)) (.cons (.bin .fdiv (.loc 10) (.int 4)) .nil))))
def f__law_fleet5_s5 : S := .set 5 (.comp [("_law_cell", 14)] (.one 14) (.val (.loc 5)) (.yes (.cmp .NotIn (.loc 14) (.loc 4))) (.loc 14))
def f__law_fleet5_s6 : S := .setO 6 (.lst .nil)
def f__law_fleet5_s7 : S := .for (.tup [10, 11]) (.enum (.loc 3))
      (.cons (.set 12 (.bin .add (.bin .add (.loc 1) (.int 10)) (.bin .mul (.int 8) (.loc 10))))
      (.cons (.set 13 (.comp [("_law_hour", 15)] (.one 15) (.rng1 (.bin .add (.loc 9) (.int 1))) .no (.ix (.loc 5) (.call 1072 (.cons (.loc 0) (.cons (.bin .add (.bin .add (.loc 12) (.int 1)) (.loc 15)) (.cons (.bi .len (.cons (.loc 5) .nil)) .nil)))))))
      (.cons (.app 6 (.tup (.cons (.loc 11) (.cons (.ix (.lst (.cons (.int 1) (.cons (.int 1) (.cons (.int 2) (.cons (.int 2) (.cons (.int 0) .nil)))))) (.call 1072 (.cons (.loc 0) (.cons (.loc 12) (.cons (.int 5) .nil))))) (.cons (.bi .tuple (.cons (.loc 13) .nil)) .nil)))))
      .nil)))
def f__law_fleet5_s8 : S := .set 7 (.tup (.cons (.int 0) (.cons (.call 1072 (.cons (.loc 0) (.cons (.bin .add (.loc 1) (.int 3)) (.cons (.bin .add (.loc 9) (.int 1)) .nil)))) (.cons (.tup (.cons (.int 0) (.cons (.int 0) .nil))) (.cons (.tup (.cons (.int 1) (.cons (.int 2) .nil))) (.cons (.int 1) .nil))))))
def f__law_fleet5_s9 : S := .set 8 (.ite (.cmp .Eq (.call 1072 (.cons (.loc 0) (.cons (.bin .add (.loc 1) (.int 4)) (.cons (.int 3) .nil)))) (.int 0)) (.tup (.cons (.loc 7) .nil)) (.tup .nil))
def f__law_fleet5_s10 : S := .ret (.tup (.cons (.loc 9) (.cons (.loc 4) (.cons (.bi .tuple (.cons (.tr 6) .nil)) (.cons (.loc 8) .nil)))))
def f__law_fleet5 : Fn := ⟨1073, "_law_fleet", ["_law_script", "_law_at", "_law_most"], ["_law_script", "_law_at", "_law_most", "_law_names", "_law_islands", "_law_free", "_law_ships", "_law_mist", "_law_mists", "_law_last", "_law_k", "_law_name", "_law_here", "_law_course", "_law_cell", "_law_hour"],
    (.cons f__law_fleet5_s1 (.cons f__law_fleet5_s2 (.cons f__law_fleet5_s3 (.cons f__law_fleet5_s4 (.cons f__law_fleet5_s5 (.cons f__law_fleet5_s6 (.cons f__law_fleet5_s7 (.cons f__law_fleet5_s8 (.cons f__law_fleet5_s9 (.cons f__law_fleet5_s10 .nil))))))))))⟩
def f__law_worlds_s1 : S := .par [6, 7] (.cons (.bi .len (.cons (.ix (.loc 2) (.int 2)) .nil)) (.cons (.bin .add (.loc 1) (.int 10)) .nil))
def f__law_worlds_s2 : S := .setO 4 (.lst (.cons (.bi .tuple (.cons (.comp [("_law_j", 8)] (.one 8) (.rng1 (.loc 6)) .no (.call 1072 (.cons (.loc 0) (.cons (.bin .add (.loc 7) (.loc 8)) (.cons (.bin .add (.ix (.loc 2) (.int 0)) (.int 2)) .nil))))) .nil)) .nil))
def f__law_worlds_s3 : S := .for (.one 5) (.rng1 (.call 1072 (.cons (.loc 0) (.cons (.loc 1) (.cons (.loc 3) .nil)))))
      (.cons (.par [9, 10] (.cons (.bin .add (.bin .add (.loc 1) (.int 20)) (.bin .mul (.int 9) (.loc 5))) (.cons (.ix (.tr 4) (.call 1072 (.cons (.loc 0) (.cons (.bin .add (.bin .add (.loc 1) (.int 20)) (.bin .mul (.int 9) (.loc 5))) (.cons (.bi .len (.cons (.tr 4) .nil)) .nil))))) .nil)))
      (.cons (.set 8 (.call 1072 (.cons (.loc 0) (.cons (.bin .add (.loc 9) (.int 1)) (.cons (.loc 6) .nil)))))
      (.cons (.app 4 (.bin .add (.bin .add (.sl (.loc 10) .no (.yes (.loc 8))) (.tup (.cons (.call 1072 (.cons (.loc 0) (.cons (.bin .add (.loc 9) (.int 2)) (.cons (.bin .add (.ix (.loc 2) (.int 0)) (.int 2)) .nil)))) .nil))) (.sl (.loc 10) (.yes (.bin .add (.loc 8) (.int 1))) .no)))
      .nil)))
def f__law_worlds_s4 : S := .ret (.bi .tuple (.cons (.sset (.tr 4)) .nil))
def f__law_worlds : Fn := ⟨1074, "_law_worlds", ["_law_script", "_law_at", "_law_fleet_here", "_law_most"], ["_law_script", "_law_at", "_law_fleet_here", "_law_most", "_law_made", "_law_k", "_law_many", "_law_first", "_law_j", "_law_here", "_law_old"],
    (.cons f__law_worlds_s1 (.cons f__law_worlds_s2 (.cons f__law_worlds_s3 (.cons f__law_worlds_s4 .nil))))⟩
def f__law_odd_s1 : S := .set 2 (.lst (.cons .non (.cons (.bl true) (.cons (.str "") (.cons (.str "A") (.cons (.str "5") (.cons (.lst (.cons (.int 1) .nil)) (.cons (.tup (.cons (.int 1) .nil)) (.cons (.bin .sub (.neg (.int 1)) (.call 1072 (.cons (.loc 0) (.cons (.loc 1) (.cons (.int 9) .nil))))) (.cons (.str "abcdefghi") .nil))))))))))
def f__law_odd_s2 : S := .ret (.bin .add (.loc 2) (.lst (.cons (.lst (.cons (.lst (.cons (.str "a") .nil)) .nil)) (.cons (.bin .pow (.int 10) (.int 9)) (.cons (.tup (.cons (.str "a") .nil)) .nil)))))
def f__law_odd : Fn := ⟨1075, "_law_odd", ["_law_script", "_law_at"], ["_law_script", "_law_at", "_law_made"],
    (.cons f__law_odd_s1 (.cons f__law_odd_s2 .nil))⟩
def f_look_world_s1 : S := .ite (.not (.call 85 (.cons (.loc 0) (.cons (.loc 1) .nil))))
      (.cons (.raise "NoWorld")
      .nil)
      .nil
def f_look_world : Fn := ⟨89, "look_world", ["fleet", "thing"], ["fleet", "thing"],
    (.cons f_look_world_s1 .nil)⟩
def f_read_in_s1 : S := .ret (.comp [("name", 3), ("till", 4)] (.tup [3, 4]) (.val (.loc 1)) .no (.tup (.cons (.loc 3) (.cons (.call 91 (.cons (.ix (.loc 2) (.index (.loc 0) (.loc 3))) (.cons (.loc 4) .nil))) .nil))))
def f_read_in : Fn := ⟨90, "read_in", ["names", "tills", "world"], ["names", "tills", "world", "name", "till"],
    (.cons f_read_in_s1 .nil)⟩
def f_when_read_s1 : S := .ret (.ite (.cmp .LtE (.loc 0) (.loc 1)) (.loc 0) .non)
def f_when_read : Fn := ⟨91, "when_read", ["hour", "till"], ["hour", "till"],
    (.cons f_when_read_s1 .nil)⟩
def f_read_by_s1 : S := .expr (.call 18 (.cons (.loc 0) .nil))
def f_read_by_s2 : S := .expr (.call 89 (.cons (.loc 0) (.cons (.loc 1) .nil)))
def f_read_by_s3 : S := .expr (.call 21 (.cons (.loc 0) (.cons (.loc 2) .nil)))
def f_read_by_s4 : S := .expr (.call 22 (.cons (.loc 3) (.cons (.bin .add (.ix (.loc 0) (.int 0)) (.int 1)) .nil)))
def f_read_by_s5 : S := .ret (.call 90 (.cons (.call 19 (.cons (.loc 0) .nil)) (.cons (.call 42 (.cons (.loc 0) (.cons (.loc 2) (.cons (.loc 3) .nil)))) (.cons (.loc 1) .nil))))
def f_read_by : Fn := ⟨92, "read_by", ["fleet", "world", "ship", "hour"], ["fleet", "world", "ship", "hour"],
    (.cons f_read_by_s1 (.cons f_read_by_s2 (.cons f_read_by_s3 (.cons f_read_by_s4 (.cons f_read_by_s5 .nil)))))⟩
def f_cant_tell_s1 : S := .expr (.call 18 (.cons (.loc 0) .nil))
def f_cant_tell_s2 : S := .expr (.call 89 (.cons (.loc 0) (.cons (.loc 1) .nil)))
def f_cant_tell_s3 : S := .expr (.call 89 (.cons (.loc 0) (.cons (.loc 2) .nil)))
def f_cant_tell_s4 : S := .expr (.call 21 (.cons (.loc 0) (.cons (.loc 3) .nil)))
def f_cant_tell_s5 : S := .expr (.call 22 (.cons (.loc 4) (.cons (.bin .add (.ix (.loc 0) (.int 0)) (.int 1)) .nil)))
def f_cant_tell_s6 : S := .set 5 (.call 42 (.cons (.loc 0) (.cons (.loc 3) (.cons (.loc 4) .nil))))
def f_cant_tell_s7 : S := .ret (.cmp .Eq (.call 90 (.cons (.call 19 (.cons (.loc 0) .nil)) (.cons (.loc 5) (.cons (.loc 1) .nil)))) (.call 90 (.cons (.call 19 (.cons (.loc 0) .nil)) (.cons (.loc 5) (.cons (.loc 2) .nil)))))
def f_cant_tell : Fn := ⟨93, "cant_tell", ["fleet", "one", "other", "ship", "hour"], ["fleet", "one", "other", "ship", "hour", "tills"],
    (.cons f_cant_tell_s1 (.cons f_cant_tell_s2 (.cons f_cant_tell_s3 (.cons f_cant_tell_s4 (.cons f_cant_tell_s5 (.cons f_cant_tell_s6 (.cons f_cant_tell_s7 .nil)))))))⟩
def f_deep_s1 : S := .ite (.or (.not (.isI (.loc 1) .tuple)) (.or (.cmp .Eq (.loc 1) (.tup .nil)) (.or (.not (.isI (.ix (.loc 1) (.int 0)) .str)) (.cmp .Lt (.loc 2) (.int 1)))))
      (.cons (.ret .non)
      .nil)
      .nil
def f_deep_s2 : S := .ite (.cmp .Eq (.ix (.loc 1) (.int 0)) (.str "by"))
      (.cons (.ret (.ite (.and (.cmp .Eq (.bi .len (.cons (.loc 1) .nil)) (.int 3)) (.call 95 (.cons (.loc 0) (.cons (.loc 1) .nil)))) (.int 1) .non))
      .nil)
      .nil
def f_deep_s3 : S := .ite (.or (.and (.cmp .Eq (.ix (.loc 1) (.int 0)) (.str "not")) (.cmp .Eq (.bi .len (.cons (.loc 1) .nil)) (.int 2))) (.and (.cmp .Eq (.ix (.loc 1) (.int 0)) (.str "and")) (.cmp .Eq (.bi .len (.cons (.loc 1) .nil)) (.int 3))))
      (.cons (.set 4 (.comp [("part", 5)] (.one 5) (.val (.sl (.loc 1) (.yes (.int 1)) .no)) .no (.call 94 (.cons (.loc 0) (.cons (.loc 5) (.cons (.bin .sub (.loc 2) (.int 1)) .nil))))))
      (.cons (.ret (.ite (.cmp .In .non (.loc 4)) .non (.bin .add (.bi .max1 (.cons (.loc 4) .nil)) (.int 1))))
      .nil))
      .nil
def f_deep_s4 : S := .ite (.or (.cmp .NotIn (.ix (.loc 1) (.int 0)) (.tup (.cons (.str "knows") (.cons (.str "all") (.cons (.str "common") .nil))))) (.or (.cmp .NotEq (.bi .len (.cons (.loc 1) .nil)) (.int 4)) (.not (.call 10 (.cons (.ix (.loc 1) (.int 2)) (.cons (.int 0) (.cons (.bin .add (.ix (.loc 0) (.int 0)) (.int 1)) .nil)))))))
      (.cons (.ret .non)
      .nil)
      .nil
def f_deep_s5 : S := .ite (.not (.call 96 (.cons (.loc 0) (.cons (.loc 1) .nil))))
      (.cons (.ret .non)
      .nil)
      .nil
def f_deep_s6 : S := .set 3 (.call 94 (.cons (.loc 0) (.cons (.ix (.loc 1) (.int 3)) (.cons (.bin .sub (.loc 2) (.int 1)) .nil))))
def f_deep_s7 : S := .ret (.ite (.cmp .IsNot (.loc 3) .non) (.bin .add (.loc 3) (.int 1)) .non)
def f_deep : Fn := ⟨94, "deep", ["fleet", "thing", "most"], ["fleet", "thing", "most", "below", "some", "part"],
    (.cons f_deep_s1 (.cons f_deep_s2 (.cons f_deep_s3 (.cons f_deep_s4 (.cons f_deep_s5 (.cons f_deep_s6 (.cons f_deep_s7 .nil)))))))⟩
def f_is_hour_of_s1 : S := .ret (.and (.call 11 (.cons (.ix (.loc 1) (.int 1)) .nil)) (.and (.cmp .In (.ix (.loc 1) (.int 1)) (.call 19 (.cons (.loc 0) .nil))) (.call 10 (.cons (.ix (.loc 1) (.int 2)) (.cons (.int 0) (.cons (.ix (.loc 0) (.int 0)) .nil))))))
def f_is_hour_of : Fn := ⟨95, "is_hour_of", ["fleet", "thing"], ["fleet", "thing"],
    (.cons f_is_hour_of_s1 .nil)⟩
def f_is_knower_s1 : S := .ite (.cmp .Eq (.ix (.loc 1) (.int 0)) (.str "knows"))
      (.cons (.ret (.and (.call 11 (.cons (.ix (.loc 1) (.int 1)) .nil)) (.cmp .In (.ix (.loc 1) (.int 1)) (.call 19 (.cons (.loc 0) .nil)))))
      .nil)
      .nil
def f_is_knower_s2 : S := .ret (.call 48 (.cons (.loc 0) (.cons (.ix (.loc 1) (.int 1)) .nil)))
def f_is_knower : Fn := ⟨96, "is_knower", ["fleet", "thing"], ["fleet", "thing"],
    (.cons f_is_knower_s1 (.cons f_is_knower_s2 .nil))⟩
def f_is_sentence_s1 : S := .expr (.call 18 (.cons (.loc 0) .nil))
def f_is_sentence_s2 : S := .ret (.cmp .IsNot (.call 94 (.cons (.loc 0) (.cons (.loc 1) (.cons (.gint "MOST_DEEP" 4) .nil)))) .non)
def f_is_sentence : Fn := ⟨97, "is_sentence", ["fleet", "thing"], ["fleet", "thing"],
    (.cons f_is_sentence_s1 (.cons f_is_sentence_s2 .nil))⟩
def f__law_sentence_s1 : S := .set 4 (.comp [("_law_ship", 10)] (.one 10) (.val (.ix (.loc 2) (.int 2))) .no (.ix (.loc 10) (.int 0)))
def f__law_sentence_s2 : S := .par [8, 9] (.cons (.ite (.cmp .Gt (.loc 3) (.int 1)) (.call 1072 (.cons (.loc 0) (.cons (.loc 1) (.cons (.int 7) .nil)))) (.int 0)) (.cons (.ix (.loc 4) (.call 1072 (.cons (.loc 0) (.cons (.bin .add (.loc 1) (.int 1)) (.cons (.bi .len (.cons (.loc 4) .nil)) .nil))))) .nil))
def f__law_sentence_s3 : S := .set 5 (.call 1072 (.cons (.loc 0) (.cons (.bin .add (.loc 1) (.int 2)) (.cons (.bin .add (.ix (.loc 2) (.int 0)) (.int 2)) .nil))))
def f__law_sentence_s4 : S := .ite (.cmp .Lt (.loc 8) (.int 2))
      (.cons (.ret (.tup (.cons (.str "by") (.cons (.loc 9) (.cons (.bi .min2 (.cons (.loc 5) (.cons (.ix (.loc 2) (.int 0)) .nil))) .nil)))))
      .nil)
      .nil
def f__law_sentence_s5 : S := .set 6 (.call 1080 (.cons (.loc 0) (.cons (.bin .add (.loc 1) (.int 9)) (.cons (.loc 2) (.cons (.bin .sub (.loc 3) (.int 1)) .nil)))))
def f__law_sentence_s6 : S := .ite (.cmp .Eq (.loc 8) (.int 2))
      (.cons (.ret (.tup (.cons (.str "not") (.cons (.loc 6) .nil))))
      .nil)
      .nil
def f__law_sentence_s7 : S := .ite (.cmp .Eq (.loc 8) (.int 3))
      (.cons (.ret (.tup (.cons (.str "and") (.cons (.loc 6) (.cons (.call 1080 (.cons (.loc 0) (.cons (.bin .add (.loc 1) (.int 40)) (.cons (.loc 2) (.cons (.bin .sub (.loc 3) (.int 1)) .nil))))) .nil)))))
      .nil)
      .nil
def f__law_sentence_s8 : S := .ite (.cmp .Eq (.loc 8) (.int 4))
      (.cons (.ret (.tup (.cons (.str "knows") (.cons (.loc 9) (.cons (.loc 5) (.cons (.loc 6) .nil))))))
      .nil)
      .nil
def f__law_sentence_s9 : S := .set 7 (.bi .tuple (.cons (.comp [("_law_k", 11), ("_law_one", 12)] (.tup [11, 12]) (.enum (.loc 4)) (.yes (.or (.cmp .Eq (.loc 12) (.loc 9)) (.cmp .Eq (.call 1072 (.cons (.loc 0) (.cons (.bin .add (.bin .add (.loc 1) (.int 3)) (.loc 11)) (.cons (.int 2) .nil)))) (.int 0)))) (.loc 12)) .nil))
def f__law_sentence_s10 : S := .ret (.tup (.cons (.ix (.lst (.cons (.str "all") (.cons (.str "common") .nil))) (.bin .sub (.loc 8) (.int 5))) (.cons (.loc 7) (.cons (.loc 5) (.cons (.loc 6) .nil)))))
def f__law_sentence : Fn := ⟨1080, "_law_sentence", ["_law_script", "_law_at", "_law_fleet_here", "_law_most_deep"], ["_law_script", "_law_at", "_law_fleet_here", "_law_most_deep", "_law_names", "_law_hour", "_law_below", "_law_some", "_law_turn", "_law_name", "_law_ship", "_law_k", "_law_one"],
    (.cons f__law_sentence_s1 (.cons f__law_sentence_s2 (.cons f__law_sentence_s3 (.cons f__law_sentence_s4 (.cons f__law_sentence_s5 (.cons f__law_sentence_s6 (.cons f__law_sentence_s7 (.cons f__law_sentence_s8 (.cons f__law_sentence_s9 (.cons f__law_sentence_s10 .nil))))))))))⟩
def f_look_worlds_s1 : S := .expr (.call 18 (.cons (.loc 0) .nil))
def f_look_worlds_s2 : S := .ite (.not (.call 86 (.cons (.loc 0) (.cons (.loc 1) .nil))))
      (.cons (.raise "NoWorlds")
      .nil)
      .nil
def f_look_worlds_s3 : S := .ite (.or (.not (.call 85 (.cons (.loc 0) (.cons (.loc 2) .nil)))) (.cmp .NotIn (.loc 2) (.loc 1)))
      (.cons (.raise "NoWorld")
      .nil)
      .nil
def f_look_worlds : Fn := ⟨98, "look_worlds", ["fleet", "worlds", "world"], ["fleet", "worlds", "world"],
    (.cons f_look_worlds_s1 (.cons f_look_worlds_s2 (.cons f_look_worlds_s3 .nil)))⟩
def f_look_sentence_s1 : S := .ite (.cmp .Is (.call 94 (.cons (.loc 0) (.cons (.loc 1) (.cons (.bin .sub (.gint "MOST_DEEP" 4) (.loc 2)) .nil)))) .non)
      (.cons (.raise "NoSentence")
      .nil)
      .nil
def f_look_sentence : Fn := ⟨99, "look_sentence", ["fleet", "sentence", "more"], ["fleet", "sentence", "more"],
    (.cons f_look_sentence_s1 .nil)⟩
def f__law_alike_s1 : S := .set 5 (.call 92 (.cons (.loc 0) (.cons (.loc 2) (.cons (.loc 3) (.cons (.loc 4) .nil)))))
def f__law_alike_s2 : S := .ret (.comp [("_law_one", 6)] (.one 6) (.val (.loc 1)) (.yes (.cmp .Eq (.call 92 (.cons (.loc 0) (.cons (.loc 6) (.cons (.loc 3) (.cons (.loc 4) .nil))))) (.loc 5))) (.loc 6))
def f__law_alike : Fn := ⟨1082, "_law_alike", ["_law_fleet_here", "_law_worlds_here", "_law_world", "_law_ship", "_law_hour"], ["_law_fleet_here", "_law_worlds_here", "_law_world", "_law_ship", "_law_hour", "_law_look", "_law_one"],
    (.cons f__law_alike_s1 (.cons f__law_alike_s2 .nil))⟩
def f_look_knower_s1 : S := .expr (.call 98 (.cons (.loc 0) (.cons (.loc 1) (.cons (.loc 2) .nil))))
def f_look_knower_s2 : S := .expr (.call 21 (.cons (.loc 0) (.cons (.loc 3) .nil)))
def f_look_knower_s3 : S := .expr (.call 22 (.cons (.loc 4) (.cons (.bin .add (.ix (.loc 0) (.int 0)) (.int 1)) .nil)))
def f_look_knower_s4 : S := .expr (.call 99 (.cons (.loc 0) (.cons (.loc 5) (.cons (.int 0) .nil))))
def f_look_knower : Fn := ⟨101, "look_knower", ["fleet", "worlds", "world", "ship", "hour", "sentence"], ["fleet", "worlds", "world", "ship", "hour", "sentence"],
    (.cons f_look_knower_s1 (.cons f_look_knower_s2 (.cons f_look_knower_s3 (.cons f_look_knower_s4 .nil))))⟩
def f_look_names_s1 : S := .ite (.not (.call 48 (.cons (.loc 0) (.cons (.loc 1) .nil))))
      (.cons (.raise "NoGoals")
      .nil)
      .nil
def f_look_names : Fn := ⟨106, "look_names", ["fleet", "names"], ["fleet", "names"],
    (.cons f_look_names_s1 .nil)⟩
def f_look_doubters_s1 : S := .expr (.call 98 (.cons (.loc 0) (.cons (.loc 1) (.cons (.loc 2) .nil))))
def f_look_doubters_s2 : S := .expr (.call 106 (.cons (.loc 0) (.cons (.loc 3) .nil)))
def f_look_doubters_s3 : S := .expr (.call 22 (.cons (.loc 4) (.cons (.bin .add (.ix (.loc 0) (.int 0)) (.int 1)) .nil)))
def f_look_doubters_s4 : S := .expr (.call 99 (.cons (.loc 0) (.cons (.loc 5) (.cons (.int 0) .nil))))
def f_look_doubters : Fn := ⟨109, "look_doubters", ["fleet", "worlds", "world", "names", "hour", "sentence"], ["fleet", "worlds", "world", "names", "hour", "sentence"],
    (.cons f_look_doubters_s1 (.cons f_look_doubters_s2 (.cons f_look_doubters_s3 (.cons f_look_doubters_s4 .nil))))⟩
def f_tills_by_s1 : S := .setO 4 (.callO 41 (.cons (.call 46 (.cons (.call 28 (.cons (.loc 0) .nil)) (.cons (.loc 3) .nil))) (.cons (.loc 1) (.cons (.loc 2) .nil))))
def f_tills_by_s2 : S := .dput 4 (.loc 1) (.bi .min2 (.cons (.loc 2) (.cons (.ix (.loc 0) (.int 0)) .nil)))
def f_tills_by_s3 : S := .ret (.sitems (.tr 4))
def f_tills_by : Fn := ⟨112, "tills_by", ["fleet", "ship", "hour", "showings"], ["fleet", "ship", "hour", "showings", "found"],
    (.cons f_tills_by_s1 (.cons f_tills_by_s2 (.cons f_tills_by_s3 .nil)))⟩
def f_read_by_showings_s1 : S := .expr (.call 18 (.cons (.loc 0) .nil))
def f_read_by_showings_s2 : S := .expr (.call 89 (.cons (.loc 0) (.cons (.loc 1) .nil)))
def f_read_by_showings_s3 : S := .expr (.call 21 (.cons (.loc 0) (.cons (.loc 2) .nil)))
def f_read_by_showings_s4 : S := .expr (.call 22 (.cons (.loc 3) (.cons (.bin .add (.ix (.loc 0) (.int 0)) (.int 1)) .nil)))
def f_read_by_showings_s5 : S := .expr (.call 45 (.cons (.loc 0) (.cons (.loc 4) .nil)))
def f_read_by_showings_s6 : S := .ret (.call 90 (.cons (.call 19 (.cons (.loc 0) .nil)) (.cons (.call 112 (.cons (.loc 0) (.cons (.loc 2) (.cons (.loc 3) (.cons (.loc 4) .nil))))) (.cons (.loc 1) .nil))))
def f_read_by_showings : Fn := ⟨113, "read_by_showings", ["fleet", "world", "ship", "hour", "showings"], ["fleet", "world", "ship", "hour", "showings"],
    (.cons f_read_by_showings_s1 (.cons f_read_by_showings_s2 (.cons f_read_by_showings_s3 (.cons f_read_by_showings_s4 (.cons f_read_by_showings_s5 (.cons f_read_by_showings_s6 .nil))))))⟩
def f_is_plain_s1 : S := .ite (.cmp .Eq (.ix (.loc 0) (.int 0)) (.str "by"))
      (.cons (.ret (.bl true))
      .nil)
      .nil
def f_is_plain_s2 : S := .ret (.and (.cmp .In (.ix (.loc 0) (.int 0)) (.tup (.cons (.str "not") (.cons (.str "and") .nil)))) (.bi .all (.cons (.comp [("part", 1)] (.one 1) (.val (.sl (.loc 0) (.yes (.int 1)) .no)) .no (.call 114 (.cons (.loc 1) .nil))) .nil)))
def f_is_plain : Fn := ⟨114, "is_plain", ["sentence"], ["sentence", "part"],
    (.cons f_is_plain_s1 (.cons f_is_plain_s2 .nil))⟩
def f_is_so_s1 : S := .ite (.cmp .Eq (.ix (.loc 2) (.int 0)) (.str "by"))
      (.cons (.ret (.cmp .LtE (.ix (.loc 1) (.index (.loc 0) (.ix (.loc 2) (.int 1)))) (.ix (.loc 2) (.int 2))))
      .nil)
      .nil
def f_is_so_s2 : S := .ite (.cmp .Eq (.ix (.loc 2) (.int 0)) (.str "not"))
      (.cons (.ret (.not (.call 115 (.cons (.loc 0) (.cons (.loc 1) (.cons (.ix (.loc 2) (.int 1)) .nil))))))
      .nil)
      .nil
def f_is_so_s3 : S := .ret (.and (.call 115 (.cons (.loc 0) (.cons (.loc 1) (.cons (.ix (.loc 2) (.int 1)) .nil)))) (.call 115 (.cons (.loc 0) (.cons (.loc 1) (.cons (.ix (.loc 2) (.int 2)) .nil)))))
def f_is_so : Fn := ⟨115, "is_so", ["names", "world", "sentence"], ["names", "world", "sentence"],
    (.cons f_is_so_s1 (.cons f_is_so_s2 (.cons f_is_so_s3 .nil)))⟩
def f_look_plain_s1 : S := .expr (.call 98 (.cons (.loc 0) (.cons (.loc 1) (.cons (.loc 2) .nil))))
def f_look_plain_s2 : S := .expr (.call 21 (.cons (.loc 0) (.cons (.loc 3) .nil)))
def f_look_plain_s3 : S := .expr (.call 22 (.cons (.loc 4) (.cons (.bin .add (.ix (.loc 0) (.int 0)) (.int 1)) .nil)))
def f_look_plain_s4 : S := .expr (.call 99 (.cons (.loc 0) (.cons (.loc 5) (.cons (.int 0) .nil))))
def f_look_plain_s5 : S := .ite (.not (.call 114 (.cons (.loc 5) .nil)))
      (.cons (.raise "NoSentence")
      .nil)
      .nil
def f_look_plain : Fn := ⟨116, "look_plain", ["fleet", "worlds", "world", "ship", "hour", "sentence"], ["fleet", "worlds", "world", "ship", "hour", "sentence"],
    (.cons f_look_plain_s1 (.cons f_look_plain_s2 (.cons f_look_plain_s3 (.cons f_look_plain_s4 (.cons f_look_plain_s5 .nil)))))⟩
def f_does_know_s1 : S := .par [9, 10] (.cons (.call 19 (.cons (.loc 0) .nil)) (.cons (.call 112 (.cons (.loc 0) (.cons (.loc 3) (.cons (.loc 4) (.cons (.loc 6) .nil))))) .nil))
def f_does_know_s2 : S := .set 7 (.call 90 (.cons (.loc 9) (.cons (.loc 10) (.cons (.loc 2) .nil))))
def f_does_know_s3 : S := .set 8 (.comp [("there", 11)] (.one 11) (.val (.loc 1)) (.yes (.cmp .Eq (.call 90 (.cons (.loc 9) (.cons (.loc 10) (.cons (.loc 11) .nil)))) (.loc 7))) (.loc 11))
def f_does_know_s4 : S := .ret (.bi .all (.cons (.comp [("there", 11)] (.one 11) (.val (.loc 8)) .no (.call 115 (.cons (.loc 9) (.cons (.loc 11) (.cons (.loc 5) .nil))))) .nil))
def f_does_know : Fn := ⟨117, "does_know", ["fleet", "worlds", "world", "ship", "hour", "sentence", "showings"], ["fleet", "worlds", "world", "ship", "hour", "sentence", "showings", "look", "some", "names", "tills", "there"],
    (.cons f_does_know_s1 (.cons f_does_know_s2 (.cons f_does_know_s3 (.cons f_does_know_s4 .nil))))⟩
def f_knows_by_s1 : S := .expr (.call 116 (.cons (.loc 0) (.cons (.loc 1) (.cons (.loc 2) (.cons (.loc 3) (.cons (.loc 4) (.cons (.loc 5) .nil)))))))
def f_knows_by_s2 : S := .expr (.call 45 (.cons (.loc 0) (.cons (.loc 6) .nil)))
def f_knows_by_s3 : S := .ret (.call 117 (.cons (.loc 0) (.cons (.loc 1) (.cons (.loc 2) (.cons (.loc 3) (.cons (.loc 4) (.cons (.loc 5) (.cons (.loc 6) .nil))))))))
def f_knows_by : Fn := ⟨118, "knows_by", ["fleet", "worlds", "world", "ship", "hour", "sentence", "showings"], ["fleet", "worlds", "world", "ship", "hour", "sentence", "showings"],
    (.cons f_knows_by_s1 (.cons f_knows_by_s2 (.cons f_knows_by_s3 .nil)))⟩
def f__law_showings_s1 : S := .setO 3 (.lst .nil)
def f__law_showings_s2 : S := .for (.one 4) (.rng1 (.bin .add (.ix (.loc 2) (.int 0)) (.int 1)))
      (.cons (.for (.tup [5, 6]) (.enum (.ix (.loc 2) (.int 2)))
      (.cons (.ite (.cmp .Eq (.call 1072 (.cons (.loc 0) (.cons (.bin .add (.bin .add (.loc 1) (.bin .mul (.int 5) (.loc 4))) (.loc 5)) (.cons (.int 2) .nil)))) (.int 0))
      (.cons (.app 3 (.tup (.cons (.loc 4) (.cons (.ix (.loc 6) (.int 0)) .nil))))
      .nil)
      .nil)
      .nil))
      .nil)
def f__law_showings_s3 : S := .ret (.tr 3)
def f__law_showings : Fn := ⟨1092, "_law_showings", ["_law_script", "_law_at", "_law_fleet_here"], ["_law_script", "_law_at", "_law_fleet_here", "_law_made", "_law_hour", "_law_k", "_law_ship"],
    (.cons f__law_showings_s1 (.cons f__law_showings_s2 (.cons f__law_showings_s3 .nil)))⟩
def f__law_plain_sentence_s1 : S := .set 3 (.comp [("_law_ship", 5)] (.one 5) (.val (.ix (.loc 2) (.int 2))) .no (.ix (.loc 5) (.int 0)))
def f__law_plain_sentence_s2 : S := .set 4 (.tup (.cons (.str "by") (.cons (.ix (.loc 3) (.call 1072 (.cons (.loc 0) (.cons (.loc 1) (.cons (.bi .len (.cons (.loc 3) .nil)) .nil))))) (.cons (.call 1072 (.cons (.loc 0) (.cons (.bin .add (.loc 1) (.int 1)) (.cons (.bin .add (.ix (.loc 2) (.int 0)) (.int 1)) .nil)))) .nil))))
def f__law_plain_sentence_s3 : S := .set 4 (.ite (.cmp .Eq (.call 1072 (.cons (.loc 0) (.cons (.bin .add (.loc 1) (.int 2)) (.cons (.int 2) .nil)))) (.int 0)) (.tup (.cons (.str "not") (.cons (.loc 4) .nil))) (.loc 4))
def f__law_plain_sentence_s4 : S := .ite (.cmp .Eq (.call 1072 (.cons (.loc 0) (.cons (.bin .add (.loc 1) (.int 3)) (.cons (.int 3) .nil)))) (.int 0))
      (.cons (.set 4 (.tup (.cons (.str "and") (.cons (.loc 4) (.cons (.tup (.cons (.str "by") (.cons (.ix (.loc 3) (.call 1072 (.cons (.loc 0) (.cons (.bin .add (.loc 1) (.int 4)) (.cons (.bi .len (.cons (.loc 3) .nil)) .nil))))) (.cons (.ix (.loc 2) (.int 0)) .nil)))) .nil)))))
      .nil)
      .nil
def f__law_plain_sentence_s5 : S := .ret (.loc 4)
def f__law_plain_sentence : Fn := ⟨1093, "_law_plain_sentence", ["_law_script", "_law_at", "_law_fleet_here"], ["_law_script", "_law_at", "_law_fleet_here", "_law_names", "_law_made", "_law_ship"],
    (.cons f__law_plain_sentence_s1 (.cons f__law_plain_sentence_s2 (.cons f__law_plain_sentence_s3 (.cons f__law_plain_sentence_s4 (.cons f__law_plain_sentence_s5 .nil)))))⟩
def f_lots_of_size_s1 : S := .ite (.cmp .Eq (.loc 1) (.int 0))
      (.cons (.ret (.lst (.cons (.lst .nil) .nil)))
      .nil)
      .nil
def f_lots_of_size_s2 : S := .setO 2 (.lst .nil)
def f_lots_of_size_s3 : S := .for (.tup [3, 4]) (.enum (.loc 0))
      (.cons (.ext 2 (.comp [("more", 5)] (.one 5) (.val (.call 119 (.cons (.sl (.loc 0) (.yes (.bin .add (.loc 3) (.int 1))) .no) (.cons (.bin .sub (.loc 1) (.int 1)) .nil)))) .no (.bin .add (.lst (.cons (.loc 4) .nil)) (.loc 5))))
      .nil)
def f_lots_of_size_s4 : S := .ret (.tr 2)
def f_lots_of_size : Fn := ⟨119, "lots_of_size", ["rows", "many"], ["rows", "many", "made", "at", "row", "more"],
    (.cons f_lots_of_size_s1 (.cons f_lots_of_size_s2 (.cons f_lots_of_size_s3 (.cons f_lots_of_size_s4 .nil))))⟩
def f_are_enough_s1 : S := .expr (.call 116 (.cons (.loc 0) (.cons (.loc 1) (.cons (.loc 2) (.cons (.loc 3) (.cons (.loc 4) (.cons (.loc 5) .nil)))))))
def f_are_enough_s2 : S := .ret (.and (.call 44 (.cons (.loc 0) (.cons (.loc 6) .nil))) (.call 117 (.cons (.loc 0) (.cons (.loc 1) (.cons (.loc 2) (.cons (.loc 3) (.cons (.loc 4) (.cons (.loc 5) (.cons (.loc 6) .nil)))))))))
def f_are_enough : Fn := ⟨121, "are_enough", ["fleet", "worlds", "world", "ship", "hour", "sentence", "thing"], ["fleet", "worlds", "world", "ship", "hour", "sentence", "thing"],
    (.cons f_are_enough_s1 (.cons f_are_enough_s2 .nil))⟩
def f_all_chains_s1 : S := .expr (.call 55 (.cons (.loc 0) (.cons (.loc 1) (.cons (.loc 2) (.cons (.loc 3) (.cons (.loc 4) .nil))))))
def f_all_chains_s2 : S := .ret (.call 122 (.cons (.loc 0) (.cons (.loc 1) (.cons (.loc 2) (.cons (.loc 3) (.cons (.loc 4) .nil))))))
def f_all_chains : Fn := ⟨123, "all_chains", ["fleet", "ship", "hour", "goal", "by"], ["fleet", "ship", "hour", "goal", "by"],
    (.cons f_all_chains_s1 (.cons f_all_chains_s2 .nil))⟩
def f_is_clear_s1 : S := .ret (.not (.bi .any (.cons (.comp [("row", 2)] (.one 2) (.val (.loc 0)) .no (.or (.cmp .In (.ix (.loc 2) (.int 1)) (.loc 1)) (.cmp .In (.ix (.loc 2) (.int 2)) (.loc 1)))) .nil)))
def f_is_clear : Fn := ⟨124, "is_clear", ["chain", "names"], ["chain", "names", "row"],
    (.cons f_is_clear_s1 .nil)⟩
def f_fits_s1 : S := .set 4 (.comp [("chain", 5)] (.one 5) (.val (.loc 0)) (.yes (.call 124 (.cons (.loc 5) (.cons (.loc 3) .nil)))) (.loc 5))
def f_fits_s2 : S := .ite (.cmp .Is (.loc 2) .non)
      (.cons (.ret (.cmp .Eq (.loc 4) (.lst .nil)))
      .nil)
      .nil
def f_fits_s3 : S := .ret (.bi .all (.cons (.comp [("chain", 5)] (.one 5) (.val (.loc 4)) .no (.cmp .In (.tup (.cons (.loc 5) (.cons (.loc 2) .nil))) (.loc 1))) .nil))
def f_fits : Fn := ⟨127, "fits", ["chains", "readings", "value", "false"], ["chains", "readings", "value", "false", "clear", "chain"],
    (.cons f_fits_s1 (.cons f_fits_s2 (.cons f_fits_s3 .nil)))⟩
def f_look_readings_s1 : S := .expr (.call 55 (.cons (.loc 0) (.cons (.loc 1) (.cons (.loc 2) (.cons (.loc 3) (.cons (.loc 4) .nil))))))
def f_look_readings_s2 : S := .set 7 (.call 122 (.cons (.loc 0) (.cons (.loc 1) (.cons (.loc 2) (.cons (.loc 3) (.cons (.loc 4) .nil))))))
def f_look_readings_s3 : S := .ite (.not (.call 125 (.cons (.loc 7) (.cons (.loc 5) .nil))))
      (.cons (.raise "NoReadings")
      .nil)
      .nil
def f_look_readings_s4 : S := .ite (.not (.call 10 (.cons (.loc 6) (.cons (.int 0) (.cons (.gint "MOST_FALSE" 3) .nil)))))
      (.cons (.raise "NoNumber")
      .nil)
      .nil
def f_look_readings_s5 : S := .ret (.loc 7)
def f_look_readings : Fn := ⟨128, "look_readings", ["fleet", "ship", "hour", "goal", "by", "readings", "most"], ["fleet", "ship", "hour", "goal", "by", "readings", "most", "chains"],
    (.cons f_look_readings_s1 (.cons f_look_readings_s2 (.cons f_look_readings_s3 (.cons f_look_readings_s4 (.cons f_look_readings_s5 .nil)))))⟩
def f_are_false_s1 : S := .ite (.or (.not (.isI (.loc 1) .tuple)) (.or (.cmp .Gt (.bi .len (.cons (.loc 1) .nil)) (.loc 2)) (.not (.bi .all (.cons (.comp [("name", 3)] (.one 3) (.val (.loc 1)) .no (.call 11 (.cons (.loc 3) .nil))) .nil)))))
      (.cons (.ret (.bl false))
      .nil)
      .nil
def f_are_false_s2 : S := .ret (.and (.call 13 (.cons (.loc 1) .nil)) (.bi .all (.cons (.comp [("name", 3)] (.one 3) (.val (.loc 1)) .no (.cmp .In (.loc 3) (.loc 0))) .nil)))
def f_are_false : Fn := ⟨129, "are_false", ["others", "thing", "most"], ["others", "thing", "most", "name"],
    (.cons f_are_false_s1 (.cons f_are_false_s2 .nil))⟩
def f_is_tale_s1 : S := .set 8 (.call 128 (.cons (.loc 0) (.cons (.loc 1) (.cons (.loc 2) (.cons (.loc 3) (.cons (.loc 4) (.cons (.loc 5) (.cons (.loc 6) .nil))))))))
def f_is_tale_s2 : S := .ite (.or (.not (.isI (.loc 7) .tuple)) (.or (.cmp .NotEq (.bi .len (.cons (.loc 7) .nil)) (.int 2)) (.not (.call 129 (.cons (.call 56 (.cons (.loc 0) (.cons (.loc 1) (.cons (.loc 3) .nil)))) (.cons (.ix (.loc 7) (.int 1)) (.cons (.loc 6) .nil)))))))
      (.cons (.ret (.bl false))
      .nil)
      .nil
def f_is_tale_s3 : S := .ite (.and (.cmp .IsNot (.ix (.loc 7) (.int 0)) .non) (.or (.not (.call 11 (.cons (.ix (.loc 7) (.int 0)) .nil))) (.cmp .NotIn (.ix (.loc 7) (.int 0)) (.call 126 (.cons (.loc 5) .nil)))))
      (.cons (.ret (.bl false))
      .nil)
      .nil
def f_is_tale_s4 : S := .ret (.call 127 (.cons (.loc 8) (.cons (.loc 5) (.cons (.ix (.loc 7) (.int 0)) (.cons (.ix (.loc 7) (.int 1)) .nil)))))
def f_is_tale : Fn := ⟨130, "is_tale", ["fleet", "ship", "hour", "goal", "by", "readings", "most", "thing"], ["fleet", "ship", "hour", "goal", "by", "readings", "most", "thing", "chains"],
    (.cons f_is_tale_s1 (.cons f_is_tale_s2 (.cons f_is_tale_s3 (.cons f_is_tale_s4 .nil))))⟩
def f_tales_s1 : S := .set 7 (.call 128 (.cons (.loc 0) (.cons (.loc 1) (.cons (.loc 2) (.cons (.loc 3) (.cons (.loc 4) (.cons (.loc 5) (.cons (.loc 6) .nil))))))))
def f_tales_s2 : S := .set 8 (.bi .sorted (.cons (.comp [("lot", 11)] (.one 11) (.val (.call 51 (.cons (.call 56 (.cons (.loc 0) (.cons (.loc 1) (.cons (.loc 3) .nil)))) .nil))) (.yes (.cmp .LtE (.bi .len (.cons (.loc 11) .nil)) (.loc 6))) (.loc 11)) .nil))
def f_tales_s3 : S := .setO 9 (.lst .nil)
def f_tales_s4 : S := .for (.one 10) (.val (.bin .add (.lst (.cons .non .nil)) (.call 126 (.cons (.loc 5) .nil))))
      (.cons (.ext 9 (.comp [("lot", 11)] (.one 11) (.val (.loc 8)) (.yes (.call 127 (.cons (.loc 7) (.cons (.loc 5) (.cons (.loc 10) (.cons (.loc 11) .nil)))))) (.tup (.cons (.loc 10) (.cons (.loc 11) .nil)))))
      .nil)
def f_tales_s5 : S := .ret (.tr 9)
def f_tales : Fn := ⟨131, "tales", ["fleet", "ship", "hour", "goal", "by", "readings", "most"], ["fleet", "ship", "hour", "goal", "by", "readings", "most", "chains", "lots", "made", "value", "lot"],
    (.cons f_tales_s1 (.cons f_tales_s2 (.cons f_tales_s3 (.cons f_tales_s4 (.cons f_tales_s5 .nil)))))⟩
def f_stands_s1 : S := .set 7 (.call 131 (.cons (.loc 0) (.cons (.loc 1) (.cons (.loc 2) (.cons (.loc 3) (.cons (.loc 4) (.cons (.loc 5) (.cons (.loc 6) .nil))))))))
def f_stands_s2 : S := .set 8 (.comp [("value", 9), ("false", 10)] (.tup [9, 10]) (.val (.loc 7)) .no (.loc 9))
def f_stands_s3 : S := .ret (.ite (.and (.cmp .NotEq (.loc 8) (.lst .nil)) (.and (.cmp .IsNot (.ix (.loc 8) (.int 0)) .non) (.cmp .Eq (.ix (.loc 8) (.neg (.int 1))) (.ix (.loc 8) (.int 0))))) (.ix (.loc 8) (.int 0)) .non)
def f_stands : Fn := ⟨132, "stands", ["fleet", "ship", "hour", "goal", "by", "readings", "most"], ["fleet", "ship", "hour", "goal", "by", "readings", "most", "told", "some", "value", "false"],
    (.cons f_stands_s1 (.cons f_stands_s2 (.cons f_stands_s3 .nil)))⟩
def f_surely_false_s1 : S := .set 7 (.call 131 (.cons (.loc 0) (.cons (.loc 1) (.cons (.loc 2) (.cons (.loc 3) (.cons (.loc 4) (.cons (.loc 5) (.cons (.loc 6) .nil))))))))
def f_surely_false_s2 : S := .set 8 (.call 56 (.cons (.loc 0) (.cons (.loc 1) (.cons (.loc 3) .nil))))
def f_surely_false_s3 : S := .ret (.ite (.cmp .NotEq (.loc 7) (.lst .nil)) (.comp [("name", 9)] (.one 9) (.val (.loc 8)) (.yes (.bi .all (.cons (.comp [("value", 10), ("false", 11)] (.tup [10, 11]) (.val (.loc 7)) .no (.cmp .In (.loc 9) (.loc 11))) .nil))) (.loc 9)) .non)
def f_surely_false : Fn := ⟨133, "surely_false", ["fleet", "ship", "hour", "goal", "by", "readings", "most"], ["fleet", "ship", "hour", "goal", "by", "readings", "most", "told", "others", "name", "value", "false"],
    (.cons f_surely_false_s1 (.cons f_surely_false_s2 (.cons f_surely_false_s3 .nil)))⟩
def f_perhaps_false_s1 : S := .set 7 (.call 131 (.cons (.loc 0) (.cons (.loc 1) (.cons (.loc 2) (.cons (.loc 3) (.cons (.loc 4) (.cons (.loc 5) (.cons (.loc 6) .nil))))))))
def f_perhaps_false_s2 : S := .set 8 (.call 56 (.cons (.loc 0) (.cons (.loc 1) (.cons (.loc 3) .nil))))
def f_perhaps_false_s3 : S := .ret (.ite (.cmp .NotEq (.loc 7) (.lst .nil)) (.comp [("name", 9)] (.one 9) (.val (.loc 8)) (.yes (.bi .any (.cons (.comp [("value", 10), ("false", 11)] (.tup [10, 11]) (.val (.loc 7)) .no (.cmp .In (.loc 9) (.loc 11))) .nil))) (.loc 9)) .non)
def f_perhaps_false : Fn := ⟨134, "perhaps_false", ["fleet", "ship", "hour", "goal", "by", "readings", "most"], ["fleet", "ship", "hour", "goal", "by", "readings", "most", "told", "others", "name", "value", "false"],
    (.cons f_perhaps_false_s1 (.cons f_perhaps_false_s2 (.cons f_perhaps_false_s3 .nil)))⟩
def f__law_ends2_s1 : S := .set 3 (.comp [("_law_ship", 4)] (.one 4) (.val (.ix (.loc 2) (.int 2))) .no (.ix (.loc 4) (.int 0)))
def f__law_ends2_s2 : S := .set 4 (.ix (.loc 3) (.call 1072 (.cons (.loc 0) (.cons (.loc 1) (.cons (.bi .len (.cons (.loc 3) .nil)) .nil)))))
def f__law_ends2_s3 : S := .set 5 (.comp [("_law_name", 7)] (.one 7) (.val (.loc 3)) (.yes (.cmp .NotEq (.loc 7) (.loc 4))) (.loc 7))
def f__law_ends2_s4 : S := .set 6 (.bin .fdiv (.bin .mul (.call 1072 (.cons (.loc 0) (.cons (.bin .add (.loc 1) (.int 2)) (.cons (.int 4) .nil)))) (.ix (.loc 2) (.int 0))) (.int 4))
def f__law_ends2_s5 : S := .ret (.tup (.cons (.loc 4) (.cons (.ix (.loc 5) (.call 1072 (.cons (.loc 0) (.cons (.bin .add (.loc 1) (.int 1)) (.cons (.bi .len (.cons (.loc 5) .nil)) .nil))))) (.cons (.loc 6) (.cons (.bin .sub (.bin .add (.ix (.loc 2) (.int 0)) (.int 1)) (.bin .fdiv (.call 1072 (.cons (.loc 0) (.cons (.bin .add (.loc 1) (.int 3)) (.cons (.int 3) .nil)))) (.int 2))) .nil)))))
def f__law_ends2 : Fn := ⟨1099, "_law_ends", ["_law_script", "_law_at", "_law_fleet_here"], ["_law_script", "_law_at", "_law_fleet_here", "_law_names", "_law_ship", "_law_some", "_law_hour", "_law_name"],
    (.cons f__law_ends2_s1 (.cons f__law_ends2_s2 (.cons f__law_ends2_s3 (.cons f__law_ends2_s4 (.cons f__law_ends2_s5 .nil)))))⟩
def f__law_between_s1 : S := .parO [3, 4] [false, true] (.cons (.bin .add (.int 1) (.call 1072 (.cons (.loc 0) (.cons (.loc 1) (.cons (.int 3) .nil))))) (.cons (.lst (.cons (.tup (.cons (.str "sa") (.cons (.int 0) (.cons (.tup (.cons (.tup (.cons (.int 0) (.cons (.int 1) .nil))) .nil)) .nil)))) (.cons (.tup (.cons (.str "sz") (.cons (.int 2) (.cons (.tup (.cons (.tup (.cons (.int 4) (.cons (.int 1) .nil))) .nil)) .nil)))) .nil))) .nil))
def f__law_between_s2 : S := .for (.tup [5, 6]) (.enum (.sl (.lst (.cons (.str "sm") (.cons (.str "sn") (.cons (.str "so") .nil)))) .no (.yes (.bin .add (.int 2) (.call 1072 (.cons (.loc 0) (.cons (.bin .add (.loc 1) (.int 1)) (.cons (.int 2) .nil))))))))
      (.cons (.set 7 (.bin .add (.bin .add (.loc 1) (.int 10)) (.bin .mul (.int 12) (.loc 5))))
      (.cons (.setO 8 (.lst .nil))
      (.cons (.for (.one 9) (.rng1 (.bin .add (.loc 3) (.int 1)))
      (.cons (.set 11 (.bi .min2 (.cons (.int 4) (.cons (.bin .add (.bin .add (.int 1) (.bin .fdiv (.bin .mul (.int 3) (.loc 9)) (.loc 3))) (.call 1072 (.cons (.loc 0) (.cons (.bin .add (.loc 7) (.bin .mul (.int 2) (.loc 9))) (.cons (.int 2) .nil))))) .nil))))
      (.cons (.app 8 (.tup (.cons (.loc 11) (.cons (.call 1072 (.cons (.loc 0) (.cons (.bin .add (.bin .add (.loc 7) (.bin .mul (.int 2) (.loc 9))) (.int 1)) (.cons (.int 4) .nil)))) .nil))))
      .nil)))
      (.cons (.app 4 (.tup (.cons (.loc 6) (.cons (.bin .add (.int 1) (.call 1072 (.cons (.loc 0) (.cons (.bin .add (.loc 7) (.int 9)) (.cons (.int 2) .nil))))) (.cons (.bi .tuple (.cons (.tr 8) .nil)) .nil)))))
      .nil))))
def f__law_between_s3 : S := .setO 2 (.lst .nil)
def f__law_between_s4 : S := .for (.tup [6, 10, 8]) (.val (.bi .sorted (.cons (.tr 4) .nil)))
      (.cons (.frz 8)
      (.cons (.app 2 (.tup (.cons (.loc 6) (.cons (.loc 10) (.cons (.ite (.cmp .Gt (.bi .len (.cons (.tr 8) .nil)) (.int 1)) (.loc 8) (.bin .mul (.tr 8) (.bin .add (.loc 3) (.int 1)))) .nil)))))
      .nil))
def f__law_between_s5 : S := .ret (.tup (.cons (.loc 3) (.cons (.tup .nil) (.cons (.bi .tuple (.cons (.tr 2) .nil)) (.cons (.tup .nil) .nil)))))
def f__law_between : Fn := ⟨1100, "_law_between", ["_law_script", "_law_at"], ["_law_script", "_law_at", "_law_made", "_law_last", "_law_ships", "_law_k", "_law_name", "_law_here", "_law_course", "_law_hour", "_law_sight", "_law_x"],
    (.cons f__law_between_s1 (.cons f__law_between_s2 (.cons f__law_between_s3 (.cons f__law_between_s4 (.cons f__law_between_s5 .nil)))))⟩
def f__law_readings_s1 : S := .setO 5 (.lst .nil)
def f__law_readings_s2 : S := .for (.tup [6, 7]) (.enum (.loc 2))
      (.cons (.ite (.not (.bi .any (.cons (.comp [("_law_link", 8)] (.one 8) (.val (.loc 7)) .no (.or (.cmp .In (.ix (.loc 8) (.int 1)) (.loc 3)) (.cmp .In (.ix (.loc 8) (.int 2)) (.loc 3)))) .nil)))
      (.cons (.app 5 (.tup (.cons (.loc 7) (.cons (.loc 4) .nil))))
      .nil)
      (.cons (.ite (.cmp .Gt (.call 1072 (.cons (.loc 0) (.cons (.bin .add (.loc 1) (.bin .mul (.int 2) (.loc 6))) (.cons (.int 4) .nil)))) (.int 0))
      (.cons (.app 5 (.tup (.cons (.loc 7) (.cons (.ix (.lst (.cons (.loc 4) (.cons (.str "lie") (.cons (.str "lie") (.cons (.str "fib") .nil))))) (.call 1072 (.cons (.loc 0) (.cons (.bin .add (.bin .add (.loc 1) (.bin .mul (.int 2) (.loc 6))) (.int 1)) (.cons (.int 4) .nil))))) .nil))))
      .nil)
      .nil)
      .nil))
      .nil)
def f__law_readings_s3 : S := .ret (.tr 5)
def f__law_readings : Fn := ⟨1101, "_law_readings", ["_law_script", "_law_at", "_law_chains", "_law_false", "_law_value"], ["_law_script", "_law_at", "_law_chains", "_law_false", "_law_value", "_law_made", "_law_k", "_law_chain", "_law_link"],
    (.cons f__law_readings_s1 (.cons f__law_readings_s2 (.cons f__law_readings_s3 .nil)))⟩
def f_look_most_s1 : S := .expr (.call 55 (.cons (.loc 0) (.cons (.loc 1) (.cons (.loc 2) (.cons (.loc 3) (.cons (.loc 4) .nil))))))
def f_look_most_s2 : S := .set 6 (.call 122 (.cons (.loc 0) (.cons (.loc 1) (.cons (.loc 2) (.cons (.loc 3) (.cons (.loc 4) .nil))))))
def f_look_most_s3 : S := .ite (.not (.call 10 (.cons (.loc 5) (.cons (.int 0) (.cons (.gint "MOST_FALSE" 3) .nil)))))
      (.cons (.raise "NoNumber")
      .nil)
      .nil
def f_look_most_s4 : S := .ret (.loc 6)
def f_look_most : Fn := ⟨135, "look_most", ["fleet", "ship", "hour", "goal", "by", "most"], ["fleet", "ship", "hour", "goal", "by", "most", "chains"],
    (.cons f_look_most_s1 (.cons f_look_most_s2 (.cons f_look_most_s3 (.cons f_look_most_s4 .nil))))⟩
def f_is_safe_s1 : S := .ite (.cmp .Eq (.call 135 (.cons (.loc 0) (.cons (.loc 1) (.cons (.loc 2) (.cons (.loc 3) (.cons (.loc 4) (.cons (.loc 5) .nil))))))) (.lst .nil))
      (.cons (.ret (.bl false))
      .nil)
      .nil
def f_is_safe_s2 : S := .ite (.call 58 (.cons (.call 57 (.cons (.call 28 (.cons (.loc 0) .nil)) (.cons (.call 56 (.cons (.loc 0) (.cons (.loc 1) (.cons (.loc 3) .nil)))) .nil))) (.cons (.loc 1) (.cons (.loc 2) (.cons (.loc 3) (.cons (.loc 4) .nil))))))
      (.cons (.ret (.bl true))
      .nil)
      .nil
def f_is_safe_s3 : S := .ret (.cmp .Gt (.bi .len (.cons (.call 60 (.cons (.loc 0) (.cons (.loc 1) (.cons (.loc 2) (.cons (.loc 3) (.cons (.loc 4) .nil)))))) .nil)) (.bin .mul (.int 2) (.loc 5)))
def f_is_safe : Fn := ⟨136, "is_safe", ["fleet", "ship", "hour", "goal", "by", "most"], ["fleet", "ship", "hour", "goal", "by", "most"],
    (.cons f_is_safe_s1 (.cons f_is_safe_s2 (.cons f_is_safe_s3 .nil)))⟩
def f_rival_s1 : S := .set 6 (.call 135 (.cons (.loc 0) (.cons (.loc 1) (.cons (.loc 2) (.cons (.loc 3) (.cons (.loc 4) (.cons (.loc 5) .nil)))))))
def f_rival_s2 : S := .ite (.or (.cmp .Eq (.loc 6) (.lst .nil)) (.call 136 (.cons (.loc 0) (.cons (.loc 1) (.cons (.loc 2) (.cons (.loc 3) (.cons (.loc 4) (.cons (.loc 5) .nil))))))))
      (.cons (.ret .non)
      .nil)
      .nil
def f_rival_s3 : S := .set 7 (.call 60 (.cons (.loc 0) (.cons (.loc 1) (.cons (.loc 2) (.cons (.loc 3) (.cons (.loc 4) .nil))))))
def f_rival_s4 : S := .par [11, 12] (.cons (.sl (.loc 7) .no (.yes (.loc 5))) (.cons (.sl (.loc 7) (.yes (.loc 5)) .no) .nil))
def f_rival_s5 : S := .setO 8 (.lst .nil)
def f_rival_s6 : S := .for (.one 9) (.val (.loc 6))
      (.cons (.ite (.call 124 (.cons (.loc 9) (.cons (.loc 11) .nil)))
      (.cons (.app 8 (.tup (.cons (.loc 9) (.cons (.str "so") .nil))))
      .nil)
      (.cons (.ite (.call 124 (.cons (.loc 9) (.cons (.loc 12) .nil)))
      (.cons (.app 8 (.tup (.cons (.loc 9) (.cons (.str "thus") .nil))))
      .nil)
      .nil)
      .nil))
      .nil)
def f_rival_s7 : S := .frz 8
def f_rival_s8 : S := .set 10 (.comp [("value", 13)] (.one 13) (.val (.tup (.cons (.str "so") (.cons (.str "thus") .nil)))) (.yes (.cmp .In (.loc 13) (.call 126 (.cons (.loc 8) .nil)))) (.loc 13))
def f_rival_s9 : S := .ite (.cmp .Eq (.loc 10) (.lst (.cons (.str "so") (.cons (.str "thus") .nil))))
      (.cons (.frz 8)
      (.cons (.ret (.tup (.cons (.loc 8) (.cons (.tup (.cons (.str "so") (.cons (.loc 11) .nil))) (.cons (.tup (.cons (.str "thus") (.cons (.loc 12) .nil))) .nil)))))
      .nil))
      .nil
def f_rival_s10 : S := .frz 8
def f_rival_s11 : S := .ret (.tup (.cons (.loc 8) (.cons (.tup (.cons (.ix (.loc 10) (.int 0)) (.cons (.ite (.cmp .Eq (.loc 10) (.lst (.cons (.str "so") .nil))) (.loc 11) (.loc 12)) .nil))) (.cons (.tup (.cons .non (.cons (.loc 7) .nil))) .nil))))
def f_rival : Fn := ⟨137, "rival", ["fleet", "ship", "hour", "goal", "by", "most"], ["fleet", "ship", "hour", "goal", "by", "most", "chains", "cut", "readings", "chain", "some", "one", "other", "value"],
    (.cons f_rival_s1 (.cons f_rival_s2 (.cons f_rival_s3 (.cons f_rival_s4 (.cons f_rival_s5 (.cons f_rival_s6 (.cons f_rival_s7 (.cons f_rival_s8 (.cons f_rival_s9 (.cons f_rival_s10 (.cons f_rival_s11 .nil)))))))))))⟩
def f_is_rival_s1 : S := .set 7 (.call 135 (.cons (.loc 0) (.cons (.loc 1) (.cons (.loc 2) (.cons (.loc 3) (.cons (.loc 4) (.cons (.loc 5) .nil)))))))
def f_is_rival_s2 : S := .ite (.or (.not (.isI (.loc 6) .tuple)) (.or (.cmp .NotEq (.bi .len (.cons (.loc 6) .nil)) (.int 3)) (.not (.call 125 (.cons (.loc 7) (.cons (.ix (.loc 6) (.int 0)) .nil))))))
      (.cons (.ret (.bl false))
      .nil)
      .nil
def f_is_rival_s3 : S := .set 8 (.call 130 (.cons (.loc 0) (.cons (.loc 1) (.cons (.loc 2) (.cons (.loc 3) (.cons (.loc 4) (.cons (.ix (.loc 6) (.int 0)) (.cons (.loc 5) (.cons (.ix (.loc 6) (.int 1)) .nil)))))))))
def f_is_rival_s4 : S := .ret (.and (.loc 8) (.and (.call 130 (.cons (.loc 0) (.cons (.loc 1) (.cons (.loc 2) (.cons (.loc 3) (.cons (.loc 4) (.cons (.ix (.loc 6) (.int 0)) (.cons (.loc 5) (.cons (.ix (.loc 6) (.int 2)) .nil))))))))) (.cmp .NotEq (.ix (.ix (.loc 6) (.int 1)) (.int 0)) (.ix (.ix (.loc 6) (.int 2)) (.int 0)))))
def f_is_rival : Fn := ⟨138, "is_rival", ["fleet", "ship", "hour", "goal", "by", "most", "thing"], ["fleet", "ship", "hour", "goal", "by", "most", "thing", "chains", "one"],
    (.cons f_is_rival_s1 (.cons f_is_rival_s2 (.cons f_is_rival_s3 (.cons f_is_rival_s4 .nil))))⟩
def f_are_delays_s1 : S := .ite (.or (.not (.isI (.loc 1) .list)) (.not (.bi .all (.cons (.comp [("row", 3)] (.one 3) (.val (.loc 1)) .no (.and (.isI (.loc 3) .tuple) (.cmp .Eq (.bi .len (.cons (.loc 3) .nil)) (.int 2)))) .nil))))
      (.cons (.ret (.bl false))
      .nil)
      .nil
def f_are_delays_s2 : S := .set 2 (.call 19 (.cons (.loc 0) .nil))
def f_are_delays_s3 : S := .ite (.not (.bi .all (.cons (.comp [("row", 3)] (.one 3) (.val (.loc 1)) .no (.and (.call 11 (.cons (.ix (.loc 3) (.int 0)) .nil)) (.and (.cmp .In (.ix (.loc 3) (.int 0)) (.loc 2)) (.call 10 (.cons (.ix (.loc 3) (.int 1)) (.cons (.int 1) (.cons (.ix (.loc 0) (.int 0)) .nil))))))) .nil)))
      (.cons (.ret (.bl false))
      .nil)
      .nil
def f_are_delays_s4 : S := .ret (.bi .all (.cons (.comp [("one", 4), ("other", 5)] (.tup [4, 5]) (.zip (.loc 1) (.sl (.loc 1) (.yes (.int 1)) .no)) .no (.cmp .Lt (.ix (.loc 4) (.int 0)) (.ix (.loc 5) (.int 0)))) .nil))
def f_are_delays : Fn := ⟨139, "are_delays", ["fleet", "thing"], ["fleet", "thing", "names", "row", "one", "other"],
    (.cons f_are_delays_s1 (.cons f_are_delays_s2 (.cons f_are_delays_s3 (.cons f_are_delays_s4 .nil))))⟩
def f_held_back_s1 : S := .parO [2, 3] [false, true] (.cons (.dictF (.loc 1)) (.cons (.lst .nil) .nil))
def f_held_back_s2 : S := .for (.tup [4, 5, 6]) (.val (.ix (.loc 0) (.int 2)))
      (.cons (.set 7 (.dget (.loc 2) (.loc 4) (.int 0)))
      (.cons (.app 3 (.tup (.cons (.loc 4) (.cons (.loc 5) (.cons (.bin .add (.bin .mul (.tup (.cons (.ix (.loc 6) (.int 0)) .nil)) (.loc 7)) (.sl (.loc 6) .no (.yes (.bin .sub (.bin .add (.ix (.loc 0) (.int 0)) (.int 1)) (.loc 7))))) .nil)))))
      .nil))
def f_held_back_s3 : S := .ret (.tup (.cons (.ix (.loc 0) (.int 0)) (.cons (.ix (.loc 0) (.int 1)) (.cons (.bi .tuple (.cons (.tr 3) .nil)) (.cons (.ix (.loc 0) (.int 3)) .nil)))))
def f_held_back : Fn := ⟨140, "held_back", ["fleet", "delays"], ["fleet", "delays", "many", "ships", "name", "sight", "course", "longer"],
    (.cons f_held_back_s1 (.cons f_held_back_s2 (.cons f_held_back_s3 .nil)))⟩
def f_delayed_s1 : S := .expr (.call 18 (.cons (.loc 0) .nil))
def f_delayed_s2 : S := .ite (.not (.call 139 (.cons (.loc 0) (.cons (.loc 1) .nil))))
      (.cons (.raise "NoDelays")
      .nil)
      .nil
def f_delayed_s3 : S := .ret (.call 140 (.cons (.loc 0) (.cons (.loc 1) .nil)))
def f_delayed : Fn := ⟨141, "delayed", ["fleet", "delays"], ["fleet", "delays"],
    (.cons f_delayed_s1 (.cons f_delayed_s2 (.cons f_delayed_s3 .nil)))⟩
def f_look_ends2_s1 : S := .expr (.call 18 (.cons (.loc 0) .nil))
def f_look_ends2_s2 : S := .expr (.call 21 (.cons (.loc 0) (.cons (.loc 1) .nil)))
def f_look_ends2_s3 : S := .expr (.call 21 (.cons (.loc 0) (.cons (.loc 3) .nil)))
def f_look_ends2_s4 : S := .expr (.call 22 (.cons (.loc 2) (.cons (.ix (.loc 0) (.int 0)) .nil)))
def f_look_ends2_s5 : S := .expr (.call 22 (.cons (.loc 4) (.cons (.bin .add (.ix (.loc 0) (.int 0)) (.int 1)) .nil)))
def f_look_ends2 : Fn := ⟨142, "look_ends", ["fleet", "ship", "hour", "goal", "by"], ["fleet", "ship", "hour", "goal", "by"],
    (.cons f_look_ends2_s1 (.cons f_look_ends2_s2 (.cons f_look_ends2_s3 (.cons f_look_ends2_s4 (.cons f_look_ends2_s5 .nil)))))⟩
def f_least_delays_s1 : S := .expr (.call 142 (.cons (.loc 0) (.cons (.loc 1) (.cons (.loc 2) (.cons (.loc 3) (.cons (.loc 4) .nil))))))
def f_least_delays_s2 : S := .set 5 (.int 1)
def f_least_delays_s3 : S := .for (.one 6) (.val (.call 19 (.cons (.loc 0) .nil)))
      (.cons (.set 5 (.bin .mul (.loc 5) (.bin .add (.ix (.loc 0) (.int 0)) (.int 1))))
      .nil)
def f_least_delays_s4 : S := .ite (.cmp .Gt (.loc 5) (.gint "MOST_TRIED" 600))
      (.cons (.raise "TooGreat")
      .nil)
      .nil
def f_least_delays_s5 : S := .set 7 (.call 143 (.cons (.call 19 (.cons (.loc 0) .nil)) (.cons (.ix (.loc 0) (.int 0)) .nil)))
def f_least_delays_s6 : S := .set 8 (.comp [("delays", 11)] (.one 11) (.val (.loc 7)) .no (.tup (.cons (.bi .sum (.cons (.comp [("row", 12)] (.one 12) (.val (.loc 11)) .no (.ix (.loc 12) (.int 1))) .nil)) (.cons (.bi .len (.cons (.loc 11) .nil)) (.cons (.loc 11) .nil)))))
def f_least_delays_s7 : S := .for (.tup [9, 10, 11]) (.val (.bi .sorted (.cons (.loc 8) .nil)))
      (.cons (.ite (.call 58 (.cons (.call 28 (.cons (.call 140 (.cons (.loc 0) (.cons (.loc 11) .nil))) .nil)) (.cons (.loc 1) (.cons (.loc 2) (.cons (.loc 3) (.cons (.loc 4) .nil))))))
      (.cons (.ret (.loc 11))
      .nil)
      .nil)
      .nil)
def f_least_delays_s8 : S := .ret .non
def f_least_delays : Fn := ⟨144, "least_delays", ["fleet", "ship", "hour", "goal", "by"], ["fleet", "ship", "hour", "goal", "by", "tried", "name", "every", "rows", "much", "many", "delays", "row"],
    (.cons f_least_delays_s1 (.cons f_least_delays_s2 (.cons f_least_delays_s3 (.cons f_least_delays_s4 (.cons f_least_delays_s5 (.cons f_least_delays_s6 (.cons f_least_delays_s7 (.cons f_least_delays_s8 .nil))))))))⟩
def f_are_delays_enough_s1 : S := .expr (.call 142 (.cons (.loc 0) (.cons (.loc 1) (.cons (.loc 2) (.cons (.loc 3) (.cons (.loc 4) .nil))))))
def f_are_delays_enough_s2 : S := .ret (.and (.call 139 (.cons (.loc 0) (.cons (.loc 5) .nil))) (.call 58 (.cons (.call 28 (.cons (.call 140 (.cons (.loc 0) (.cons (.loc 5) .nil))) .nil)) (.cons (.loc 1) (.cons (.loc 2) (.cons (.loc 3) (.cons (.loc 4) .nil)))))))
def f_are_delays_enough : Fn := ⟨145, "are_delays_enough", ["fleet", "ship", "hour", "goal", "by", "thing"], ["fleet", "ship", "hour", "goal", "by", "thing"],
    (.cons f_are_delays_enough_s1 (.cons f_are_delays_enough_s2 .nil))⟩
end HF

set_option Elab.async false
set_option autoImplicit false
set_option linter.all false
set_option maxRecDepth 100000
set_option maxHeartbeats 4000000
/-! Reckoning with what is not ground. -/
namespace HF
open PySem PySem.Spec PyProof.Rows L2
section
variable {φ : Nat → List D → Res D} {fu : Nat} {σ : List SV}
theorem st_ret' {e : E} {d : D} (h : ev φ e σ = .ok d) (hf : frzE e = true := by rfl) : evS φ fu (.ret e) σ = .ok (.ret d) σ := st_ret (by rw [use_frz hf]; exact h)
theorem ev_andT {a b : E} (h : ev φ a σ = .ok (.bool true)) : ev φ (.and a b) σ = ev φ b σ := by
  conv => lhs; unfold ev
  rw [h]
  rfl
theorem ev_andF {a b : E} (h : ev φ a σ = .ok (.bool false)) : ev φ (.and a b) σ = .ok (.bool false) := by
  conv => lhs; unfold ev
  rw [h]
  rfl
theorem ev_orT {a b : E} (h : ev φ a σ = .ok (.bool true)) : ev φ (.or a b) σ = .ok (.bool true) := by
  conv => lhs; unfold ev
  rw [h]
  rfl
theorem ev_orF {a b : E} (h : ev φ a σ = .ok (.bool false)) : ev φ (.or a b) σ = ev φ b σ := by
  conv => lhs; unfold ev
  rw [h]
  rfl
theorem ev_not {a : E} {b : Bool} (h : ev φ a σ = .ok (.bool b)) : ev φ (.not a) σ = .ok (.bool (!b)) := by
  conv => lhs; unfold ev
  rw [h]
  rfl
/-- a test and what is reckoned behind it only where it holds -/
theorem ev_and {a b : E} {p q : Bool} (h : ev φ a σ = .ok (.bool p)) (h' : p = true → ev φ b σ = .ok (.bool q)) : ev φ (.and a b) σ = .ok (.bool (p && q)) := by
  cases p with
  | false => rw [ev_andF h]; rfl
  | true => rw [ev_andT h, h' rfl]; rfl
theorem ev_or {a b : E} {p q : Bool} (h : ev φ a σ = .ok (.bool p)) (h' : p = false → ev φ b σ = .ok (.bool q)) : ev φ (.or a b) σ = .ok (.bool (p || q)) := by
  cases p with
  | true => rw [ev_orT h]; rfl
  | false => rw [ev_orF h, h' rfl]; rfl
theorem ev_call1 {f : Nat} {a : E} {x : D} (h : ev φ a σ = .ok x) : ev φ (.call f (.cons a .nil)) σ = φ f [x] := by
  conv => lhs; unfold ev evs evs
  rw [h]
  rfl
theorem ev_call2 {f : Nat} {a b : E} {x y : D} (h : ev φ a σ = .ok x) (h' : ev φ b σ = .ok y) : ev φ (.call f (.cons a (.cons b .nil))) σ = φ f [x, y] := by
  conv => lhs; unfold ev evs evs evs
  rw [h, h']
  rfl
theorem ev_call3 {f : Nat} {a b c : E} {x y z : D} (h : ev φ a σ = .ok x) (h' : ev φ b σ = .ok y) (h2 : ev φ c σ = .ok z) : ev φ (.call f (.cons a (.cons b (.cons c .nil)))) σ = φ f [x, y, z] := by
  conv => lhs; unfold ev evs evs evs evs
  rw [h, h', h2]
  rfl
theorem ev_call4 {f : Nat} {a b c d : E} {x y z u : D} (h : ev φ a σ = .ok x) (h' : ev φ b σ = .ok y) (h2 : ev φ c σ = .ok z) (h3 : ev φ d σ = .ok u) : ev φ (.call f (.cons a (.cons b (.cons c (.cons d .nil))))) σ = φ f [x, y, z, u] := by
  conv => lhs; unfold ev evs evs evs evs evs
  rw [h, h', h2, h3]
  rfl
theorem ev_cmp {o : CmpOp} {a b : E} {x y : D} {r : Bool} (h : use σ a (ev φ a σ) = .ok x) (h' : use σ b (ev φ b σ) = .ok y) (hr : dCmp o x y = .ok r) : ev φ (.cmp o a b) σ = .ok (.bool r) := by
  conv => lhs; unfold ev
  rw [h, h']
  show (dCmp o x y >>= fun c => Res.ok (PyData.bool c)) = _
  rw [hr]
  rfl
theorem ev_bi1 {b : Bi} {a : E} {x : D} (h : use σ a (ev φ a σ) = .ok x) : ev φ (.bi b (.cons a .nil)) σ = dBi b [x] := by
  conv => lhs; unfold ev evu evu
  rw [h]
  rfl
theorem compL_all {bnd : D → Res (List SV)} {c : List SV → Res Bool} {e : List SV → Res D} {g : D → D} {p : D → Bool} : ∀ {xs : List D}, (∀ x ∈ xs, ∃ τ, bnd x = .ok τ ∧ c τ = .ok (p x) ∧ (p x = true → e τ = .ok (g x))) → compL bnd c e xs = .ok ((xs.filter p).map g)
  | [], _ => rfl
  | x :: xs, h => by
    obtain ⟨τ, h1, h2, h3⟩ := h x List.mem_cons_self
    have ih := compL_all (xs := xs) fun y hy => h y (List.mem_cons_of_mem _ hy)
    unfold compL
    rw [h1]
    simp only [Res.ok_bind]
    rw [h2]
    simp only [Res.ok_bind]
    cases hp : p x with
    | true =>
      rw [if_pos rfl, h3 hp, ih, List.filter_cons_of_pos hp]
      rfl
    | false =>
      rw [if_neg Bool.false_ne_true, ih, List.filter_cons_of_neg (by rw [hp]; exact Bool.false_ne_true)]
theorem ev_comp {own : List (Str × Nat)} {t : Tg} {s : HF.It} {c : Eo} {e : E} {xs : List D} {g : D → D} {p : D → Bool} (hs : evI φ s σ = .ok xs) (hn : noOwn σ (own.map (·.2)) = true)
    (h : ∀ x ∈ xs, ∃ τ, bindT t x (wipeS σ (own.map (·.2))) = .ok τ ∧ evC φ c τ = .ok (p x) ∧ (p x = true → ev φ e τ = .ok (g x))) : ev φ (.comp own t s c e) σ = .ok (.list ((xs.filter p).map g)) := by
  conv => lhs; unfold ev
  rw [hs]
  simp only [Res.ok_bind]
  rw [hn, if_neg (by decide), compL_all h]
  rfl
theorem ev_comp0 {own : List (Str × Nat)} {t : Tg} {s : HF.It} {e : E} {xs : List D} {g : D → D} (hs : evI φ s σ = .ok xs) (hn : noOwn σ (own.map (·.2)) = true)
    (h : ∀ x ∈ xs, ∃ τ, bindT t x (wipeS σ (own.map (·.2))) = .ok τ ∧ ev φ e τ = .ok (g x)) : ev φ (.comp own t s .no e) σ = .ok (.list (xs.map g)) := by
  have q := ev_comp (c := .no) (p := fun _ => true) hs hn fun x hx => by
    obtain ⟨τ, h1, h2⟩ := h x hx
    exact ⟨τ, h1, by unfold evC; rfl, fun _ => h2⟩
  rw [q]
  rw [List.filter_eq_self.mpr fun _ _ => rfl]
theorem mapM_bools : ∀ l : List Bool, (l.map PyData.bool).mapM boolOf = some l
  | [] => rfl
  | b :: l => by
    rw [List.map_cons, List.mapM_cons, mapM_bools l]
    rfl
theorem dAll_bools (l : List Bool) : dAll (.list (l.map .bool)) = .ok (.bool (l.all id)) := by
  show (match (l.map PyData.bool).mapM boolOf with
    | some bs => Res.ok (PyData.bool (bs.all id))
    | none => .bad) = _
  rw [mapM_bools]
theorem dAny_bools (l : List Bool) : dAny (.list (l.map .bool)) = .ok (.bool (l.any id)) := by
  show (match (l.map PyData.bool).mapM boolOf with
    | some bs => Res.ok (PyData.bool (bs.any id))
    | none => .bad) = _
  rw [mapM_bools]
/-- all([e for t in s]) -/
theorem ev_allc {own : List (Str × Nat)} {t : Tg} {s : HF.It} {e : E} {xs : List D} {f : D → Bool} (hs : evI φ s σ = .ok xs) (hn : noOwn σ (own.map (·.2)) = true)
    (h : ∀ x ∈ xs, ∃ τ, bindT t x (wipeS σ (own.map (·.2))) = .ok τ ∧ ev φ e τ = .ok (.bool (f x))) : ev φ (.bi .all (.cons (.comp own t s .no e) .nil)) σ = .ok (.bool (xs.all f)) := by
  have q := ev_comp0 (g := fun x => .bool (f x)) hs hn h
  rw [ev_bi1 (b := .all) (a := .comp own t s .no e) (x := .list (xs.map fun x => .bool (f x))) q]
  show dAll (.list (xs.map fun x => PyData.bool (f x))) = _
  have z := dAll_bools (xs.map f)
  rw [List.map_map] at z
  refine Eq.trans z ?_
  rw [List.all_map]
  rfl
theorem ev_anyc {own : List (Str × Nat)} {t : Tg} {s : HF.It} {e : E} {xs : List D} {f : D → Bool} (hs : evI φ s σ = .ok xs) (hn : noOwn σ (own.map (·.2)) = true)
    (h : ∀ x ∈ xs, ∃ τ, bindT t x (wipeS σ (own.map (·.2))) = .ok τ ∧ ev φ e τ = .ok (.bool (f x))) : ev φ (.bi .any (.cons (.comp own t s .no e) .nil)) σ = .ok (.bool (xs.any f)) := by
  have q := ev_comp0 (g := fun x => .bool (f x)) hs hn h
  rw [ev_bi1 (b := .any) (a := .comp own t s .no e) (x := .list (xs.map fun x => .bool (f x))) q]
  show dAny (.list (xs.map fun x => PyData.bool (f x))) = _
  have z := dAny_bools (xs.map f)
  rw [List.map_map] at z
  refine Eq.trans z ?_
  rw [List.any_map]
  rfl
/-- a for statement whose body ends in its own turn each time -/
theorem forL_inv {bnd : D → List SV → Res (List SV)} {b : List SV → SR} (P : Nat → List SV → Prop) : ∀ {xs : List D} {i : Nat} {σ : List SV}, P i σ →
    (∀ j x σ, xs[j]? = some x → P (i + j) σ → ∃ τ ρ, bnd x σ = .ok τ ∧ (b τ = .ok .nx ρ ∨ b τ = .ok .cnt ρ) ∧ P (i + j + 1) ρ) → ∃ ρ, forL bnd b xs σ = .ok .nx ρ ∧ P (i + xs.length) ρ
  | [], i, σ, h0, _ => ⟨σ, rfl, h0⟩
  | x :: xs, i, σ, h0, hs => by
    obtain ⟨τ, ρ, h1, h2, h3⟩ := hs 0 x σ rfl h0
    obtain ⟨ρ', h4, h5⟩ := forL_inv P (xs := xs) (i := i + 1) (σ := ρ) h3 fun j y σ hy hp => by
      have z := hs (j + 1) y σ (by simpa using hy) (by rw [show i + (j + 1) = i + 1 + j by omega]; exact hp)
      rw [show i + (j + 1) + 1 = i + 1 + j + 1 by omega] at z
      exact z
    refine ⟨ρ', ?_, by rw [List.length_cons, show i + (xs.length + 1) = i + 1 + xs.length by omega]; exact h5⟩
    unfold forL
    rw [h1]
    rcases h2 with h2 | h2 <;> simp only [h2] <;> exact h4
end
end HF

set_option Elab.async false
set_option autoImplicit false
set_option linter.all false
set_option maxRecDepth 100000
set_option maxHeartbeats 4000000
/-! What is a fleet. -/
namespace HF
open PySem PySem.Spec PyProof.Rows L2
structure HasF (T : List Fn) : Prop where
  whole : findF T 10 = some f_is_whole
  name : findF T 11 = some f_is_name
  cell : findF T 12 = some f_is_cell
  rising : findF T 13 = some f_is_rising
  islands : findF T 14 = some f_is_islands
  ship : findF T 15 = some f_is_ship
  mist : findF T 16 = some f_is_mist
  fleet : findF T 17 = some f_is_fleet
def isW (d : D) (l m : Int) : Bool := match d with
  | .int i => decide (l ≤ i) && decide (i ≤ m)
  | _ => false
def plain : D → Bool
  | .dict _ => false
  | _ => true
def ce (p : Int × Int) : D := .tuple [.int p.1, .int p.2]
def small : List Nat := [97, 98, 99, 100, 101, 102, 103, 104, 105, 106, 107, 108, 109, 110, 111, 112, 113, 114, 115, 116, 117, 118, 119, 120, 121, 122]
def nameB (x : Str) : Bool := (decide (1 ≤ x.length) && decide (x.length ≤ 6)) && x.cps.toList.all fun c => decide (c ∈ small)
def inB (i l m : Int) : Bool := decide (l ≤ i) && decide (i ≤ m)
def cellB (p : Int × Int) : Bool := inB p.1 0 9 && inB p.2 0 9
def rise : List D → Bool
  | a :: b :: r => PySem.W.dataLt a b && rise (b :: r)
  | _ => true
section
variable {T : List Fn} (F : HasF T) (fu n : Nat)
include F
theorem whole_ok (d : D) (l m : Int) (h : plain d = true) : run T fu (n + 1) 10 [d, .int l, .int m] = .ok (.bool (isW d l m)) := by
  refine (call_eq F.whole rfl).trans ?_
  cases d <;> first
    | rfl
    | cases h
    | skip
  rename_i i
  by_cases h1 : l ≤ i <;> by_cases h2 : i ≤ m <;> simp [f_is_whole, f_is_whole_s1, evSs, evS, ev, thenS, SR.of, start0, getF, getT, use, bOf, dIsI, tyB, dNot, retOf, isW, dCmp, h1, h2]
theorem int_ok (i l m : Int) : run T fu (n + 1) 10 [.int i, .int l, .int m] = .ok (.bool (inB i l m)) := whole_ok F fu n (.int i) l m rfl
theorem name_ok (x : Str) (hx : x.length ≤ 16777216) : run T fu (n + 1) 11 [.str x] = .ok (.bool (nameB x)) := by
  refine (call_eq F.name rfl).trans ?_
  have q2 : ev (run T fu n) (.chain .LtE .LtE (.int 1) (.bi .len (.cons (.loc 0) .nil)) (.int 6)) [.fz (.str x), .no] = .ok (.bool (decide (1 ≤ x.length) && decide (x.length ≤ 6))) := by
    have z : dBi .len [.str x] = .ok (.int x.length) := if_pos hx
    by_cases h1 : (1 : Int) ≤ x.length <;> by_cases h2 : ((x.length : Nat) : Int) ≤ 6 <;> simp [ev, evu, use, getF, z, dCmp, h1, h2] <;> omega
  have q3 : ev (run T fu n) (.bi .all (.cons (.comp [("sign", 1)] (.one 1) (.val (.loc 0)) .no (.cmp .In (.loc 1) (.gstr "SMALL" "abcdefghijklmnopqrstuvwxyz"))) .nil)) [.fz (.str x), .no] = .ok (.bool (x.cps.toList.all fun c => decide (c ∈ small))) := by
    have z := ev_allc (φ := run T fu n) (own := [("sign", 1)]) (t := .one 1) (s := .val (.loc 0)) (e := .cmp .In (.loc 1) (.gstr "SMALL" "abcdefghijklmnopqrstuvwxyz")) (σ := [.fz (.str x), .no]) (xs := x.cps.toList.map fun c => .str ⟨#[c]⟩)
      (f := fun d => match d with
        | .str y => (match oneSign y with
          | some c => decide (c ∈ small)
          | none => false)
        | _ => false) (if_pos hx) rfl fun d hd => by
        obtain ⟨c, _, rfl⟩ := List.mem_map.mp hd
        exact ⟨[.fz (.str x), .fz (.str ⟨#[c]⟩)], rfl, rfl⟩
    refine z.trans ?_
    rw [List.all_map]
    rfl
  have q : ev (run T fu n) (.and (.isI (.loc 0) .str) (.and (.chain .LtE .LtE (.int 1) (.bi .len (.cons (.loc 0) .nil)) (.int 6)) (.bi .all (.cons (.comp [("sign", 1)] (.one 1) (.val (.loc 0)) .no (.cmp .In (.loc 1) (.gstr "SMALL" "abcdefghijklmnopqrstuvwxyz"))) .nil)))) [.fz (.str x), .no] = .ok (.bool (nameB x)) := by
    rw [ev_andT (show ev (run T fu n) (.isI (.loc 0) .str) [.fz (.str x), .no] = .ok (.bool true) from rfl)]
    exact ev_and q2 fun _ => q3
  exact congrArg retOf (st_fin (fu := fu) (r := .nil) (st_ret' q))
theorem cell_ok (p : Int × Int) : run T fu (n + 2) 12 [ce p] = .ok (.bool (cellB p)) := by
  refine (call_eq F.cell rfl).trans ?_
  have q3 : ev (run T fu (n + 1)) (.bi .all (.cons (.comp [("part", 1)] (.one 1) (.val (.loc 0)) .no (.call 10 (.cons (.loc 1) (.cons (.int 0) (.cons (.gint "MOST_PART" 9) .nil))))) .nil)) [.fz (ce p), .no] = .ok (.bool (cellB p)) := by
    have z := ev_allc (φ := run T fu (n + 1)) (own := [("part", 1)]) (t := .one 1) (s := .val (.loc 0)) (e := .call 10 (.cons (.loc 1) (.cons (.int 0) (.cons (.gint "MOST_PART" 9) .nil)))) (σ := [.fz (ce p), .no]) (xs := [.int p.1, .int p.2]) (f := fun d => isW d 0 9) rfl rfl fun d hd => by
      refine ⟨[.fz (ce p), .fz d], rfl, ?_⟩
      refine (ev_call3 (x := d) (y := .int 0) (z := .int 9) rfl rfl rfl).trans (whole_ok F fu n d 0 9 ?_)
      rcases List.mem_cons.mp hd with z | z
      · rw [z]; rfl
      · rw [List.mem_singleton.mp z]; rfl
    refine z.trans ?_
    simp [cellB, isW, inB]
  have q : ev (run T fu (n + 1)) (.and (.isI (.loc 0) .tuple) (.and (.cmp .Eq (.bi .len (.cons (.loc 0) .nil)) (.int 2)) (.bi .all (.cons (.comp [("part", 1)] (.one 1) (.val (.loc 0)) .no (.call 10 (.cons (.loc 1) (.cons (.int 0) (.cons (.gint "MOST_PART" 9) .nil))))) .nil)))) [.fz (ce p), .no] = .ok (.bool (cellB p)) := by
    rw [ev_andT (show ev (run T fu (n + 1)) (.isI (.loc 0) .tuple) [.fz (ce p), .no] = .ok (.bool true) from rfl), ev_andT (show ev (run T fu (n + 1)) (.cmp .Eq (.bi .len (.cons (.loc 0) .nil)) (.int 2)) [.fz (ce p), .no] = .ok (.bool true) from rfl)]
    exact q3
  exact congrArg retOf (st_fin (fu := fu) (r := .nil) (st_ret' q))
omit F in
theorem drop_cut (xs : List D) : cutD xs (some 1) none = xs.drop 1 := by
  unfold cutD
  rw [HT.sIx_none, show (some (1 : Int)) = some ((1 : Nat) : Int) from rfl, HT.sIx_nat]
  cases xs with
  | nil => rfl
  | cons a r =>
    rw [show min 1 (a :: r).length = 1 by simp]
    rw [List.take_of_length_le]
    rw [List.length_drop]
    omega
omit F in
theorem rise_zip : ∀ xs : List D, ((zipD xs (xs.drop 1)).all fun d => match d with
    | .tuple [a, b] => PySem.W.dataLt a b
    | _ => false) = rise xs
  | [] => rfl
  | [a] => rfl
  | a :: b :: r => by
    have ih := rise_zip (b :: r)
    show (PySem.W.dataLt a b && (zipD (b :: r) r).all _) = (PySem.W.dataLt a b && rise (b :: r))
    rw [← ih]
    rfl
theorem rising_list {xs : List D} (h : ∀ a ∈ xs, ∀ b ∈ xs, dLt a b = .ok (PySem.W.dataLt a b)) (tp : Bool) : run T fu (n + 1) 13 [if tp then .tuple xs else .list xs] = .ok (.bool (rise xs)) := by
  refine (call_eq F.rising rfl).trans ?_
  have hs : evI (run T fu n) (.zip (.loc 0) (.sl (.loc 0) (.yes (.int 1)) .no)) [.fz (if tp then .tuple xs else .list xs), .no, .no] = .ok (zipD xs (xs.drop 1)) := by
    cases tp with
    | true =>
      show dZip (.tuple xs) (.tuple (cutD xs (some 1) none)) = _
      rw [drop_cut]
      rfl
    | false =>
      show dZip (.list xs) (.list (cutD xs (some 1) none)) = _
      rw [drop_cut]
      rfl
  have q := ev_allc (φ := run T fu n) (own := [("one", 1), ("other", 2)]) (t := .tup [1, 2]) (s := .zip (.loc 0) (.sl (.loc 0) (.yes (.int 1)) .no)) (e := .cmp .Lt (.loc 1) (.loc 2)) (σ := [.fz (if tp then .tuple xs else .list xs), .no, .no]) (xs := zipD xs (xs.drop 1))
    (f := fun d => match d with
    | .tuple [a, b] => PySem.W.dataLt a b
    | _ => false) hs rfl fun d hd => by
      obtain ⟨i, hi⟩ := List.getElem?_of_mem hd
      obtain ⟨a, b, h1, h2, rfl⟩ := zipD_get hi
      refine ⟨[.fz (if tp then .tuple xs else .list xs), .fz a, .fz b], rfl, ?_⟩
      exact ev_cmp (x := a) (y := b) rfl rfl (h a (List.mem_of_getElem? h1) b (List.mem_of_mem_drop (List.mem_of_getElem? h2)))
  rw [rise_zip] at q
  exact congrArg retOf (st_fin (fu := fu) (r := .nil) (st_ret' q))
end
end HF

set_option Elab.async false
set_option autoImplicit false
set_option linter.all false
set_option maxRecDepth 100000
set_option maxHeartbeats 4000000
/-! What is a fleet: ships, mists, all. -/
namespace HF
open PySem PySem.Spec PyProof.Rows L2
structure Ship where
  name : Str
  sight : Int
  course : List (Int × Int)
structure Mist where
  first : Int
  until_ : Int
  one : Int × Int
  other : Int × Int
  most : Int
structure Fleet where
  last : Int
  isl : List (Int × Int)
  ships : List Ship
  mists : List Mist
def shipD (s : Ship) : D := .tuple [.str s.name, .int s.sight, .tuple (s.course.map ce)]
def mistD (m : Mist) : D := .tuple [.int m.first, .int m.until_, ce m.one, ce m.other, .int m.most]
def Fleet.toD (F : Fleet) : D := .tuple [.int F.last, .tuple (F.isl.map ce), .tuple (F.ships.map shipD), .tuple (F.mists.map mistD)]
def islB (isl : List (Int × Int)) : Bool := decide (isl.length ≤ 12) && (isl.all cellB && rise (isl.map ce))
def shipB (last : Int) (isl : List (Int × Int)) (s : Ship) : Bool := nameB s.name && (inB s.sight 0 9 && (decide ((s.course.length : Int) = last + 1) && s.course.all fun c => cellB c && !decide (c ∈ isl)))
def mistB (last : Int) (m : Mist) : Bool := (inB m.first 0 last && (inB m.until_ m.first last && inB m.most 0 9)) && (cellB m.one && (cellB m.other && (decide (m.one.1 ≤ m.other.1) && decide (m.one.2 ≤ m.other.2))))
def fleetB (F : Fleet) : Bool := inB F.last 0 7 && (islB F.isl && ((decide (1 ≤ F.ships.length) && decide (F.ships.length ≤ 5)) && (F.ships.all (shipB F.last F.isl) && (rise (F.ships.map fun s => .str s.name) && (decide (F.mists.length ≤ 4) && (F.mists.all (mistB F.last) && rise (F.mists.map mistD)))))))
theorem eqv_ce (p q : Int × Int) : PyData.eqv (ce p) (ce q) = decide (p = q) := by
  obtain ⟨a, b⟩ := p
  obtain ⟨c, d⟩ := q
  by_cases h1 : a = c <;> by_cases h2 : b = d <;> simp [ce, PyData.eqv, PyData.eqvAll, h1, h2]
theorem lay_cells : ∀ ps : List (Int × Int), PyData.canLayAll0 (ps.map ce) = true ∧ PyData.depthAll (ps.map ce) ≤ 1
  | [] => ⟨rfl, by simp [PyData.depthAll]⟩
  | p :: r => by
    obtain ⟨h1, h2⟩ := lay_cells r
    refine ⟨by simp [PyData.canLayAll0, PyData.canLay0, ce, h1], ?_⟩
    simp [PyData.depthAll, PyData.depth, ce]
    omega
theorem shaped_cells (ps : List (Int × Int)) : SeqAt.shaped (.tuple (ps.map ce)) = true := by
  obtain ⟨h1, h2⟩ := lay_cells ps
  unfold SeqAt.shaped
  have h3 : PyData.depth (.tuple (ps.map ce)) = PyData.depthAll (ps.map ce) + 1 := rfl
  rw [h3]
  simp only [PyData.canLay0, h1, Bool.true_and, decide_eq_true_eq]
  omega
theorem in_cells (p : Int × Int) (ps : List (Int × Int)) : dIn (ce p) (.tuple (ps.map ce)) = .ok (decide (p ∈ ps)) := by
  show (if (SeqAt.shaped (ce p) && SeqAt.shaped (.tuple (ps.map ce))) = true then Res.ok ((ps.map ce).any fun z => PyData.eqv z (ce p)) else .bad) = _
  rw [shaped_cells, if_pos (by rfl)]
  congr 1
  rw [List.any_map]
  rw [Bool.eq_iff_iff]
  simp only [List.any_eq_true, Function.comp, decide_eq_true_eq, eqv_ce]
  constructor
  · rintro ⟨q, h1, h2⟩; exact h2 ▸ h1
  · exact fun h => ⟨p, h, rfl⟩
theorem lt_ce (p q : Int × Int) : dLt (ce p) (ce q) = .ok (PySem.W.dataLt (ce p) (ce q)) := rfl
theorem lt_str (a b : Str) (ha : PyData.strOk a = true) (hb : PyData.strOk b = true) : dLt (.str a) (.str b) = .ok (PySem.W.dataLt (.str a) (.str b)) := by
  show (if ((SeqAt.shaped (.str a) && SeqAt.shaped (.str b)) && (PySem.W.alike (.str a) (.str b) && someD (.str a))) = true then _ else _) = _
  rw [if_pos]
  simp [SeqAt.shaped, PyData.canLay0, PyData.depth, ha, hb, PySem.W.alike, someD]
theorem lt_mist (a b : Mist) : dLt (mistD a) (mistD b) = .ok (PySem.W.dataLt (mistD a) (mistD b)) := rfl
section
variable {T : List Fn} (F : HasF T) (fu n : Nat)
include F
theorem islands_ok (ps : List (Int × Int)) : run T fu (n + 3) 14 [.tuple (ps.map ce)] = .ok (.bool (islB ps)) := by
  refine (call_eq F.islands rfl).trans ?_
  have q1 : ev (run T fu (n + 2)) (.not (.isI (.loc 0) .tuple)) [.fz (.tuple (ps.map ce)), .no] = .ok (.bool false) := rfl
  have q2 : ev (run T fu (n + 2)) (.cmp .Gt (.bi .len (.cons (.loc 0) .nil)) (.gint "MOST_ISLANDS" 12)) [.fz (.tuple (ps.map ce)), .no] = .ok (.bool (decide ((12 : Int) < ps.length))) := by
    refine ev_cmp (x := .int ps.length) (y := .int 12) ?_ rfl rfl
    show Res.ok (PyData.int ((ps.map ce).length : Nat)) = _
    rw [List.length_map]
  have q3 := ev_allc (φ := run T fu (n + 2)) (own := [("cell", 1)]) (t := .one 1) (s := .val (.loc 0)) (e := .call 12 (.cons (.loc 1) .nil)) (σ := [.fz (.tuple (ps.map ce)), .no]) (xs := ps.map ce)
    (f := fun d => match d with
      | .tuple [.int a, .int b] => cellB (a, b)
      | _ => false) rfl rfl fun d hd => by
      obtain ⟨p, _, rfl⟩ := List.mem_map.mp hd
      exact ⟨[.fz (.tuple (ps.map ce)), .fz (ce p)], rfl, (ev_call1 (x := ce p) rfl).trans (cell_ok F fu n p)⟩
  rw [List.all_map] at q3
  have q4 : ev (run T fu (n + 2)) (.or (.not (.isI (.loc 0) .tuple)) (.or (.cmp .Gt (.bi .len (.cons (.loc 0) .nil)) (.gint "MOST_ISLANDS" 12)) (.not (.bi .all (.cons (.comp [("cell", 1)] (.one 1) (.val (.loc 0)) .no (.call 12 (.cons (.loc 1) .nil))) .nil))))) [.fz (.tuple (ps.map ce)), .no] = .ok (.bool (decide ((12 : Int) < ps.length) || !(ps.all cellB))) := by
    rw [ev_orF q1]
    exact ev_or q2 fun _ => ev_not q3
  have r := rising_list F fu (n + 1) (xs := ps.map ce) (fun a ha b hb => by
    obtain ⟨p, _, rfl⟩ := List.mem_map.mp ha
    obtain ⟨q, _, rfl⟩ := List.mem_map.mp hb
    rfl) true
  cases hb : (decide ((12 : Int) < ps.length) || !(ps.all cellB)) with
  | true =>
    rw [hb] at q4
    have z : evS (run T fu (n + 2)) fu f_is_islands_s1 [.fz (.tuple (ps.map ce)), .no] = .ok (.ret (.bool false)) [.fz (.tuple (ps.map ce)), .no] := (st_ifT q4).trans rfl
    refine (congrArg retOf (st_fin (r := .cons f_is_islands_s2 .nil) z)).trans ?_
    have : islB ps = false := by
      unfold islB
      rw [Bool.or_eq_true] at hb
      rcases hb with h | h
      · have h' := of_decide_eq_true h
        rw [decide_eq_false (by omega)]
        rfl
      · rw [Bool.not_eq_true'] at h
        rw [h]
        simp
    rw [this]
    rfl
  | false =>
    rw [hb] at q4
    have z : evS (run T fu (n + 2)) fu f_is_islands_s1 [.fz (.tuple (ps.map ce)), .no] = .ok .nx [.fz (.tuple (ps.map ce)), .no] := st_if0 q4
    have z2 : evS (run T fu (n + 2)) fu f_is_islands_s2 [.fz (.tuple (ps.map ce)), .no] = .ok (.ret (.bool (rise (ps.map ce)))) [.fz (.tuple (ps.map ce)), .no] := st_ret' ((ev_call1 (x := .tuple (ps.map ce)) rfl).trans r)
    refine (congrArg retOf ((st_seq (r := .cons f_is_islands_s2 .nil) z).trans (st_fin z2))).trans ?_
    have : islB ps = rise (ps.map ce) := by
      unfold islB
      rw [Bool.or_eq_false_iff] at hb
      obtain ⟨h, h2⟩ := hb
      have h' := of_decide_eq_false h
      rw [Bool.not_eq_false'] at h2
      rw [h2, decide_eq_true (by omega)]
      rfl
    rw [this]
    rfl
theorem ship_ok (last : Int) (isl : List (Int × Int)) (s : Ship) (hx : s.name.length ≤ 16777216) : run T fu (n + 3) 15 [.int last, .tuple (isl.map ce), shipD s] = .ok (.bool (shipB last isl s)) := by
  refine (call_eq F.ship rfl).trans ?_
  have q1 : ev (run T fu (n + 2)) (.not (.isI (.loc 2) .tuple)) [.fz (.int last), .fz (.tuple (isl.map ce)), .fz (shipD s), .no, .no] = .ok (.bool false) := rfl
  have q2 : ev (run T fu (n + 2)) (.cmp .NotEq (.bi .len (.cons (.loc 2) .nil)) (.int 3)) [.fz (.int last), .fz (.tuple (isl.map ce)), .fz (shipD s), .no, .no] = .ok (.bool false) := rfl
  have q3 : ev (run T fu (n + 2)) (.not (.call 11 (.cons (.ix (.loc 2) (.int 0)) .nil))) [.fz (.int last), .fz (.tuple (isl.map ce)), .fz (shipD s), .no, .no] = .ok (.bool (!nameB s.name)) := ev_not ((ev_call1 (x := .str s.name) rfl).trans (name_ok F fu (n + 1) s.name hx))
  have q4 : ev (run T fu (n + 2)) (.not (.call 10 (.cons (.ix (.loc 2) (.int 1)) (.cons (.int 0) (.cons (.gint "MOST_PART" 9) .nil))))) [.fz (.int last), .fz (.tuple (isl.map ce)), .fz (shipD s), .no, .no] = .ok (.bool (!inB s.sight 0 9)) := ev_not ((ev_call3 (x := .int s.sight) (y := .int 0) (z := .int 9) rfl rfl rfl).trans (int_ok F fu (n + 1) _ _ _))
  have c1 : ev (run T fu (n + 2)) (.or (.not (.isI (.loc 2) .tuple)) (.or (.cmp .NotEq (.bi .len (.cons (.loc 2) .nil)) (.int 3)) (.or (.not (.call 11 (.cons (.ix (.loc 2) (.int 0)) .nil))) (.not (.call 10 (.cons (.ix (.loc 2) (.int 1)) (.cons (.int 0) (.cons (.gint "MOST_PART" 9) .nil)))))))) [.fz (.int last), .fz (.tuple (isl.map ce)), .fz (shipD s), .no, .no] = .ok (.bool (!nameB s.name || !inB s.sight 0 9)) := by
    rw [ev_orF q1, ev_orF q2]
    exact ev_or q3 fun _ => q4
  cases hb : (!nameB s.name || !inB s.sight 0 9) with
  | true =>
    rw [hb] at c1
    have z : evS (run T fu (n + 2)) fu f_is_ship_s1 [.fz (.int last), .fz (.tuple (isl.map ce)), .fz (shipD s), .no, .no] = .ok (.ret (.bool false)) [.fz (.int last), .fz (.tuple (isl.map ce)), .fz (shipD s), .no, .no] := (st_ifT c1).trans rfl
    refine (congrArg retOf (st_fin (r := .cons f_is_ship_s2 (.cons f_is_ship_s3 (.cons f_is_ship_s4 .nil))) z)).trans ?_
    have : shipB last isl s = false := by
      unfold shipB
      revert hb
      cases nameB s.name <;> cases inB s.sight 0 9 <;> simp
    rw [this]
    rfl
  | false =>
    rw [hb] at c1
    have h1 : nameB s.name = true ∧ inB s.sight 0 9 = true := by
      revert hb
      cases nameB s.name <;> cases inB s.sight 0 9 <;> simp
    have z : evS (run T fu (n + 2)) fu f_is_ship_s1 [.fz (.int last), .fz (.tuple (isl.map ce)), .fz (shipD s), .no, .no] = .ok .nx [.fz (.int last), .fz (.tuple (isl.map ce)), .fz (shipD s), .no, .no] := st_if0 c1
    have z2 : evS (run T fu (n + 2)) fu f_is_ship_s2 [.fz (.int last), .fz (.tuple (isl.map ce)), .fz (shipD s), .no, .no] = .ok .nx [.fz (.int last), .fz (.tuple (isl.map ce)), .fz (shipD s), .fz (.tuple (s.course.map ce)), .no] := rfl
    have p1 : ev (run T fu (n + 2)) (.not (.isI (.loc 3) .tuple)) [.fz (.int last), .fz (.tuple (isl.map ce)), .fz (shipD s), .fz (.tuple (s.course.map ce)), .no] = .ok (.bool false) := rfl
    have p2 : ev (run T fu (n + 2)) (.cmp .NotEq (.bi .len (.cons (.loc 3) .nil)) (.bin .add (.loc 0) (.int 1))) [.fz (.int last), .fz (.tuple (isl.map ce)), .fz (shipD s), .fz (.tuple (s.course.map ce)), .no] = .ok (.bool (!decide ((s.course.length : Int) = last + 1))) := by
      refine ev_cmp (x := .int s.course.length) (y := .int (last + 1)) ?_ rfl ?_
      · show Res.ok (PyData.int ((s.course.map ce).length : Nat)) = _
        rw [List.length_map]
      · show Res.ok (!(PyData.eqv (.int s.course.length) (.int (last + 1)))) = _
        rfl
    have c3 : ev (run T fu (n + 2)) (.or (.not (.isI (.loc 3) .tuple)) (.cmp .NotEq (.bi .len (.cons (.loc 3) .nil)) (.bin .add (.loc 0) (.int 1)))) [.fz (.int last), .fz (.tuple (isl.map ce)), .fz (shipD s), .fz (.tuple (s.course.map ce)), .no] = .ok (.bool (!decide ((s.course.length : Int) = last + 1))) := by
      rw [ev_orF p1]
      exact p2
    have c4 := ev_allc (φ := run T fu (n + 2)) (own := [("cell", 4)]) (t := .one 4) (s := .val (.loc 3)) (e := .and (.call 12 (.cons (.loc 4) .nil)) (.cmp .NotIn (.loc 4) (.loc 1))) (σ := [.fz (.int last), .fz (.tuple (isl.map ce)), .fz (shipD s), .fz (.tuple (s.course.map ce)), .no]) (xs := s.course.map ce)
      (f := fun d => match d with
        | .tuple [.int a, .int b] => cellB (a, b) && !decide ((a, b) ∈ isl)
        | _ => false) rfl rfl fun d hd => by
        obtain ⟨p, _, rfl⟩ := List.mem_map.mp hd
        refine ⟨[.fz (.int last), .fz (.tuple (isl.map ce)), .fz (shipD s), .fz (.tuple (s.course.map ce)), .fz (ce p)], rfl, ?_⟩
        refine ev_and ((ev_call1 (x := ce p) rfl).trans (cell_ok F fu n p)) fun _ => ev_cmp (x := ce p) (y := .tuple (isl.map ce)) rfl rfl ?_
        show (dIn (ce p) (.tuple (isl.map ce)) >>= fun b => Res.ok (!b)) = _
        rw [in_cells]
        rfl
    rw [List.all_map] at c4
    refine (congrArg retOf ((st_seq (r := .cons f_is_ship_s2 (.cons f_is_ship_s3 (.cons f_is_ship_s4 .nil))) z).trans (st_seq (r := .cons f_is_ship_s3 (.cons f_is_ship_s4 .nil)) z2))).trans ?_
    cases hc : decide ((s.course.length : Int) = last + 1) with
    | false =>
      rw [hc] at c3
      have z3 : evS (run T fu (n + 2)) fu f_is_ship_s3 [.fz (.int last), .fz (.tuple (isl.map ce)), .fz (shipD s), .fz (.tuple (s.course.map ce)), .no] = .ok (.ret (.bool false)) [.fz (.int last), .fz (.tuple (isl.map ce)), .fz (shipD s), .fz (.tuple (s.course.map ce)), .no] := (st_ifT c3).trans rfl
      refine (congrArg retOf (st_fin (r := .cons f_is_ship_s4 .nil) z3)).trans ?_
      unfold shipB
      rw [hc, h1.1, h1.2]
      rfl
    | true =>
      rw [hc] at c3
      have z3 : evS (run T fu (n + 2)) fu f_is_ship_s3 [.fz (.int last), .fz (.tuple (isl.map ce)), .fz (shipD s), .fz (.tuple (s.course.map ce)), .no] = .ok .nx [.fz (.int last), .fz (.tuple (isl.map ce)), .fz (shipD s), .fz (.tuple (s.course.map ce)), .no] := st_if0 c3
      refine (congrArg retOf ((st_seq (r := .cons f_is_ship_s4 .nil) z3).trans (st_fin (st_ret' c4)))).trans ?_
      unfold shipB
      rw [hc, h1.1, h1.2]
      rfl
theorem mist_ok (last : Int) (m : Mist) : run T fu (n + 3) 16 [.int last, mistD m] = .ok (.bool (mistB last m)) := by
  refine (call_eq F.mist rfl).trans ?_
  have s1 : evS (run T fu (n + 2)) fu f_is_mist_s1 [.fz (.int last), .fz (mistD m), .no, .no, .no, .no, .no] = .ok .nx [.fz (.int last), .fz (mistD m), .no, .no, .no, .no, .no] := rfl
  have s2 : evS (run T fu (n + 2)) fu f_is_mist_s2 [.fz (.int last), .fz (mistD m), .no, .no, .no, .no, .no] = .ok .nx [.fz (.int last), .fz (mistD m), .fz (.int m.first), .fz (.int m.until_), .fz (ce m.one), .fz (ce m.other), .fz (.int m.most)] := rfl
  have w1 : ev (run T fu (n + 2)) (.not (.call 10 (.cons (.loc 2) (.cons (.int 0) (.cons (.loc 0) .nil))))) [.fz (.int last), .fz (mistD m), .fz (.int m.first), .fz (.int m.until_), .fz (ce m.one), .fz (ce m.other), .fz (.int m.most)] = .ok (.bool (!inB m.first 0 last)) := ev_not ((ev_call3 (x := .int m.first) (y := .int 0) (z := .int last) rfl rfl rfl).trans (int_ok F fu (n + 1) _ _ _))
  have w2 : ev (run T fu (n + 2)) (.not (.call 10 (.cons (.loc 3) (.cons (.loc 2) (.cons (.loc 0) .nil))))) [.fz (.int last), .fz (mistD m), .fz (.int m.first), .fz (.int m.until_), .fz (ce m.one), .fz (ce m.other), .fz (.int m.most)] = .ok (.bool (!inB m.until_ m.first last)) := ev_not ((ev_call3 (x := .int m.until_) (y := .int m.first) (z := .int last) rfl rfl rfl).trans (int_ok F fu (n + 1) _ _ _))
  have w3 : ev (run T fu (n + 2)) (.not (.call 10 (.cons (.loc 6) (.cons (.int 0) (.cons (.gint "MOST_PART" 9) .nil))))) [.fz (.int last), .fz (mistD m), .fz (.int m.first), .fz (.int m.until_), .fz (ce m.one), .fz (ce m.other), .fz (.int m.most)] = .ok (.bool (!inB m.most 0 9)) := ev_not ((ev_call3 (x := .int m.most) (y := .int 0) (z := .int 9) rfl rfl rfl).trans (int_ok F fu (n + 1) _ _ _))
  have c3 := ev_or w1 fun _ => ev_or w2 fun _ => w3
  have c4 := ev_and (σ := [.fz (.int last), .fz (mistD m), .fz (.int m.first), .fz (.int m.until_), .fz (ce m.one), .fz (ce m.other), .fz (.int m.most)]) ((ev_call1 (f := 12) (a := .loc 4) (x := ce m.one) rfl).trans (cell_ok F fu n m.one)) fun _ => ev_and ((ev_call1 (f := 12) (a := .loc 5) (x := ce m.other) rfl).trans (cell_ok F fu n m.other)) fun _ =>
    ev_and (show ev (run T fu (n + 2)) (.cmp .LtE (.ix (.loc 4) (.int 0)) (.ix (.loc 5) (.int 0))) [.fz (.int last), .fz (mistD m), .fz (.int m.first), .fz (.int m.until_), .fz (ce m.one), .fz (ce m.other), .fz (.int m.most)] = .ok (.bool (decide (m.one.1 ≤ m.other.1))) from rfl)
      fun _ => (show ev (run T fu (n + 2)) (.cmp .LtE (.ix (.loc 4) (.int 1)) (.ix (.loc 5) (.int 1))) [.fz (.int last), .fz (mistD m), .fz (.int m.first), .fz (.int m.until_), .fz (ce m.one), .fz (ce m.other), .fz (.int m.most)] = .ok (.bool (decide (m.one.2 ≤ m.other.2))) from rfl)
  refine (congrArg retOf ((st_seq (r := .cons f_is_mist_s2 (.cons f_is_mist_s3 (.cons f_is_mist_s4 .nil))) s1).trans (st_seq (r := .cons f_is_mist_s3 (.cons f_is_mist_s4 .nil)) s2))).trans ?_
  cases hb : (!inB m.first 0 last || (!inB m.until_ m.first last || !inB m.most 0 9)) with
  | true =>
    rw [hb] at c3
    have z : evS (run T fu (n + 2)) fu f_is_mist_s3 [.fz (.int last), .fz (mistD m), .fz (.int m.first), .fz (.int m.until_), .fz (ce m.one), .fz (ce m.other), .fz (.int m.most)] = .ok (.ret (.bool false)) [.fz (.int last), .fz (mistD m), .fz (.int m.first), .fz (.int m.until_), .fz (ce m.one), .fz (ce m.other), .fz (.int m.most)] := (st_ifT c3).trans rfl
    refine (congrArg retOf (st_fin (r := .cons f_is_mist_s4 .nil) z)).trans ?_
    have : mistB last m = false := by
      unfold mistB
      revert hb
      cases inB m.first 0 last <;> cases inB m.until_ m.first last <;> cases inB m.most 0 9 <;> simp
    rw [this]
    rfl
  | false =>
    rw [hb] at c3
    have z : evS (run T fu (n + 2)) fu f_is_mist_s3 [.fz (.int last), .fz (mistD m), .fz (.int m.first), .fz (.int m.until_), .fz (ce m.one), .fz (ce m.other), .fz (.int m.most)] = .ok .nx [.fz (.int last), .fz (mistD m), .fz (.int m.first), .fz (.int m.until_), .fz (ce m.one), .fz (ce m.other), .fz (.int m.most)] := st_if0 c3
    refine (congrArg retOf ((st_seq (r := .cons f_is_mist_s4 .nil) z).trans (st_fin (st_ret' c4)))).trans ?_
    have : mistB last m = (cellB m.one && (cellB m.other && (decide (m.one.1 ≤ m.other.1) && decide (m.one.2 ≤ m.other.2)))) := by
      unfold mistB
      revert hb
      cases inB m.first 0 last <;> cases inB m.until_ m.first last <;> cases inB m.most 0 9 <;> simp
    rw [this]
    rfl
end
end HF

set_option Elab.async false
set_option autoImplicit false
set_option linter.all false
set_option maxRecDepth 100000
set_option maxHeartbeats 4000000
/-! is_fleet. -/
namespace HF
open PySem PySem.Spec PyProof.Rows L2
/-- names that can be compared -/
def Fleet.wf (G : Fleet) : Prop := ∀ s ∈ G.ships, PyData.strOk s.name = true ∧ s.name.length ≤ 16777216
/-- its parts told apart by what they are laid out as -/
theorem all_mem {α : Type} {f g : α → Bool} : ∀ {l : List α}, (∀ a ∈ l, f a = g a) → l.all f = l.all g
  | [], _ => rfl
  | a :: l, h => by
    rw [List.all_cons, List.all_cons, h a List.mem_cons_self, all_mem fun b hb => h b (List.mem_cons_of_mem _ hb)]
theorem all_ships {G : Fleet} {p : Ship → Bool} {f : D → Bool} (h : ∀ s, f (shipD s) = p s) : (G.ships.map shipD).all f = G.ships.all p := by
  rw [List.all_map]
  congr 1
  funext s
  exact h s
section
variable {T : List Fn} (F : HasF T) (fu n : Nat)
include F
theorem names_ev (G : Fleet) (a b c d e f g : SV) (φ : Nat → List D → Res D) : ev φ (.comp [("ship", 5)] (.one 5) (.val (.loc 3)) .no (.ix (.loc 5) (.int 0))) [a, b, c, .fz (.tuple (G.ships.map shipD)), d, .no, .no] = .ok (.list (G.ships.map fun s => .str s.name)) := by
  have z := ev_comp0 (φ := φ) (own := [("ship", 5)]) (t := .one 5) (s := .val (.loc 3)) (e := .ix (.loc 5) (.int 0)) (σ := [a, b, c, .fz (.tuple (G.ships.map shipD)), d, .no, .no]) (xs := G.ships.map shipD)
    (g := fun d => match d with
      | .tuple (x :: _) => x
      | _ => .none) rfl rfl fun x hx => by
      obtain ⟨s, _, rfl⟩ := List.mem_map.mp hx
      exact ⟨[a, b, c, .fz (.tuple (G.ships.map shipD)), d, .fz (shipD s), .no], rfl, rfl⟩
  rw [z, List.map_map]
  rfl
theorem fleet_ok (G : Fleet) (w : G.wf) : run T fu (n + 4) 17 [G.toD] = .ok (.bool (fleetB G)) := by
  refine (call_eq F.fleet rfl).trans ?_
  generalize hφ : run T fu (n + 3) = φ
  have s1 : ev φ (.or (.not (.isI (.loc 0) .tuple)) (.or (.cmp .NotEq (.bi .len (.cons (.loc 0) .nil)) (.int 4)) (.not (.call 10 (.cons (.ix (.loc 0) (.int 0)) (.cons (.int 0) (.cons (.gint "MOST_LAST" 7) .nil))))))) [.fz G.toD, .no, .no, .no, .no, .no, .no] = .ok (.bool (!inB G.last 0 7)) := by
    rw [ev_orF (show ev φ (.not (.isI (.loc 0) .tuple)) [.fz G.toD, .no, .no, .no, .no, .no, .no] = .ok (.bool false) from rfl), ev_orF (show ev φ (.cmp .NotEq (.bi .len (.cons (.loc 0) .nil)) (.int 4)) [.fz G.toD, .no, .no, .no, .no, .no, .no] = .ok (.bool false) from rfl)]
    exact ev_not ((ev_call3 (x := .int G.last) (y := .int 0) (z := .int 7) rfl rfl rfl).trans (by rw [← hφ]; exact int_ok F fu (n + 2) _ _ _))
  have s2 : evS φ fu f_is_fleet_s2 [.fz G.toD, .no, .no, .no, .no, .no, .no] = .ok .nx [.fz G.toD, .fz (.int G.last), .fz (.tuple (G.isl.map ce)), .fz (.tuple (G.ships.map shipD)), .fz (.tuple (G.mists.map mistD)), .no, .no] := rfl
  generalize hσ : ([.fz G.toD, .fz (.int G.last), .fz (.tuple (G.isl.map ce)), .fz (.tuple (G.ships.map shipD)), .fz (.tuple (G.mists.map mistD)), .no, .no] : List SV) = σ at s2
  have s3 : ev φ (.or (.not (.call 14 (.cons (.loc 2) .nil))) (.or (.not (.isI (.loc 3) .tuple)) (.not (.chain .LtE .LtE (.int 1) (.bi .len (.cons (.loc 3) .nil)) (.gint "MOST_SHIPS" 5))))) σ = .ok (.bool (!islB G.isl || (false || !(decide (1 ≤ G.ships.length) && decide (G.ships.length ≤ 5))))) := by
    rw [← hσ]
    refine ev_or (ev_not ((ev_call1 (x := .tuple (G.isl.map ce)) rfl).trans (by rw [← hφ]; exact islands_ok F fu n G.isl))) fun _ => ev_or rfl fun _ => ev_not ?_
    have hl : dBi .len [.tuple (G.ships.map shipD)] = .ok (.int G.ships.length) := by
      show Res.ok (PyData.int ((G.ships.map shipD).length : Nat)) = _
      rw [List.length_map]
    by_cases h1 : (1 : Int) ≤ G.ships.length <;> by_cases h2 : ((G.ships.length : Nat) : Int) ≤ 5 <;> simp [ev, evu, use, getF, hl, dCmp, h1, h2] <;> omega
  have s4 : ev φ (.or (.not (.bi .all (.cons (.comp [("ship", 5)] (.one 5) (.val (.loc 3)) .no (.call 15 (.cons (.loc 1) (.cons (.loc 2) (.cons (.loc 5) .nil))))) .nil))) (.not (.call 13 (.cons (.comp [("ship", 5)] (.one 5) (.val (.loc 3)) .no (.ix (.loc 5) (.int 0))) .nil)))) σ = .ok (.bool (!G.ships.all (shipB G.last G.isl) || !rise (G.ships.map fun s => .str s.name))) := by
    rw [← hσ]
    refine ev_or (ev_not ?_) fun _ => ev_not ?_
    · have z : ∃ f : D → Bool, (∀ s ∈ G.ships, f (shipD s) = shipB G.last G.isl s) ∧ ev φ (.bi .all (.cons (.comp [("ship", 5)] (.one 5) (.val (.loc 3)) .no (.call 15 (.cons (.loc 1) (.cons (.loc 2) (.cons (.loc 5) .nil))))) .nil)) [.fz G.toD, .fz (.int G.last), .fz (.tuple (G.isl.map ce)), .fz (.tuple (G.ships.map shipD)), .fz (.tuple (G.mists.map mistD)), .no, .no] = .ok (.bool ((G.ships.map shipD).all f)) := by
        refine ⟨fun d => match run T fu (n + 3) 15 [.int G.last, .tuple (G.isl.map ce), d] with
          | .ok (.bool b) => b
          | _ => false, fun s hs => ?_, ev_allc (xs := G.ships.map shipD) rfl rfl fun x hx => ?_⟩
        · dsimp only
          rw [ship_ok F fu n _ _ _ (w s hs).2]
        · obtain ⟨s, hs, rfl⟩ := List.mem_map.mp hx
          refine ⟨[.fz G.toD, .fz (.int G.last), .fz (.tuple (G.isl.map ce)), .fz (.tuple (G.ships.map shipD)), .fz (.tuple (G.mists.map mistD)), .fz (shipD s), .no], rfl, ?_⟩
          refine (ev_call3 (x := .int G.last) (y := .tuple (G.isl.map ce)) (z := shipD s) rfl rfl rfl).trans ?_
          rw [← hφ, ship_ok F fu n _ _ _ (w s hs).2]
      obtain ⟨f, hf, z⟩ := z
      rw [z, List.all_map]
      congr 2
      exact all_mem fun s hs => hf s hs
    · refine (ev_call1 (x := .list (G.ships.map fun s => .str s.name)) (names_ev F G _ _ _ _ .no .no .no φ)).trans ?_
      rw [← hφ]
      exact rising_list F fu (n + 2) (fun a ha b hb => by
        obtain ⟨s, hs, rfl⟩ := List.mem_map.mp ha
        obtain ⟨t, ht, rfl⟩ := List.mem_map.mp hb
        exact lt_str _ _ (w s hs).1 (w t ht).1) false
  have s5 : ev φ (.or (.not (.isI (.loc 4) .tuple)) (.or (.cmp .Gt (.bi .len (.cons (.loc 4) .nil)) (.gint "MOST_MISTS" 4)) (.not (.bi .all (.cons (.comp [("mist", 6)] (.one 6) (.val (.loc 4)) .no (.call 16 (.cons (.loc 1) (.cons (.loc 6) .nil)))) .nil))))) σ = .ok (.bool (decide (4 < (G.mists.length : Int)) || !G.mists.all (mistB G.last))) := by
    rw [← hσ]
    rw [ev_orF (show ev φ (.not (.isI (.loc 4) .tuple)) [.fz G.toD, .fz (.int G.last), .fz (.tuple (G.isl.map ce)), .fz (.tuple (G.ships.map shipD)), .fz (.tuple (G.mists.map mistD)), .no, .no] = .ok (.bool false) from rfl)]
    refine ev_or ?_ fun _ => ev_not ?_
    · refine ev_cmp (x := .int G.mists.length) (y := .int 4) ?_ rfl rfl
      show Res.ok (PyData.int ((G.mists.map mistD).length : Nat)) = _
      rw [List.length_map]
    · have z : ∃ f : D → Bool, (∀ s ∈ G.mists, f (mistD s) = mistB G.last s) ∧ ev φ (.bi .all (.cons (.comp [("mist", 6)] (.one 6) (.val (.loc 4)) .no (.call 16 (.cons (.loc 1) (.cons (.loc 6) .nil)))) .nil)) [.fz G.toD, .fz (.int G.last), .fz (.tuple (G.isl.map ce)), .fz (.tuple (G.ships.map shipD)), .fz (.tuple (G.mists.map mistD)), .no, .no] = .ok (.bool ((G.mists.map mistD).all f)) := by
        refine ⟨fun d => match run T fu (n + 3) 16 [.int G.last, d] with
          | .ok (.bool b) => b
          | _ => false, fun s hs => ?_, ev_allc (xs := G.mists.map mistD) rfl rfl fun x hx => ?_⟩
        · dsimp only
          rw [mist_ok F fu n]
        · obtain ⟨s, hs, rfl⟩ := List.mem_map.mp hx
          refine ⟨[.fz G.toD, .fz (.int G.last), .fz (.tuple (G.isl.map ce)), .fz (.tuple (G.ships.map shipD)), .fz (.tuple (G.mists.map mistD)), .no, .fz (mistD s)], rfl, ?_⟩
          refine (ev_call2 (x := .int G.last) (y := mistD s) rfl rfl).trans ?_
          rw [← hφ, mist_ok F fu n]
      obtain ⟨f, hf, z⟩ := z
      rw [z, List.all_map]
      congr 2
      exact all_mem fun s hs => hf s hs
  have s6 : evS φ fu f_is_fleet_s6 σ = .ok (.ret (.bool (rise (G.mists.map mistD)))) σ := by
    rw [← hσ]
    refine st_ret' ((ev_call1 (x := .tuple (G.mists.map mistD)) rfl).trans ?_)
    rw [← hφ]
    exact rising_list F fu (n + 2) (fun a ha b hb => by
      obtain ⟨s, hs, rfl⟩ := List.mem_map.mp ha
      obtain ⟨t, ht, rfl⟩ := List.mem_map.mp hb
      rfl) true
  show retOf (evSs φ fu (.cons f_is_fleet_s1 (.cons f_is_fleet_s2 (.cons f_is_fleet_s3 (.cons f_is_fleet_s4 (.cons f_is_fleet_s5 (.cons f_is_fleet_s6 .nil)))))) [.fz G.toD, .no, .no, .no, .no, .no, .no]) = _
  cases b1 : inB G.last 0 7 with
  | false =>
    rw [b1] at s1
    have z : evS φ fu f_is_fleet_s1 [.fz G.toD, .no, .no, .no, .no, .no, .no] = .ok (.ret (.bool false)) [.fz G.toD, .no, .no, .no, .no, .no, .no] := (st_ifT s1).trans rfl
    rw [st_fin z]
    unfold fleetB
    rw [b1]
    rfl
  | true =>
    rw [b1] at s1
    have z : evS φ fu f_is_fleet_s1 [.fz G.toD, .no, .no, .no, .no, .no, .no] = .ok .nx [.fz G.toD, .no, .no, .no, .no, .no, .no] := st_if0 s1
    rw [st_seq z, st_seq s2]
    cases b3 : (!islB G.isl || (false || !(decide (1 ≤ G.ships.length) && decide (G.ships.length ≤ 5)))) with
    | true =>
      rw [b3] at s3
      have z : evS φ fu f_is_fleet_s3 σ = .ok (.ret (.bool false)) σ := (st_ifT s3).trans rfl
      rw [st_fin z]
      have : fleetB G = false := by
        unfold fleetB
        rw [b1]
        revert b3
        cases islB G.isl <;> cases (decide (1 ≤ G.ships.length) && decide (G.ships.length ≤ 5)) <;> simp
      rw [this]
      rfl
    | false =>
      rw [b3] at s3
      have z : evS φ fu f_is_fleet_s3 σ = .ok .nx σ := st_if0 s3
      rw [st_seq z]
      have h3 : islB G.isl = true ∧ (decide (1 ≤ G.ships.length) && decide (G.ships.length ≤ 5)) = true := by
        revert b3
        cases islB G.isl <;> cases (decide (1 ≤ G.ships.length) && decide (G.ships.length ≤ 5)) <;> simp
      cases b4 : (!G.ships.all (shipB G.last G.isl) || !rise (G.ships.map fun s => .str s.name)) with
      | true =>
        rw [b4] at s4
        have z : evS φ fu f_is_fleet_s4 σ = .ok (.ret (.bool false)) σ := (st_ifT s4).trans rfl
        rw [st_fin z]
        have : fleetB G = false := by
          unfold fleetB
          rw [b1, h3.1, h3.2]
          revert b4
          cases G.ships.all (shipB G.last G.isl) <;> cases rise (G.ships.map fun s => .str s.name) <;> simp
        rw [this]
        rfl
      | false =>
        rw [b4] at s4
        have z : evS φ fu f_is_fleet_s4 σ = .ok .nx σ := st_if0 s4
        rw [st_seq z]
        have h4 : G.ships.all (shipB G.last G.isl) = true ∧ rise (G.ships.map fun s => .str s.name) = true := by
          revert b4
          cases G.ships.all (shipB G.last G.isl) <;> cases rise (G.ships.map fun s => .str s.name) <;> simp
        cases b5 : (decide (4 < (G.mists.length : Int)) || !G.mists.all (mistB G.last)) with
        | true =>
          rw [b5] at s5
          have z : evS φ fu f_is_fleet_s5 σ = .ok (.ret (.bool false)) σ := (st_ifT s5).trans rfl
          rw [st_fin z]
          have : fleetB G = false := by
            unfold fleetB
            rw [b1, h3.1, h3.2, h4.1, h4.2]
            rw [Bool.or_eq_true] at b5
            rcases b5 with h | h
            · have h' := of_decide_eq_true h
              rw [decide_eq_false (show ¬ G.mists.length ≤ 4 by omega)]
              rfl
            · rw [Bool.not_eq_true'] at h
              rw [h]
              simp
          rw [this]
          rfl
        | false =>
          rw [b5] at s5
          have z : evS φ fu f_is_fleet_s5 σ = .ok .nx σ := st_if0 s5
          rw [st_seq z, st_fin s6]
          have : fleetB G = rise (G.mists.map mistD) := by
            unfold fleetB
            rw [b1, h3.1, h3.2, h4.1, h4.2]
            rw [Bool.or_eq_false_iff] at b5
            have h' := of_decide_eq_false b5.1
            rw [Bool.not_eq_false'] at b5
            rw [b5.2, decide_eq_true (show G.mists.length ≤ 4 by omega)]
            rfl
          rw [this]
          rfl
end
end HF

set_option Elab.async false
set_option autoImplicit false
set_option linter.all false
set_option maxRecDepth 100000
set_option maxHeartbeats 4000000
/-! The draws of the later laws. -/
namespace HF
open PySem PySem.Spec PyProof.Rows L2
theorem st_par {φ : Nat → List D → Res D} {fu : Nat} {σ : List SV} {is : List Nat} {es : Es} {ds : List D} (h : evs φ es σ = .ok ds) (hl : ds.length = is.length) (hn : noOwn σ is = true) : evS φ fu (.par is es) σ = .ok .nx (setAll σ is ds) := by
  unfold evS
  rw [h]
  show (if ds.length = is.length ∧ noOwn σ is = true then _ else _) = _
  rw [if_pos ⟨hl, hn⟩]
section
variable (φ : Nat → List D → Res D) (fu : Nat)
theorem pick_rest (S : D) (k m c : Int) (x4 : SV) : ∀ (t fu' : Nat) (r : Int), t < fu' → ∃ r' t' : Int, 0 ≤ t' ∧ whileL (fun τ => bOf (ev φ (.and (.cmp .Gt (.loc 5) (.int 0)) (.cmp .Gt (.loc 6) (.int 0))) τ)) (fun τ => evSs φ fu (.cons (.par [5, 6] (.cons (.bin .fdiv (.loc 5) (.int 840)) (.cons (.bin .sub (.loc 6) (.int 1)) .nil))) .nil) τ) fu' [.fz S, .fz (.int k), .fz (.int m), .fz (.int c), x4, .fz (.int r), .fz (.int t)] =
    .ok .nx [.fz S, .fz (.int k), .fz (.int m), .fz (.int c), x4, .fz (.int r'), .fz (.int t')] := by
  intro t
  induction t with
  | zero =>
    intro fu' r hf
    obtain ⟨n, rfl⟩ : ∃ n, fu' = n + 1 := ⟨fu' - 1, by omega⟩
    refine ⟨r, 0, Int.le_refl _, wh_end ?_⟩
    by_cases hr : 0 < r <;> simp [ev, use, getF, dCmp, bOf, hr]
  | succ t ih =>
    intro fu' r hf
    obtain ⟨n, rfl⟩ : ∃ n, fu' = n + 1 := ⟨fu' - 1, by omega⟩
    by_cases hr : 0 < r
    · have h1 : bOf (ev φ (.and (.cmp .Gt (.loc 5) (.int 0)) (.cmp .Gt (.loc 6) (.int 0))) [.fz S, .fz (.int k), .fz (.int m), .fz (.int c), x4, .fz (.int r), .fz (.int (t + 1 : Nat))]) = .ok true := by
        have : (0 : Int) < (t + 1 : Nat) := by omega
        simp [ev, use, getF, dCmp, bOf, hr, this]
      have h2 : evSs φ fu (.cons (.par [5, 6] (.cons (.bin .fdiv (.loc 5) (.int 840)) (.cons (.bin .sub (.loc 6) (.int 1)) .nil))) .nil) [.fz S, .fz (.int k), .fz (.int m), .fz (.int c), x4, .fz (.int r), .fz (.int (t + 1 : Nat))] = .ok .nx [.fz S, .fz (.int k), .fz (.int m), .fz (.int c), x4, .fz (.int (r / 840)), .fz (.int (t : Nat))] := by
        have e1 : evs φ (.cons (.bin .fdiv (.loc 5) (.int 840)) (.cons (.bin .sub (.loc 6) (.int 1)) .nil)) [.fz S, .fz (.int k), .fz (.int m), .fz (.int c), x4, .fz (.int r), .fz (.int (t + 1 : Nat))] = .ok [.int (r / 840), .int (t : Nat)] := by
          simp [ev, evs, use, getF, dBin]
        have e2 : noOwn [.fz S, .fz (.int k), .fz (.int m), .fz (.int c), x4, .fz (.int r), .fz (.int (t + 1 : Nat))] [5, 6] = true := rfl
        exact (st_seq (st_par e1 rfl e2)).trans rfl
      obtain ⟨r', t', h3, h4⟩ := ih n (r / 840) (by omega)
      refine ⟨r', t', h3, ?_⟩
      rw [wh_step h1 h2]
      exact h4
    · refine ⟨r, (t + 1 : Nat), by omega, wh_end ?_⟩
      simp [ev, use, getF, dCmp, bOf, hr]
theorem pick_body (ns : List Int) (hn63 : ns.length ≤ 63) (k m : Int) (hk : 0 ≤ k) (hkf : k.toNat < fu) (hm : 0 < m) : ∃ d, 0 ≤ d ∧ d < m ∧ retOf (evSs φ fu f__law_pick.body (start0 7 [scrD ns, .int k, .int m])) = .ok (.int d) := by
  have hc : ∃ c : Int, ev φ (.ite (.cmp .NotEq (.loc 0) (.lst .nil)) (.ix (.loc 0) (.bin .mod (.loc 1) (.bi .len (.cons (.loc 0) .nil)))) (.int 0)) [.fz (scrD ns), .fz (.int k), .fz (.int m), .no, .no, .no, .no] = .ok (.int c) := by
    have ec : ev φ (.cmp .NotEq (.loc 0) (.lst .nil)) [.fz (scrD ns), .fz (.int k), .fz (.int m), .no, .no, .no, .no] = .ok (.bool (decide (ns ≠ []))) := ev_cmp (x := scrD ns) (y := .list []) rfl rfl (scr_ne ns)
    by_cases hn : ns = []
    · refine ⟨0, ?_⟩
      rw [decide_eq_false (by simpa using hn)] at ec
      conv => lhs; unfold ev
      rw [ec]
      rfl
    · obtain ⟨c, hc⟩ := scr_get ns k hn
      refine ⟨c, ?_⟩
      rw [decide_eq_true hn] at ec
      conv => lhs; unfold ev
      rw [ec]
      show ev φ (.ix (.loc 0) (.bin .mod (.loc 1) (.bi .len (.cons (.loc 0) .nil)))) [.fz (scrD ns), .fz (.int k), .fz (.int m), .no, .no, .no, .no] = _
      have hl : 0 < ns.length := List.length_pos_iff.mpr hn
      have elen : ev φ (.bi .len (.cons (.loc 0) .nil)) [.fz (scrD ns), .fz (.int k), .fz (.int m), .no, .no, .no, .no] = .ok (.int ns.length) := by
        show Res.ok (PyData.int ((ns.map PyData.int).length : Nat)) = _
        rw [List.length_map]
      show (do let x ← Res.ok (scrD ns); let y ← (do let x ← Res.ok (PyData.int k); let y ← ev φ (.bi .len (.cons (.loc 0) .nil)) [.fz (scrD ns), .fz (.int k), .fz (.int m), .no, .no, .no, .no]; dBin .mod x y); dIx x y) = _
      rw [elen]
      show (do let y ← (if 0 < (ns.length : Int) then Res.ok (PyData.int (k % ns.length)) else .bad); dIx (scrD ns) y) = _
      rw [if_pos (by omega)]
      exact hc
  obtain ⟨c, hc⟩ := hc
  have s1 : evS φ fu f__law_pick_s1 [.fz (scrD ns), .fz (.int k), .fz (.int m), .no, .no, .no, .no] = .ok .nx [.fz (scrD ns), .fz (.int k), .fz (.int m), .fz (.int c), .no, .no, .no] := st_set (i := 3) hc
  have hmax : ∃ q : Int, 1 ≤ q ∧ q ≤ 63 ∧ ev φ (.bi .max2 (.cons (.bi .len (.cons (.loc 0) .nil)) (.cons (.int 1) .nil))) [.fz (scrD ns), .fz (.int k), .fz (.int m), .fz (.int c), .no, .no, .no] = .ok (.int q) := by
    have elen : ev φ (.bi .len (.cons (.loc 0) .nil)) [.fz (scrD ns), .fz (.int k), .fz (.int m), .fz (.int c), .no, .no, .no] = .ok (.int ns.length) := by
      show Res.ok (PyData.int ((ns.map PyData.int).length : Nat)) = _
      rw [List.length_map]
    refine ⟨if (1 : Int) > ns.length then 1 else ns.length, by split <;> omega, by split <;> omega, ?_⟩
    conv => lhs; unfold ev evu evu evu
    show (do let ds ← (do let x ← ev φ (.bi .len (.cons (.loc 0) .nil)) [.fz (scrD ns), .fz (.int k), .fz (.int m), .fz (.int c), .no, .no, .no]; let xs ← Res.ok [PyData.int 1]; Res.ok (x :: xs)); dBi .max2 ds) = _
    rw [elen]
    rfl
  obtain ⟨q, q1, q2, hq⟩ := hmax
  obtain ⟨t, ht⟩ : ∃ t : Nat, k / q = t := ⟨(k / q).toNat, by have := Int.ediv_nonneg hk (show 0 ≤ q by omega); omega⟩
  have htk : t ≤ k.toNat := by
    have : k / q ≤ k := Int.ediv_le_self q hk
    omega
  have e2 : evs φ (.cons (.bin .fdiv (.loc 3) (.bin .pow (.int 10) (.int 18))) (.cons (.bin .fdiv (.loc 1) (.bi .max2 (.cons (.bi .len (.cons (.loc 0) .nil)) (.cons (.int 1) .nil)))) .nil)) [.fz (scrD ns), .fz (.int k), .fz (.int m), .fz (.int c), .no, .no, .no] = .ok [.int (c / 1000000000000000000), .int t] := by
    have hp : dBin .pow (.int 10) (.int 18) = .ok (.int 1000000000000000000) := by kernel_rfl
    have d1 : ev φ (.bin .fdiv (.loc 3) (.bin .pow (.int 10) (.int 18))) [.fz (scrD ns), .fz (.int k), .fz (.int m), .fz (.int c), .no, .no, .no] = .ok (.int (c / 1000000000000000000)) := by
      simp [ev, use, getF, hp]
      rfl
    have d2 : ev φ (.bin .fdiv (.loc 1) (.bi .max2 (.cons (.bi .len (.cons (.loc 0) .nil)) (.cons (.int 1) .nil)))) [.fz (scrD ns), .fz (.int k), .fz (.int m), .fz (.int c), .no, .no, .no] = .ok (.int t) := by
      show (do let x ← Res.ok (PyData.int k); let y ← ev φ (.bi .max2 (.cons (.bi .len (.cons (.loc 0) .nil)) (.cons (.int 1) .nil))) [.fz (scrD ns), .fz (.int k), .fz (.int m), .fz (.int c), .no, .no, .no]; dBin .fdiv x y) = _
      rw [hq]
      show (if 0 < q ∧ q.natAbs < 2 ^ 100 then Res.ok (PyData.int (k / q)) else .bad) = _
      rw [if_pos ⟨by omega, Nat.lt_of_le_of_lt (show q.natAbs ≤ 63 by omega) (by decide)⟩, ht]
    conv => lhs; unfold evs evs evs
    rw [d1, d2]
    rfl
  have s2 : evS φ fu f__law_pick_s2 [.fz (scrD ns), .fz (.int k), .fz (.int m), .fz (.int c), .no, .no, .no] = .ok .nx [.fz (scrD ns), .fz (.int k), .fz (.int m), .fz (.int c), .no, .fz (.int (c / 1000000000000000000)), .fz (.int t)] := by
    exact st_par e2 rfl rfl
  obtain ⟨r', t', _, hw⟩ := pick_rest φ fu (scrD ns) k m c .no t fu (c / 1000000000000000000) (by omega)
  have s3 : evS φ fu f__law_pick_s3 [.fz (scrD ns), .fz (.int k), .fz (.int m), .fz (.int c), .no, .fz (.int (c / 1000000000000000000)), .fz (.int t)] = .ok .nx [.fz (scrD ns), .fz (.int k), .fz (.int m), .fz (.int c), .no, .fz (.int r'), .fz (.int t')] := hw
  show ∃ d, 0 ≤ d ∧ d < m ∧ retOf (evSs φ fu (.cons f__law_pick_s1 (.cons f__law_pick_s2 (.cons f__law_pick_s3 (.cons f__law_pick_s4 (.cons f__law_pick_s5 (.cons f__law_pick_s6 .nil)))))) [.fz (scrD ns), .fz (.int k), .fz (.int m), .no, .no, .no, .no]) = .ok (.int d)
  rw [st_seq s1, st_seq s2, st_seq s3]
  have eg : ev φ (.cmp .Gt (.loc 5) (.int 0)) [.fz (scrD ns), .fz (.int k), .fz (.int m), .fz (.int c), .no, .fz (.int r'), .fz (.int t')] = .ok (.bool (decide (0 < r'))) := by
    simp [ev, use, getF, dCmp]
  by_cases hr : 0 < r'
  · rw [decide_eq_true hr] at eg
    have er : ev φ (.bin .mod (.bin .mod (.loc 5) (.int 840)) (.loc 2)) [.fz (scrD ns), .fz (.int k), .fz (.int m), .fz (.int c), .no, .fz (.int r'), .fz (.int t')] = .ok (.int (r' % 840 % m)) := by
      simp [ev, use, getF, dBin, hm]
    have s4 : evS φ fu f__law_pick_s4 [.fz (scrD ns), .fz (.int k), .fz (.int m), .fz (.int c), .no, .fz (.int r'), .fz (.int t')] = .ok (.ret (.int (r' % 840 % m))) _ := (st_ifT eg).trans (st_fin (st_ret er))
    refine ⟨r' % 840 % m, Int.emod_nonneg _ (by omega), Int.emod_lt_of_pos _ hm, ?_⟩
    rw [st_fin s4]
    rfl
  · rw [decide_eq_false hr] at eg
    have s4 : evS φ fu f__law_pick_s4 [.fz (scrD ns), .fz (.int k), .fz (.int m), .fz (.int c), .no, .fz (.int r'), .fz (.int t')] = .ok .nx _ := st_if0 eg
    rw [st_seq s4]
    have e5 : ∃ d : Int, (0 ≤ d ∧ d < 2147483399) ∧ ev φ (.bin .mod (.bin .mul (.bin .add (.bin .mul (.loc 3) (.int 31)) (.bin .mul (.int 6151) (.bin .add (.loc 1) (.int 1)))) (.int 40692)) (.int 2147483399)) [.fz (scrD ns), .fz (.int k), .fz (.int m), .fz (.int c), .no, .fz (.int r'), .fz (.int t')] = .ok (.int d) := by
      refine ⟨(c * 31 + 6151 * (k + 1)) * 40692 % 2147483399, ⟨Int.emod_nonneg _ (by decide), Int.emod_lt_of_pos _ (by decide)⟩, ?_⟩
      simp [ev, use, getF, dBin, cmul_lit (i := c) (j := 31) (by decide), cmul_lit' (i := 6151) (j := k + 1) (by decide), cmul_lit (i := c * 31 + 6151 * (k + 1)) (j := 40692) (by decide)]
    obtain ⟨d, hd, e5⟩ := e5
    have s5 : evS φ fu f__law_pick_s5 [.fz (scrD ns), .fz (.int k), .fz (.int m), .fz (.int c), .no, .fz (.int r'), .fz (.int t')] = .ok .nx [.fz (scrD ns), .fz (.int k), .fz (.int m), .fz (.int c), .fz (.int d), .fz (.int r'), .fz (.int t')] := st_set (i := 4) e5
    have e6 : ev φ (.bin .mod (.bin .mod (.bin .add (.bin .mul (.loc 4) (.loc 4)) (.bin .fdiv (.loc 4) (.int 31))) (.int 2147483629)) (.loc 2)) [.fz (scrD ns), .fz (.int k), .fz (.int m), .fz (.int c), .fz (.int d), .fz (.int r'), .fz (.int t')] = .ok (.int ((d * d + d / 31) % 2147483629 % m)) := by
      simp [ev, use, getF, dBin, cmul_lit (i := d) (j := d) (by omega), hm]
    have s6 : evS φ fu f__law_pick_s6 [.fz (scrD ns), .fz (.int k), .fz (.int m), .fz (.int c), .fz (.int d), .fz (.int r'), .fz (.int t')] = .ok (.ret (.int ((d * d + d / 31) % 2147483629 % m))) _ := st_ret e6
    refine ⟨(d * d + d / 31) % 2147483629 % m, Int.emod_nonneg _ (by omega), Int.emod_lt_of_pos _ hm, ?_⟩
    rw [st_seq s5, st_fin s6]
    rfl
end
theorem pick_ok {T : List Fn} (h : findF T 1072 = some f__law_pick) (fu n : Nat) (ns : List Int) (hn63 : ns.length ≤ 63) (k m : Int) (hk : 0 ≤ k) (hkf : k.toNat < fu) (hm : 0 < m) : ∃ d, 0 ≤ d ∧ d < m ∧ run T fu (n + 1) 1072 [scrD ns, .int k, .int m] = .ok (.int d) := by
  obtain ⟨d, h1, h2, h3⟩ := pick_body (run T fu n) fu ns hn63 k m hk hkf hm
  exact ⟨d, h1, h2, (call_eq h rfl).trans h3⟩
end HF

set_option Elab.async false
set_option autoImplicit false
set_option linter.all false
set_option maxRecDepth 100000
set_option maxHeartbeats 4000000
/-! The fleets that the later laws draw. -/
namespace HF
open PySem PySem.Spec PyProof.Rows L2
theorem list_choice {α β : Type} {e : β → D} {q : β → Prop} {g : α → D} : ∀ {xs : List α}, (∀ x ∈ xs, ∃ p, q p ∧ g x = e p) → ∃ ps : List β, xs.map g = ps.map e ∧ ps.length = xs.length ∧ ∀ p ∈ ps, q p
  | [], _ => ⟨[], rfl, rfl, fun p hp => by cases hp⟩
  | x :: xs, h => by
    obtain ⟨p, hp, he⟩ := h x List.mem_cons_self
    obtain ⟨ps, h1, h2, h3⟩ := list_choice (xs := xs) fun y hy => h y (List.mem_cons_of_mem _ hy)
    refine ⟨p :: ps, by rw [List.map_cons, List.map_cons, h1, he], by rw [List.length_cons, List.length_cons, h2], fun r hr => ?_⟩
    rcases List.mem_cons.mp hr with z | z
    · rw [z]; exact hp
    · exact h3 r z
def nmL : List Str := ["sa", "sb", "sc", "sd", "se"]
def cells12 : List (Int × Int) := [(0, 0), (1, 0), (2, 0), (3, 0), (0, 1), (1, 1), (2, 1), (3, 1), (0, 2), (1, 2), (2, 2), (3, 2)]
def islOf (b : Bool) : List (Int × Int) := if b then [(1, 1)] else []
def freeOf (b : Bool) : List (Int × Int) := if b then [(0, 0), (1, 0), (2, 0), (3, 0), (0, 1), (2, 1), (3, 1), (0, 2), (1, 2), (2, 2), (3, 2)] else cells12
def sv : Option D → SV
  | none => .no
  | some d => .fz d
theorem in3 {d : Int} (h0 : 0 ≤ d) (h1 : d < 3) : d = 0 ∨ d = 1 ∨ d = 2 := by omega
theorem in4 {d : Int} (h0 : 0 ≤ d) (h1 : d < 4) : d = 0 ∨ d = 1 ∨ d = 2 ∨ d = 3 := by omega
section
variable {T : List Fn} (h : findF T 1072 = some f__law_pick) (fu n : Nat) (ns : List Int) (hn63 : ns.length ≤ 63)
include h hn63
/-- a list of cells, one drawn -/
theorem cell_drawn {ps : List (Int × Int)} (hp : ps ≠ []) (k : Int) (hk : 0 ≤ k) (hkf : k.toNat < fu) : ∃ p ∈ ps, ∃ d, run T fu (n + 1) 1072 [scrD ns, .int k, .int ps.length] = .ok (.int d) ∧ dIx (.list (ps.map ce)) (.int d) = .ok (ce p) := by
  have hl : 0 < ps.length := List.length_pos_iff.mpr hp
  obtain ⟨d, d0, d1, hd⟩ := pick_ok h fu n ns hn63 k ps.length hk hkf (by omega)
  obtain ⟨j, rfl⟩ : ∃ j : Nat, d = j := ⟨d.toNat, by omega⟩
  have hj : j < ps.length := by omega
  refine ⟨ps[j], List.getElem_mem hj, j, hd, ?_⟩
  show (match atI (ps.map ce) (j : Int) with
    | some d => Res.ok d
    | none => .bad) = _
  rw [atI_nat (j := j) (v := ce ps[j]) (by simp [hj])]
/-- one turn of the ships' loop -/
def goodS (last : Int) (b : Bool) (s : Ship) : Prop := inB s.sight 0 9 = true ∧ (s.course.length : Int) = last + 1 ∧ ∀ p ∈ s.course, p ∈ freeOf b
omit h hn63 in
theorem free_ne (b : Bool) : freeOf b ≠ [] := by cases b <;> exact List.cons_ne_nil _ _
def b_fleet5 : Ss := (.cons (.set 12 (.bin .add (.bin .add (.loc 1) (.int 10)) (.bin .mul (.int 8) (.loc 10))))
      (.cons (.set 13 (.comp [("_law_hour", 15)] (.one 15) (.rng1 (.bin .add (.loc 9) (.int 1))) .no (.ix (.loc 5) (.call 1072 (.cons (.loc 0) (.cons (.bin .add (.bin .add (.loc 12) (.int 1)) (.loc 15)) (.cons (.bi .len (.cons (.loc 5) .nil)) .nil)))))))
      (.cons (.app 6 (.tup (.cons (.loc 11) (.cons (.ix (.lst (.cons (.int 1) (.cons (.int 1) (.cons (.int 2) (.cons (.int 2) (.cons (.int 0) .nil)))))) (.call 1072 (.cons (.loc 0) (.cons (.loc 12) (.cons (.int 5) .nil))))) (.cons (.bi .tuple (.cons (.loc 13) .nil)) .nil)))))
      .nil)))
theorem turn5 (at_ last : Int) (b : Bool) (m names mis mis2 : D) (j : Nat) (nm : Str) (ss : List Ship) (x12 x13 : Option D) (hat : 0 ≤ at_) (hl0 : 0 ≤ last) (hl1 : last ≤ 7) (hj : j ≤ 5) (hss : ss.length ≤ 100) (hf : at_ + 100 < fu) :
    ∃ s x13', s.name = nm ∧ goodS last b s ∧
      evSs (run T fu (n + 1)) fu b_fleet5 [.fz (scrD ns), .fz (.int at_), .fz m, .fz names, .fz (.tuple ((islOf b).map ce)), .fz (.list ((freeOf b).map ce)), .own (.list (ss.map shipD)), .no, .no, .fz (.int last), .fz (.int j), .fz (.str nm), sv x12, sv x13, .no, .no] =
      .ok .nx [.fz (scrD ns), .fz (.int at_), .fz m, .fz names, .fz (.tuple ((islOf b).map ce)), .fz (.list ((freeOf b).map ce)), .own (.list ((ss ++ [s]).map shipD)), .no, .no, .fz (.int last), .fz (.int j), .fz (.str nm), .fz (.int (at_ + 10 + 8 * j)), .fz x13', .no, .no] := by
  generalize hφ : run T fu (n + 1) = φ
  have e1 : ev φ (.bin .add (.bin .add (.loc 1) (.int 10)) (.bin .mul (.int 8) (.loc 10))) [.fz (scrD ns), .fz (.int at_), .fz m, .fz names, .fz (.tuple ((islOf b).map ce)), .fz (.list ((freeOf b).map ce)), .own (.list (ss.map shipD)), .no, .no, .fz (.int last), .fz (.int j), .fz (.str nm), sv x12, sv x13, .no, .no] = .ok (.int (at_ + 10 + 8 * j)) := by
    simp [ev, use, getF, dBin, cmul_lit' (i := 8) (j := (j : Int)) (by decide)]
  have step : ∀ x ∈ rngD 0 (last + 1), ∃ d, (∃ p, p ∈ freeOf b ∧ d = ce p) ∧ ev φ (.ix (.loc 5) (.call 1072 (.cons (.loc 0) (.cons (.bin .add (.bin .add (.loc 12) (.int 1)) (.loc 15)) (.cons (.bi .len (.cons (.loc 5) .nil)) .nil))))) [.fz (scrD ns), .fz (.int at_), .fz m, .fz names, .fz (.tuple ((islOf b).map ce)), .fz (.list ((freeOf b).map ce)), .own (.list (ss.map shipD)), .no, .no, .fz (.int last), .fz (.int j), .fz (.str nm), .fz (.int (at_ + 10 + 8 * j)), sv x13, .no, .fz x] = .ok d := by
    intro x hx
    obtain ⟨i, hi, rfl⟩ := List.mem_map.mp hx
    have hi' := List.mem_range.mp hi
    obtain ⟨p, hp, d, h1, h2⟩ := cell_drawn h fu n ns hn63 (free_ne b) (at_ + 10 + 8 * j + 1 + (0 + (i : Int))) (by omega) (by omega)
    refine ⟨ce p, ⟨p, hp, rfl⟩, ?_⟩
    have q1 : ev φ (.call 1072 (.cons (.loc 0) (.cons (.bin .add (.bin .add (.loc 12) (.int 1)) (.loc 15)) (.cons (.bi .len (.cons (.loc 5) .nil)) .nil)))) [.fz (scrD ns), .fz (.int at_), .fz m, .fz names, .fz (.tuple ((islOf b).map ce)), .fz (.list ((freeOf b).map ce)), .own (.list (ss.map shipD)), .no, .no, .fz (.int last), .fz (.int j), .fz (.str nm), .fz (.int (at_ + 10 + 8 * j)), sv x13, .no, .fz (.int (0 + (i : Int)))] = .ok (.int d) := by
      refine (ev_call3 (x := scrD ns) (y := .int (at_ + 10 + 8 * j + 1 + (0 + (i : Int)))) (z := .int (freeOf b).length) rfl rfl ?_).trans (by rw [← hφ]; exact h1)
      show Res.ok (PyData.int (((freeOf b).map ce).length : Nat)) = _
      rw [List.length_map]
    conv => lhs; unfold ev
    rw [q1]
    exact h2
  have e2 : ∃ cs : List (Int × Int), (cs.length : Int) = last + 1 ∧ (∀ p ∈ cs, p ∈ freeOf b) ∧ ev φ (.comp [("_law_hour", 15)] (.one 15) (.rng1 (.bin .add (.loc 9) (.int 1))) .no (.ix (.loc 5) (.call 1072 (.cons (.loc 0) (.cons (.bin .add (.bin .add (.loc 12) (.int 1)) (.loc 15)) (.cons (.bi .len (.cons (.loc 5) .nil)) .nil)))))) [.fz (scrD ns), .fz (.int at_), .fz m, .fz names, .fz (.tuple ((islOf b).map ce)), .fz (.list ((freeOf b).map ce)), .own (.list (ss.map shipD)), .no, .no, .fz (.int last), .fz (.int j), .fz (.str nm), .fz (.int (at_ + 10 + 8 * j)), sv x13, .no, .no] = .ok (.list (cs.map ce)) := by
    have hs : evI φ (.rng1 (.bin .add (.loc 9) (.int 1))) [.fz (scrD ns), .fz (.int at_), .fz m, .fz names, .fz (.tuple ((islOf b).map ce)), .fz (.list ((freeOf b).map ce)), .own (.list (ss.map shipD)), .no, .no, .fz (.int last), .fz (.int j), .fz (.str nm), .fz (.int (at_ + 10 + 8 * j)), sv x13, .no, .no] = .ok (rngD 0 (last + 1)) := by
      show (if (-1000000 : Int) ≤ 0 ∧ (0 : Int) ≤ 1000000 ∧ -1000000 ≤ last + 1 ∧ last + 1 ≤ 1000000 then Res.ok (rngD 0 (last + 1)) else .bad) = _
      rw [if_pos (by omega)]
    have z := ev_comp0 (φ := φ) (own := [("_law_hour", 15)]) (t := .one 15) (e := .ix (.loc 5) (.call 1072 (.cons (.loc 0) (.cons (.bin .add (.bin .add (.loc 12) (.int 1)) (.loc 15)) (.cons (.bi .len (.cons (.loc 5) .nil)) .nil)))))
      (g := fun x => match ev φ (.ix (.loc 5) (.call 1072 (.cons (.loc 0) (.cons (.bin .add (.bin .add (.loc 12) (.int 1)) (.loc 15)) (.cons (.bi .len (.cons (.loc 5) .nil)) .nil))))) [.fz (scrD ns), .fz (.int at_), .fz m, .fz names, .fz (.tuple ((islOf b).map ce)), .fz (.list ((freeOf b).map ce)), .own (.list (ss.map shipD)), .no, .no, .fz (.int last), .fz (.int j), .fz (.str nm), .fz (.int (at_ + 10 + 8 * j)), sv x13, .no, .fz x] with
        | .ok d => d
        | _ => .none) hs (by cases x13 <;> rfl) fun x hx => by
        obtain ⟨d, _, hd⟩ := step x hx
        refine ⟨[.fz (scrD ns), .fz (.int at_), .fz m, .fz names, .fz (.tuple ((islOf b).map ce)), .fz (.list ((freeOf b).map ce)), .own (.list (ss.map shipD)), .no, .no, .fz (.int last), .fz (.int j), .fz (.str nm), .fz (.int (at_ + 10 + 8 * j)), sv x13, .no, .fz x], by cases x13 <;> rfl, ?_⟩
        rw [hd]
    obtain ⟨cs, h1, h2, h3⟩ := list_choice (e := ce) (q := fun p => p ∈ freeOf b) (xs := rngD 0 (last + 1)) (g := fun x => match ev φ (.ix (.loc 5) (.call 1072 (.cons (.loc 0) (.cons (.bin .add (.bin .add (.loc 12) (.int 1)) (.loc 15)) (.cons (.bi .len (.cons (.loc 5) .nil)) .nil))))) [.fz (scrD ns), .fz (.int at_), .fz m, .fz names, .fz (.tuple ((islOf b).map ce)), .fz (.list ((freeOf b).map ce)), .own (.list (ss.map shipD)), .no, .no, .fz (.int last), .fz (.int j), .fz (.str nm), .fz (.int (at_ + 10 + 8 * j)), sv x13, .no, .fz x] with
        | .ok d => d
        | _ => .none) fun x hx => by
        obtain ⟨d, ⟨p, hp, e⟩, hd⟩ := step x hx
        exact ⟨p, hp, by rw [hd]; exact e⟩
    refine ⟨cs, ?_, h3, by rw [z, h1]⟩
    rw [h2]
    unfold rngD
    rw [List.length_map, List.length_range]
    omega
  obtain ⟨cs, hcl, hcf, e2⟩ := e2
  obtain ⟨g, g0, g1, hg⟩ := pick_ok h fu n ns hn63 (at_ + 10 + 8 * j) 5 (by omega) (by omega) (by decide)
  have hsg : ∃ sg : Int, inB sg 0 9 = true ∧ dIx (.list [.int 1, .int 1, .int 2, .int 2, .int 0]) (.int g) = .ok (.int sg) := by
    have : g = 0 ∨ g = 1 ∨ g = 2 ∨ g = 3 ∨ g = 4 := by omega
    rcases this with rfl | rfl | rfl | rfl | rfl
    · exact ⟨1, rfl, rfl⟩
    · exact ⟨1, rfl, rfl⟩
    · exact ⟨2, rfl, rfl⟩
    · exact ⟨2, rfl, rfl⟩
    · exact ⟨0, rfl, rfl⟩
  obtain ⟨sg, hsg, hix⟩ := hsg
  refine ⟨⟨nm, sg, cs⟩, .list (cs.map ce), rfl, ⟨hsg, hcl, hcf⟩, ?_⟩
  have e3 : ev φ (.tup (.cons (.loc 11) (.cons (.ix (.lst (.cons (.int 1) (.cons (.int 1) (.cons (.int 2) (.cons (.int 2) (.cons (.int 0) .nil)))))) (.call 1072 (.cons (.loc 0) (.cons (.loc 12) (.cons (.int 5) .nil))))) (.cons (.bi .tuple (.cons (.loc 13) .nil)) .nil)))) [.fz (scrD ns), .fz (.int at_), .fz m, .fz names, .fz (.tuple ((islOf b).map ce)), .fz (.list ((freeOf b).map ce)), .own (.list (ss.map shipD)), .no, .no, .fz (.int last), .fz (.int j), .fz (.str nm), .fz (.int (at_ + 10 + 8 * j)), .fz (.list (cs.map ce)), .no, .no] = .ok (shipD ⟨nm, sg, cs⟩) := by
    have q1 : ev φ (.call 1072 (.cons (.loc 0) (.cons (.loc 12) (.cons (.int 5) .nil)))) [.fz (scrD ns), .fz (.int at_), .fz m, .fz names, .fz (.tuple ((islOf b).map ce)), .fz (.list ((freeOf b).map ce)), .own (.list (ss.map shipD)), .no, .no, .fz (.int last), .fz (.int j), .fz (.str nm), .fz (.int (at_ + 10 + 8 * j)), .fz (.list (cs.map ce)), .no, .no] = .ok (.int g) := (ev_call3 (x := scrD ns) (y := .int (at_ + 10 + 8 * j)) (z := .int 5) rfl rfl rfl).trans (by rw [← hφ]; exact hg)
    have q2 : ev φ (.ix (.lst (.cons (.int 1) (.cons (.int 1) (.cons (.int 2) (.cons (.int 2) (.cons (.int 0) .nil)))))) (.call 1072 (.cons (.loc 0) (.cons (.loc 12) (.cons (.int 5) .nil))))) [.fz (scrD ns), .fz (.int at_), .fz m, .fz names, .fz (.tuple ((islOf b).map ce)), .fz (.list ((freeOf b).map ce)), .own (.list (ss.map shipD)), .no, .no, .fz (.int last), .fz (.int j), .fz (.str nm), .fz (.int (at_ + 10 + 8 * j)), .fz (.list (cs.map ce)), .no, .no] = .ok (.int sg) := by
      conv => lhs; unfold ev
      rw [q1]
      exact hix
    conv => lhs; unfold ev evs evs evs evs
    rw [q2]
    rfl
  have s2 := st_seq (fu := fu) (r := .cons (.app 6 (.tup (.cons (.loc 11) (.cons (.ix (.lst (.cons (.int 1) (.cons (.int 1) (.cons (.int 2) (.cons (.int 2) (.cons (.int 0) .nil)))))) (.call 1072 (.cons (.loc 0) (.cons (.loc 12) (.cons (.int 5) .nil))))) (.cons (.bi .tuple (.cons (.loc 13) .nil)) .nil))))) .nil) (st_set (i := 13) e2)
  refine (st_seq (st_set (i := 12) e1)).trans (Eq.trans s2 ?_)
  refine (st_seq (τ := [.fz (scrD ns), .fz (.int at_), .fz m, .fz names, .fz (.tuple ((islOf b).map ce)), .fz (.list ((freeOf b).map ce)), .own (.list ((ss ++ [(⟨nm, sg, cs⟩ : Ship)]).map shipD)), .no, .no, .fz (.int last), .fz (.int j), .fz (.str nm), .fz (.int (at_ + 10 + 8 * j)), .fz (.list (cs.map ce)), .no, .no]) ?_).trans rfl
  show SR.of (ev φ (.tup (.cons (.loc 11) (.cons (.ix (.lst (.cons (.int 1) (.cons (.int 1) (.cons (.int 2) (.cons (.int 2) (.cons (.int 0) .nil)))))) (.call 1072 (.cons (.loc 0) (.cons (.loc 12) (.cons (.int 5) .nil))))) (.cons (.bi .tuple (.cons (.loc 13) .nil)) .nil)))) [.fz (scrD ns), .fz (.int at_), .fz m, .fz names, .fz (.tuple ((islOf b).map ce)), .fz (.list ((freeOf b).map ce)), .own (.list (ss.map shipD)), .no, .no, .fz (.int last), .fz (.int j), .fz (.str nm), .fz (.int (at_ + 10 + 8 * j)), .fz (.list (cs.map ce)), .no, .no]) [.fz (scrD ns), .fz (.int at_), .fz m, .fz names, .fz (.tuple ((islOf b).map ce)), .fz (.list ((freeOf b).map ce)), .own (.list (ss.map shipD)), .no, .no, .fz (.int last), .fz (.int j), .fz (.str nm), .fz (.int (at_ + 10 + 8 * j)), .fz (.list (cs.map ce)), .no, .no] (fun d => if (ss.map shipD).length < 16777216 then .ok .nx ([.fz (scrD ns), .fz (.int at_), .fz m, .fz names, .fz (.tuple ((islOf b).map ce)), .fz (.list ((freeOf b).map ce)), .own (.list (ss.map shipD)), .no, .no, .fz (.int last), .fz (.int j), .fz (.str nm), .fz (.int (at_ + 10 + 8 * j)), .fz (.list (cs.map ce)), .no, .no].set 6 (.own (.list (ss.map shipD ++ [d])))) else .bad) = _
  rw [e3]
  show (if (ss.map shipD).length < 16777216 then _ else _) = _
  rw [if_pos (by rw [List.length_map]; omega), List.map_append]
  rfl
end
end HF

set_option Elab.async false
set_option autoImplicit false
set_option linter.all false
set_option maxRecDepth 100000
set_option maxHeartbeats 4000000
/-! The drawn fleet is one. -/
namespace HF
open PySem PySem.Spec PyProof.Rows L2
theorem enum_at : ∀ {xs : List D} {k j : Nat} {y : D}, xs[j]? = some y → (enumFrom k xs)[j]? = some (.tuple [.int ((k + j : Nat) : Int), y])
  | [], _, _, _, h => by simp at h
  | x :: xs, k, 0, y, h => by
    simp at h
    subst h
    rfl
  | x :: xs, k, j + 1, y, h => by
    show (enumFrom (k + 1) xs)[j]? = _
    rw [enum_at (k := k + 1) (j := j) (y := y) (by simpa using h)]
    congr 4
    omega
theorem cut_take (xs : List D) (k : Nat) : cutD xs none (some (k : Int)) = xs.take k := by
  unfold cutD
  rw [HT.sIx_none, HT.sIx_nat, List.drop_zero, Nat.sub_zero]
  by_cases hk : k ≤ xs.length
  · rw [Nat.min_eq_left hk]
  · rw [Nat.min_eq_right (by omega), List.take_length, List.take_of_length_le (by omega)]
theorem free_cell (b : Bool) : ∀ p ∈ freeOf b, (cellB p && !decide (p ∈ islOf b)) = true := by
  cases b <;> decide +kernel
theorem isl_ok (b : Bool) : islB (islOf b) = true := by
  cases b <;> decide +kernel
theorem nm_ok : ∀ x ∈ nmL, nameB x = true ∧ PyData.strOk x = true ∧ x.length ≤ 16777216 := by decide +kernel
theorem nm_rise (k : Nat) (h : k ≤ 5) : rise ((nmL.take k).map .str) = true := by
  have : k = 0 ∨ k = 1 ∨ k = 2 ∨ k = 3 ∨ k = 4 ∨ k = 5 := by omega
  rcases this with rfl | rfl | rfl | rfl | rfl | rfl <;> decide +kernel
section
variable {T : List Fn} (h : findF T 1072 = some f__law_pick) (fu n : Nat) (ns : List Int) (hn63 : ns.length ≤ 63)
include h hn63
theorem loop5 (at_ last : Int) (b : Bool) (m : D) (nms : List Str) (hat : 0 ≤ at_) (hl0 : 0 ≤ last) (hl1 : last ≤ 7) (hnm : nms.length ≤ 5) (hf : at_ + 100 < fu) :
    ∃ ss : List Ship, ss.map (·.name) = nms ∧ (∀ s ∈ ss, goodS last b s) ∧ ∃ x10 x11 x12 x13 : Option D,
      evS (run T fu (n + 1)) fu f__law_fleet5_s7 [.fz (scrD ns), .fz (.int at_), .fz m, .fz (.list (nms.map .str)), .fz (.tuple ((islOf b).map ce)), .fz (.list ((freeOf b).map ce)), .own (.list []), .no, .no, .fz (.int last), .no, .no, .no, .no, .no, .no] =
      .ok .nx [.fz (scrD ns), .fz (.int at_), .fz m, .fz (.list (nms.map .str)), .fz (.tuple ((islOf b).map ce)), .fz (.list ((freeOf b).map ce)), .own (.list (ss.map shipD)), .no, .no, .fz (.int last), sv x10, sv x11, sv x12, sv x13, .no, .no] := by
  have z := forL_inv (bnd := fun x τ => bindT (.tup [10, 11]) x τ) (b := fun τ => evSs (run T fu (n + 1)) fu b_fleet5 τ)
    (P := fun i σ => ∃ ss : List Ship, ss.map (·.name) = nms.take i ∧ (∀ s ∈ ss, goodS last b s) ∧ ∃ x10 x11 x12 x13 : Option D, σ = [.fz (scrD ns), .fz (.int at_), .fz m, .fz (.list (nms.map .str)), .fz (.tuple ((islOf b).map ce)), .fz (.list ((freeOf b).map ce)), .own (.list (ss.map shipD)), .no, .no, .fz (.int last), sv x10, sv x11, sv x12, sv x13, .no, .no])
    (xs := enumFrom 0 (nms.map .str)) (i := 0) (σ := [.fz (scrD ns), .fz (.int at_), .fz m, .fz (.list (nms.map .str)), .fz (.tuple ((islOf b).map ce)), .fz (.list ((freeOf b).map ce)), .own (.list []), .no, .no, .fz (.int last), .no, .no, .no, .no, .no, .no])
    ⟨[], rfl, (fun s hs => by cases hs), none, none, none, none, rfl⟩ (by
      rintro j x σ hx ⟨ss, hs1, hs2, x10, x11, x12, x13, rfl⟩
      rw [Nat.zero_add] at hs1
      obtain ⟨y, hy, rfl⟩ := enum_get hx
      rw [List.getElem?_map] at hy
      cases hnj : nms[j]? with
      | none => rw [hnj] at hy; cases hy
      | some nm =>
        rw [hnj] at hy
        cases hy
        have hjl := (List.getElem?_eq_some_iff.mp hnj).1
        have hlen : ss.length = j := by
          have := congrArg List.length hs1
          rw [List.length_map, List.length_take] at this
          omega
        obtain ⟨s, x13', e1, e2, e3⟩ := turn5 h fu n ns hn63 at_ last b m (.list (nms.map .str)) .none .none j nm ss x12 x13 hat hl0 hl1 (by omega) (by omega) hf
        refine ⟨[.fz (scrD ns), .fz (.int at_), .fz m, .fz (.list (nms.map .str)), .fz (.tuple ((islOf b).map ce)), .fz (.list ((freeOf b).map ce)), .own (.list (ss.map shipD)), .no, .no, .fz (.int last), .fz (.int j), .fz (.str nm), sv x12, sv x13, .no, .no], _, ?_, .inl e3, ss ++ [s], ?_, fun r hr => ?_, some (.int j), some (.str nm), some (.int (at_ + 10 + 8 * j)), some x13', rfl⟩
        · have zz : ((0 + j : Nat) : Int) = (j : Int) := by rw [Nat.zero_add]
          rw [zz]
          cases x10 <;> cases x11 <;> rfl
        · rw [List.map_append, hs1, show 0 + j + 1 = j + 1 by omega]
          rw [List.take_succ, hnj]
          show nms.take j ++ [s.name] = _
          rw [e1]
          rfl
        · rcases List.mem_append.mp hr with q | q
          · exact hs2 r q
          · rw [List.mem_singleton.mp q]
            exact e2)
  obtain ⟨ρ, h1, ss, hs1, hs2, x10, x11, x12, x13, rfl⟩ := z
  refine ⟨ss, ?_, hs2, x10, x11, x12, x13, ?_⟩
  · rw [hs1, enum_len, List.length_map, Nat.zero_add, List.take_length]
  · exact h1
theorem fleet5_ok (hf5 : findF T 1073 = some f__law_fleet5) (at_ most : Int) (hat : 0 ≤ at_) (hm : 2 ≤ most) (hm5 : most ≤ 5) (hf : at_ + 100 < fu) :
    ∃ G : Fleet, run T fu (n + 2) 1073 [scrD ns, .int at_, .int most] = .ok G.toD ∧ fleetB G = true ∧ G.wf ∧ (1 ≤ G.last ∧ G.last ≤ 3) ∧ ∃ k : Nat, (2 ≤ k ∧ (k : Int) ≤ most) ∧ G.ships.map (·.name) = nmL.take k := by
  obtain ⟨l, l0, l1, hl⟩ := pick_ok h fu n ns hn63 at_ 3 hat (by omega) (by decide)
  obtain ⟨c, c0, c1, hc⟩ := pick_ok h fu n ns hn63 (at_ + 1) (most - 1) (by omega) (by omega) (by omega)
  obtain ⟨i, i0, i1, hi⟩ := pick_ok h fu n ns hn63 (at_ + 2) 3 (by omega) (by omega) (by decide)
  obtain ⟨u, u0, u1, hu⟩ := pick_ok h fu n ns hn63 (at_ + 3) (1 + l + 1) (by omega) (by omega) (by omega)
  obtain ⟨q, q0, q1, hq⟩ := pick_ok h fu n ns hn63 (at_ + 4) 3 (by omega) (by omega) (by decide)
  obtain ⟨k, hk⟩ : ∃ k : Nat, 2 + c = k := ⟨(2 + c).toNat, by omega⟩
  have hk5 : k ≤ 5 := by omega
  obtain ⟨ss, hs1, hs2, x10, x11, x12, x13, hs3⟩ := loop5 h fu n ns hn63 at_ (1 + l) (decide (i = 0)) (.int most) (nmL.take k) hat (by omega) (by omega) (by rw [List.length_take]; omega) hf
  let G : Fleet := ⟨1 + l, islOf (decide (i = 0)), ss, if q = 0 then [⟨0, u, (0, 0), (1, 2), 1⟩] else []⟩
  refine ⟨G, ?_, ?_, ?_, ⟨by show 1 ≤ 1 + l; omega, by show 1 + l ≤ 3; omega⟩, k, ⟨by omega, by omega⟩, hs1⟩
  · refine (call_eq hf5 rfl).trans ?_
    generalize hφ : run T fu (n + 1) = φ at *
    have a1 : evs φ (.cons (.bin .add (.int 1) (.call 1072 (.cons (.loc 0) (.cons (.loc 1) (.cons (.int 3) .nil))))) (.cons (.lst (.cons (.str "sa") (.cons (.str "sb") (.cons (.str "sc") (.cons (.str "sd") (.cons (.str "se") .nil)))))) .nil)) [.fz (scrD ns), .fz (.int at_), .fz (.int most), .no, .no, .no, .no, .no, .no, .no, .no, .no, .no, .no, .no, .no] = .ok [.int (1 + l), .list (nmL.map .str)] := by
      have q1 : ev φ (.call 1072 (.cons (.loc 0) (.cons (.loc 1) (.cons (.int 3) .nil)))) [.fz (scrD ns), .fz (.int at_), .fz (.int most), .no, .no, .no, .no, .no, .no, .no, .no, .no, .no, .no, .no, .no] = .ok (.int l) := (ev_call3 (x := scrD ns) (y := .int at_) (z := .int 3) rfl rfl rfl).trans hl
      have q2 : ev φ (.bin .add (.int 1) (.call 1072 (.cons (.loc 0) (.cons (.loc 1) (.cons (.int 3) .nil))))) [.fz (scrD ns), .fz (.int at_), .fz (.int most), .no, .no, .no, .no, .no, .no, .no, .no, .no, .no, .no, .no, .no] = .ok (.int (1 + l)) := by
        conv => lhs; unfold ev
        show (do let x ← Res.ok (PyData.int 1); let y ← ev φ (.call 1072 (.cons (.loc 0) (.cons (.loc 1) (.cons (.int 3) .nil)))) [.fz (scrD ns), .fz (.int at_), .fz (.int most), .no, .no, .no, .no, .no, .no, .no, .no, .no, .no, .no, .no, .no]; dBin .add x y) = _
        rw [q1]
        rfl
      conv => lhs; unfold evs
      rw [q2]
      rfl
    have s1 : evS φ fu f__law_fleet5_s1 [.fz (scrD ns), .fz (.int at_), .fz (.int most), .no, .no, .no, .no, .no, .no, .no, .no, .no, .no, .no, .no, .no] = .ok .nx [.fz (scrD ns), .fz (.int at_), .fz (.int most), .fz (.list (nmL.map .str)), .no, .no, .no, .no, .no, .fz (.int (1 + l)), .no, .no, .no, .no, .no, .no] := st_par a1 rfl rfl
    have a2 : ev φ (.sl (.loc 3) .no (.yes (.bin .add (.int 2) (.call 1072 (.cons (.loc 0) (.cons (.bin .add (.loc 1) (.int 1)) (.cons (.bin .sub (.loc 2) (.int 1)) .nil))))))) [.fz (scrD ns), .fz (.int at_), .fz (.int most), .fz (.list (nmL.map .str)), .no, .no, .no, .no, .no, .fz (.int (1 + l)), .no, .no, .no, .no, .no, .no] = .ok (.list ((nmL.take k).map .str)) := by
      have q1 : ev φ (.call 1072 (.cons (.loc 0) (.cons (.bin .add (.loc 1) (.int 1)) (.cons (.bin .sub (.loc 2) (.int 1)) .nil)))) [.fz (scrD ns), .fz (.int at_), .fz (.int most), .fz (.list (nmL.map .str)), .no, .no, .no, .no, .no, .fz (.int (1 + l)), .no, .no, .no, .no, .no, .no] = .ok (.int c) := (ev_call3 (x := scrD ns) (y := .int (at_ + 1)) (z := .int (most - 1)) rfl rfl rfl).trans hc
      have q2 : ev φ (.bin .add (.int 2) (.call 1072 (.cons (.loc 0) (.cons (.bin .add (.loc 1) (.int 1)) (.cons (.bin .sub (.loc 2) (.int 1)) .nil))))) [.fz (scrD ns), .fz (.int at_), .fz (.int most), .fz (.list (nmL.map .str)), .no, .no, .no, .no, .no, .fz (.int (1 + l)), .no, .no, .no, .no, .no, .no] = .ok (.int k) := by
        conv => lhs; unfold ev
        show (do let x ← Res.ok (PyData.int 2); let y ← ev φ (.call 1072 (.cons (.loc 0) (.cons (.bin .add (.loc 1) (.int 1)) (.cons (.bin .sub (.loc 2) (.int 1)) .nil)))) [.fz (scrD ns), .fz (.int at_), .fz (.int most), .fz (.list (nmL.map .str)), .no, .no, .no, .no, .no, .fz (.int (1 + l)), .no, .no, .no, .no, .no, .no]; dBin .add x y) = _
        rw [q1]
        show Res.ok (PyData.int (2 + c)) = _
        rw [hk]
      conv => lhs; unfold ev evO
      rw [q2]
      show Res.ok (PyData.list (cutD (nmL.map .str) none (some (k : Int)))) = _
      rw [cut_take, List.map_take]
    have s2 : evS φ fu f__law_fleet5_s2 [.fz (scrD ns), .fz (.int at_), .fz (.int most), .fz (.list (nmL.map .str)), .no, .no, .no, .no, .no, .fz (.int (1 + l)), .no, .no, .no, .no, .no, .no] = .ok .nx [.fz (scrD ns), .fz (.int at_), .fz (.int most), .fz (.list ((nmL.take k).map .str)), .no, .no, .no, .no, .no, .fz (.int (1 + l)), .no, .no, .no, .no, .no, .no] := st_set (i := 3) a2
    have a3 : ev φ (.ite (.cmp .Eq (.call 1072 (.cons (.loc 0) (.cons (.bin .add (.loc 1) (.int 2)) (.cons (.int 3) .nil)))) (.int 0)) (.tup (.cons (.tup (.cons (.int 1) (.cons (.int 1) .nil))) .nil)) (.tup .nil)) [.fz (scrD ns), .fz (.int at_), .fz (.int most), .fz (.list ((nmL.take k).map .str)), .no, .no, .no, .no, .no, .fz (.int (1 + l)), .no, .no, .no, .no, .no, .no] = .ok (.tuple ((islOf (decide (i = 0))).map ce)) := by
      have q1 : ev φ (.cmp .Eq (.call 1072 (.cons (.loc 0) (.cons (.bin .add (.loc 1) (.int 2)) (.cons (.int 3) .nil)))) (.int 0)) [.fz (scrD ns), .fz (.int at_), .fz (.int most), .fz (.list ((nmL.take k).map .str)), .no, .no, .no, .no, .no, .fz (.int (1 + l)), .no, .no, .no, .no, .no, .no] = .ok (.bool (decide (i = 0))) :=
        ev_cmp (x := .int i) (y := .int 0) ((ev_call3 (x := scrD ns) (y := .int (at_ + 2)) (z := .int 3) rfl rfl rfl).trans hi) rfl rfl
      conv => lhs; unfold ev
      rw [q1]
      cases decide (i = 0) <;> rfl
    have s3 : evS φ fu f__law_fleet5_s3 [.fz (scrD ns), .fz (.int at_), .fz (.int most), .fz (.list ((nmL.take k).map .str)), .no, .no, .no, .no, .no, .fz (.int (1 + l)), .no, .no, .no, .no, .no, .no] = .ok .nx [.fz (scrD ns), .fz (.int at_), .fz (.int most), .fz (.list ((nmL.take k).map .str)), .fz (.tuple ((islOf (decide (i = 0))).map ce)), .no, .no, .no, .no, .fz (.int (1 + l)), .no, .no, .no, .no, .no, .no] := st_set (i := 4) a3
    generalize hb : decide (i = 0) = b at *
    have s4 : evS φ fu f__law_fleet5_s4 [.fz (scrD ns), .fz (.int at_), .fz (.int most), .fz (.list ((nmL.take k).map .str)), .fz (.tuple ((islOf b).map ce)), .no, .no, .no, .no, .fz (.int (1 + l)), .no, .no, .no, .no, .no, .no] = .ok .nx [.fz (scrD ns), .fz (.int at_), .fz (.int most), .fz (.list ((nmL.take k).map .str)), .fz (.tuple ((islOf b).map ce)), .fz (.list (cells12.map ce)), .no, .no, .no, .fz (.int (1 + l)), .no, .no, .no, .no, .no, .no] := by kernel_rfl
    have s5 : evS φ fu f__law_fleet5_s5 [.fz (scrD ns), .fz (.int at_), .fz (.int most), .fz (.list ((nmL.take k).map .str)), .fz (.tuple ((islOf b).map ce)), .fz (.list (cells12.map ce)), .no, .no, .no, .fz (.int (1 + l)), .no, .no, .no, .no, .no, .no] = .ok .nx [.fz (scrD ns), .fz (.int at_), .fz (.int most), .fz (.list ((nmL.take k).map .str)), .fz (.tuple ((islOf b).map ce)), .fz (.list ((freeOf b).map ce)), .no, .no, .no, .fz (.int (1 + l)), .no, .no, .no, .no, .no, .no] := by
      cases b <;> kernel_rfl
    have s6 : evS φ fu f__law_fleet5_s6 [.fz (scrD ns), .fz (.int at_), .fz (.int most), .fz (.list ((nmL.take k).map .str)), .fz (.tuple ((islOf b).map ce)), .fz (.list ((freeOf b).map ce)), .no, .no, .no, .fz (.int (1 + l)), .no, .no, .no, .no, .no, .no] = .ok .nx [.fz (scrD ns), .fz (.int at_), .fz (.int most), .fz (.list ((nmL.take k).map .str)), .fz (.tuple ((islOf b).map ce)), .fz (.list ((freeOf b).map ce)), .own (.list []), .no, .no, .fz (.int (1 + l)), .no, .no, .no, .no, .no, .no] := rfl
    have a8 : ev φ (.tup (.cons (.int 0) (.cons (.call 1072 (.cons (.loc 0) (.cons (.bin .add (.loc 1) (.int 3)) (.cons (.bin .add (.loc 9) (.int 1)) .nil)))) (.cons (.tup (.cons (.int 0) (.cons (.int 0) .nil))) (.cons (.tup (.cons (.int 1) (.cons (.int 2) .nil))) (.cons (.int 1) .nil)))))) [.fz (scrD ns), .fz (.int at_), .fz (.int most), .fz (.list ((nmL.take k).map .str)), .fz (.tuple ((islOf b).map ce)), .fz (.list ((freeOf b).map ce)), .own (.list (ss.map shipD)), .no, .no, .fz (.int (1 + l)), sv x10, sv x11, sv x12, sv x13, .no, .no] = .ok (mistD ⟨0, u, (0, 0), (1, 2), 1⟩) := by
      have q1 : ev φ (.call 1072 (.cons (.loc 0) (.cons (.bin .add (.loc 1) (.int 3)) (.cons (.bin .add (.loc 9) (.int 1)) .nil)))) [.fz (scrD ns), .fz (.int at_), .fz (.int most), .fz (.list ((nmL.take k).map .str)), .fz (.tuple ((islOf b).map ce)), .fz (.list ((freeOf b).map ce)), .own (.list (ss.map shipD)), .no, .no, .fz (.int (1 + l)), sv x10, sv x11, sv x12, sv x13, .no, .no] = .ok (.int u) := (ev_call3 (x := scrD ns) (y := .int (at_ + 3)) (z := .int (1 + l + 1)) rfl rfl rfl).trans hu
      conv => lhs; unfold ev evs evs
      rw [q1]
      rfl
    have s8 : evS φ fu f__law_fleet5_s8 [.fz (scrD ns), .fz (.int at_), .fz (.int most), .fz (.list ((nmL.take k).map .str)), .fz (.tuple ((islOf b).map ce)), .fz (.list ((freeOf b).map ce)), .own (.list (ss.map shipD)), .no, .no, .fz (.int (1 + l)), sv x10, sv x11, sv x12, sv x13, .no, .no] = .ok .nx [.fz (scrD ns), .fz (.int at_), .fz (.int most), .fz (.list ((nmL.take k).map .str)), .fz (.tuple ((islOf b).map ce)), .fz (.list ((freeOf b).map ce)), .own (.list (ss.map shipD)), .fz (mistD ⟨0, u, (0, 0), (1, 2), 1⟩), .no, .fz (.int (1 + l)), sv x10, sv x11, sv x12, sv x13, .no, .no] := st_set (i := 7) a8
    have a9 : ev φ (.ite (.cmp .Eq (.call 1072 (.cons (.loc 0) (.cons (.bin .add (.loc 1) (.int 4)) (.cons (.int 3) .nil)))) (.int 0)) (.tup (.cons (.loc 7) .nil)) (.tup .nil)) [.fz (scrD ns), .fz (.int at_), .fz (.int most), .fz (.list ((nmL.take k).map .str)), .fz (.tuple ((islOf b).map ce)), .fz (.list ((freeOf b).map ce)), .own (.list (ss.map shipD)), .fz (mistD ⟨0, u, (0, 0), (1, 2), 1⟩), .no, .fz (.int (1 + l)), sv x10, sv x11, sv x12, sv x13, .no, .no] = .ok (.tuple ((if q = 0 then [(⟨0, u, (0, 0), (1, 2), 1⟩ : Mist)] else []).map mistD)) := by
      have q1 : ev φ (.cmp .Eq (.call 1072 (.cons (.loc 0) (.cons (.bin .add (.loc 1) (.int 4)) (.cons (.int 3) .nil)))) (.int 0)) [.fz (scrD ns), .fz (.int at_), .fz (.int most), .fz (.list ((nmL.take k).map .str)), .fz (.tuple ((islOf b).map ce)), .fz (.list ((freeOf b).map ce)), .own (.list (ss.map shipD)), .fz (mistD ⟨0, u, (0, 0), (1, 2), 1⟩), .no, .fz (.int (1 + l)), sv x10, sv x11, sv x12, sv x13, .no, .no] = .ok (.bool (decide (q = 0))) :=
        ev_cmp (x := .int q) (y := .int 0) ((ev_call3 (x := scrD ns) (y := .int (at_ + 4)) (z := .int 3) rfl rfl rfl).trans hq) rfl rfl
      conv => lhs; unfold ev
      rw [q1]
      by_cases hq0 : q = 0
      · rw [decide_eq_true hq0, if_pos hq0]
        rfl
      · rw [decide_eq_false hq0, if_neg hq0]
        rfl
    have s9 := st_set (fu := fu) (i := 8) a9
    have s9' : evS φ fu f__law_fleet5_s9 [.fz (scrD ns), .fz (.int at_), .fz (.int most), .fz (.list ((nmL.take k).map .str)), .fz (.tuple ((islOf b).map ce)), .fz (.list ((freeOf b).map ce)), .own (.list (ss.map shipD)), .fz (mistD ⟨0, u, (0, 0), (1, 2), 1⟩), .no, .fz (.int (1 + l)), sv x10, sv x11, sv x12, sv x13, .no, .no] = .ok .nx [.fz (scrD ns), .fz (.int at_), .fz (.int most), .fz (.list ((nmL.take k).map .str)), .fz (.tuple ((islOf b).map ce)), .fz (.list ((freeOf b).map ce)), .own (.list (ss.map shipD)), .fz (mistD ⟨0, u, (0, 0), (1, 2), 1⟩), .fz (.tuple ((if q = 0 then [(⟨0, u, (0, 0), (1, 2), 1⟩ : Mist)] else []).map mistD)), .fz (.int (1 + l)), sv x10, sv x11, sv x12, sv x13, .no, .no] := s9
    show retOf (evSs φ fu (.cons f__law_fleet5_s1 (.cons f__law_fleet5_s2 (.cons f__law_fleet5_s3 (.cons f__law_fleet5_s4 (.cons f__law_fleet5_s5 (.cons f__law_fleet5_s6 (.cons f__law_fleet5_s7 (.cons f__law_fleet5_s8 (.cons f__law_fleet5_s9 (.cons f__law_fleet5_s10 .nil)))))))))) [.fz (scrD ns), .fz (.int at_), .fz (.int most), .no, .no, .no, .no, .no, .no, .no, .no, .no, .no, .no, .no, .no]) = _
    rw [st_seq s1, st_seq s2, st_seq s3, st_seq s4, st_seq s5, st_seq s6, st_seq hs3, st_seq s8, st_seq s9']
    subst hb
    rfl
  · have hr : rise (G.ships.map fun s => .str s.name) = true := by
      have e : (G.ships.map fun s => PyData.str s.name) = (nmL.take k).map .str := by
        rw [← hs1, List.map_map]
        rfl
      rw [e]
      exact nm_rise k hk5
    have hlen : ss.length = k := by
      have := congrArg List.length hs1
      rw [List.length_map, List.length_take] at this
      have e5 : nmL.length = 5 := rfl
      omega
    have hall : G.ships.all (shipB G.last G.isl) = true := by
      rw [List.all_eq_true]
      intro s hs
      obtain ⟨g1, g2, g3⟩ := hs2 s hs
      have hn : s.name ∈ nmL := List.mem_of_mem_take (by rw [← hs1]; exact List.mem_map.mpr ⟨s, hs, rfl⟩)
      unfold shipB
      rw [(nm_ok _ hn).1, g1, decide_eq_true g2, Bool.true_and, Bool.true_and, Bool.true_and, List.all_eq_true]
      exact fun p hp => free_cell _ p (g3 p hp)
    have hm1 : G.mists.length ≤ 4 := by
      show (if q = 0 then [(⟨0, u, (0, 0), (1, 2), 1⟩ : Mist)] else []).length ≤ 4
      split <;> simp
    have hm2 : G.mists.all (mistB G.last) = true := by
      show (if q = 0 then [(⟨0, u, (0, 0), (1, 2), 1⟩ : Mist)] else []).all (mistB (1 + l)) = true
      split
      · simp [mistB, inB, cellB]
        omega
      · rfl
    have hm3 : rise (G.mists.map mistD) = true := by
      show rise ((if q = 0 then [(⟨0, u, (0, 0), (1, 2), 1⟩ : Mist)] else []).map mistD) = true
      split <;> rfl
    unfold fleetB
    rw [hr, hall, hm2, hm3, decide_eq_true hm1, show islB G.isl = true from isl_ok _]
    have hi7 : inB G.last 0 7 = true := by
      show inB (1 + l) 0 7 = true
      simp [inB]
      omega
    rw [hi7, show decide (1 ≤ G.ships.length) = true from decide_eq_true (by show 1 ≤ ss.length; omega), show decide (G.ships.length ≤ 5) = true from decide_eq_true (by show ss.length ≤ 5; omega)]
    rfl
  · intro s hs
    have hn : s.name ∈ nmL := List.mem_of_mem_take (by rw [← hs1]; exact List.mem_map.mpr ⟨s, hs, rfl⟩)
    exact (nm_ok _ hn).2
end
end HF

set_option Elab.async false
set_option autoImplicit false
set_option linter.all false
set_option maxRecDepth 100000
set_option maxHeartbeats 4000000
/-! Looks at a fleet. -/
namespace HF
open PySem PySem.Spec PyProof.Rows L2
section
variable {T : List Fn} (F : HasF T) (fu n : Nat)
include F
theorem look_ok (hl : findF T 18 = some f_look_fleet) (G : Fleet) (w : G.wf) (hb : fleetB G = true) : run T fu (n + 5) 18 [G.toD] = .ok .none := by
  refine (call_eq hl rfl).trans ?_
  have e : ev (run T fu (n + 4)) (.not (.call 17 (.cons (.loc 0) .nil))) [.fz G.toD] = .ok (.bool (!fleetB G)) := ev_not ((ev_call1 (x := G.toD) rfl).trans (fleet_ok F fu n G w))
  rw [hb] at e
  have z : evS (run T fu (n + 4)) fu f_look_fleet_s1 [.fz G.toD] = .ok .nx [.fz G.toD] := st_if0 e
  exact congrArg retOf ((st_seq (r := .nil) z).trans rfl)
theorem look_no (hl : findF T 18 = some f_look_fleet) (G : Fleet) (w : G.wf) (hb : fleetB G = false) : run T fu (n + 5) 18 [G.toD] = .exc "NoFleet" := by
  refine (call_eq hl rfl).trans ?_
  have e : ev (run T fu (n + 4)) (.not (.call 17 (.cons (.loc 0) .nil))) [.fz G.toD] = .ok (.bool (!fleetB G)) := ev_not ((ev_call1 (x := G.toD) rfl).trans (fleet_ok F fu n G w))
  rw [hb] at e
  have z : evS (run T fu (n + 4)) fu f_look_fleet_s1 [.fz G.toD] = .exc "NoFleet" [.fz G.toD] := (st_ifT e).trans rfl
  exact congrArg retOf (st_exc (r := .nil) z)
omit F in
theorem names_ok (hl : findF T 19 = some f_plain_names) (G : Fleet) : run T fu (n + 1) 19 [G.toD] = .ok (.list (G.ships.map fun s => .str s.name)) := by
  refine (call_eq hl rfl).trans ?_
  have z := ev_comp0 (φ := run T fu n) (own := [("ship", 1)]) (t := .one 1) (s := .val (.ix (.loc 0) (.int 2))) (e := .ix (.loc 1) (.int 0)) (σ := [.fz G.toD, .no]) (xs := G.ships.map shipD)
    (g := fun d => match d with
      | .tuple (x :: _) => x
      | _ => .none) rfl rfl fun x hx => by
      obtain ⟨s, _, rfl⟩ := List.mem_map.mp hx
      exact ⟨[.fz G.toD, .fz (shipD s)], rfl, rfl⟩
  rw [List.map_map] at z
  exact congrArg retOf (st_fin (fu := fu) (r := .nil) (st_ret' z))
end
end HF

set_option Elab.async false
set_option autoImplicit false
set_option linter.all false
set_option maxRecDepth 100000
set_option maxHeartbeats 4000000
/-! Sentences. -/
namespace HF
open PySem PySem.Spec PyProof.Rows L2
inductive Sen where
  | by (nm : Str) (hr : Int)
  | not (a : Sen)
  | and (a b : Sen)
  | knows (nm : Str) (hr : Int) (a : Sen)
  | all (c : Bool) (nms : List Str) (hr : Int) (a : Sen)
def Sen.toD : Sen → D
  | .by nm hr => .tuple [.str "by", .str nm, .int hr]
  | .not a => .tuple [.str "not", a.toD]
  | .and a b => .tuple [.str "and", a.toD, b.toD]
  | .knows nm hr a => .tuple [.str "knows", .str nm, .int hr, a.toD]
  | .all c nms hr a => .tuple [.str (if c then "common" else "all"), .tuple (nms.map .str), .int hr, a.toD]
def Sen.depth : Sen → Nat
  | .by _ _ => 1
  | .not a => a.depth + 1
  | .and a b => max a.depth b.depth + 1
  | .knows _ _ a => a.depth + 1
  | .all _ _ _ a => a.depth + 1
/-- fit for a fleet with these names and this last hour -/
def Sen.ok (N : List Str) (last : Int) : Sen → Prop
  | .by nm hr => nm ∈ N ∧ 0 ≤ hr ∧ hr ≤ last
  | .not a => a.ok N last
  | .and a b => a.ok N last ∧ b.ok N last
  | .knows nm hr a => nm ∈ N ∧ (0 ≤ hr ∧ hr ≤ last + 1) ∧ a.ok N last
  | .all _ nms hr a => (nms ≠ [] ∧ (∀ x ∈ nms, x ∈ N) ∧ rise (nms.map .str) = true) ∧ (0 ≤ hr ∧ hr ≤ last + 1) ∧ a.ok N last
theorem lay_strs : ∀ xs : List Str, (∀ x ∈ xs, PyData.strOk x = true) → PyData.canLayAll0 (xs.map .str) = true ∧ PyData.depthAll (xs.map .str) = 0
  | [], _ => ⟨rfl, rfl⟩
  | x :: r, h => by
    obtain ⟨h1, h2⟩ := lay_strs r fun y hy => h y (List.mem_cons_of_mem _ hy)
    exact ⟨by simp [PyData.canLayAll0, PyData.canLay0, h1, h x List.mem_cons_self], by simp [PyData.depthAll, PyData.depth, h2]⟩
theorem in_strs (x : Str) (xs : List Str) (hx : PyData.strOk x = true) (h : ∀ y ∈ xs, PyData.strOk y = true) : dIn (.str x) (.list (xs.map .str)) = .ok (decide (x ∈ xs)) := by
  obtain ⟨h1, h2⟩ := lay_strs xs h
  have sl : SeqAt.shaped (.list (xs.map .str)) = true := by
    unfold SeqAt.shaped
    simp [PyData.canLay0, PyData.depth, h1, h2]
  have ss : SeqAt.shaped (.str x) = true := by
    unfold SeqAt.shaped
    simp [PyData.canLay0, PyData.depth, hx]
  show (if (SeqAt.shaped (.str x) && SeqAt.shaped (.list (xs.map .str))) = true then Res.ok ((xs.map PyData.str).any fun z => PyData.eqv z (.str x)) else .bad) = _
  rw [sl, ss, if_pos (by rfl)]
  congr 1
  rw [List.any_map, Bool.eq_iff_iff]
  simp only [List.any_eq_true, Function.comp, decide_eq_true_eq, PyData.eqv]
  constructor
  · rintro ⟨q, h1, h2⟩; simp at h2; exact h2 ▸ h1
  · exact fun h => ⟨x, h, by simp⟩
theorem sen_lay {N : List Str} {last : Int} (hN : ∀ x ∈ N, PyData.strOk x = true) : ∀ s : Sen, s.ok N last → s.toD.canLay0 = true ∧ s.toD.depth ≤ s.depth + 1
  | .by nm hr, h => ⟨by simp [Sen.toD, PyData.canLay0, PyData.canLayAll0, hN nm h.1]; decide +kernel, by simp [Sen.toD, PyData.depth, PyData.depthAll, Sen.depth]⟩
  | .not a, h => by
    obtain ⟨h1, h2⟩ := sen_lay hN a h
    refine ⟨by simp [Sen.toD, PyData.canLay0, PyData.canLayAll0, h1]; decide +kernel, ?_⟩
    simp [Sen.toD, PyData.depth, PyData.depthAll, Sen.depth]
    omega
  | .and a b, h => by
    obtain ⟨h1, h2⟩ := sen_lay hN a h.1
    obtain ⟨h3, h4⟩ := sen_lay hN b h.2
    refine ⟨by simp [Sen.toD, PyData.canLay0, PyData.canLayAll0, h1, h3]; decide +kernel, ?_⟩
    simp [Sen.toD, PyData.depth, PyData.depthAll, Sen.depth]
    omega
  | .knows nm hr a, h => by
    obtain ⟨h1, h2⟩ := sen_lay hN a h.2.2
    refine ⟨by simp [Sen.toD, PyData.canLay0, PyData.canLayAll0, h1, hN nm h.1]; decide +kernel, ?_⟩
    simp [Sen.toD, PyData.depth, PyData.depthAll, Sen.depth]
    omega
  | .all c nms hr a, h => by
    obtain ⟨h1, h2⟩ := sen_lay hN a h.2.2
    obtain ⟨h3, h4⟩ := lay_strs nms fun x hx => hN x (h.1.2.1 x hx)
    refine ⟨by cases c <;> simp [Sen.toD, PyData.canLay0, PyData.canLayAll0, h1, h3] <;> decide +kernel, ?_⟩
    simp [Sen.toD, PyData.depth, PyData.depthAll, Sen.depth, h4]
    omega
theorem eq_nil {x : D} {r : List D} (h : SeqAt.shaped (.tuple (x :: r)) = true) : dCmp .Eq (.tuple (x :: r)) (.tuple []) = .ok false := by
  show (if (SeqAt.shaped (.tuple (x :: r)) && SeqAt.shaped (.tuple [])) = true then Res.ok (PyData.eqv (.tuple (x :: r)) (.tuple [])) else _) = _
  rw [h, if_pos (by rfl)]
  rfl
end HF

set_option Elab.async false
set_option autoImplicit false
set_option linter.all false
set_option maxRecDepth 100000
set_option maxHeartbeats 4000000
/-! How deep a sentence is. -/
namespace HF
open PySem PySem.Spec PyProof.Rows L2
structure HasD (T : List Fn) : Prop extends HasF T where
  names : findF T 19 = some f_plain_names
  areN : findF T 48 = some f_are_names
  deep : findF T 94 = some f_deep
  hour : findF T 95 = some f_is_hour_of
  knower : findF T 96 = some f_is_knower
def Fleet.names (G : Fleet) : List Str := G.ships.map (·.name)
/-- good names -/
structure Fleet.nm (G : Fleet) : Prop where
  ok : ∀ x ∈ G.names, PyData.strOk x = true
  len : ∀ x ∈ G.names, x.length ≤ 16777216
  nm : ∀ x ∈ G.names, nameB x = true
section
variable {T : List Fn} (F : HasD T) (fu n : Nat) (G : Fleet) (w : G.nm)
include F w
theorem hour_ok (nm : Str) (hr : Int) (hn : nm ∈ G.names) (h0 : 0 ≤ hr) (h1 : hr ≤ G.last) : run T fu (n + 2) 95 [G.toD, .tuple [.str "by", .str nm, .int hr]] = .ok (.bool true) := by
  refine (call_eq F.hour rfl).trans ?_
  have hN : (G.ships.map fun s => PyData.str s.name) = G.names.map .str := by
    unfold Fleet.names
    rw [List.map_map]
    rfl
  have q1 : ev (run T fu (n + 1)) (.call 11 (.cons (.ix (.loc 1) (.int 1)) .nil)) [.fz G.toD, .fz (.tuple [.str "by", .str nm, .int hr])] = .ok (.bool true) := (ev_call1 (x := .str nm) rfl).trans (by rw [name_ok F.toHasF fu n nm (w.len nm hn), w.nm nm hn])
  have q2 : ev (run T fu (n + 1)) (.cmp .In (.ix (.loc 1) (.int 1)) (.call 19 (.cons (.loc 0) .nil))) [.fz G.toD, .fz (.tuple [.str "by", .str nm, .int hr])] = .ok (.bool true) := by
    refine ev_cmp (x := .str nm) (y := .list (G.names.map .str)) rfl ((ev_call1 (x := G.toD) rfl).trans (by rw [names_ok fu n F.names G, hN])) ?_
    show dIn (.str nm) (.list (G.names.map .str)) = _
    rw [in_strs nm G.names (w.ok nm hn) w.ok, decide_eq_true hn]
  have q3 : ev (run T fu (n + 1)) (.call 10 (.cons (.ix (.loc 1) (.int 2)) (.cons (.int 0) (.cons (.ix (.loc 0) (.int 0)) .nil)))) [.fz G.toD, .fz (.tuple [.str "by", .str nm, .int hr])] = .ok (.bool true) := by
    refine (ev_call3 (x := .int hr) (y := .int 0) (z := .int G.last) rfl rfl rfl).trans ?_
    rw [int_ok F.toHasF fu n]
    simp [inB, h0, h1]
  have q : ev (run T fu (n + 1)) (.and (.call 11 (.cons (.ix (.loc 1) (.int 1)) .nil)) (.and (.cmp .In (.ix (.loc 1) (.int 1)) (.call 19 (.cons (.loc 0) .nil))) (.call 10 (.cons (.ix (.loc 1) (.int 2)) (.cons (.int 0) (.cons (.ix (.loc 0) (.int 0)) .nil)))))) [.fz G.toD, .fz (.tuple [.str "by", .str nm, .int hr])] = .ok (.bool true) := by
    rw [ev_andT q1, ev_andT q2, q3]
  exact congrArg retOf (st_fin (fu := fu) (r := .nil) (st_ret' q))
theorem areN_ok (nms : List Str) (hne : nms ≠ []) (hin : ∀ x ∈ nms, x ∈ G.names) (hr : rise (nms.map .str) = true) : run T fu (n + 2) 48 [G.toD, .tuple (nms.map .str)] = .ok (.bool true) := by
  refine (call_eq F.areN rfl).trans ?_
  have hN : (G.ships.map fun s => PyData.str s.name) = G.names.map .str := by
    unfold Fleet.names
    rw [List.map_map]
    rfl
  have hok : ∀ x ∈ nms, PyData.strOk x = true := fun x hx => w.ok x (hin x hx)
  have q1 : ev (run T fu (n + 1)) (.not (.isI (.loc 1) .tuple)) [.fz G.toD, .fz (.tuple (nms.map .str)), .no] = .ok (.bool false) := rfl
  have q2 : ev (run T fu (n + 1)) (.cmp .Eq (.loc 1) (.tup .nil)) [.fz G.toD, .fz (.tuple (nms.map .str)), .no] = .ok (.bool false) := by
    refine ev_cmp (x := .tuple (nms.map .str)) (y := .tuple []) rfl rfl ?_
    obtain ⟨a, r, rfl⟩ : ∃ a r, nms = a :: r := by
      cases nms with
      | nil => exact absurd rfl hne
      | cons a r => exact ⟨a, r, rfl⟩
    refine eq_nil (x := .str a) (r := r.map .str) ?_
    obtain ⟨h1, h2⟩ := lay_strs (a :: r) hok
    unfold SeqAt.shaped
    have h1' : PyData.canLayAll0 (.str a :: r.map .str) = true := h1
    have h2' : PyData.depthAll (.str a :: r.map .str) = 0 := h2
    simp [PyData.canLay0, PyData.depth, h1', h2']
  have q3 : ev (run T fu (n + 1)) (.bi .all (.cons (.comp [("name", 2)] (.one 2) (.val (.loc 1)) .no (.call 11 (.cons (.loc 2) .nil))) .nil)) [.fz G.toD, .fz (.tuple (nms.map .str)), .no] = .ok (.bool true) := by
    have z := ev_allc (φ := run T fu (n + 1)) (own := [("name", 2)]) (t := .one 2) (s := .val (.loc 1)) (e := .call 11 (.cons (.loc 2) .nil)) (σ := [.fz G.toD, .fz (.tuple (nms.map .str)), .no]) (xs := nms.map .str) (f := fun _ => true) rfl rfl fun x hx => by
      obtain ⟨y, hy, rfl⟩ := List.mem_map.mp hx
      refine ⟨[.fz G.toD, .fz (.tuple (nms.map .str)), .fz (.str y)], rfl, (ev_call1 (x := .str y) rfl).trans ?_⟩
      rw [name_ok F.toHasF fu n y (w.len y (hin y hy)), w.nm y (hin y hy)]
    rw [z, List.all_eq_true.mpr fun _ _ => rfl]
  have q4 : ev (run T fu (n + 1)) (.bi .all (.cons (.comp [("name", 2)] (.one 2) (.val (.loc 1)) .no (.cmp .In (.loc 2) (.call 19 (.cons (.loc 0) .nil)))) .nil)) [.fz G.toD, .fz (.tuple (nms.map .str)), .no] = .ok (.bool true) := by
    have z := ev_allc (φ := run T fu (n + 1)) (own := [("name", 2)]) (t := .one 2) (s := .val (.loc 1)) (e := .cmp .In (.loc 2) (.call 19 (.cons (.loc 0) .nil))) (σ := [.fz G.toD, .fz (.tuple (nms.map .str)), .no]) (xs := nms.map .str) (f := fun _ => true) rfl rfl fun x hx => by
      obtain ⟨y, hy, rfl⟩ := List.mem_map.mp hx
      refine ⟨[.fz G.toD, .fz (.tuple (nms.map .str)), .fz (.str y)], rfl, ?_⟩
      refine ev_cmp (x := .str y) (y := .list (G.names.map .str)) rfl ((ev_call1 (x := G.toD) rfl).trans (by rw [names_ok fu n F.names G, hN])) ?_
      show dIn (.str y) (.list (G.names.map .str)) = _
      rw [in_strs y G.names (hok y hy) w.ok, decide_eq_true (hin y hy)]
    rw [z, List.all_eq_true.mpr fun _ _ => rfl]
  have c1 : ev (run T fu (n + 1)) (.or (.not (.isI (.loc 1) .tuple)) (.or (.cmp .Eq (.loc 1) (.tup .nil)) (.not (.bi .all (.cons (.comp [("name", 2)] (.one 2) (.val (.loc 1)) .no (.call 11 (.cons (.loc 2) .nil))) .nil))))) [.fz G.toD, .fz (.tuple (nms.map .str)), .no] = .ok (.bool false) := by
    rw [ev_orF q1, ev_orF q2, ev_not q3]
    rfl
  have s1 : evS (run T fu (n + 1)) fu f_are_names_s1 [.fz G.toD, .fz (.tuple (nms.map .str)), .no] = .ok .nx [.fz G.toD, .fz (.tuple (nms.map .str)), .no] := st_if0 c1
  have r := rising_list F.toHasF fu n (xs := nms.map .str) (fun a ha b hb => by
    obtain ⟨x, hx, rfl⟩ := List.mem_map.mp ha
    obtain ⟨y, hy, rfl⟩ := List.mem_map.mp hb
    exact lt_str _ _ (hok x hx) (hok y hy)) true
  have q5 : ev (run T fu (n + 1)) (.call 13 (.cons (.loc 1) .nil)) [.fz G.toD, .fz (.tuple (nms.map .str)), .no] = .ok (.bool true) := (ev_call1 (x := .tuple (nms.map .str)) rfl).trans (by rw [hr] at r; exact r)
  have q : ev (run T fu (n + 1)) (.and (.call 13 (.cons (.loc 1) .nil)) (.bi .all (.cons (.comp [("name", 2)] (.one 2) (.val (.loc 1)) .no (.cmp .In (.loc 2) (.call 19 (.cons (.loc 0) .nil)))) .nil))) [.fz G.toD, .fz (.tuple (nms.map .str)), .no] = .ok (.bool true) := by
    rw [ev_andT q5, q4]
  exact congrArg retOf ((st_seq (r := .cons f_are_names_s2 .nil) s1).trans (st_fin (fu := fu) (r := .nil) (st_ret' q)))
end
end HF

set_option Elab.async false
set_option autoImplicit false
set_option linter.all false
set_option maxRecDepth 100000
set_option maxHeartbeats 4000000
/-! deep. -/
namespace HF
open PySem PySem.Spec PyProof.Rows L2
theorem deep_start {φ : Nat → List D → Res D} {fu : Nat} {g : D} {kw : Str} {r : List D} {most : Int} (hs : SeqAt.shaped (.tuple (.str kw :: r)) = true) (h1 : 1 ≤ most) :
    evS φ fu f_deep_s1 [.fz g, .fz (.tuple (.str kw :: r)), .fz (.int most), .no, .no, .no] = .ok .nx [.fz g, .fz (.tuple (.str kw :: r)), .fz (.int most), .no, .no, .no] := by
  refine st_if0 ?_
  have q2 : ev φ (.cmp .Eq (.loc 1) (.tup .nil)) [.fz g, .fz (.tuple (.str kw :: r)), .fz (.int most), .no, .no, .no] = .ok (.bool false) := ev_cmp (x := .tuple (.str kw :: r)) (y := .tuple []) rfl rfl (eq_nil hs)
  have q3 : ev φ (.not (.isI (.ix (.loc 1) (.int 0)) .str)) [.fz g, .fz (.tuple (.str kw :: r)), .fz (.int most), .no, .no, .no] = .ok (.bool false) := by
    have i0 : dIx (.tuple (.str kw :: r)) (.int 0) = .ok (.str kw) := by
      show (match atI (PyData.str kw :: r) ((0 : Nat) : Int) with
        | some d => Res.ok d
        | none => .bad) = _
      rw [atI_nat (j := 0) (v := .str kw) rfl]
    refine ev_not (b := true) ?_
    have q : ev φ (.ix (.loc 1) (.int 0)) [.fz g, .fz (.tuple (.str kw :: r)), .fz (.int most), .no, .no, .no] = .ok (.str kw) := i0
    conv => lhs; unfold ev
    show (do let x ← ev φ (.ix (.loc 1) (.int 0)) [.fz g, .fz (.tuple (.str kw :: r)), .fz (.int most), .no, .no, .no]; dIsI .str x) = _
    rw [q]
    rfl
  have q4 : ev φ (.cmp .Lt (.loc 2) (.int 1)) [.fz g, .fz (.tuple (.str kw :: r)), .fz (.int most), .no, .no, .no] = .ok (.bool false) := by
    refine ev_cmp (x := .int most) (y := .int 1) rfl rfl ?_
    show Res.ok (decide (most < 1)) = _
    rw [decide_eq_false (by omega)]
  rw [ev_orF (show ev φ (.not (.isI (.loc 1) .tuple)) [.fz g, .fz (.tuple (.str kw :: r)), .fz (.int most), .no, .no, .no] = .ok (.bool false) from rfl), ev_orF q2, ev_orF q3, q4]
theorem shaped_sen {N : List Str} {last : Int} (hN : ∀ x ∈ N, PyData.strOk x = true) (s : Sen) (h : s.ok N last) (hd : s.depth ≤ 60) : SeqAt.shaped s.toD = true := by
  obtain ⟨h1, h2⟩ := sen_lay hN s h
  unfold SeqAt.shaped
  rw [h1, decide_eq_true (by omega)]
  rfl
theorem max_two (p q : Nat) : dMax1 (.list [.int p, .int q]) = .ok (.int ((max p q : Nat) : Int)) := by
  have hm : PySem.W.maxD (.int p) [.int q] = .int ((max p q : Nat) : Int) := by
    show (if PySem.W.dataLt (.int p) (.int q) = true then PyData.int q else .int p) = _
    rw [PySem.W.dataLt_int]
    by_cases h : (p : Int) < q
    · rw [decide_eq_true h, if_pos rfl, Nat.max_eq_right (by omega)]
    · rw [decide_eq_false h, if_neg Bool.false_ne_true, Nat.max_eq_left (by omega)]
  show (if (minOk [.int p, .int q] && flatD (PySem.W.maxD (.int p) [.int q])) = true then Res.ok (PySem.W.maxD (.int p) [.int q]) else .bad) = _
  rw [hm]
  rfl
section
variable {T : List Fn} (F : HasD T) (fu : Nat) (G : Fleet) (w : G.nm)
include F w
theorem knower_knows (n : Nat) (nm : Str) (hr : Int) (hn : nm ∈ G.names) (t : D) : run T fu (n + 3) 96 [G.toD, .tuple [.str "knows", .str nm, .int hr, t]] = .ok (.bool true) := by
  refine (call_eq F.knower rfl).trans ?_
  have hN : (G.ships.map fun s => PyData.str s.name) = G.names.map .str := by
    unfold Fleet.names
    rw [List.map_map]
    rfl
  have q1 : ev (run T fu (n + 2)) (.call 11 (.cons (.ix (.loc 1) (.int 1)) .nil)) [.fz G.toD, .fz (.tuple [.str "knows", .str nm, .int hr, t])] = .ok (.bool true) := (ev_call1 (x := .str nm) rfl).trans (by rw [name_ok F.toHasF fu (n + 1) nm (w.len nm hn), w.nm nm hn])
  have q2 : ev (run T fu (n + 2)) (.cmp .In (.ix (.loc 1) (.int 1)) (.call 19 (.cons (.loc 0) .nil))) [.fz G.toD, .fz (.tuple [.str "knows", .str nm, .int hr, t])] = .ok (.bool true) := by
    refine ev_cmp (x := .str nm) (y := .list (G.names.map .str)) rfl ((ev_call1 (x := G.toD) rfl).trans (by rw [names_ok fu (n + 1) F.names G, hN])) ?_
    show dIn (.str nm) (.list (G.names.map .str)) = _
    rw [in_strs nm G.names (w.ok nm hn) w.ok, decide_eq_true hn]
  have q : ev (run T fu (n + 2)) (.and (.call 11 (.cons (.ix (.loc 1) (.int 1)) .nil)) (.cmp .In (.ix (.loc 1) (.int 1)) (.call 19 (.cons (.loc 0) .nil)))) [.fz G.toD, .fz (.tuple [.str "knows", .str nm, .int hr, t])] = .ok (.bool true) := by
    rw [ev_andT q1, q2]
  have z : evS (run T fu (n + 2)) fu f_is_knower_s1 [.fz G.toD, .fz (.tuple [.str "knows", .str nm, .int hr, t])] = .ok (.ret (.bool true)) _ := (st_ifT (show ev (run T fu (n + 2)) (.cmp .Eq (.ix (.loc 1) (.int 0)) (.str "knows")) [.fz G.toD, .fz (.tuple [.str "knows", .str nm, .int hr, t])] = .ok (.bool true) from by kernel_rfl)).trans (st_fin (st_ret' q))
  exact congrArg retOf (st_fin (r := .cons f_is_knower_s2 .nil) z)
theorem knower_all (n : Nat) (nms : List Str) (hr : Int) (hne : nms ≠ []) (hin : ∀ x ∈ nms, x ∈ G.names) (hri : rise (nms.map .str) = true) (t : D) : run T fu (n + 3) 96 [G.toD, .tuple [.str "all", .tuple (nms.map .str), .int hr, t]] = .ok (.bool true) := by
  refine (call_eq F.knower rfl).trans ?_
  have s1 : evS (run T fu (n + 2)) fu f_is_knower_s1 [.fz G.toD, .fz (.tuple [.str "all", .tuple (nms.map .str), .int hr, t])] = .ok .nx [.fz G.toD, .fz (.tuple [.str "all", .tuple (nms.map .str), .int hr, t])] := by kernel_rfl
  have q : ev (run T fu (n + 2)) (.call 48 (.cons (.loc 0) (.cons (.ix (.loc 1) (.int 1)) .nil))) [.fz G.toD, .fz (.tuple [.str "all", .tuple (nms.map .str), .int hr, t])] = .ok (.bool true) := (ev_call2 (x := G.toD) (y := .tuple (nms.map .str)) rfl rfl).trans (areN_ok F fu n G w nms hne hin hri)
  exact congrArg retOf ((st_seq (r := .cons f_is_knower_s2 .nil) s1).trans (st_fin (fu := fu) (r := .nil) (st_ret' q)))
theorem knower_common (n : Nat) (nms : List Str) (hr : Int) (hne : nms ≠ []) (hin : ∀ x ∈ nms, x ∈ G.names) (hri : rise (nms.map .str) = true) (t : D) : run T fu (n + 3) 96 [G.toD, .tuple [.str "common", .tuple (nms.map .str), .int hr, t]] = .ok (.bool true) := by
  refine (call_eq F.knower rfl).trans ?_
  have s1 : evS (run T fu (n + 2)) fu f_is_knower_s1 [.fz G.toD, .fz (.tuple [.str "common", .tuple (nms.map .str), .int hr, t])] = .ok .nx [.fz G.toD, .fz (.tuple [.str "common", .tuple (nms.map .str), .int hr, t])] := by kernel_rfl
  have q : ev (run T fu (n + 2)) (.call 48 (.cons (.loc 0) (.cons (.ix (.loc 1) (.int 1)) .nil))) [.fz G.toD, .fz (.tuple [.str "common", .tuple (nms.map .str), .int hr, t])] = .ok (.bool true) := (ev_call2 (x := G.toD) (y := .tuple (nms.map .str)) rfl rfl).trans (areN_ok F fu n G w nms hne hin hri)
  exact congrArg retOf ((st_seq (r := .cons f_is_knower_s2 .nil) s1).trans (st_fin (fu := fu) (r := .nil) (st_ret' q)))
theorem deep_ok : ∀ (s : Sen) (n : Nat) (most : Int), s.ok G.names G.last → (s.depth : Int) ≤ most → s.depth ≤ 60 → run T fu (n + s.depth + 3) 94 [G.toD, s.toD, .int most] = .ok (.int s.depth)
  | .by nm hr, n, most, ho, hm, hd => by
    refine (call_eq F.deep rfl).trans ?_
    have hs := shaped_sen w.ok (.by nm hr) ho hd
    have s1 := deep_start (φ := run T fu (n + 1 + 2)) (fu := fu) (g := G.toD) (most := most) (show SeqAt.shaped (.tuple [.str "by", .str nm, .int hr]) = true from hs) (by have : (1 : Int) ≤ most := hm; exact this)
    have e2 : ev (run T fu (n + 1 + 2)) (.ite (.and (.cmp .Eq (.bi .len (.cons (.loc 1) .nil)) (.int 3)) (.call 95 (.cons (.loc 0) (.cons (.loc 1) .nil)))) (.int 1) .non) [.fz G.toD, .fz (.tuple [.str "by", .str nm, .int hr]), .fz (.int most), .no, .no, .no] = .ok (.int 1) := by
      have q : ev (run T fu (n + 1 + 2)) (.and (.cmp .Eq (.bi .len (.cons (.loc 1) .nil)) (.int 3)) (.call 95 (.cons (.loc 0) (.cons (.loc 1) .nil)))) [.fz G.toD, .fz (.tuple [.str "by", .str nm, .int hr]), .fz (.int most), .no, .no, .no] = .ok (.bool true) := by
        rw [ev_andT rfl]
        exact (ev_call2 (x := G.toD) (y := .tuple [.str "by", .str nm, .int hr]) rfl rfl).trans (hour_ok F fu (n + 1) G w nm hr ho.1 ho.2.1 ho.2.2)
      conv => lhs; unfold ev
      rw [q]
      rfl
    have s2 : evS (run T fu (n + 1 + 2)) fu f_deep_s2 [.fz G.toD, .fz (.tuple [.str "by", .str nm, .int hr]), .fz (.int most), .no, .no, .no] = .ok (.ret (.int 1)) _ := (st_ifT (show ev (run T fu (n + 1 + 2)) (.cmp .Eq (.ix (.loc 1) (.int 0)) (.str "by")) [.fz G.toD, .fz (.tuple [.str "by", .str nm, .int hr]), .fz (.int most), .no, .no, .no] = .ok (.bool true) from by kernel_rfl)).trans (st_fin (st_ret' e2))
    exact congrArg retOf ((st_seq s1).trans (st_fin s2))
  | .not a, n, most, ho, hm, hd => by
    refine (call_eq F.deep rfl).trans ?_
    have hs := shaped_sen w.ok (.not a) ho hd
    have hm' : (a.depth : Int) + 1 ≤ most := by have : ((a.depth + 1 : Nat) : Int) ≤ most := hm; omega
    have hd' : a.depth + 1 ≤ 60 := hd
    have ih := deep_ok a n (most - 1) ho (by omega) (by omega)
    generalize ht : a.toD = t at ih
    have hs' : SeqAt.shaped (.tuple [.str "not", t]) = true := by rw [← ht]; exact hs
    have s1 := deep_start (φ := run T fu (n + a.depth + 3)) (fu := fu) (g := G.toD) (most := most) hs' (by omega)
    have s2 : evS (run T fu (n + a.depth + 3)) fu f_deep_s2 [.fz G.toD, .fz (.tuple [.str "not", t]), .fz (.int most), .no, .no, .no] = .ok .nx [.fz G.toD, .fz (.tuple [.str "not", t]), .fz (.int most), .no, .no, .no] := by kernel_rfl
    have e3 : ev (run T fu (n + a.depth + 3)) (.or (.and (.cmp .Eq (.ix (.loc 1) (.int 0)) (.str "not")) (.cmp .Eq (.bi .len (.cons (.loc 1) .nil)) (.int 2))) (.and (.cmp .Eq (.ix (.loc 1) (.int 0)) (.str "and")) (.cmp .Eq (.bi .len (.cons (.loc 1) .nil)) (.int 3)))) [.fz G.toD, .fz (.tuple [.str "not", t]), .fz (.int most), .no, .no, .no] = .ok (.bool true) := by kernel_rfl
    have e4 : ev (run T fu (n + a.depth + 3)) (.comp [("part", 5)] (.one 5) (.val (.sl (.loc 1) (.yes (.int 1)) .no)) .no (.call 94 (.cons (.loc 0) (.cons (.loc 5) (.cons (.bin .sub (.loc 2) (.int 1)) .nil))))) [.fz G.toD, .fz (.tuple [.str "not", t]), .fz (.int most), .no, .no, .no] = .ok (.list [.int a.depth]) :=
      ev_comp0 (xs := [t]) (g := fun _ => .int a.depth) rfl rfl fun x hx => by
        rw [List.mem_singleton.mp hx]
        exact ⟨[.fz G.toD, .fz (.tuple [.str "not", t]), .fz (.int most), .no, .no, .fz t], rfl, (ev_call3 (x := G.toD) (y := t) (z := .int (most - 1)) rfl rfl rfl).trans ih⟩
    have e5 : ev (run T fu (n + a.depth + 3)) (.ite (.cmp .In .non (.loc 4)) .non (.bin .add (.bi .max1 (.cons (.loc 4) .nil)) (.int 1))) [.fz G.toD, .fz (.tuple [.str "not", t]), .fz (.int most), .no, .fz (.list [.int a.depth]), .no] = .ok (.int (a.depth + 1)) := rfl
    have s3 : evS (run T fu (n + a.depth + 3)) fu f_deep_s3 [.fz G.toD, .fz (.tuple [.str "not", t]), .fz (.int most), .no, .no, .no] = .ok (.ret (.int (a.depth + 1))) _ := (st_ifT e3).trans ((st_seq (st_set (i := 4) e4)).trans (st_fin (st_ret' e5)))
    show retOf (evSs (run T fu (n + a.depth + 3)) fu f_deep.body [.fz G.toD, .fz (.tuple [.str "not", a.toD]), .fz (.int most), .no, .no, .no]) = _
    rw [ht]
    refine (congrArg retOf ((st_seq s1).trans ((st_seq s2).trans (st_fin s3)))).trans ?_
    rfl
  | .and a b, n, most, ho, hm, hd => by
    refine (call_eq F.deep rfl).trans ?_
    have hs := shaped_sen w.ok (.and a b) ho hd
    have hm' : ((max a.depth b.depth : Nat) : Int) + 1 ≤ most := by have : ((max a.depth b.depth + 1 : Nat) : Int) ≤ most := hm; omega
    have hd' : max a.depth b.depth + 1 ≤ 60 := hd
    have ia := deep_ok a (n + (max a.depth b.depth - a.depth)) (most - 1) ho.1 (by omega) (by omega)
    have ib := deep_ok b (n + (max a.depth b.depth - b.depth)) (most - 1) ho.2 (by omega) (by omega)
    rw [show n + (max a.depth b.depth - a.depth) + a.depth + 3 = n + max a.depth b.depth + 3 by omega] at ia
    rw [show n + (max a.depth b.depth - b.depth) + b.depth + 3 = n + max a.depth b.depth + 3 by omega] at ib
    show retOf (evSs (run T fu (n + max a.depth b.depth + 3)) fu f_deep.body [.fz G.toD, .fz (.tuple [.str "and", a.toD, b.toD]), .fz (.int most), .no, .no, .no]) = .ok (.int ((max a.depth b.depth + 1 : Nat) : Int))
    have hs' : SeqAt.shaped (.tuple [.str "and", a.toD, b.toD]) = true := hs
    generalize a.toD = t at ia hs' ⊢
    generalize b.toD = t' at ib hs' ⊢
    generalize n + max a.depth b.depth + 3 = N at ia ib ⊢
    have s1 := deep_start (φ := run T fu N) (fu := fu) (g := G.toD) (most := most) hs' (by omega)
    have s2 : evS (run T fu N) fu f_deep_s2 [.fz G.toD, .fz (.tuple [.str "and", t, t']), .fz (.int most), .no, .no, .no] = .ok .nx [.fz G.toD, .fz (.tuple [.str "and", t, t']), .fz (.int most), .no, .no, .no] := by kernel_rfl
    have e3 : ev (run T fu N) (.or (.and (.cmp .Eq (.ix (.loc 1) (.int 0)) (.str "not")) (.cmp .Eq (.bi .len (.cons (.loc 1) .nil)) (.int 2))) (.and (.cmp .Eq (.ix (.loc 1) (.int 0)) (.str "and")) (.cmp .Eq (.bi .len (.cons (.loc 1) .nil)) (.int 3)))) [.fz G.toD, .fz (.tuple [.str "and", t, t']), .fz (.int most), .no, .no, .no] = .ok (.bool true) := by kernel_rfl
    have e4 : ev (run T fu N) (.comp [("part", 5)] (.one 5) (.val (.sl (.loc 1) (.yes (.int 1)) .no)) .no (.call 94 (.cons (.loc 0) (.cons (.loc 5) (.cons (.bin .sub (.loc 2) (.int 1)) .nil))))) [.fz G.toD, .fz (.tuple [.str "and", t, t']), .fz (.int most), .no, .no, .no] = .ok (.list [.int a.depth, .int b.depth]) := by
      have z := ev_comp0 (φ := run T fu N) (own := [("part", 5)]) (t := .one 5) (s := .val (.sl (.loc 1) (.yes (.int 1)) .no)) (e := .call 94 (.cons (.loc 0) (.cons (.loc 5) (.cons (.bin .sub (.loc 2) (.int 1)) .nil)))) (σ := [.fz G.toD, .fz (.tuple [.str "and", t, t']), .fz (.int most), .no, .no, .no]) (xs := [t, t'])
        (g := fun x => match run T fu N 94 [G.toD, x, .int (most - 1)] with
          | .ok d => d
          | _ => .none) rfl rfl fun x hx => by
          rcases List.mem_cons.mp hx with q | q
          · subst q
            refine ⟨[.fz G.toD, .fz (.tuple [.str "and", x, t']), .fz (.int most), .no, .no, .fz x], rfl, (ev_call3 (x := G.toD) (y := x) (z := .int (most - 1)) rfl rfl rfl).trans ?_⟩
            rw [ia]
          · rw [List.mem_singleton.mp q]
            refine ⟨[.fz G.toD, .fz (.tuple [.str "and", t, t']), .fz (.int most), .no, .no, .fz t'], rfl, (ev_call3 (x := G.toD) (y := t') (z := .int (most - 1)) rfl rfl rfl).trans ?_⟩
            rw [ib]
      rw [z]
      simp only [List.map_cons, List.map_nil, ia, ib]
    have e5 : ev (run T fu N) (.ite (.cmp .In .non (.loc 4)) .non (.bin .add (.bi .max1 (.cons (.loc 4) .nil)) (.int 1))) [.fz G.toD, .fz (.tuple [.str "and", t, t']), .fz (.int most), .no, .fz (.list [.int a.depth, .int b.depth]), .no] = .ok (.int ((max a.depth b.depth : Nat) + 1)) := by
      have q1 : ev (run T fu N) (.cmp .In .non (.loc 4)) [.fz G.toD, .fz (.tuple [.str "and", t, t']), .fz (.int most), .no, .fz (.list [.int a.depth, .int b.depth]), .no] = .ok (.bool false) := rfl
      have q2 : ev (run T fu N) (.bi .max1 (.cons (.loc 4) .nil)) [.fz G.toD, .fz (.tuple [.str "and", t, t']), .fz (.int most), .no, .fz (.list [.int a.depth, .int b.depth]), .no] = .ok (.int ((max a.depth b.depth : Nat) : Int)) := (ev_bi1 (x := .list [.int a.depth, .int b.depth]) rfl).trans (max_two _ _)
      conv => lhs; unfold ev
      rw [q1]
      show ev (run T fu N) (.bin .add (.bi .max1 (.cons (.loc 4) .nil)) (.int 1)) [.fz G.toD, .fz (.tuple [.str "and", t, t']), .fz (.int most), .no, .fz (.list [.int a.depth, .int b.depth]), .no] = _
      conv => lhs; unfold ev
      show (do let x ← ev (run T fu N) (.bi .max1 (.cons (.loc 4) .nil)) [.fz G.toD, .fz (.tuple [.str "and", t, t']), .fz (.int most), .no, .fz (.list [.int a.depth, .int b.depth]), .no]; let y ← Res.ok (PyData.int 1); dBin .add x y) = _
      rw [q2]
      rfl
    have s3 : evS (run T fu N) fu f_deep_s3 [.fz G.toD, .fz (.tuple [.str "and", t, t']), .fz (.int most), .no, .no, .no] = .ok (.ret (.int ((max a.depth b.depth : Nat) + 1))) _ := (st_ifT e3).trans ((st_seq (st_set (i := 4) e4)).trans (st_fin (st_ret' e5)))
    refine (congrArg retOf ((st_seq s1).trans ((st_seq s2).trans (st_fin s3)))).trans ?_
    rfl
  | .knows nm hr a, n, most, ho, hm, hd => by
    refine (call_eq F.deep rfl).trans ?_
    have hs := shaped_sen w.ok (.knows nm hr a) ho hd
    have hm' : (a.depth : Int) + 1 ≤ most := by have : ((a.depth + 1 : Nat) : Int) ≤ most := hm; omega
    have hd' : a.depth + 1 ≤ 60 := hd
    have ih := deep_ok a n (most - 1) ho.2.2 (by omega) (by omega)
    have hk := knower_knows F fu G w (n + a.depth) nm hr ho.1 a.toD
    show retOf (evSs (run T fu (n + a.depth + 3)) fu f_deep.body [.fz G.toD, .fz (.tuple [.str "knows", .str nm, .int hr, a.toD]), .fz (.int most), .no, .no, .no]) = .ok (.int ((a.depth + 1 : Nat) : Int))
    have hs' : SeqAt.shaped (.tuple [.str "knows", .str nm, .int hr, a.toD]) = true := hs
    have hw := int_ok F.toHasF fu (n + a.depth + 2) hr 0 (G.last + 1)
    rw [show inB hr 0 (G.last + 1) = true by simp [inB]; exact ho.2.1] at hw
    generalize a.toD = t at ih hk hs' ⊢
    rw [show n + a.depth + 2 + 1 = n + a.depth + 3 by omega] at hw
    generalize n + a.depth + 3 = N at ih hk hw ⊢
    have s1 := deep_start (φ := run T fu N) (fu := fu) (g := G.toD) (most := most) hs' (by omega)
    have s2 : evS (run T fu N) fu f_deep_s2 [.fz G.toD, .fz (.tuple [.str "knows", .str nm, .int hr, t]), .fz (.int most), .no, .no, .no] = .ok .nx [.fz G.toD, .fz (.tuple [.str "knows", .str nm, .int hr, t]), .fz (.int most), .no, .no, .no] := by kernel_rfl
    have s3 : evS (run T fu N) fu f_deep_s3 [.fz G.toD, .fz (.tuple [.str "knows", .str nm, .int hr, t]), .fz (.int most), .no, .no, .no] = .ok .nx [.fz G.toD, .fz (.tuple [.str "knows", .str nm, .int hr, t]), .fz (.int most), .no, .no, .no] := by kernel_rfl
    have e4 : ev (run T fu N) (.or (.cmp .NotIn (.ix (.loc 1) (.int 0)) (.tup (.cons (.str "knows") (.cons (.str "all") (.cons (.str "common") .nil))))) (.or (.cmp .NotEq (.bi .len (.cons (.loc 1) .nil)) (.int 4)) (.not (.call 10 (.cons (.ix (.loc 1) (.int 2)) (.cons (.int 0) (.cons (.bin .add (.ix (.loc 0) (.int 0)) (.int 1)) .nil))))))) [.fz G.toD, .fz (.tuple [.str "knows", .str nm, .int hr, t]), .fz (.int most), .no, .no, .no] = .ok (.bool false) := by
      rw [ev_orF (show ev (run T fu N) (.cmp .NotIn (.ix (.loc 1) (.int 0)) (.tup (.cons (.str "knows") (.cons (.str "all") (.cons (.str "common") .nil))))) [.fz G.toD, .fz (.tuple [.str "knows", .str nm, .int hr, t]), .fz (.int most), .no, .no, .no] = .ok (.bool false) from by kernel_rfl), ev_orF (show ev (run T fu N) (.cmp .NotEq (.bi .len (.cons (.loc 1) .nil)) (.int 4)) [.fz G.toD, .fz (.tuple [.str "knows", .str nm, .int hr, t]), .fz (.int most), .no, .no, .no] = .ok (.bool false) from by kernel_rfl)]
      exact ev_not ((ev_call3 (x := .int hr) (y := .int 0) (z := .int (G.last + 1)) rfl rfl rfl).trans hw)
    have s4 : evS (run T fu N) fu f_deep_s4 [.fz G.toD, .fz (.tuple [.str "knows", .str nm, .int hr, t]), .fz (.int most), .no, .no, .no] = .ok .nx [.fz G.toD, .fz (.tuple [.str "knows", .str nm, .int hr, t]), .fz (.int most), .no, .no, .no] := st_if0 e4
    have s5 : evS (run T fu N) fu f_deep_s5 [.fz G.toD, .fz (.tuple [.str "knows", .str nm, .int hr, t]), .fz (.int most), .no, .no, .no] = .ok .nx [.fz G.toD, .fz (.tuple [.str "knows", .str nm, .int hr, t]), .fz (.int most), .no, .no, .no] := st_if0 (ev_not (b := true) ((ev_call2 (x := G.toD) (y := .tuple [.str "knows", .str nm, .int hr, t]) rfl rfl).trans hk))
    have s6 : evS (run T fu N) fu f_deep_s6 [.fz G.toD, .fz (.tuple [.str "knows", .str nm, .int hr, t]), .fz (.int most), .no, .no, .no] = .ok .nx [.fz G.toD, .fz (.tuple [.str "knows", .str nm, .int hr, t]), .fz (.int most), .fz (.int a.depth), .no, .no] := st_set (i := 3) ((ev_call3 (x := G.toD) (y := t) (z := .int (most - 1)) rfl rfl rfl).trans ih)
    have s7 : evS (run T fu N) fu f_deep_s7 [.fz G.toD, .fz (.tuple [.str "knows", .str nm, .int hr, t]), .fz (.int most), .fz (.int a.depth), .no, .no] = .ok (.ret (.int (a.depth + 1))) _ := st_ret' (show ev (run T fu N) (.ite (.cmp .IsNot (.loc 3) .non) (.bin .add (.loc 3) (.int 1)) .non) [.fz G.toD, .fz (.tuple [.str "knows", .str nm, .int hr, t]), .fz (.int most), .fz (.int a.depth), .no, .no] = .ok (.int (a.depth + 1)) from rfl)
    refine (congrArg retOf ((st_seq s1).trans ((st_seq s2).trans ((st_seq s3).trans ((st_seq s4).trans ((st_seq s5).trans ((st_seq s6).trans (st_fin s7)))))))).trans ?_
    rfl
  | .all false nms hr a, n, most, ho, hm, hd => by
    refine (call_eq F.deep rfl).trans ?_
    have hs := shaped_sen w.ok (.all false nms hr a) ho hd
    have hm' : (a.depth : Int) + 1 ≤ most := by have : ((a.depth + 1 : Nat) : Int) ≤ most := hm; omega
    have hd' : a.depth + 1 ≤ 60 := hd
    have ih := deep_ok a n (most - 1) ho.2.2 (by omega) (by omega)
    have hk := knower_all F fu G w (n + a.depth) nms hr ho.1.1 ho.1.2.1 ho.1.2.2 a.toD
    show retOf (evSs (run T fu (n + a.depth + 3)) fu f_deep.body [.fz G.toD, .fz (.tuple [.str "all", .tuple (nms.map .str), .int hr, a.toD]), .fz (.int most), .no, .no, .no]) = .ok (.int ((a.depth + 1 : Nat) : Int))
    have hs' : SeqAt.shaped (.tuple [.str "all", .tuple (nms.map .str), .int hr, a.toD]) = true := hs
    have hw := int_ok F.toHasF fu (n + a.depth + 2) hr 0 (G.last + 1)
    rw [show inB hr 0 (G.last + 1) = true by simp [inB]; exact ho.2.1] at hw
    generalize a.toD = t at ih hk hs' ⊢
    rw [show n + a.depth + 2 + 1 = n + a.depth + 3 by omega] at hw
    generalize n + a.depth + 3 = N at ih hk hw ⊢
    have s1 := deep_start (φ := run T fu N) (fu := fu) (g := G.toD) (most := most) hs' (by omega)
    have s2 : evS (run T fu N) fu f_deep_s2 [.fz G.toD, .fz (.tuple [.str "all", .tuple (nms.map .str), .int hr, t]), .fz (.int most), .no, .no, .no] = .ok .nx [.fz G.toD, .fz (.tuple [.str "all", .tuple (nms.map .str), .int hr, t]), .fz (.int most), .no, .no, .no] := by kernel_rfl
    have s3 : evS (run T fu N) fu f_deep_s3 [.fz G.toD, .fz (.tuple [.str "all", .tuple (nms.map .str), .int hr, t]), .fz (.int most), .no, .no, .no] = .ok .nx [.fz G.toD, .fz (.tuple [.str "all", .tuple (nms.map .str), .int hr, t]), .fz (.int most), .no, .no, .no] := by kernel_rfl
    have e4 : ev (run T fu N) (.or (.cmp .NotIn (.ix (.loc 1) (.int 0)) (.tup (.cons (.str "knows") (.cons (.str "all") (.cons (.str "common") .nil))))) (.or (.cmp .NotEq (.bi .len (.cons (.loc 1) .nil)) (.int 4)) (.not (.call 10 (.cons (.ix (.loc 1) (.int 2)) (.cons (.int 0) (.cons (.bin .add (.ix (.loc 0) (.int 0)) (.int 1)) .nil))))))) [.fz G.toD, .fz (.tuple [.str "all", .tuple (nms.map .str), .int hr, t]), .fz (.int most), .no, .no, .no] = .ok (.bool false) := by
      rw [ev_orF (show ev (run T fu N) (.cmp .NotIn (.ix (.loc 1) (.int 0)) (.tup (.cons (.str "knows") (.cons (.str "all") (.cons (.str "common") .nil))))) [.fz G.toD, .fz (.tuple [.str "all", .tuple (nms.map .str), .int hr, t]), .fz (.int most), .no, .no, .no] = .ok (.bool false) from by kernel_rfl), ev_orF (show ev (run T fu N) (.cmp .NotEq (.bi .len (.cons (.loc 1) .nil)) (.int 4)) [.fz G.toD, .fz (.tuple [.str "all", .tuple (nms.map .str), .int hr, t]), .fz (.int most), .no, .no, .no] = .ok (.bool false) from by kernel_rfl)]
      exact ev_not ((ev_call3 (x := .int hr) (y := .int 0) (z := .int (G.last + 1)) rfl rfl rfl).trans hw)
    have s4 : evS (run T fu N) fu f_deep_s4 [.fz G.toD, .fz (.tuple [.str "all", .tuple (nms.map .str), .int hr, t]), .fz (.int most), .no, .no, .no] = .ok .nx [.fz G.toD, .fz (.tuple [.str "all", .tuple (nms.map .str), .int hr, t]), .fz (.int most), .no, .no, .no] := st_if0 e4
    have s5 : evS (run T fu N) fu f_deep_s5 [.fz G.toD, .fz (.tuple [.str "all", .tuple (nms.map .str), .int hr, t]), .fz (.int most), .no, .no, .no] = .ok .nx [.fz G.toD, .fz (.tuple [.str "all", .tuple (nms.map .str), .int hr, t]), .fz (.int most), .no, .no, .no] := st_if0 (ev_not (b := true) ((ev_call2 (x := G.toD) (y := .tuple [.str "all", .tuple (nms.map .str), .int hr, t]) rfl rfl).trans hk))
    have s6 : evS (run T fu N) fu f_deep_s6 [.fz G.toD, .fz (.tuple [.str "all", .tuple (nms.map .str), .int hr, t]), .fz (.int most), .no, .no, .no] = .ok .nx [.fz G.toD, .fz (.tuple [.str "all", .tuple (nms.map .str), .int hr, t]), .fz (.int most), .fz (.int a.depth), .no, .no] := st_set (i := 3) ((ev_call3 (x := G.toD) (y := t) (z := .int (most - 1)) rfl rfl rfl).trans ih)
    have s7 : evS (run T fu N) fu f_deep_s7 [.fz G.toD, .fz (.tuple [.str "all", .tuple (nms.map .str), .int hr, t]), .fz (.int most), .fz (.int a.depth), .no, .no] = .ok (.ret (.int (a.depth + 1))) _ := st_ret' (show ev (run T fu N) (.ite (.cmp .IsNot (.loc 3) .non) (.bin .add (.loc 3) (.int 1)) .non) [.fz G.toD, .fz (.tuple [.str "all", .tuple (nms.map .str), .int hr, t]), .fz (.int most), .fz (.int a.depth), .no, .no] = .ok (.int (a.depth + 1)) from rfl)
    refine (congrArg retOf ((st_seq s1).trans ((st_seq s2).trans ((st_seq s3).trans ((st_seq s4).trans ((st_seq s5).trans ((st_seq s6).trans (st_fin s7)))))))).trans ?_
    rfl
  | .all true nms hr a, n, most, ho, hm, hd => by
    refine (call_eq F.deep rfl).trans ?_
    have hs := shaped_sen w.ok (.all true nms hr a) ho hd
    have hm' : (a.depth : Int) + 1 ≤ most := by have : ((a.depth + 1 : Nat) : Int) ≤ most := hm; omega
    have hd' : a.depth + 1 ≤ 60 := hd
    have ih := deep_ok a n (most - 1) ho.2.2 (by omega) (by omega)
    have hk := knower_common F fu G w (n + a.depth) nms hr ho.1.1 ho.1.2.1 ho.1.2.2 a.toD
    show retOf (evSs (run T fu (n + a.depth + 3)) fu f_deep.body [.fz G.toD, .fz (.tuple [.str "common", .tuple (nms.map .str), .int hr, a.toD]), .fz (.int most), .no, .no, .no]) = .ok (.int ((a.depth + 1 : Nat) : Int))
    have hs' : SeqAt.shaped (.tuple [.str "common", .tuple (nms.map .str), .int hr, a.toD]) = true := hs
    have hw := int_ok F.toHasF fu (n + a.depth + 2) hr 0 (G.last + 1)
    rw [show inB hr 0 (G.last + 1) = true by simp [inB]; exact ho.2.1] at hw
    generalize a.toD = t at ih hk hs' ⊢
    rw [show n + a.depth + 2 + 1 = n + a.depth + 3 by omega] at hw
    generalize n + a.depth + 3 = N at ih hk hw ⊢
    have s1 := deep_start (φ := run T fu N) (fu := fu) (g := G.toD) (most := most) hs' (by omega)
    have s2 : evS (run T fu N) fu f_deep_s2 [.fz G.toD, .fz (.tuple [.str "common", .tuple (nms.map .str), .int hr, t]), .fz (.int most), .no, .no, .no] = .ok .nx [.fz G.toD, .fz (.tuple [.str "common", .tuple (nms.map .str), .int hr, t]), .fz (.int most), .no, .no, .no] := by kernel_rfl
    have s3 : evS (run T fu N) fu f_deep_s3 [.fz G.toD, .fz (.tuple [.str "common", .tuple (nms.map .str), .int hr, t]), .fz (.int most), .no, .no, .no] = .ok .nx [.fz G.toD, .fz (.tuple [.str "common", .tuple (nms.map .str), .int hr, t]), .fz (.int most), .no, .no, .no] := by kernel_rfl
    have e4 : ev (run T fu N) (.or (.cmp .NotIn (.ix (.loc 1) (.int 0)) (.tup (.cons (.str "knows") (.cons (.str "all") (.cons (.str "common") .nil))))) (.or (.cmp .NotEq (.bi .len (.cons (.loc 1) .nil)) (.int 4)) (.not (.call 10 (.cons (.ix (.loc 1) (.int 2)) (.cons (.int 0) (.cons (.bin .add (.ix (.loc 0) (.int 0)) (.int 1)) .nil))))))) [.fz G.toD, .fz (.tuple [.str "common", .tuple (nms.map .str), .int hr, t]), .fz (.int most), .no, .no, .no] = .ok (.bool false) := by
      rw [ev_orF (show ev (run T fu N) (.cmp .NotIn (.ix (.loc 1) (.int 0)) (.tup (.cons (.str "knows") (.cons (.str "all") (.cons (.str "common") .nil))))) [.fz G.toD, .fz (.tuple [.str "common", .tuple (nms.map .str), .int hr, t]), .fz (.int most), .no, .no, .no] = .ok (.bool false) from by kernel_rfl), ev_orF (show ev (run T fu N) (.cmp .NotEq (.bi .len (.cons (.loc 1) .nil)) (.int 4)) [.fz G.toD, .fz (.tuple [.str "common", .tuple (nms.map .str), .int hr, t]), .fz (.int most), .no, .no, .no] = .ok (.bool false) from by kernel_rfl)]
      exact ev_not ((ev_call3 (x := .int hr) (y := .int 0) (z := .int (G.last + 1)) rfl rfl rfl).trans hw)
    have s4 : evS (run T fu N) fu f_deep_s4 [.fz G.toD, .fz (.tuple [.str "common", .tuple (nms.map .str), .int hr, t]), .fz (.int most), .no, .no, .no] = .ok .nx [.fz G.toD, .fz (.tuple [.str "common", .tuple (nms.map .str), .int hr, t]), .fz (.int most), .no, .no, .no] := st_if0 e4
    have s5 : evS (run T fu N) fu f_deep_s5 [.fz G.toD, .fz (.tuple [.str "common", .tuple (nms.map .str), .int hr, t]), .fz (.int most), .no, .no, .no] = .ok .nx [.fz G.toD, .fz (.tuple [.str "common", .tuple (nms.map .str), .int hr, t]), .fz (.int most), .no, .no, .no] := st_if0 (ev_not (b := true) ((ev_call2 (x := G.toD) (y := .tuple [.str "common", .tuple (nms.map .str), .int hr, t]) rfl rfl).trans hk))
    have s6 : evS (run T fu N) fu f_deep_s6 [.fz G.toD, .fz (.tuple [.str "common", .tuple (nms.map .str), .int hr, t]), .fz (.int most), .no, .no, .no] = .ok .nx [.fz G.toD, .fz (.tuple [.str "common", .tuple (nms.map .str), .int hr, t]), .fz (.int most), .fz (.int a.depth), .no, .no] := st_set (i := 3) ((ev_call3 (x := G.toD) (y := t) (z := .int (most - 1)) rfl rfl rfl).trans ih)
    have s7 : evS (run T fu N) fu f_deep_s7 [.fz G.toD, .fz (.tuple [.str "common", .tuple (nms.map .str), .int hr, t]), .fz (.int most), .fz (.int a.depth), .no, .no] = .ok (.ret (.int (a.depth + 1))) _ := st_ret' (show ev (run T fu N) (.ite (.cmp .IsNot (.loc 3) .non) (.bin .add (.loc 3) (.int 1)) .non) [.fz G.toD, .fz (.tuple [.str "common", .tuple (nms.map .str), .int hr, t]), .fz (.int most), .fz (.int a.depth), .no, .no] = .ok (.int (a.depth + 1)) from rfl)
    refine (congrArg retOf ((st_seq s1).trans ((st_seq s2).trans ((st_seq s3).trans ((st_seq s4).trans ((st_seq s5).trans ((st_seq s6).trans (st_fin s7)))))))).trans ?_
    rfl
end
end HF

set_option Elab.async false
set_option autoImplicit false
set_option linter.all false
set_option maxRecDepth 100000
set_option maxHeartbeats 4000000
/-! The drawn sentence. -/
namespace HF
open PySem PySem.Spec PyProof.Rows L2
theorem rise_pw : ∀ xs : List D, rise xs = true → xs.Pairwise fun a b => PySem.W.dataLt a b = true
  | [], _ => .nil
  | [a], _ => .cons (fun b hb => by cases hb) .nil
  | a :: b :: r, h => by
    have h' : (PySem.W.dataLt a b && rise (b :: r)) = true := h
    rw [Bool.and_eq_true] at h'
    have ih := rise_pw (b :: r) h'.2
    refine .cons (fun c hc => ?_) ih
    rcases List.mem_cons.mp hc with q | q
    · rw [q]; exact h'.1
    · exact lex_trans _ _ _ h'.1 ((List.pairwise_cons.mp ih).1 c q)
theorem pw_rise : ∀ xs : List D, (xs.Pairwise fun a b => PySem.W.dataLt a b = true) → rise xs = true
  | [], _ => rfl
  | [a], _ => rfl
  | a :: b :: r, h => by
    obtain ⟨h1, h2⟩ := List.pairwise_cons.mp h
    show (PySem.W.dataLt a b && rise (b :: r)) = true
    rw [h1 b List.mem_cons_self, pw_rise (b :: r) h2]
    rfl
theorem rise_sub {xs ys : List Str} (h : rise (xs.map .str) = true) (hs : ys.Sublist xs) : rise (ys.map .str) = true :=
  pw_rise _ ((rise_pw _ h).sublist (hs.map _))
theorem enum_sub {p : D → Bool} {g : D → D} : ∀ {xs : List Str} {k : Nat}, (∀ (j : Nat) x, xs[j]? = some x → g (.tuple [.int ((k + j : Nat) : Int), .str x]) = .str x) →
    ∃ ys : List Str, ys.Sublist xs ∧ ((enumFrom k (xs.map .str)).filter p).map g = ys.map .str ∧ ∀ (j : Nat) x, xs[j]? = some x → p (.tuple [.int ((k + j : Nat) : Int), .str x]) = true → x ∈ ys
  | [], _, _ => ⟨[], .refl _, rfl, fun j x h => by simp at h⟩
  | x :: xs, k, h => by
    have h0 := h 0 x rfl
    rw [Nat.add_zero] at h0
    obtain ⟨ys, h1, h2, h3⟩ := enum_sub (p := p) (g := g) (xs := xs) (k := k + 1) fun j y hy => by
      have z := h (j + 1) y (by simpa using hy)
      rw [show k + (j + 1) = k + 1 + j by omega] at z
      exact z
    have e : enumFrom k ((x :: xs).map .str) = .tuple [.int (k : Nat), .str x] :: enumFrom (k + 1) (xs.map .str) := rfl
    rw [e]
    cases hp : p (.tuple [.int (k : Nat), .str x]) with
    | true =>
      refine ⟨x :: ys, .cons_cons _ h1, by rw [List.filter_cons_of_pos hp, List.map_cons, h2, h0]; rfl, fun j y hy hq => ?_⟩
      cases j with
      | zero =>
        have : x = y := by simpa using hy
        rw [this]
        exact List.mem_cons_self
      | succ j =>
        rw [show k + (j + 1) = k + 1 + j by omega] at hq
        exact List.mem_cons_of_mem _ (h3 j y (by simpa using hy) hq)
    | false =>
      refine ⟨ys, .cons _ h1, by rw [List.filter_cons_of_neg (by rw [hp]; exact Bool.false_ne_true), h2], fun j y hy hq => ?_⟩
      cases j with
      | zero =>
        have : x = y := by simpa using hy
        rw [Nat.add_zero, ← this, hp] at hq
        cases hq
      | succ j =>
        rw [show k + (j + 1) = k + 1 + j by omega] at hq
        exact h3 j y (by simpa using hy) hq
end HF

set_option Elab.async false
set_option autoImplicit false
set_option linter.all false
set_option maxRecDepth 100000
set_option maxHeartbeats 4000000
/-! The drawn sentence is fit. -/
namespace HF
open PySem PySem.Spec PyProof.Rows L2
theorem sen_to4 {φ : Nat → List D → Res D} {fu : Nat} {ns : List Int} {G : Fleet} {at_ md t hr : Int} {j : Nat} {nm : Str} {r : Ss} (hT : ev φ (.ite (.cmp .Gt (.loc 3) (.int 1)) (.call 1072 (.cons (.loc 0) (.cons (.loc 1) (.cons (.int 7) .nil)))) (.int 0)) [.fz (scrD ns), .fz (.int at_), .fz G.toD, .fz (.int md), .fz (.list (G.names.map .str)), .no, .no, .no, .no, .no, .no, .no, .no] = .ok (.int t))
    (hi : φ 1072 [scrD ns, .int (at_ + 1), .int G.names.length] = .ok (.int j)) (hix : dIx (.list (G.names.map .str)) (.int j) = .ok (.str nm)) (hhr : φ 1072 [scrD ns, .int (at_ + 2), .int (G.last + 2)] = .ok (.int hr)) :
    evSs φ fu (.cons f__law_sentence_s1 (.cons f__law_sentence_s2 (.cons f__law_sentence_s3 r))) [.fz (scrD ns), .fz (.int at_), .fz G.toD, .fz (.int md), .no, .no, .no, .no, .no, .no, .no, .no, .no] = evSs φ fu r [.fz (scrD ns), .fz (.int at_), .fz G.toD, .fz (.int md), .fz (.list (G.names.map .str)), .fz (.int hr), .no, .no, .fz (.int t), .fz (.str nm), .no, .no, .no] := by
  have hN : (G.ships.map fun s => PyData.str s.name) = G.names.map .str := by
    unfold Fleet.names
    rw [List.map_map]
    rfl
  have z := ev_comp0 (φ := φ) (own := [("_law_ship", 10)]) (t := .one 10) (s := .val (.ix (.loc 2) (.int 2))) (e := .ix (.loc 10) (.int 0)) (σ := [.fz (scrD ns), .fz (.int at_), .fz G.toD, .fz (.int md), .no, .no, .no, .no, .no, .no, .no, .no, .no]) (xs := G.ships.map shipD)
    (g := fun d => match d with
      | .tuple (x :: _) => x
      | _ => .none) rfl rfl fun x hx => by
      obtain ⟨s, _, rfl⟩ := List.mem_map.mp hx
      exact ⟨[.fz (scrD ns), .fz (.int at_), .fz G.toD, .fz (.int md), .no, .no, .no, .no, .no, .no, .fz (shipD s), .no, .no], rfl, rfl⟩
  rw [List.map_map] at z
  have z' : ev φ (.comp [("_law_ship", 10)] (.one 10) (.val (.ix (.loc 2) (.int 2))) .no (.ix (.loc 10) (.int 0))) [.fz (scrD ns), .fz (.int at_), .fz G.toD, .fz (.int md), .no, .no, .no, .no, .no, .no, .no, .no, .no] = .ok (.list (G.names.map .str)) := by
    rw [← hN]
    exact z
  have s1 : evS φ fu f__law_sentence_s1 [.fz (scrD ns), .fz (.int at_), .fz G.toD, .fz (.int md), .no, .no, .no, .no, .no, .no, .no, .no, .no] = .ok .nx [.fz (scrD ns), .fz (.int at_), .fz G.toD, .fz (.int md), .fz (.list (G.names.map .str)), .no, .no, .no, .no, .no, .no, .no, .no] := st_set (i := 4) z'
  have q1 : ev φ (.call 1072 (.cons (.loc 0) (.cons (.bin .add (.loc 1) (.int 1)) (.cons (.bi .len (.cons (.loc 4) .nil)) .nil)))) [.fz (scrD ns), .fz (.int at_), .fz G.toD, .fz (.int md), .fz (.list (G.names.map .str)), .no, .no, .no, .no, .no, .no, .no, .no] = .ok (.int j) := by
    refine (ev_call3 (x := scrD ns) (y := .int (at_ + 1)) (z := .int G.names.length) rfl rfl ?_).trans hi
    show Res.ok (PyData.int ((G.names.map PyData.str).length : Nat)) = _
    rw [List.length_map]
  have q2 : ev φ (.ix (.loc 4) (.call 1072 (.cons (.loc 0) (.cons (.bin .add (.loc 1) (.int 1)) (.cons (.bi .len (.cons (.loc 4) .nil)) .nil))))) [.fz (scrD ns), .fz (.int at_), .fz G.toD, .fz (.int md), .fz (.list (G.names.map .str)), .no, .no, .no, .no, .no, .no, .no, .no] = .ok (.str nm) := by
    conv => lhs; unfold ev
    rw [q1]
    exact hix
  have e2 : evs φ (.cons (.ite (.cmp .Gt (.loc 3) (.int 1)) (.call 1072 (.cons (.loc 0) (.cons (.loc 1) (.cons (.int 7) .nil)))) (.int 0)) (.cons (.ix (.loc 4) (.call 1072 (.cons (.loc 0) (.cons (.bin .add (.loc 1) (.int 1)) (.cons (.bi .len (.cons (.loc 4) .nil)) .nil))))) .nil)) [.fz (scrD ns), .fz (.int at_), .fz G.toD, .fz (.int md), .fz (.list (G.names.map .str)), .no, .no, .no, .no, .no, .no, .no, .no] = .ok [.int t, .str nm] := by
    conv => lhs; unfold evs evs evs
    rw [hT, q2]
    rfl
  have s2 : evS φ fu f__law_sentence_s2 [.fz (scrD ns), .fz (.int at_), .fz G.toD, .fz (.int md), .fz (.list (G.names.map .str)), .no, .no, .no, .no, .no, .no, .no, .no] = .ok .nx [.fz (scrD ns), .fz (.int at_), .fz G.toD, .fz (.int md), .fz (.list (G.names.map .str)), .no, .no, .no, .fz (.int t), .fz (.str nm), .no, .no, .no] := st_par e2 rfl rfl
  have s3 : evS φ fu f__law_sentence_s3 [.fz (scrD ns), .fz (.int at_), .fz G.toD, .fz (.int md), .fz (.list (G.names.map .str)), .no, .no, .no, .fz (.int t), .fz (.str nm), .no, .no, .no] = .ok .nx [.fz (scrD ns), .fz (.int at_), .fz G.toD, .fz (.int md), .fz (.list (G.names.map .str)), .fz (.int hr), .no, .no, .fz (.int t), .fz (.str nm), .no, .no, .no] := st_set (i := 5) ((ev_call3 (x := scrD ns) (y := .int (at_ + 2)) (z := .int (G.last + 2)) rfl rfl rfl).trans hhr)
  exact (st_seq s1).trans ((st_seq s2).trans (st_seq s3))
theorem sen_by {φ : Nat → List D → Res D} {fu : Nat} {ns : List Int} {G : Fleet} {at_ md t hr : Int} {nm : Str} {r : Ss} (ht : t < 2) :
    retOf (evSs φ fu (.cons f__law_sentence_s4 r) [.fz (scrD ns), .fz (.int at_), .fz G.toD, .fz (.int md), .fz (.list (G.names.map .str)), .fz (.int hr), .no, .no, .fz (.int t), .fz (.str nm), .no, .no, .no]) = .ok (Sen.by nm (if G.last < hr then G.last else hr)).toD := by
  have c : ev φ (.cmp .Lt (.loc 8) (.int 2)) [.fz (scrD ns), .fz (.int at_), .fz G.toD, .fz (.int md), .fz (.list (G.names.map .str)), .fz (.int hr), .no, .no, .fz (.int t), .fz (.str nm), .no, .no, .no] = .ok (.bool true) := by
    refine ev_cmp (x := .int t) (y := .int 2) rfl rfl ?_
    show Res.ok (decide (t < 2)) = _
    rw [decide_eq_true ht]
  have z : evS φ fu f__law_sentence_s4 [.fz (scrD ns), .fz (.int at_), .fz G.toD, .fz (.int md), .fz (.list (G.names.map .str)), .fz (.int hr), .no, .no, .fz (.int t), .fz (.str nm), .no, .no, .no] = .ok (.ret (Sen.by nm (if G.last < hr then G.last else hr)).toD) _ := (st_ifT c).trans (st_fin (st_ret' rfl))
  rw [st_fin z]
  rfl
section
variable {T : List Fn} (h : findF T 1072 = some f__law_pick) (hsn : findF T 1080 = some f__law_sentence) (fu : Nat) (ns : List Int) (hn63 : ns.length ≤ 63) (G : Fleet) (w : G.nm) (hne : G.names ≠ []) (hlast : 0 ≤ G.last) (w7 : G.names.length ≤ 50) (hrise : rise (G.names.map .str) = true)
include h hsn hn63 w hne hlast w7 hrise
theorem sen_drawn : ∀ (d n : Nat) (at_ : Int), 0 ≤ at_ → at_ + 60 * ((d : Int) + 1) < fu → ∃ s : Sen, run T fu (n + (d + 1) + 2) 1080 [scrD ns, .int at_, G.toD, .int ((d + 1 : Nat) : Int)] = .ok s.toD ∧ s.ok G.names G.last ∧ s.depth ≤ d + 1 := by
  intro d
  induction d with
  | zero =>
    intro n at_ hat hf
    have hnl : 0 < G.names.length := List.length_pos_iff.mpr hne
    obtain ⟨i, i0, i1, hi⟩ := pick_ok h fu (n + 1) ns hn63 (at_ + 1) G.names.length (by omega) (by omega) (by omega)
    obtain ⟨hr, r0, r1, hhr⟩ := pick_ok h fu (n + 1) ns hn63 (at_ + 2) (G.last + 2) (by omega) (by omega) (by omega)
    obtain ⟨j, rfl⟩ : ∃ j : Nat, i = j := ⟨i.toNat, by omega⟩
    have hj : j < G.names.length := by omega
    have hnm : G.names[j] ∈ G.names := List.getElem_mem hj
    generalize hN : G.names[j] = nm at hnm
    have hix : dIx (.list (G.names.map .str)) (.int j) = .ok (.str nm) := by
      show (match atI (G.names.map PyData.str) (j : Int) with
        | some d => Res.ok d
        | none => .bad) = _
      rw [atI_nat (j := j) (v := .str nm) (by simp [hj, hN])]
    refine ⟨.by nm (if G.last < hr then G.last else hr), ?_, ⟨hnm, by split <;> omega, by split <;> omega⟩, Nat.le_refl _⟩
    refine (call_eq hsn rfl).trans ?_
    exact (congrArg retOf (sen_to4 (md := 1) (t := 0) (r := .cons f__law_sentence_s4 _) rfl hi hix hhr)).trans (sen_by (by decide))
  | succ d ih =>
    intro n at_ hat hf
    obtain ⟨t, t0, t1, ht⟩ := (show ∃ t, 0 ≤ t ∧ t < 7 ∧ run T fu (n + (d + 1) + 2) 1072 [scrD ns, .int at_, .int 7] = .ok (.int t) from pick_ok h fu (n + (d + 1) + 1) ns hn63 at_ 7 hat (by omega) (by decide))
    have hnl : 0 < G.names.length := List.length_pos_iff.mpr hne
    obtain ⟨i, i0, i1, hi⟩ := (show ∃ i, 0 ≤ i ∧ i < (G.names.length : Int) ∧ run T fu (n + (d + 1) + 2) 1072 [scrD ns, .int (at_ + 1), .int G.names.length] = .ok (.int i) from pick_ok h fu (n + (d + 1) + 1) ns hn63 (at_ + 1) G.names.length (by omega) (by omega) (by omega))
    obtain ⟨hr, r0, r1, hhr⟩ := (show ∃ hr, 0 ≤ hr ∧ hr < G.last + 2 ∧ run T fu (n + (d + 1) + 2) 1072 [scrD ns, .int (at_ + 2), .int (G.last + 2)] = .ok (.int hr) from pick_ok h fu (n + (d + 1) + 1) ns hn63 (at_ + 2) (G.last + 2) (by omega) (by omega) (by omega))
    obtain ⟨a, ha, hao, had⟩ := ih n (at_ + 9) (by omega) (by push_cast at hf ⊢; omega)
    obtain ⟨b, hb, hbo, hbd⟩ := ih n (at_ + 40) (by omega) (by push_cast at hf ⊢; omega)
    obtain ⟨j, rfl⟩ : ∃ j : Nat, i = j := ⟨i.toNat, by omega⟩
    have hj : j < G.names.length := by omega
    have hnm : G.names[j] ∈ G.names := List.getElem_mem hj
    generalize hN : G.names[j] = nm at hnm
    have hix : dIx (.list (G.names.map .str)) (.int j) = .ok (.str nm) := by
      show (match atI (G.names.map PyData.str) (j : Int) with
        | some d => Res.ok d
        | none => .bad) = _
      rw [atI_nat (j := j) (v := .str nm) (by simp [hj, hN])]
    generalize hφ : run T fu (n + (d + 1) + 2) = φ at *
    have hmd : ((d + 1 + 1 : Nat) : Int) - 1 = ((d + 1 : Nat) : Int) := by push_cast; omega
    have hmd1 : (1 : Int) < ((d + 1 + 1 : Nat) : Int) := by push_cast; omega
    rw [show n + (d + 1 + 1) + 2 = n + (d + 1) + 2 + 1 by omega]
    generalize ((d + 1 + 1 : Nat) : Int) = md at hmd hmd1 ⊢
    have hT : ev φ (.ite (.cmp .Gt (.loc 3) (.int 1)) (.call 1072 (.cons (.loc 0) (.cons (.loc 1) (.cons (.int 7) .nil)))) (.int 0)) [.fz (scrD ns), .fz (.int at_), .fz G.toD, .fz (.int md), .fz (.list (G.names.map .str)), .no, .no, .no, .no, .no, .no, .no, .no] = .ok (.int t) := by
      have q : ev φ (.cmp .Gt (.loc 3) (.int 1)) [.fz (scrD ns), .fz (.int at_), .fz G.toD, .fz (.int md), .fz (.list (G.names.map .str)), .no, .no, .no, .no, .no, .no, .no, .no] = .ok (.bool true) := by
        refine ev_cmp (x := .int md) (y := .int 1) rfl rfl ?_
        show Res.ok (decide (1 < md)) = _
        rw [decide_eq_true hmd1]
      conv => lhs; unfold ev
      rw [q]
      show ev φ (.call 1072 (.cons (.loc 0) (.cons (.loc 1) (.cons (.int 7) .nil)))) [.fz (scrD ns), .fz (.int at_), .fz G.toD, .fz (.int md), .fz (.list (G.names.map .str)), .no, .no, .no, .no, .no, .no, .no, .no] = _
      exact (ev_call3 (x := scrD ns) (y := .int at_) (z := .int 7) rfl rfl rfl).trans ht
    have to4 := fun r => sen_to4 (fu := fu) (md := md) (r := r) hT hi hix hhr
    have start : ∀ {r : Res D}, retOf (evSs φ fu (.cons f__law_sentence_s4 (.cons f__law_sentence_s5 (.cons f__law_sentence_s6 (.cons f__law_sentence_s7 (.cons f__law_sentence_s8 (.cons f__law_sentence_s9 (.cons f__law_sentence_s10 .nil))))))) [.fz (scrD ns), .fz (.int at_), .fz G.toD, .fz (.int md), .fz (.list (G.names.map .str)), .fz (.int hr), .no, .no, .fz (.int t), .fz (.str nm), .no, .no, .no]) = r → run T fu (n + (d + 1) + 2 + 1) 1080 [scrD ns, .int at_, G.toD, .int md] = r := fun {r} hr => by
      refine (call_eq hsn rfl).trans ?_
      rw [hφ]
      exact (congrArg retOf (to4 _)).trans hr
    by_cases h2 : t < 2
    · refine ⟨.by nm (if G.last < hr then G.last else hr), start (sen_by h2), ⟨hnm, by split <;> omega, by split <;> omega⟩, by show 1 ≤ _; omega⟩
    · have c4 : ev φ (.cmp .Lt (.loc 8) (.int 2)) [.fz (scrD ns), .fz (.int at_), .fz G.toD, .fz (.int md), .fz (.list (G.names.map .str)), .fz (.int hr), .no, .no, .fz (.int t), .fz (.str nm), .no, .no, .no] = .ok (.bool false) := by
        refine ev_cmp (x := .int t) (y := .int 2) rfl rfl ?_
        show Res.ok (decide (t < 2)) = _
        rw [decide_eq_false h2]
      have s4 : evS φ fu f__law_sentence_s4 [.fz (scrD ns), .fz (.int at_), .fz G.toD, .fz (.int md), .fz (.list (G.names.map .str)), .fz (.int hr), .no, .no, .fz (.int t), .fz (.str nm), .no, .no, .no] = .ok .nx [.fz (scrD ns), .fz (.int at_), .fz G.toD, .fz (.int md), .fz (.list (G.names.map .str)), .fz (.int hr), .no, .no, .fz (.int t), .fz (.str nm), .no, .no, .no] := st_if0 c4
      have s5 : evS φ fu f__law_sentence_s5 [.fz (scrD ns), .fz (.int at_), .fz G.toD, .fz (.int md), .fz (.list (G.names.map .str)), .fz (.int hr), .no, .no, .fz (.int t), .fz (.str nm), .no, .no, .no] = .ok .nx [.fz (scrD ns), .fz (.int at_), .fz G.toD, .fz (.int md), .fz (.list (G.names.map .str)), .fz (.int hr), .fz a.toD, .no, .fz (.int t), .fz (.str nm), .no, .no, .no] := st_set (i := 6) ((ev_call4 (x := scrD ns) (y := .int (at_ + 9)) (z := G.toD) (u := .int (md - 1)) rfl rfl rfl rfl).trans (by rw [hmd]; exact ha))
      have cq : ∀ k : Int, ev φ (.cmp .Eq (.loc 8) (.int k)) [.fz (scrD ns), .fz (.int at_), .fz G.toD, .fz (.int md), .fz (.list (G.names.map .str)), .fz (.int hr), .fz a.toD, .no, .fz (.int t), .fz (.str nm), .no, .no, .no] = .ok (.bool (decide (t = k))) := fun k => ev_cmp (x := .int t) (y := .int k) rfl rfl rfl
      by_cases t2 : t = 2
      · have c := cq 2
        rw [decide_eq_true t2] at c
        have z : evS φ fu f__law_sentence_s6 [.fz (scrD ns), .fz (.int at_), .fz G.toD, .fz (.int md), .fz (.list (G.names.map .str)), .fz (.int hr), .fz a.toD, .no, .fz (.int t), .fz (.str nm), .no, .no, .no] = .ok (.ret (Sen.not a).toD) _ := (st_ifT c).trans (st_fin (st_ret' rfl))
        exact ⟨.not a, start (congrArg retOf ((st_seq s4).trans ((st_seq s5).trans (st_fin z)))), hao, by show a.depth + 1 ≤ _; omega⟩
      · have c6 := cq 2
        rw [decide_eq_false t2] at c6
        have s6 : evS φ fu f__law_sentence_s6 [.fz (scrD ns), .fz (.int at_), .fz G.toD, .fz (.int md), .fz (.list (G.names.map .str)), .fz (.int hr), .fz a.toD, .no, .fz (.int t), .fz (.str nm), .no, .no, .no] = .ok .nx [.fz (scrD ns), .fz (.int at_), .fz G.toD, .fz (.int md), .fz (.list (G.names.map .str)), .fz (.int hr), .fz a.toD, .no, .fz (.int t), .fz (.str nm), .no, .no, .no] := st_if0 c6
        by_cases t3 : t = 3
        · have c := cq 3
          rw [decide_eq_true t3] at c
          have qb : ev φ (.call 1080 (.cons (.loc 0) (.cons (.bin .add (.loc 1) (.int 40)) (.cons (.loc 2) (.cons (.bin .sub (.loc 3) (.int 1)) .nil))))) [.fz (scrD ns), .fz (.int at_), .fz G.toD, .fz (.int md), .fz (.list (G.names.map .str)), .fz (.int hr), .fz a.toD, .no, .fz (.int t), .fz (.str nm), .no, .no, .no] = .ok b.toD := (ev_call4 (x := scrD ns) (y := .int (at_ + 40)) (z := G.toD) (u := .int (md - 1)) rfl rfl rfl rfl).trans (by rw [hmd]; exact hb)
          have qt : ev φ (.tup (.cons (.str "and") (.cons (.loc 6) (.cons (.call 1080 (.cons (.loc 0) (.cons (.bin .add (.loc 1) (.int 40)) (.cons (.loc 2) (.cons (.bin .sub (.loc 3) (.int 1)) .nil))))) .nil)))) [.fz (scrD ns), .fz (.int at_), .fz G.toD, .fz (.int md), .fz (.list (G.names.map .str)), .fz (.int hr), .fz a.toD, .no, .fz (.int t), .fz (.str nm), .no, .no, .no] = .ok (Sen.and a b).toD := by
            conv => lhs; unfold ev evs evs evs evs
            rw [qb]
            rfl
          have z : evS φ fu f__law_sentence_s7 [.fz (scrD ns), .fz (.int at_), .fz G.toD, .fz (.int md), .fz (.list (G.names.map .str)), .fz (.int hr), .fz a.toD, .no, .fz (.int t), .fz (.str nm), .no, .no, .no] = .ok (.ret (Sen.and a b).toD) _ := (st_ifT c).trans (st_fin (st_ret' qt))
          exact ⟨.and a b, start (congrArg retOf ((st_seq s4).trans ((st_seq s5).trans ((st_seq s6).trans (st_fin z))))), ⟨hao, hbo⟩, by show max a.depth b.depth + 1 ≤ _; omega⟩
        · have c7 := cq 3
          rw [decide_eq_false t3] at c7
          have s7 : evS φ fu f__law_sentence_s7 [.fz (scrD ns), .fz (.int at_), .fz G.toD, .fz (.int md), .fz (.list (G.names.map .str)), .fz (.int hr), .fz a.toD, .no, .fz (.int t), .fz (.str nm), .no, .no, .no] = .ok .nx [.fz (scrD ns), .fz (.int at_), .fz G.toD, .fz (.int md), .fz (.list (G.names.map .str)), .fz (.int hr), .fz a.toD, .no, .fz (.int t), .fz (.str nm), .no, .no, .no] := st_if0 c7
          by_cases t4 : t = 4
          · have c := cq 4
            rw [decide_eq_true t4] at c
            have z : evS φ fu f__law_sentence_s8 [.fz (scrD ns), .fz (.int at_), .fz G.toD, .fz (.int md), .fz (.list (G.names.map .str)), .fz (.int hr), .fz a.toD, .no, .fz (.int t), .fz (.str nm), .no, .no, .no] = .ok (.ret (Sen.knows nm hr a).toD) _ := (st_ifT c).trans (st_fin (st_ret' rfl))
            exact ⟨.knows nm hr a, start (congrArg retOf ((st_seq s4).trans ((st_seq s5).trans ((st_seq s6).trans ((st_seq s7).trans (st_fin z)))))), ⟨hnm, ⟨by omega, by omega⟩, hao⟩, by show a.depth + 1 ≤ _; omega⟩
          · have c8 := cq 4
            rw [decide_eq_false t4] at c8
            have s8 : evS φ fu f__law_sentence_s8 [.fz (scrD ns), .fz (.int at_), .fz G.toD, .fz (.int md), .fz (.list (G.names.map .str)), .fz (.int hr), .fz a.toD, .no, .fz (.int t), .fz (.str nm), .no, .no, .no] = .ok .nx [.fz (scrD ns), .fz (.int at_), .fz G.toD, .fz (.int md), .fz (.list (G.names.map .str)), .fz (.int hr), .fz a.toD, .no, .fz (.int t), .fz (.str nm), .no, .no, .no] := st_if0 c8
            have cnd : ∀ x ∈ enumFrom 0 (G.names.map PyData.str), ∃ (k : Nat) (y : Str), G.names[k]? = some y ∧ x = .tuple [.int ((0 + k : Nat) : Int), .str y] ∧ ∃ p : Bool, ev φ (.or (.cmp .Eq (.loc 12) (.loc 9)) (.cmp .Eq (.call 1072 (.cons (.loc 0) (.cons (.bin .add (.bin .add (.loc 1) (.int 3)) (.loc 11)) (.cons (.int 2) .nil)))) (.int 0))) [.fz (scrD ns), .fz (.int at_), .fz G.toD, .fz (.int md), .fz (.list (G.names.map .str)), .fz (.int hr), .fz a.toD, .no, .fz (.int t), .fz (.str nm), .no, .fz (.int ((0 + k : Nat) : Int)), .fz (.str y)] = .ok (.bool p) ∧ (y = nm → p = true) := fun x hx => by
              obtain ⟨k, hk⟩ := List.getElem?_of_mem hx
              obtain ⟨y', hy', rfl⟩ := enum_get hk
              rw [List.getElem?_map] at hy'
              cases hyk : G.names[k]? with
              | none => rw [hyk] at hy'; cases hy'
              | some y =>
                rw [hyk] at hy'
                cases hy'
                have hkl := (List.getElem?_eq_some_iff.mp hyk).1
                have hyN : y ∈ G.names := List.mem_of_getElem? hyk
                obtain ⟨q, q0, q1, hq⟩ := (show ∃ q, 0 ≤ q ∧ q < 2 ∧ run T fu (n + (d + 1) + 2) 1072 [scrD ns, .int (at_ + 3 + ((0 + k : Nat) : Int)), .int 2] = .ok (.int q) from pick_ok h fu (n + (d + 1) + 1) ns hn63 (at_ + 3 + ((0 + k : Nat) : Int)) 2 (by omega) (by have := w7; push_cast at hf ⊢; omega) (by decide))
                rw [hφ] at hq
                refine ⟨k, y, hyk, rfl, PyData.eqv (.str y) (.str nm) || decide (q = 0), ev_or ?_ fun _ => ?_, fun e => by subst e; simp [PyData.eqv]⟩
                · refine ev_cmp (x := .str y) (y := .str nm) rfl rfl ?_
                  show (if (SeqAt.shaped (.str y) && SeqAt.shaped (.str nm)) = true then Res.ok (PyData.eqv (.str y) (.str nm)) else _) = _
                  rw [if_pos]
                  simp [SeqAt.shaped, PyData.canLay0, PyData.depth, w.ok y hyN, w.ok nm hnm]
                · exact ev_cmp (x := .int q) (y := .int 0) ((ev_call3 (x := scrD ns) (y := .int (at_ + 3 + ((0 + k : Nat) : Int))) (z := .int 2) rfl rfl rfl).trans hq) rfl rfl
            have z := ev_comp (φ := φ) (own := [("_law_k", 11), ("_law_one", 12)]) (t := .tup [11, 12]) (s := .enum (.loc 4)) (c := .yes (.or (.cmp .Eq (.loc 12) (.loc 9)) (.cmp .Eq (.call 1072 (.cons (.loc 0) (.cons (.bin .add (.bin .add (.loc 1) (.int 3)) (.loc 11)) (.cons (.int 2) .nil)))) (.int 0)))) (e := .loc 12) (σ := [.fz (scrD ns), .fz (.int at_), .fz G.toD, .fz (.int md), .fz (.list (G.names.map .str)), .fz (.int hr), .fz a.toD, .no, .fz (.int t), .fz (.str nm), .no, .no, .no]) (xs := enumFrom 0 (G.names.map .str)) (p := (fun x => match x with
                | .tuple [k, o] => (match ev φ (.or (.cmp .Eq (.loc 12) (.loc 9)) (.cmp .Eq (.call 1072 (.cons (.loc 0) (.cons (.bin .add (.bin .add (.loc 1) (.int 3)) (.loc 11)) (.cons (.int 2) .nil)))) (.int 0))) [.fz (scrD ns), .fz (.int at_), .fz G.toD, .fz (.int md), .fz (.list (G.names.map .str)), .fz (.int hr), .fz a.toD, .no, .fz (.int t), .fz (.str nm), .no, .fz k, .fz o] with
                  | .ok (.bool b) => b
                  | _ => false)
                | _ => false)) (g := (fun x => match x with
                | .tuple [_, o] => o
                | _ => .none)) rfl rfl fun x hx => by
              obtain ⟨k, y, _, rfl, p, hp, _⟩ := cnd x hx
              refine ⟨[.fz (scrD ns), .fz (.int at_), .fz G.toD, .fz (.int md), .fz (.list (G.names.map .str)), .fz (.int hr), .fz a.toD, .no, .fz (.int t), .fz (.str nm), .no, .fz (.int ((0 + k : Nat) : Int)), .fz (.str y)], rfl, ?_, fun _ => rfl⟩
              show bOf (ev φ (.or (.cmp .Eq (.loc 12) (.loc 9)) (.cmp .Eq (.call 1072 (.cons (.loc 0) (.cons (.bin .add (.bin .add (.loc 1) (.int 3)) (.loc 11)) (.cons (.int 2) .nil)))) (.int 0))) [.fz (scrD ns), .fz (.int at_), .fz G.toD, .fz (.int md), .fz (.list (G.names.map .str)), .fz (.int hr), .fz a.toD, .no, .fz (.int t), .fz (.str nm), .no, .fz (.int ((0 + k : Nat) : Int)), .fz (.str y)]) = _
              dsimp only
              rw [hp]
              rfl
            obtain ⟨ys, y1, y2, y3⟩ := enum_sub (p := (fun x => match x with
                | .tuple [k, o] => (match ev φ (.or (.cmp .Eq (.loc 12) (.loc 9)) (.cmp .Eq (.call 1072 (.cons (.loc 0) (.cons (.bin .add (.bin .add (.loc 1) (.int 3)) (.loc 11)) (.cons (.int 2) .nil)))) (.int 0))) [.fz (scrD ns), .fz (.int at_), .fz G.toD, .fz (.int md), .fz (.list (G.names.map .str)), .fz (.int hr), .fz a.toD, .no, .fz (.int t), .fz (.str nm), .no, .fz k, .fz o] with
                  | .ok (.bool b) => b
                  | _ => false)
                | _ => false)) (g := (fun x => match x with
                | .tuple [_, o] => o
                | _ => .none)) (xs := G.names) (k := 0) fun k x _ => rfl
            rw [y2] at z
            have hmem : nm ∈ ys := by
              refine y3 j nm (by rw [← hN]; simp [hj]) ?_
              have hx : (PyData.tuple [.int ((0 + j : Nat) : Int), .str nm]) ∈ enumFrom 0 (G.names.map PyData.str) := List.mem_of_getElem? (enum_at (k := 0) (j := j) (y := .str nm) (by rw [List.getElem?_map, ← hN]; simp [hj]))
              obtain ⟨k, y, hk, e, p, hp, hpe⟩ := cnd _ hx
              injection e with e
              injection e with e1 e2
              injection e1 with e1
              injection e2 with e2 _
              injection e2 with e2
              subst e2
              dsimp only
              rw [e1, hp]
              exact hpe rfl
            have s9 : evS φ fu f__law_sentence_s9 [.fz (scrD ns), .fz (.int at_), .fz G.toD, .fz (.int md), .fz (.list (G.names.map .str)), .fz (.int hr), .fz a.toD, .no, .fz (.int t), .fz (.str nm), .no, .no, .no] = .ok .nx [.fz (scrD ns), .fz (.int at_), .fz G.toD, .fz (.int md), .fz (.list (G.names.map .str)), .fz (.int hr), .fz a.toD, .fz (.tuple (ys.map .str)), .fz (.int t), .fz (.str nm), .no, .no, .no] := st_set (i := 7) ((ev_bi1 (b := .tuple) (a := .comp [("_law_k", 11), ("_law_one", 12)] (.tup [11, 12]) (.enum (.loc 4)) (.yes (.or (.cmp .Eq (.loc 12) (.loc 9)) (.cmp .Eq (.call 1072 (.cons (.loc 0) (.cons (.bin .add (.bin .add (.loc 1) (.int 3)) (.loc 11)) (.cons (.int 2) .nil)))) (.int 0)))) (.loc 12)) (x := .list (ys.map .str)) z).trans rfl)
            have hy : (ys ≠ [] ∧ (∀ x ∈ ys, x ∈ G.names) ∧ rise (ys.map .str) = true) := ⟨(fun e => by rw [e] at hmem; cases hmem), fun x hx => y1.subset hx, rise_sub hrise y1⟩
            by_cases t5 : t = 5
            · subst t5
              exact ⟨.all false ys hr a, start (congrArg retOf ((st_seq s4).trans ((st_seq s5).trans ((st_seq s6).trans ((st_seq s7).trans ((st_seq s8).trans ((st_seq s9).trans (st_fin (st_ret' (show ev φ (.tup (.cons (.ix (.lst (.cons (.str "all") (.cons (.str "common") .nil))) (.bin .sub (.loc 8) (.int 5))) (.cons (.loc 7) (.cons (.loc 5) (.cons (.loc 6) .nil))))) _ = .ok (Sen.all false ys hr a).toD from rfl)))))))))), ⟨hy, ⟨by omega, by omega⟩, hao⟩, by show a.depth + 1 ≤ _; omega⟩
            · have t6 : t = 6 := by omega
              subst t6
              exact ⟨.all true ys hr a, start (congrArg retOf ((st_seq s4).trans ((st_seq s5).trans ((st_seq s6).trans ((st_seq s7).trans ((st_seq s8).trans ((st_seq s9).trans (st_fin (st_ret' (show ev φ (.tup (.cons (.ix (.lst (.cons (.str "all") (.cons (.str "common") .nil))) (.bin .sub (.loc 8) (.int 5))) (.cons (.loc 7) (.cons (.loc 5) (.cons (.loc 6) .nil))))) _ = .ok (Sen.all true ys hr a).toD from rfl)))))))))), ⟨hy, ⟨by omega, by omega⟩, hao⟩, by show a.depth + 1 ≤ _; omega⟩
end
end HF

set_option Elab.async false
set_option autoImplicit false
set_option linter.all false
set_option maxRecDepth 100000
set_option maxHeartbeats 4000000
/-! is_sentence. -/
namespace HF
open PySem PySem.Spec PyProof.Rows L2
theorem sent_eq {T : List Fn} (h : findF T 97 = some f_is_sentence) {fu N : Nat} {g t d : D} {r : Bool} (hlook : run T fu N 18 [g] = .ok .none) (hd : run T fu N 94 [g, t, .int 4] = .ok d) (hr : dCmp .IsNot d .none = .ok r) : run T fu (N + 1) 97 [g, t] = .ok (.bool r) := by
  refine (call_eq h rfl).trans ?_
  have q1 : ev (run T fu N) (.call 18 (.cons (.loc 0) .nil)) [.fz g, .fz t] = .ok .none := (ev_call1 (x := g) rfl).trans hlook
  have s1 : evS (run T fu N) fu f_is_sentence_s1 [.fz g, .fz t] = .ok .nx [.fz g, .fz t] := by
    show SR.of (ev (run T fu N) (.call 18 (.cons (.loc 0) .nil)) [.fz g, .fz t]) _ _ = _
    rw [q1]
    rfl
  have q2 : ev (run T fu N) (.cmp .IsNot (.call 94 (.cons (.loc 0) (.cons (.loc 1) (.cons (.gint "MOST_DEEP" 4) .nil)))) .non) [.fz g, .fz t] = .ok (.bool r) :=
    ev_cmp (x := d) (y := .none) ((ev_call3 (x := g) (y := t) (z := .int 4) rfl rfl rfl).trans hd) rfl hr
  exact congrArg retOf ((st_seq (r := .cons f_is_sentence_s2 .nil) s1).trans (st_fin (fu := fu) (r := .nil) (st_ret' q2)))
end HF
namespace HF
open PySem PySem.Spec PyProof.Rows L2
theorem sent_ok {T : List Fn} (F : HasD T) (hl : findF T 18 = some f_look_fleet) (hs : findF T 97 = some f_is_sentence) (fu N : Nat) (hN : 10 ≤ N) (G : Fleet) (wf : G.wf) (w : G.nm) (hb : fleetB G = true) (s : Sen) (ho : s.ok G.names G.last) (hd : s.depth ≤ 4) :
    run T fu (N + 1) 97 [G.toD, s.toD] = .ok (.bool true) := by
  obtain ⟨n, rfl⟩ : ∃ n, N = n + 5 := ⟨N - 5, by omega⟩
  have h1 := look_ok F.toHasF fu n hl G wf hb
  have h2 := deep_ok F fu G w s (n + 2 - s.depth) 4 ho (by omega) (by omega)
  rw [show n + 2 - s.depth + s.depth + 3 = n + 5 by omega] at h2
  exact sent_eq hs h1 h2 rfl
/-- the names of a fleet that is one -/
theorem nm_of {G : Fleet} (k : Nat) (h : G.ships.map (·.name) = nmL.take k) : G.nm where
  ok := fun x hx => (nm_ok x (List.mem_of_mem_take (by rw [← h]; exact hx))).2.1
  len := fun x hx => (nm_ok x (List.mem_of_mem_take (by rw [← h]; exact hx))).2.2
  nm := fun x hx => (nm_ok x (List.mem_of_mem_take (by rw [← h]; exact hx))).1
end HF

set_option Elab.async false
set_option autoImplicit false
set_option linter.all false
set_option maxRecDepth 100000
set_option maxHeartbeats 4000000
/-! A fleet by its last hour and its names alone. -/
namespace HF
open PySem PySem.Spec PyProof.Rows L2
def flD (last : Int) (k : Nat) (X Y : D) (A : Nat → D) (B : Nat → D) : D := .tuple [.int last, X, .tuple ((List.range k).map fun i => .tuple [.str (nmL.getD i "sa"), A i, B i]), Y]
theorem fleet_flD (G : Fleet) (k : Nat) (hk : k ≤ 5) (h : G.ships.map (·.name) = nmL.take k) : ∃ X Y A B, G.toD = flD G.last k X Y A B := by
  have hlen : G.ships.length = k := by
    have := congrArg List.length h
    rw [List.length_map, List.length_take] at this
    have e5 : nmL.length = 5 := rfl
    omega
  refine ⟨.tuple (G.isl.map ce), .tuple (G.mists.map mistD), fun i => (match G.ships[i]? with
    | some s => .int s.sight
    | none => .none), fun i => (match G.ships[i]? with
    | some s => .tuple (s.course.map ce)
    | none => .none), ?_⟩
  unfold Fleet.toD flD
  congr 5
  apply List.ext_getElem?
  intro i
  rw [List.getElem?_map, List.getElem?_map]
  by_cases hi : i < k
  · rw [List.getElem?_range hi]
    have hs : G.ships[i]? = some G.ships[i] := by simp [hlen, hi]
    have hn : (G.ships.map (·.name))[i]? = (nmL.take k)[i]? := by rw [h]
    rw [List.getElem?_map, hs, List.getElem?_take_of_lt hi] at hn
    have hn' : some G.ships[i].name = nmL[i]? := hn
    rw [hs]
    show some (shipD G.ships[i]) = some (.tuple [.str (nmL.getD i "sa"), _, _])
    dsimp only
    rw [hs]
    have : nmL.getD i "sa" = G.ships[i].name := by
      rw [List.getD_eq_getElem?_getD, ← hn']
      rfl
    rw [this]
    rfl
  · rw [List.getElem?_eq_none (by omega), List.getElem?_eq_none (by simpa using Nat.le_of_not_lt hi)]
    rfl
end HF

set_option Elab.async false
set_option autoImplicit false
set_option linter.all false
set_option maxRecDepth 100000
set_option maxHeartbeats 4000000
/-! The reckoning by simp. -/
namespace HF
open PySem PySem.Spec PyProof.Rows L2
section
variable (φ : Nat → List D → Res D) (fu : Nat) (σ : List SV)
@[simp] theorem x_non : ev φ .non σ = .ok .none := rfl
@[simp] theorem x_bl (b : Bool) : ev φ (.bl b) σ = .ok (.bool b) := rfl
@[simp] theorem x_int (i : Int) : ev φ (.int i) σ = .ok (.int i) := rfl
@[simp] theorem x_str (s : Str) : ev φ (.str s) σ = .ok (.str s) := rfl
@[simp] theorem x_gint (x : Str) (i : Int) : ev φ (.gint x i) σ = .ok (.int i) := rfl
@[simp] theorem x_gstr (x z : Str) : ev φ (.gstr x z) σ = .ok (.str z) := rfl
@[simp] theorem x_tup (es : Es) : ev φ (.tup es) σ = (evs φ es σ >>= fun ds => .ok (.tuple ds)) := rfl
@[simp] theorem x_lst (es : Es) : ev φ (.lst es) σ = (evs φ es σ >>= fun ds => .ok (.list ds)) := rfl
@[simp] theorem x_bin (o : BOp) (a b : E) : ev φ (.bin o a b) σ = (use σ a (ev φ a σ) >>= fun x => use σ b (ev φ b σ) >>= fun y => dBin o x y) := rfl
@[simp] theorem x_neg (a : E) : ev φ (.neg a) σ = (ev φ a σ >>= dNeg) := rfl
@[simp] theorem x_not (a : E) : ev φ (.not a) σ = (ev φ a σ >>= dNot) := rfl
@[simp] theorem x_cmp (o : CmpOp) (a b : E) : ev φ (.cmp o a b) σ = (use σ a (ev φ a σ) >>= fun x => use σ b (ev φ b σ) >>= fun y => dCmp o x y >>= fun c => .ok (.bool c)) := rfl
@[simp] theorem x_chain (o o' : CmpOp) (a b c : E) : ev φ (.chain o o' a b c) σ = (use σ a (ev φ a σ) >>= fun x => use σ b (ev φ b σ) >>= fun y => dCmp o x y >>= fun t => if t then (use σ c (ev φ c σ) >>= fun z => dCmp o' y z >>= fun r => .ok (.bool r)) else .ok (.bool false)) := rfl
@[simp] theorem x_and (a b : E) : ev φ (.and a b) σ = (bOf (ev φ a σ) >>= fun t => if t then ev φ b σ else .ok (.bool false)) := rfl
@[simp] theorem x_or (a b : E) : ev φ (.or a b) σ = (bOf (ev φ a σ) >>= fun t => if t then .ok (.bool true) else ev φ b σ) := rfl
@[simp] theorem x_ite (c a b : E) : ev φ (.ite c a b) σ = (bOf (ev φ c σ) >>= fun t => if t then ev φ a σ else ev φ b σ) := rfl
@[simp] theorem x_ix (a i : E) : ev φ (.ix a i) σ = (use σ a (ev φ a σ) >>= fun x => ev φ i σ >>= fun y => dIx x y) := rfl
@[simp] theorem x_sl (a : E) (l h : Eo) : ev φ (.sl a l h) σ = (use σ a (ev φ a σ) >>= fun x => evO φ l σ >>= fun i => evO φ h σ >>= fun j => dSl x i j) := rfl
@[simp] theorem x_rev (a : E) (l : Eo) : ev φ (.rev a l) σ = (use σ a (ev φ a σ) >>= fun x => evO φ l σ >>= fun i => dRev x i) := rfl
@[simp] theorem x_call (f : Nat) (es : Es) : ev φ (.call f es) σ = (evs φ es σ >>= fun ds => φ f ds) := rfl
@[simp] theorem x_callO (f : Nat) (es : Es) : ev φ (.callO f es) σ = (evs φ es σ >>= fun ds => φ f ds) := rfl
@[simp] theorem x_bi (b : Bi) (es : Es) : ev φ (.bi b es) σ = (evu φ es σ >>= fun ds => dBi b ds) := rfl
@[simp] theorem x_isI (a : E) (t : Ty) : ev φ (.isI a t) σ = (use σ a (ev φ a σ) >>= fun x => dIsI t x) := rfl
@[simp] theorem x_dnew : ev φ .dnew σ = .ok (.dict []) := rfl
@[simp] theorem x_ddisp (k v : E) : ev φ (.ddisp k v) σ = (ev φ k σ >>= fun x => ev φ v σ >>= fun y => if isKey x then .ok (.dict [(x, y)]) else .bad) := rfl
@[simp] theorem x_dix (a k : E) : ev φ (.dix a k) σ = (use σ a (ev φ a σ) >>= fun x => ev φ k σ >>= fun y => dDix x y) := rfl
@[simp] theorem x_din (neg : Bool) (k a : E) : ev φ (.din neg k a) σ = (ev φ k σ >>= fun y => use σ a (ev φ a σ) >>= fun x => dDin neg y x) := rfl
@[simp] theorem x_dget (a k z : E) : ev φ (.dget a k z) σ = (use σ a (ev φ a σ) >>= fun x => asD x >>= fun ps => ev φ k σ >>= fun y => ev φ z σ >>= fun u => dDget ps y u) := rfl
@[simp] theorem x_sitems (a : E) : ev φ (.sitems a) σ = (use σ a (ev φ a σ) >>= fun x => dSItems x) := rfl
@[simp] theorem x_dictL (a : E) : ev φ (.dictL a) σ = (use σ a (ev φ a σ) >>= fun x => dDictL x) := rfl
@[simp] theorem x_dictF (a : E) : ev φ (.dictF a) σ = (use σ a (ev φ a σ) >>= fun x => dDictF x) := rfl
@[simp] theorem x_dlen (a : E) : ev φ (.dlen a) σ = (use σ a (ev φ a σ) >>= fun x => dDlen x) := rfl
@[simp] theorem x_sset (a : E) : ev φ (.sset a) σ = (use σ a (ev φ a σ) >>= fun x => dSSet x) := rfl
@[simp] theorem x_index (a b : E) : ev φ (.index a b) σ = (use σ a (ev φ a σ) >>= fun x => asL x >>= fun ys => use σ b (ev φ b σ) >>= fun y => dIndex (.list ys) y) := rfl
@[simp] theorem x_loc (i : Nat) : ev φ (.loc i) σ = getF σ i := rfl
@[simp] theorem x_comp (own : List (Str × Nat)) (t : Tg) (s : HF.It) (c : Eo) (e : E) : ev φ (.comp own t s c e) σ = (evI φ s σ >>= fun xs => noX (if noOwn σ (own.map (·.2)) = false then .bad else compL (fun x => bindT t x (wipeS σ (own.map (·.2)))) (fun τ => evC φ c τ) (fun τ => ev φ e τ) xs) >>= fun ys => .ok (.list ys)) := rfl
@[simp] theorem xs_nil : evs φ .nil σ = .ok [] := rfl
@[simp] theorem xs_cons (e : E) (es : Es) : evs φ (.cons e es) σ = (ev φ e σ >>= fun x => evs φ es σ >>= fun xs => .ok (x :: xs)) := rfl
@[simp] theorem xu_nil : evu φ .nil σ = .ok [] := rfl
@[simp] theorem xu_cons (e : E) (es : Es) : evu φ (.cons e es) σ = (use σ e (ev φ e σ) >>= fun x => evu φ es σ >>= fun xs => .ok (x :: xs)) := rfl
@[simp] theorem xo_no : evO φ .no σ = .ok none := rfl
@[simp] theorem xo_yes (e : E) : evO φ (.yes e) σ = (ev φ e σ >>= fun d => match d with
    | .int i => .ok (some i)
    | _ => .bad) := rfl
@[simp] theorem xc_no : evC φ .no σ = .ok true := rfl
@[simp] theorem xc_yes (e : E) : evC φ (.yes e) σ = bOf (ev φ e σ) := rfl
@[simp] theorem xi_val (e : E) : evI φ (.val e) σ = (use σ e (ev φ e σ) >>= seqD) := rfl
@[simp] theorem xi_rng1 (a : E) : evI φ (.rng1 a) σ = (ev φ a σ >>= fun x => dRng (.int 0) x) := rfl
@[simp] theorem xi_rng2 (a b : E) : evI φ (.rng2 a b) σ = (ev φ a σ >>= fun x => ev φ b σ >>= fun y => dRng x y) := rfl
@[simp] theorem xi_zip (a b : E) : evI φ (.zip a b) σ = (use σ a (ev φ a σ) >>= fun x => use σ b (ev φ b σ) >>= fun y => dZip x y) := rfl
@[simp] theorem xi_enum (a : E) : evI φ (.enum a) σ = (use σ a (ev φ a σ) >>= dEnum) := rfl
@[simp] theorem use_tr (i : Nat) (r : Res D) : use σ (.tr i) r = getT σ i := rfl
@[simp] theorem ss_nil : evSs φ fu .nil σ = .ok .nx σ := rfl
@[simp] theorem ss_cons (s : S) (r : Ss) : evSs φ fu (.cons s r) σ = thenS (evS φ fu s σ) fun τ => evSs φ fu r τ := rfl
@[simp] theorem s_set (i : Nat) (e : E) : evS φ fu (.set i e) σ = SR.of (ev φ e σ) σ fun d => .ok .nx (σ.set i (.fz d)) := rfl
@[simp] theorem s_setO (i : Nat) (e : E) : evS φ fu (.setO i e) σ = SR.of (ev φ e σ) σ fun d => if ownable d then .ok .nx (σ.set i (.own d)) else .bad := rfl
@[simp] theorem s_par (is : List Nat) (es : Es) : evS φ fu (.par is es) σ = SR.of (evs φ es σ) σ fun ds => if ds.length = is.length ∧ noOwn σ is = true then .ok .nx (setAll σ is ds) else .bad := rfl
@[simp] theorem s_parO (is : List Nat) (fl : List Bool) (es : Es) : evS φ fu (.parO is fl es) σ = SR.of (do let ds ← evs φ es σ; if fits fl ds then .ok ds else .bad) σ fun ds => if ds.length = is.length then .ok .nx (setParO σ is fl ds) else .bad := rfl
@[simp] theorem s_unp (is : List Nat) (e : E) : evS φ fu (.unp is e) σ = SR.of (use σ e (ev φ e σ)) σ fun d => match d with
    | .tuple ds => if ds.length = is.length ∧ noOwn σ is = true then .ok .nx (setAll σ is ds) else .bad
    | .list ds => if ds.length = is.length ∧ noOwn σ is = true then .ok .nx (setAll σ is ds) else .bad
    | _ => .bad := rfl
@[simp] theorem s_ret (e : E) : evS φ fu (.ret e) σ = SR.of (use σ e (ev φ e σ)) σ fun d => .ok (.ret d) σ := rfl
@[simp] theorem s_retN : evS φ fu .retN σ = .ok (.ret .none) σ := rfl
@[simp] theorem s_expr (e : E) : evS φ fu (.expr e) σ = SR.of (ev φ e σ) σ fun _ => .ok .nx σ := rfl
@[simp] theorem s_ite (c : E) (a b : Ss) : evS φ fu (.ite c a b) σ = SR.of (bOf (ev φ c σ)) σ fun t => if t then evSs φ fu a σ else evSs φ fu b σ := rfl
@[simp] theorem s_for (t : Tg) (s : HF.It) (b : Ss) : evS φ fu (.for t s b) σ = if itFz s then SR.of (evI φ s σ) σ fun xs => forL (fun x τ => bindT t x τ) (fun τ => evSs φ fu b τ) xs σ else .bad := rfl
@[simp] theorem s_brk : evS φ fu .brk σ = .ok .brk σ := rfl
@[simp] theorem s_cnt : evS φ fu .cnt σ = .ok .cnt σ := rfl
@[simp] theorem s_pass : evS φ fu .pass σ = .ok .nx σ := rfl
@[simp] theorem s_raise (c : Str) : evS φ fu (.raise c) σ = .exc c σ := rfl
@[simp] theorem then_ok (τ : List SV) (f : List SV → SR) : thenS (.ok .nx τ) f = f τ := rfl
@[simp] theorem then_ret (d : D) (τ : List SV) (f : List SV → SR) : thenS (.ok (.ret d) τ) f = .ok (.ret d) τ := rfl
@[simp] theorem then_brk (τ : List SV) (f : List SV → SR) : thenS (.ok .brk τ) f = .ok .brk τ := rfl
@[simp] theorem then_cnt (τ : List SV) (f : List SV → SR) : thenS (.ok .cnt τ) f = .ok .cnt τ := rfl
@[simp] theorem then_exc (c : Str) (τ : List SV) (f : List SV → SR) : thenS (.exc c τ) f = .exc c τ := rfl
@[simp] theorem then_ite (p : Prop) [Decidable p] (a b : SR) (f : List SV → SR) : thenS (if p then a else b) f = if p then thenS a f else thenS b f := by split <;> rfl
@[simp] theorem of_ok {α : Type} (a : α) (f : α → SR) : SR.of (.ok a) σ f = f a := rfl
@[simp] theorem of_exc {α : Type} (c : Str) (f : α → SR) : SR.of (.exc c) σ f = .exc c σ := rfl
@[simp] theorem of_ite {α : Type} (p : Prop) [Decidable p] (a b : Res α) (f : α → SR) : SR.of (if p then a else b) σ f = if p then SR.of a σ f else SR.of b σ f := by split <;> rfl
@[simp] theorem bind_ite {α β : Type} (p : Prop) [Decidable p] (a b : Res α) (f : α → Res β) : ((if p then a else b) >>= f) = if p then a >>= f else b >>= f := by split <;> rfl
@[simp] theorem bOf_ite (p : Prop) [Decidable p] (a b : Res D) : bOf (if p then a else b) = if p then bOf a else bOf b := by split <;> rfl
@[simp] theorem ret_ite (p : Prop) [Decidable p] (a b : SR) : retOf (if p then a else b) = if p then retOf a else retOf b := by split <;> rfl
@[simp] theorem bOf_t (b : Bool) : bOf (.ok (.bool b)) = .ok b := rfl
@[simp] theorem noX_ok {α : Type} (a : α) : noX (.ok a) = .ok a := rfl
@[simp] theorem ret_ret (d : D) : retOf (.ok (.ret d) σ) = .ok d := rfl
@[simp] theorem ret_nx : retOf (.ok .nx σ) = .ok .none := rfl
@[simp] theorem ret_exc (c : Str) : retOf (.exc c σ) = .exc c := rfl
@[simp] theorem getF_0 (d : D) (σ : List SV) : getF (.fz d :: σ) 0 = .ok d := rfl
@[simp] theorem getF_s (s : SV) (σ : List SV) (i : Nat) : getF (s :: σ) (i + 1) = getF σ i := rfl
@[simp] theorem getT_0 (d : D) (σ : List SV) : getT (.fz d :: σ) 0 = .ok d := rfl
@[simp] theorem getT_0' (d : D) (σ : List SV) : getT (.own d :: σ) 0 = .ok d := rfl
@[simp] theorem getT_s (s : SV) (σ : List SV) (i : Nat) : getT (s :: σ) (i + 1) = getT σ i := rfl
end
@[simp] theorem use_loc (σ : List SV) (i : Nat) (r : Res D) : use σ (.loc i) r = r := rfl
@[simp] theorem use_ix (σ : List SV) (a b : E) (r : Res D) : use σ (.ix a b) r = r := rfl
@[simp] theorem use_int (σ : List SV) (a : Int) (r : Res D) : use σ (.int a) r = r := rfl
@[simp] theorem use_str (σ : List SV) (a : Str) (r : Res D) : use σ (.str a) r = r := rfl
@[simp] theorem use_non (σ : List SV) (r : Res D) : use σ .non r = r := rfl
@[simp] theorem use_bl (σ : List SV) (b : Bool) (r : Res D) : use σ (.bl b) r = r := rfl
@[simp] theorem use_gint (σ : List SV) (x : Str) (i : Int) (r : Res D) : use σ (.gint x i) r = r := rfl
@[simp] theorem use_gstr (σ : List SV) (x z : Str) (r : Res D) : use σ (.gstr x z) r = r := rfl
@[simp] theorem use_tup (σ : List SV) (es : Es) (r : Res D) : use σ (.tup es) r = r := rfl
@[simp] theorem use_lst (σ : List SV) (es : Es) (r : Res D) : use σ (.lst es) r = r := rfl
@[simp] theorem use_bin (σ : List SV) (o : BOp) (a b : E) (r : Res D) : use σ (.bin o a b) r = r := rfl
@[simp] theorem use_neg (σ : List SV) (a : E) (r : Res D) : use σ (.neg a) r = r := rfl
@[simp] theorem use_not (σ : List SV) (a : E) (r : Res D) : use σ (.not a) r = r := rfl
@[simp] theorem use_cmp (σ : List SV) (o : CmpOp) (a b : E) (r : Res D) : use σ (.cmp o a b) r = r := rfl
@[simp] theorem use_chain (σ : List SV) (o o' : CmpOp) (a b c : E) (r : Res D) : use σ (.chain o o' a b c) r = r := rfl
@[simp] theorem use_and (σ : List SV) (a b : E) (r : Res D) : use σ (.and a b) r = r := rfl
@[simp] theorem use_or (σ : List SV) (a b : E) (r : Res D) : use σ (.or a b) r = r := rfl
@[simp] theorem use_ite (σ : List SV) (a b c : E) (r : Res D) : use σ (.ite a b c) r = r := rfl
@[simp] theorem use_sl (σ : List SV) (a : E) (l h : Eo) (r : Res D) : use σ (.sl a l h) r = r := rfl
@[simp] theorem use_rev (σ : List SV) (a : E) (l : Eo) (r : Res D) : use σ (.rev a l) r = r := rfl
@[simp] theorem use_call (σ : List SV) (f : Nat) (es : Es) (r : Res D) : use σ (.call f es) r = r := rfl
@[simp] theorem use_bi (σ : List SV) (b : Bi) (es : Es) (r : Res D) : use σ (.bi b es) r = r := rfl
@[simp] theorem use_isI (σ : List SV) (a : E) (t : Ty) (r : Res D) : use σ (.isI a t) r = r := rfl
@[simp] theorem use_comp (σ : List SV) (own : List (Str × Nat)) (t : Tg) (s : HF.It) (c : Eo) (e : E) (r : Res D) : use σ (.comp own t s c e) r = r := rfl
@[simp] theorem use_dix (σ : List SV) (a b : E) (r : Res D) : use σ (.dix a b) r = r := rfl
@[simp] theorem use_din (σ : List SV) (n : Bool) (a b : E) (r : Res D) : use σ (.din n a b) r = r := rfl
@[simp] theorem use_dget (σ : List SV) (a b c : E) (r : Res D) : use σ (.dget a b c) r = r := rfl
@[simp] theorem use_sitems (σ : List SV) (a : E) (r : Res D) : use σ (.sitems a) r = r := rfl
@[simp] theorem use_dictL (σ : List SV) (a : E) (r : Res D) : use σ (.dictL a) r = r := rfl
@[simp] theorem use_dictF (σ : List SV) (a : E) (r : Res D) : use σ (.dictF a) r = r := rfl
@[simp] theorem use_dlen (σ : List SV) (a : E) (r : Res D) : use σ (.dlen a) r = r := rfl
@[simp] theorem use_sset (σ : List SV) (a : E) (r : Res D) : use σ (.sset a) r = r := rfl
@[simp] theorem use_index (σ : List SV) (a b : E) (r : Res D) : use σ (.index a b) r = r := rfl
/-! data -/
@[simp] theorem b_add (i j : Int) : dBin .add (.int i) (.int j) = .ok (.int (i + j)) := rfl
@[simp] theorem b_sub (i j : Int) : dBin .sub (.int i) (.int j) = .ok (.int (i - j)) := rfl
@[simp] theorem b_mul (i j : Int) : dBin .mul (.int i) (.int j) = if cmulB i j then .ok (.int (i * j)) else .bad := rfl
@[simp] theorem b_le (i j : Int) : dCmp .LtE (.int i) (.int j) = .ok (decide (i ≤ j)) := rfl
@[simp] theorem b_gt (i j : Int) : dCmp .Gt (.int i) (.int j) = .ok (decide (j < i)) := rfl
@[simp] theorem b_ge (i j : Int) : dCmp .GtE (.int i) (.int j) = .ok (decide (j ≤ i)) := rfl
@[simp] theorem b_lt (i j : Int) : dCmp .Lt (.int i) (.int j) = .ok (decide (i < j)) := rfl
@[simp] theorem b_eqI (i j : Int) : dCmp .Eq (.int i) (.int j) = .ok (decide (i = j)) := by
  show Res.ok (i == j) = _
  congr 1
@[simp] theorem b_neI (i j : Int) : dCmp .NotEq (.int i) (.int j) = .ok (!decide (i = j)) := by
  show Res.ok (!(i == j)) = _
  congr 1
@[simp] theorem b_not (b : Bool) : dNot (.bool b) = .ok (.bool (!b)) := rfl
@[simp] theorem b_neg (i : Int) : dNeg (.int i) = .ok (.int (-i)) := rfl
@[simp] theorem b_min2 (i j : Int) : dBi .min2 [.int i, .int j] = .ok (.int (min i j)) := by
  show Res.ok (PyData.int (if j < i then j else i)) = _
  congr 2
  omega
@[simp] theorem b_max2 (i j : Int) : dBi .max2 [.int i, .int j] = .ok (.int (max i j)) := by
  show Res.ok (PyData.int (if j > i then j else i)) = _
  congr 2
  omega
@[simp] theorem b_abs (i : Int) : dBi .abs [.int i] = .ok (.int (i.natAbs)) := by
  show Res.ok (PyData.int (if i < 0 then -i else i)) = _
  congr 2
  omega
@[simp] theorem b_lenL (xs : List D) : dBi .len [.list xs] = .ok (.int xs.length) := rfl
@[simp] theorem b_lenT (xs : List D) : dBi .len [.tuple xs] = .ok (.int xs.length) := rfl
@[simp] theorem b_tupL (xs : List D) : dBi .tuple [.list xs] = .ok (.tuple xs) := rfl
@[simp] theorem b_lstT (xs : List D) : dBi .list [.tuple xs] = .ok (.list xs) := rfl
@[simp] theorem b_all (l : List Bool) : dBi .all [.list (l.map .bool)] = .ok (.bool (l.all id)) := dAll_bools l
@[simp] theorem b_any (l : List Bool) : dBi .any [.list (l.map .bool)] = .ok (.bool (l.any id)) := dAny_bools l
theorem ix_t {xs : List D} {i : Nat} {d : D} (h : xs[i]? = some d) : dIx (.tuple xs) (.int (i : Nat)) = .ok d := by
  show (match atI xs (i : Nat) with
    | some d => Res.ok d
    | none => .bad) = _
  rw [atI_nat h]
theorem ix_l {xs : List D} {i : Nat} {d : D} (h : xs[i]? = some d) : dIx (.list xs) (.int (i : Nat)) = .ok d := by
  show (match atI xs (i : Nat) with
    | some d => Res.ok d
    | none => .bad) = _
  rw [atI_nat h]
@[simp] theorem ix_0 (a : D) (r : List D) : dIx (.tuple (a :: r)) (.int 0) = .ok a := ix_t (i := 0) rfl
@[simp] theorem ix_1 (a b : D) (r : List D) : dIx (.tuple (a :: b :: r)) (.int 1) = .ok b := ix_t (i := 1) rfl
@[simp] theorem ix_2 (a b c : D) (r : List D) : dIx (.tuple (a :: b :: c :: r)) (.int 2) = .ok c := ix_t (i := 2) rfl
@[simp] theorem ix_3 (a b c d : D) (r : List D) : dIx (.tuple (a :: b :: c :: d :: r)) (.int 3) = .ok d := ix_t (i := 3) rfl
@[simp] theorem ix_4 (a b c d e : D) (r : List D) : dIx (.tuple (a :: b :: c :: d :: e :: r)) (.int 4) = .ok e := ix_t (i := 4) rfl
@[simp] theorem ixl_0 (a : D) (r : List D) : dIx (.list (a :: r)) (.int 0) = .ok a := ix_l (i := 0) rfl
@[simp] theorem if_and (p : Prop) [Decidable p] (b : Bool) : (if p then Res.ok (PyData.bool b) else Res.ok (PyData.bool false)) = .ok (.bool (decide p && b)) := by by_cases h : p <;> simp [h]
@[simp] theorem if_or (p : Prop) [Decidable p] (b : Bool) : (if p then Res.ok (PyData.bool true) else Res.ok (PyData.bool b)) = .ok (.bool (decide p || b)) := by by_cases h : p <;> simp [h]
@[simp] theorem if_andB (p : Prop) [Decidable p] (b : Bool) : (if p then (Res.ok b : Res Bool) else Res.ok false) = .ok (decide p && b) := by by_cases h : p <;> simp [h]
@[simp] theorem seq_l (xs : List D) : seqD (.list xs) = .ok xs := rfl
@[simp] theorem seq_t (xs : List D) : seqD (.tuple xs) = .ok xs := rfl
@[simp] theorem ce_0 (a : Int × Int) : dIx (ce a) (.int 0) = .ok (.int a.1) := ix_t (i := 0) rfl
@[simp] theorem ce_1 (a : Int × Int) : dIx (ce a) (.int 1) = .ok (.int a.2) := ix_t (i := 1) rfl
@[simp] theorem mist_0 (m : Mist) : dIx (mistD m) (.int 0) = .ok (.int m.first) := ix_t (i := 0) rfl
@[simp] theorem mist_1 (m : Mist) : dIx (mistD m) (.int 1) = .ok (.int m.until_) := ix_t (i := 1) rfl
@[simp] theorem mist_2 (m : Mist) : dIx (mistD m) (.int 2) = .ok (ce m.one) := ix_t (i := 2) rfl
@[simp] theorem mist_3 (m : Mist) : dIx (mistD m) (.int 3) = .ok (ce m.other) := ix_t (i := 3) rfl
@[simp] theorem mist_4 (m : Mist) : dIx (mistD m) (.int 4) = .ok (.int m.most) := ix_t (i := 4) rfl
@[simp] theorem ship_0 (m : Ship) : dIx (shipD m) (.int 0) = .ok (.str m.name) := ix_t (i := 0) rfl
@[simp] theorem ship_1 (m : Ship) : dIx (shipD m) (.int 1) = .ok (.int m.sight) := ix_t (i := 1) rfl
@[simp] theorem ship_2 (m : Ship) : dIx (shipD m) (.int 2) = .ok (.tuple (m.course.map ce)) := ix_t (i := 2) rfl
@[simp] theorem fleet_0 (G : Fleet) : dIx G.toD (.int 0) = .ok (.int G.last) := ix_t (i := 0) rfl
@[simp] theorem fleet_1 (G : Fleet) : dIx G.toD (.int 1) = .ok (.tuple (G.isl.map ce)) := ix_t (i := 1) rfl
@[simp] theorem fleet_2 (G : Fleet) : dIx G.toD (.int 2) = .ok (.tuple (G.ships.map shipD)) := ix_t (i := 2) rfl
@[simp] theorem fleet_3 (G : Fleet) : dIx G.toD (.int 3) = .ok (.tuple (G.mists.map mistD)) := ix_t (i := 3) rfl
def inM (m : Mist) (c : Int × Int) : Bool := decide (m.one.1 ≤ c.1) && decide (c.1 ≤ m.other.1) && (decide (m.one.2 ≤ c.2) && decide (c.2 ≤ m.other.2))
theorem is_in_ok (φ : Nat → List D → Res D) (fu : Nat) (m : Mist) (c : Int × Int) : retOf (evSs φ fu f_is_in.body (start0 4 [mistD m, ce c])) = .ok (.bool (inM m c)) := by
  simp [f_is_in, f_is_in_s1, f_is_in_s2, inM, start0, noOwn, setAll, Bool.and_assoc]
end HF

set_option Elab.async false
set_option autoImplicit false
set_option linter.all false
set_option maxRecDepth 100000
set_option maxHeartbeats 4000000
/-! Loops; who sees whom. -/
namespace HF
open PySem PySem.Spec PyProof.Rows L2
/-- a slot of which only this is known: nobody owns it -/
def gv : Option D → SV
  | none => .no
  | some d => .fz d
@[simp] theorem gv_some (d : D) : gv (some d) = .fz d := rfl
@[simp] theorem gv_none : gv none = .no := rfl
def nOwn : Option SV → Bool
  | some (.own _) => false
  | some _ => true
  | none => false
theorem noOwn_eq (σ : List SV) (is : List Nat) : noOwn σ is = is.all fun i => nOwn σ[i]? := rfl
@[simp] theorem nOwn_fz (d : D) : nOwn (some (.fz d)) = true := rfl
@[simp] theorem nOwn_no : nOwn (some .no) = true := rfl
@[simp] theorem nOwn_gv (o : Option D) : nOwn (some (gv o)) = true := by cases o <;> rfl
@[simp] theorem bind_one (i : Nat) (d : D) (σ : List SV) : bindT (.one i) d σ = if nOwn σ[i]? = true then .ok (σ.set i (.fz d)) else .bad := by
  show (if noOwn σ [i] = true then Res.ok (σ.set i (.fz d)) else .bad) = _
  rw [noOwn_eq]
  simp
@[simp] theorem bind_tup (is : List Nat) (ds : List D) (σ : List SV) : bindT (.tup is) (.tuple ds) σ = if ds.length = is.length ∧ (is.all fun i => nOwn σ[i]?) = true then .ok (setAll σ is ds) else .bad := rfl
/-- a loop that may end with an answer -/
theorem forL_any {α : Type} {enc : α → D} {bad : α → Bool} {d r : D} {bnd : D → List SV → Res (List SV)} {body : List SV → SR} {k : List SV → SR} (P : List SV → Prop) {xs : List α} {σ : List SV} (h0 : P σ)
    (hs : ∀ x ∈ xs, ∀ σ, P σ → ∃ τ ρ, bnd (enc x) σ = .ok τ ∧ (bad x = true → body τ = .ok (.ret d) ρ) ∧ (bad x = false → (body τ = .ok .nx ρ ∨ body τ = .ok .cnt ρ) ∧ P ρ)) (hk : ∀ σ, P σ → retOf (k σ) = .ok r) :
    retOf (thenS (forL bnd body (xs.map enc) σ) k) = .ok (if xs.any bad then d else r) := by
  induction xs generalizing σ with
  | nil => exact hk σ h0
  | cons x xs ih =>
    obtain ⟨τ, ρ, h1, h2, h3⟩ := hs x List.mem_cons_self σ h0
    rw [List.map_cons]
    unfold forL
    rw [h1, List.any_cons]
    cases hb : bad x with
    | true =>
      simp only [h2 hb]
      rfl
    | false =>
      obtain ⟨h4, h5⟩ := h3 hb
      have := ih h5 fun y hy => hs y (List.mem_cons_of_mem _ hy)
      rcases h4 with h4 | h4 <;> simp only [h4] <;> exact this
theorem forL_anyI {α : Type} {enc : α → D} {bad : α → Bool} {d r : D} {bnd : D → List SV → Res (List SV)} {body : List SV → SR} {k : List SV → SR} (P : List SV → Prop) {xs : List α} {σ : List SV} (h0 : P σ)
    (hs : ∀ x ∈ xs, ∀ σ, P σ → ∃ τ ρ, bnd (enc x) σ = .ok τ ∧ body τ = (if bad x then .ok (.ret d) ρ else .ok .nx ρ) ∧ P ρ) (hk : ∀ σ, P σ → retOf (k σ) = .ok r) :
    retOf (thenS (forL bnd body (xs.map enc) σ) k) = .ok (if xs.any bad then d else r) :=
  forL_any P h0 (fun x hx σ hσ => by
    obtain ⟨τ, ρ, h1, h2, h3⟩ := hs x hx σ hσ
    exact ⟨τ, ρ, h1, fun hb => by rw [h2, hb]; rfl, fun hb => ⟨.inl (by rw [h2, hb]; rfl), h3⟩⟩) hk
/-- a loop that gathers -/
theorem forL_fold {α β : Type} {enc : α → D} {bnd : D → List SV → Res (List SV)} {body : List SV → SR} (P : β → List SV → Prop) (f : β → α → β) {xs : List α} {acc : β} {σ : List SV} (h0 : P acc σ)
    (hs : ∀ x ∈ xs, ∀ acc σ, P acc σ → ∃ τ ρ, bnd (enc x) σ = .ok τ ∧ (body τ = .ok .nx ρ ∨ body τ = .ok .cnt ρ) ∧ P (f acc x) ρ) : ∃ ρ, forL bnd body (xs.map enc) σ = .ok .nx ρ ∧ P (xs.foldl f acc) ρ := by
  induction xs generalizing σ acc with
  | nil => exact ⟨σ, rfl, h0⟩
  | cons x xs ih =>
    obtain ⟨τ, ρ, h1, h2, h3⟩ := hs x List.mem_cons_self acc σ h0
    obtain ⟨ρ', h4, h5⟩ := ih (acc := f acc x) h3 fun y hy => hs y (List.mem_cons_of_mem _ hy)
    refine ⟨ρ', ?_, h5⟩
    rw [List.map_cons]
    unfold forL
    rw [h1]
    rcases h2 with h2 | h2 <;> simp only [h2] <;> exact h4
theorem compL_map {α : Type} {enc : α → D} {bnd : D → Res (List SV)} {c : List SV → Res Bool} {e : List SV → Res D} (g : α → D) (p : α → Bool) {xs : List α} (h : ∀ x ∈ xs, ∃ τ, bnd (enc x) = .ok τ ∧ c τ = .ok (p x) ∧ (p x = true → e τ = .ok (g x))) :
    compL bnd c e (xs.map enc) = .ok ((xs.filter p).map g) := by
  induction xs with
  | nil => rfl
  | cons x xs ih =>
    obtain ⟨τ, h1, h2, h3⟩ := h x List.mem_cons_self
    have ih := ih fun y hy => h y (List.mem_cons_of_mem _ hy)
    rw [List.map_cons]
    unfold compL
    rw [h1]
    simp only [Res.ok_bind]
    rw [h2]
    simp only [Res.ok_bind]
    cases hp : p x with
    | true => rw [if_pos rfl, h3 hp, ih, List.filter_cons_of_pos hp]; rfl
    | false => rw [if_neg Bool.false_ne_true, ih, List.filter_cons_of_neg (by rw [hp]; exact Bool.false_ne_true)]
theorem compL_map0 {α : Type} {enc : α → D} {bnd : D → Res (List SV)} {c : List SV → Res Bool} {e : List SV → Res D} (g : α → D) {xs : List α} (hc : ∀ τ, c τ = .ok true) (h : ∀ x ∈ xs, ∃ τ, bnd (enc x) = .ok τ ∧ e τ = .ok (g x)) :
    compL bnd c e (xs.map enc) = .ok (xs.map g) := by
  rw [compL_map g (fun _ => true) fun x hx => let ⟨τ, a, b⟩ := h x hx; ⟨τ, a, hc τ, fun _ => b⟩]
  rw [List.filter_eq_self.mpr fun _ _ => rfl]
theorem b_allM {α : Type} (f : α → Bool) (xs : List α) : dBi .all [.list (xs.map fun x => .bool (f x))] = .ok (.bool (xs.all f)) := by
  have := b_all (xs.map f)
  rw [List.map_map] at this
  refine this.trans ?_
  rw [List.all_map]
  rfl
theorem b_anyM {α : Type} (f : α → Bool) (xs : List α) : dBi .any [.list (xs.map fun x => .bool (f x))] = .ok (.bool (xs.any f)) := by
  have := b_any (xs.map f)
  rw [List.map_map] at this
  refine this.trans ?_
  rw [List.any_map]
  rfl
/-! ### who sees whom -/
def apartI (a b : Int × Int) : Int := max ((a.1 - b.1).natAbs : Int) ((a.2 - b.2).natAbs : Int)
def betw (a b c : Int × Int) : Bool := !(decide (c = a) || decide (c = b)) && (decide ((c.1 - a.1) * (b.2 - a.2) = (c.2 - a.2) * (b.1 - a.1)) && ((decide (min a.1 b.1 ≤ c.1) && decide (c.1 ≤ max a.1 b.1)) && (decide (min a.2 b.2 ≤ c.2) && decide (c.2 ≤ max a.2 b.2))))
def hides (m : Mist) (h : Int) (a b : Int × Int) : Bool := (decide (m.first ≤ h) && decide (h ≤ m.until_)) && ((inM m a || inM m b) && decide (m.most < apartI a b))
def seesC (G : Fleet) (h : Int) (sight : Int) (a b : Int × Int) : Bool := !decide (sight < apartI a b) && (!(G.mists.any fun m => hides m h a b) && !(G.isl.any (betw a b)))
def okC (c : Int × Int) : Prop := (0 ≤ c.1 ∧ c.1 ≤ 9) ∧ 0 ≤ c.2 ∧ c.2 ≤ 9
theorem okC_of {c : Int × Int} (h : cellB c = true) : okC c := by
  simpa [cellB, inB, okC] using h
theorem cmul_small {i j : Int} (h : -1000 ≤ i) (h' : i ≤ 1000) : cmulB i j = true := by
  unfold cmulB
  rw [decide_eq_true (show -18446744073709551616 < i by omega), decide_eq_true (show i < 18446744073709551616 by omega)]
  rfl
theorem in_two (a b c : Int × Int) : dCmp .In (ce c) (.tuple [ce a, ce b]) = .ok (decide (c = a) || decide (c = b)) := by
  have := in_cells c [a, b]
  refine Eq.trans this ?_
  congr 1
  simp [Bool.eq_iff_iff]
theorem is_between_ok (φ : Nat → List D → Res D) (fu : Nat) {a b c : Int × Int} (ha : okC a) (hb : okC b) (hc : okC c) : retOf (evSs φ fu f_is_between.body (start0 4 [ce a, ce b, ce c])) = .ok (.bool (betw a b c)) := by
  have m1 : cmulB (c.1 - a.1) (b.2 - a.2) = true := cmul_small (by unfold okC at *; omega) (by unfold okC at *; omega)
  have m2 : cmulB (c.2 - a.2) (b.1 - a.1) = true := cmul_small (by unfold okC at *; omega) (by unfold okC at *; omega)
  have q := in_two a b c
  cases h1 : (decide (c = a) || decide (c = b)) with
  | true =>
    rw [h1] at q
    simp [f_is_between, f_is_between_s1, start0, q, betw, h1]
  | false =>
    rw [h1] at q
    by_cases h2 : (c.1 - a.1) * (b.2 - a.2) = (c.2 - a.2) * (b.1 - a.1)
    · simp [f_is_between, f_is_between_s1, f_is_between_s2, f_is_between_s3, f_is_between_s4, start0, q, m1, m2, h2, betw, h1]
    · simp [f_is_between, f_is_between_s1, f_is_between_s2, f_is_between_s3, f_is_between_s4, start0, q, m1, m2, h2, betw, h1]
theorem sees_at_ok (φ : Nat → List D → Res D) (fu : Nat) (f23 : ∀ (m : Mist) (c : Int × Int), φ 23 [mistD m, ce c] = .ok (.bool (inM m c))) (f24 : ∀ a b c : Int × Int, okC a → okC b → okC c → φ 24 [ce a, ce b, ce c] = .ok (.bool (betw a b c)))
    (G : Fleet) (h : Nat) (s t : Ship) (a b : Int × Int) (e : Bool) (hs : s.course[h]? = some a) (ht : t.course[h]? = some b) (oa : okC a) (ob : okC b) (oi : ∀ c ∈ G.isl, okC c) (he : dCmp .Eq (shipD s) (shipD t) = .ok e) :
    retOf (evSs φ fu f_sees_at.body (start0 9 [G.toD, .int (h : Nat), shipD s, shipD t])) = .ok (.bool (!e && seesC G h s.sight a b)) := by
  have i1 : dIx (.tuple (s.course.map ce)) (.int (h : Nat)) = .ok (ce a) := ix_t (by rw [List.getElem?_map, hs]; rfl)
  have i2 : dIx (.tuple (t.course.map ce)) (.int (h : Nat)) = .ok (ce b) := ix_t (by rw [List.getElem?_map, ht]; rfl)
  simp [f_sees_at, f_sees_at_s1, f_sees_at_s2, f_sees_at_s3, start0, i1, i2, he, noOwn_eq, setAll, f_sees_at_s4, f_sees_at_s5, itFz, frzE]
  by_cases hc : e = true ∨ s.sight < max ((a.1 - b.1).natAbs : Int) ((a.2 - b.2).natAbs : Int)
  · rw [if_pos hc]
    congr 2
    unfold seesC apartI
    rcases hc with hc | hc
    · simp [hc]
    · simp [hc]
  · rw [if_neg hc]
    have h2 : ¬ e = true ∧ ¬ s.sight < apartI a b := ⟨fun z => hc (.inl z), fun z => hc (.inr z)⟩
    refine (forL_anyI (enc := mistD) (bad := fun m => hides m h a b) (P := fun σ => ∃ o, σ = [SV.fz G.toD, .fz (.int (h : Nat)), .fz (shipD s), .fz (shipD t), .fz (.int (apartI a b)), gv o, .fz (ce a), .fz (ce b), .no]) (d := .bool false) (r := .bool !(G.isl.any (betw a b))) ⟨none, rfl⟩ ?_ ?_).trans ?_
    · rintro m hm _ ⟨o, rfl⟩
      refine ⟨[SV.fz G.toD, .fz (.int (h : Nat)), .fz (shipD s), .fz (shipD t), .fz (.int (apartI a b)), .fz (mistD m), .fz (ce a), .fz (ce b), .no], _, by simp, by simp [f23, hides], some (mistD m), rfl⟩
    · rintro _ ⟨o, rfl⟩
      simp [noOwn_eq, wipeS]
      rw [compL_map0 (enc := ce) (fun c => .bool (betw a b c)) (fun _ => rfl) fun c hc => ⟨_, rfl, by simp [f24 a b c oa ob (oi c hc)]⟩]
      simp [b_anyM]
    · rw [show e = false by simpa using h2.1]
      unfold seesC
      rw [decide_eq_false h2.2]
      cases (G.mists.any fun m => hides m h a b) <;> simp
theorem plain_names_ok (φ : Nat → List D → Res D) (fu : Nat) (G : Fleet) : retOf (evSs φ fu f_plain_names.body (start0 2 [G.toD])) = .ok (.list (G.names.map .str)) := by
  simp [f_plain_names, f_plain_names_s1, start0, noOwn_eq, wipeS]
  rw [compL_map0 (enc := shipD) (fun s => .str s.name) (fun _ => rfl) fun s _ => ⟨_, rfl, by simp⟩]
  simp [Fleet.names]
/-- all sightings -/
def seesS (G : Fleet) (h : Nat) (s t : Ship) : Bool := match s.course[h]?, t.course[h]? with
  | some a, some b => !decide (s.name = t.name) && seesC G h s.sight a b
  | _, _ => false
abbrev Row := Int × Str × Str
def rowD (r : Row) : D := .tuple [.int r.1, .str r.2.1, .str r.2.2]
def sightOf (G : Fleet) : List Row := (List.range (G.last + 1).toNat).flatMap fun h => G.ships.flatMap fun s => (G.ships.filter fun t => seesS G h s t).map fun t => ((h : Int), s.name, t.name)
theorem foldl_app {α β : Type} (f : α → List β) : ∀ (xs : List α) (acc : List β), xs.foldl (fun a x => a ++ f x) acc = acc ++ xs.flatMap f
  | [], acc => by simp
  | x :: xs, acc => by rw [List.foldl_cons, foldl_app f xs, List.flatMap_cons, List.append_assoc]
theorem foldl_if {α β : Type} (p : α → Bool) (g : α → β) : ∀ (xs : List α) (acc : List β), xs.foldl (fun a x => if p x then a ++ [g x] else a) acc = acc ++ (xs.filter p).map g
  | [], acc => by simp
  | x :: xs, acc => by
    rw [List.foldl_cons, foldl_if p g xs]
    cases h : p x <;> simp [h]
@[simp] theorem s_app (φ : Nat → List D → Res D) (fu : Nat) (i : Nat) (e : E) (σ : List SV) : evS φ fu (.app i e) σ = (match σ[i]? with
    | some (.own (.list xs)) => SR.of (ev φ e σ) σ fun d => if xs.length < 16777216 then .ok .nx (σ.set i (.own (.list (xs ++ [d])))) else .bad
    | _ => .bad) := rfl
/-- how a turn ends -/
def Ends (r : SR) (Q : List SV → Prop) : Prop := ∃ ρ, (r = .ok .nx ρ ∨ r = .ok .cnt ρ) ∧ Q ρ
def EndsN (r : SR) (Q : List SV → Prop) : Prop := ∃ ρ, r = .ok .nx ρ ∧ Q ρ
theorem EndsN.e {r : SR} {Q : List SV → Prop} (h : EndsN r Q) : Ends r Q := let ⟨ρ, a, b⟩ := h; ⟨ρ, .inl a, b⟩
theorem EndsN.imp {r : SR} {Q Q' : List SV → Prop} (h : EndsN r Q) (f : ∀ ρ, Q ρ → Q' ρ) : EndsN r Q' := let ⟨ρ, a, b⟩ := h; ⟨ρ, a, f ρ b⟩
@[simp] theorem then_id (r : SR) : thenS r (fun τ => .ok .nx τ) = r := by
  cases r with
  | ok f τ => cases f <;> rfl
  | _ => rfl
theorem EndsN.ret {r : SR} {Q : List SV → Prop} {k : List SV → SR} {x : Res D} (h : EndsN r Q) (hk : ∀ ρ, Q ρ → retOf (k ρ) = x) : retOf (thenS r k) = x := by
  obtain ⟨ρ, rfl, b⟩ := h
  exact hk ρ b
theorem EndsN.then {r : SR} {Q Q' : List SV → Prop} {k : List SV → SR} (h : EndsN r Q) (hk : ∀ ρ, Q ρ → EndsN (k ρ) Q') : EndsN (thenS r k) Q' := by
  obtain ⟨ρ, rfl, b⟩ := h
  exact hk ρ b
theorem EndsN.thenE {r : SR} {Q Q' : List SV → Prop} {k : List SV → SR} (h : EndsN r Q) (hk : ∀ ρ, Q ρ → Ends (k ρ) Q') : Ends (thenS r k) Q' := by
  obtain ⟨ρ, rfl, b⟩ := h
  exact hk ρ b
@[simp] theorem ends_nx (ρ : List SV) (Q : List SV → Prop) : Ends (.ok .nx ρ) Q ↔ Q ρ := ⟨fun ⟨ρ', h, q⟩ => by rcases h with h | h <;> cases h; exact q, fun q => ⟨ρ, .inl rfl, q⟩⟩
@[simp] theorem ends_cnt (ρ : List SV) (Q : List SV → Prop) : Ends (.ok .cnt ρ) Q ↔ Q ρ := ⟨fun ⟨ρ', h, q⟩ => by rcases h with h | h <;> cases h; exact q, fun q => ⟨ρ, .inr rfl, q⟩⟩
@[simp] theorem endsN_nx (ρ : List SV) (Q : List SV → Prop) : EndsN (.ok .nx ρ) Q ↔ Q ρ := ⟨fun ⟨ρ', h, q⟩ => by cases h; exact q, fun q => ⟨ρ, rfl, q⟩⟩
theorem forL_foldN {α β : Type} {enc : α → D} {bnd : D → List SV → Res (List SV)} {body : List SV → SR} (P : β → List SV → Prop) (f : β → α → β) {xs : List α} {acc : β} {σ : List SV} (h0 : P acc σ)
    (hs : ∀ x ∈ xs, ∀ acc σ, P acc σ → ∃ τ, bnd (enc x) σ = .ok τ ∧ Ends (body τ) (P (f acc x))) : EndsN (forL bnd body (xs.map enc) σ) (P (xs.foldl f acc)) :=
  forL_fold P f h0 fun x hx acc σ hp => by
    obtain ⟨τ, h1, ρ, h2, h3⟩ := hs x hx acc σ hp
    exact ⟨τ, ρ, h1, h2, h3⟩
/-- a loop that puts rows behind those that are there, a few at each turn -/
theorem forL_appN {α β : Type} {enc : α → D} {bnd : D → List SV → Res (List SV)} {body : List SV → SR} (P : List β → List SV → Prop) (f : α → List β) (c B : Nat) {xs : List α} {acc : List β} {σ : List SV} (h0 : P acc σ) (hc : ∀ x ∈ xs, (f x).length ≤ c) (hB : acc.length + c * xs.length ≤ B)
    (hs : ∀ x ∈ xs, ∀ acc σ, P acc σ → acc.length + c ≤ B → ∃ τ, bnd (enc x) σ = .ok τ ∧ Ends (body τ) (P (acc ++ f x))) : EndsN (forL bnd body (xs.map enc) σ) (P (acc ++ xs.flatMap f)) := by
  induction xs generalizing σ acc with
  | nil => exact ⟨σ, rfl, by simpa using h0⟩
  | cons x xs ih =>
    rw [List.length_cons, Nat.mul_succ] at hB
    have hx := hc x List.mem_cons_self
    obtain ⟨τ, h1, ρ, h2, h3⟩ := hs x List.mem_cons_self acc σ h0 (by omega)
    obtain ⟨ρ', h4, h5⟩ := ih (acc := acc ++ f x) h3 (fun y hy => hc y (List.mem_cons_of_mem _ hy)) (by rw [List.length_append]; omega) fun y hy => hs y (List.mem_cons_of_mem _ hy)
    refine ⟨ρ', ?_, by rw [List.flatMap_cons, ← List.append_assoc]; exact h5⟩
    rw [List.map_cons]
    unfold forL
    rw [h1]
    rcases h2 with h2 | h2 <;> simp only [h2] <;> exact h4
theorem flatMap_len {α β : Type} {f : α → List β} {c : Nat} : ∀ {xs : List α}, (∀ x ∈ xs, (f x).length ≤ c) → (xs.flatMap f).length ≤ c * xs.length
  | [], _ => by simp
  | x :: xs, h => by
    have := flatMap_len (xs := xs) fun y hy => h y (List.mem_cons_of_mem _ hy)
    have hx := h x List.mem_cons_self
    rw [List.flatMap_cons, List.length_append, List.length_cons, Nat.mul_succ]
    omega
theorem Ends.imp {r : SR} {Q Q' : List SV → Prop} (h : Ends r Q) (f : ∀ ρ, Q ρ → Q' ρ) : Ends r Q' := let ⟨ρ, a, b⟩ := h; ⟨ρ, a, f ρ b⟩
theorem flatMap_if {α β : Type} (p : α → Bool) (g : α → β) : ∀ xs : List α, (xs.flatMap fun x => if p x then [g x] else []) = (xs.filter p).map g
  | [] => rfl
  | x :: xs => by
    rw [List.flatMap_cons, flatMap_if p g xs]
    cases h : p x <;> simp [h]
theorem rngD_nat (n : Int) : rngD 0 n = (List.range n.toNat).map fun k => .int ((k : Nat) : Int) := by
  unfold rngD
  rw [Int.sub_zero]
  simp
theorem plain_sightings_ok (φ : Nat → List D → Res D) (fu : Nat) (G : Fleet) (f25 : ∀ (h : Nat) (s t : Ship), s ∈ G.ships → t ∈ G.ships → (h : Int) ≤ G.last → φ 25 [G.toD, .int (h : Nat), shipD s, shipD t] = .ok (.bool (seesS G h s t))) (l0 : 0 ≤ G.last) (l7 : G.last ≤ 7) (k5 : G.ships.length ≤ 5) :
    retOf (evSs φ fu f_plain_sightings.body (start0 5 [G.toD])) = .ok (.list ((sightOf G).map rowD)) := by
  simp [f_plain_sightings, f_plain_sightings_s1, f_plain_sightings_s2, f_plain_sightings_s3, start0, noOwn_eq, ownable, itFz, frzE, dRng]
  rw [if_pos (by omega), rngD_nat]
  have nL : (List.range (G.last + 1).toNat).length ≤ 8 := by rw [List.length_range]; omega
  have len1 : ∀ (h : Nat) (s : Ship), ((G.ships.filter fun t => seesS G h s t).map fun t => (((h : Int), s.name, t.name) : Row)).length ≤ 5 := fun h s => by
    rw [List.length_map]
    exact Nat.le_trans (List.length_filter_le _ _) k5
  have len2 : ∀ (h : Nat), (G.ships.flatMap fun s => (G.ships.filter fun t => seesS G h s t).map fun t => (((h : Int), s.name, t.name) : Row)).length ≤ 25 := fun h => by
    have := flatMap_len (xs := G.ships) (fun s _ => len1 h s)
    omega
  refine EndsN.ret (forL_appN (acc := []) (fun rs σ => ∃ o1 o2 o3, σ = [SV.fz G.toD, SV.own (.list (rs.map rowD)), gv o1, gv o2, gv o3]) (fun h => G.ships.flatMap fun s => (G.ships.filter fun t => seesS G h s t).map fun t => ((h : Int), s.name, t.name)) 25 200 ⟨none, none, none, rfl⟩ (fun h _ => len2 h) (by simp; omega) ?_) ?_
  · rintro h hh rs _ ⟨o1, o2, o3, rfl⟩ hl
    have hh' : (h : Int) ≤ G.last := by have := List.mem_range.mp hh; omega
    refine ⟨_, by simp; rfl, ?_⟩
    simp
    refine (forL_appN (acc := rs) (fun rs σ => ∃ o2 o3, σ = [SV.fz G.toD, SV.own (.list (rs.map rowD)), .fz (.int (h : Nat)), gv o2, gv o3]) (fun s => (G.ships.filter fun t => seesS G h s t).map fun t => (((h : Int), s.name, t.name) : Row)) 5 1000 ⟨o2, o3, rfl⟩ (fun s _ => len1 h s) (by omega) ?_).e.imp fun ρ ⟨o2, o3, e⟩ => ⟨some (.int (h : Nat)), o2, o3, by simpa using e⟩
    rintro s hs rs _ ⟨o2, o3, rfl⟩ hl
    refine ⟨_, by simp; rfl, ?_⟩
    simp
    refine (forL_appN (acc := rs) (fun rs σ => ∃ o3, σ = [SV.fz G.toD, SV.own (.list (rs.map rowD)), .fz (.int (h : Nat)), .fz (shipD s), gv o3]) (fun t => if seesS G h s t then [(((h : Int), s.name, t.name) : Row)] else []) 1 2000 ⟨o3, rfl⟩ (fun t _ => by split <;> simp) (by omega) ?_).e.imp fun ρ ⟨o3, e⟩ => ⟨some (shipD s), o3, ?_⟩
    · rintro t ht rs _ ⟨o3, rfl⟩ hl
      refine ⟨_, by simp; rfl, ?_⟩
      have hrs : rs.length < 16777216 := by omega
      simp [f25 h s t hs ht hh', hrs]
      cases seesS G h s t
      · simp
        exact ⟨some (shipD t), rfl⟩
      · simp [rowD]
        exact ⟨some (shipD t), rfl⟩
    · rw [e, flatMap_if]
      simp
  · rintro _ ⟨o1, o2, o3, rfl⟩
    simp [sightOf]
end HF

set_option Elab.async false
set_option autoImplicit false
set_option linter.all false
set_option maxRecDepth 100000
set_option maxHeartbeats 4000000
/-! sorted(set(..)) of things of one form. -/
namespace HF
open PySem PySem.Spec PyProof.Rows L2
theorem insD_perm (a : D) : ∀ l : List D, (insD a l).Perm (a :: l)
  | [] => .refl _
  | b :: r => by
    unfold insD
    split
    · exact ((insD_perm a r).cons b).trans (.swap ..)
    · exact .refl _
theorem isort_pm : ∀ l : List D, (isort l).Perm l
  | [] => .refl _
  | a :: r => (insD_perm a (isort r)).trans ((isort_pm r).cons a)
theorem isort_pw (l : List D) : (isort l).Pairwise fun a b => leD a b = true := by
  rw [← merge_isort]
  exact List.pairwise_mergeSort leD_trans leD_total l
theorem ddD_sub {x : D} : ∀ {l : List D}, x ∈ ddD l → x ∈ l
  | [], h => h
  | a :: r, h => by
    unfold ddD at h
    split at h
    · exact List.mem_cons_of_mem _ (ddD_sub h)
    · rcases List.mem_cons.mp h with e | h
      · rw [e]; exact List.mem_cons_self
      · exact List.mem_cons_of_mem _ (ddD_sub h)
theorem ddD_len : ∀ l : List D, (ddD l).length ≤ l.length
  | [] => Nat.le_refl _
  | a :: r => by
    have := ddD_len r
    unfold ddD
    split
    · rw [List.length_cons]; omega
    · rw [List.length_cons, List.length_cons]; omega
theorem rise_of_pw : ∀ {l : List D}, (l.Pairwise fun a b => PySem.W.dataLt a b = true) → rise l = true
  | [], _ => rfl
  | [_], _ => rfl
  | a :: b :: r, h => by
    have h1 := List.pairwise_cons.mp h
    show (PySem.W.dataLt a b && rise (b :: r)) = true
    rw [h1.1 b List.mem_cons_self, rise_of_pw h1.2]
    rfl
theorem typed_list {α : Type} {enc : α → D} {xs : List α} : ∀ {l : List D}, (∀ d ∈ l, d ∈ xs.map enc) → ∃ ys : List α, l = ys.map enc ∧ ∀ y ∈ ys, y ∈ xs
  | [], _ => ⟨[], rfl, fun y h => (nomatch h)⟩
  | d :: l, h => by
    obtain ⟨ys, e, q⟩ := typed_list (l := l) fun d' hd => h d' (List.mem_cons_of_mem _ hd)
    obtain ⟨y, hy, rfl⟩ := List.mem_map.mp (h d List.mem_cons_self)
    exact ⟨y :: ys, by rw [e]; rfl, fun z hz => by
      rcases List.mem_cons.mp hz with rfl | hz
      · exact hy
      · exact q z hz⟩
/-- the sorted set of some, as some -/
theorem sset_typed {α : Type} (enc : α → D) (xs : List α) (ok : setOk (xs.map enc) = true) : ∃ ys : List α, dSSet (.list (xs.map enc)) = .ok (.list (ys.map enc)) ∧ (∀ y ∈ ys, y ∈ xs) ∧ (∀ x ∈ xs, ∃ y ∈ ys, enc y = enc x) ∧ ys.length ≤ xs.length ∧ rise (ys.map enc) = true := by
  have ok' := ok
  unfold setOk at ok'
  simp only [Bool.and_eq_true] at ok'
  obtain ⟨o1, o2, o3⟩ := ok'
  obtain ⟨ks, eK, hk⟩ := keys_of o1
  obtain ⟨sh, al, so⟩ := sortOk_parts o2
  have pm := isort_pm (ddD (xs.map enc))
  obtain ⟨ys, e, q⟩ := typed_list (enc := enc) (xs := xs) (l := isort (ddD (xs.map enc))) fun d hd => ddD_sub (pm.mem_iff.mp hd)
  refine ⟨ys, ?_, q, fun x hx => ?_, ?_, ?_⟩
  · show (if setOk (xs.map enc) = true then Res.ok (PyData.list (isort (ddD (xs.map enc)))) else .bad) = _
    rw [if_pos ok, e]
  · have h1 : enc x ∈ ddD (xs.map enc) := by
      have h2 : enc x ∈ xs.map enc := List.mem_map.mpr ⟨x, hx, rfl⟩
      rw [eK] at h2 ⊢
      rw [ddD_data]
      obtain ⟨k, hk1, hk2⟩ := List.mem_map.mp h2
      exact List.mem_map.mpr ⟨k, (ddK_mem ks).mpr hk1, hk2⟩
    have h3 := pm.mem_iff.mpr h1
    rw [e] at h3
    obtain ⟨y, hy, e2⟩ := List.mem_map.mp h3
    exact ⟨y, hy, e2⟩
  · have h1 := congrArg List.length e
    rw [List.length_map, pm.length_eq] at h1
    have h2 := ddD_len (xs.map enc)
    rw [List.length_map] at h2
    omega
  · rw [← e]
    refine rise_of_pw ?_
    have nd : (isort (ddD (xs.map enc))).Nodup := by
      refine pm.nodup_iff.mpr ?_
      rw [eK, ddD_data]
      refine List.pairwise_map.mpr (List.Pairwise.imp_of_mem (fun {a b} ha hb hne e => hne ?_) (ddK_nodup ks))
      have z := eqv_key a b
      have z2 := eqv_key a a
      rw [e] at z z2
      rw [decide_eq_true rfl] at z2
      have z3 : PyData.eqv (NestedKey.data b) (NestedKey.data b) = true := z2
      rw [z3] at z
      exact of_decide_eq_true z.symm
    have pw := isort_pw (ddD (xs.map enc))
    have both := List.Pairwise.and pw nd
    refine List.Pairwise.imp_of_mem (fun {a b} ha hb ⟨h1, h2⟩ => ?_) both
    cases h3 : PySem.W.dataLt a b with
    | true => rfl
    | false =>
      exfalso
      have ha' := ddD_sub (pm.mem_iff.mp ha)
      have hb' := ddD_sub (pm.mem_iff.mp hb)
      rw [eK] at ha' hb'
      obtain ⟨k, hk1, rfl⟩ := List.mem_map.mp ha'
      obtain ⟨l, hl1, rfl⟩ := List.mem_map.mp hb'
      unfold leD at h1
      rw [Bool.not_eq_true'] at h1
      have z := toks_inj (a := k) (b := l) (al _ (by rw [eK]; exact ha') _ (by rw [eK]; exact hb')) (lex_total _ _ h3 h1)
      exact h2 (by rw [z])
theorem setOk_of {xs : List D} (h1 : ∀ d ∈ xs, ∃ k, nkD d = some k ∧ tupNK k = true ∧ k.depth ≤ 8) (h2 : ∀ d ∈ xs, SeqAt.shaped d = true) (h3 : ∀ a ∈ xs, ∀ b ∈ xs, PySem.W.alike a b = true) (h4 : ∀ d ∈ xs, tupB d = true) (hl : xs.length < 64) : setOk xs = true := by
  unfold setOk sortOk
  simp only [Bool.and_eq_true, Bool.or_eq_true, List.all_eq_true, decide_eq_true_eq]
  refine ⟨fun d hd => ?_, ⟨⟨h2, h3⟩, .inl h4⟩, hl⟩
  obtain ⟨k, e, a, b⟩ := h1 d hd
  rw [e]
  show (tupNK k && decide (k.depth ≤ 8)) = true
  rw [a, decide_eq_true b]
  rfl
theorem setOk_cells (cs : List (Int × Int)) (h : cs.length < 64) : setOk (cs.map ce) = true := by
  have f : ∀ d ∈ cs.map ce, ∃ c, d = ce c := fun d hd => let ⟨c, _, e⟩ := List.mem_map.mp hd; ⟨c, e.symm⟩
  refine setOk_of (fun d hd => ?_) (fun d hd => ?_) (fun a ha b hb => ?_) (fun d hd => ?_) (by rw [List.length_map]; exact h)
  · obtain ⟨c, rfl⟩ := f d hd
    exact ⟨.tup [.num c.1, .num c.2], rfl, rfl, by simp [NestedKey.depth, NestedKey.depthAll]⟩
  · obtain ⟨c, rfl⟩ := f d hd
    rfl
  · obtain ⟨c, rfl⟩ := f a ha
    obtain ⟨c', rfl⟩ := f b hb
    rfl
  · obtain ⟨c, rfl⟩ := f d hd
    rfl
theorem setOk_mists (ms : List Mist) (h : ms.length < 64) : setOk (ms.map mistD) = true := by
  have f : ∀ d ∈ ms.map mistD, ∃ c, d = mistD c := fun d hd => let ⟨c, _, e⟩ := List.mem_map.mp hd; ⟨c, e.symm⟩
  refine setOk_of (fun d hd => ?_) (fun d hd => ?_) (fun a ha b hb => ?_) (fun d hd => ?_) (by rw [List.length_map]; exact h)
  · obtain ⟨c, rfl⟩ := f d hd
    exact ⟨.tup [.num c.first, .num c.until_, .tup [.num c.one.1, .num c.one.2], .tup [.num c.other.1, .num c.other.2], .num c.most], rfl, rfl, by simp [NestedKey.depth, NestedKey.depthAll]⟩
  · obtain ⟨c, rfl⟩ := f d hd
    rfl
  · obtain ⟨c, rfl⟩ := f a ha
    obtain ⟨c', rfl⟩ := f b hb
    rfl
  · obtain ⟨c, rfl⟩ := f d hd
    rfl
end HF

set_option Elab.async false
set_option autoImplicit false
set_option linter.all false
set_option maxRecDepth 100000
set_option maxHeartbeats 4000000
/-! is_fleet over any thing at all. -/
namespace HF
open PySem PySem.Spec PyProof.Rows L2
mutual
/-- no dict anywhere, all texts fit -/
def fitD : D → Bool
  | .dict _ => false
  | .str s => PyData.strOk s && decide (s.length ≤ 16777216)
  | .list xs => fitDs xs
  | .tuple xs => fitDs xs
  | _ => true
def fitDs : List D → Bool
  | [] => true
  | d :: r => fitD d && fitDs r
end
theorem fitDs_all : ∀ xs : List D, fitDs xs = xs.all fitD
  | [] => rfl
  | d :: r => by rw [List.all_cons, ← fitDs_all r]; rfl
theorem fit_plain {d : D} (h : fitD d = true) : plain d = true := by
  cases d <;> first | rfl | cases h
theorem fit_tup {xs : List D} (h : fitD (.tuple xs) = true) : ∀ x ∈ xs, fitD x = true := by
  have : fitDs xs = true := h
  rw [fitDs_all] at this
  exact List.all_eq_true.mp this
def nameX : D → Bool
  | .str x => nameB x
  | _ => false
def cellX : D → Bool
  | .tuple [a, b] => isW a 0 9 && isW b 0 9
  | _ => false
def islX : D → Bool
  | .tuple ds => decide (ds.length ≤ 12) && (ds.all cellX && rise ds)
  | _ => false
def cellN (isl : List D) (c : D) : Bool := cellX c && !(isl.any fun z => PyData.eqv z c)
def lstT : D → List D
  | .tuple ds => ds
  | _ => []
def crsX (last : Int) (isl : List D) : D → Bool
  | .tuple cs => decide ((cs.length : Int) = last + 1) && cs.all (cellN isl)
  | _ => false
def shipX (last : Int) (isl : List D) : D → Bool
  | .tuple [n, s, c] => nameX n && (isW s 0 9 && crsX last isl c)
  | _ => false
def leX : D → D → Bool
  | .tuple [.int x, .int y], .tuple [.int z, .int w] => decide (x ≤ z) && decide (y ≤ w)
  | _, _ => false
def intX : D → Int
  | .int i => i
  | _ => 0
def mistX (last : Int) : D → Bool
  | .tuple [f, u, a, b, m] => (isW f 0 last && (isW u (intX f) last && isW m 0 9)) && (cellX a && (cellX b && leX a b))
  | _ => false
def nm0 : D → D
  | .tuple (n :: _) => n
  | _ => .none
def shipsX (last : Int) (isl : List D) : D → Bool
  | .tuple ships => (decide (1 ≤ ships.length) && decide (ships.length ≤ 5)) && (ships.all (shipX last isl) && rise (ships.map nm0))
  | _ => false
def mistsX (last : Int) : D → Bool
  | .tuple mists => decide (mists.length ≤ 4) && (mists.all (mistX last) && rise mists)
  | _ => false
def fleetX : D → Bool
  | .tuple [l, i, s, m] => isW l 0 7 && (islX i && (shipsX (intX l) (lstT i) s && mistsX (intX l) m))
  | _ => false
theorem isW_int {d : D} {l m : Int} (h : isW d l m = true) : ∃ i, d = .int i ∧ l ≤ i ∧ i ≤ m := by
  cases d <;> first | cases h | skip
  rename_i i
  exact ⟨i, rfl, by simpa [isW] using h⟩
theorem cellX_ce {d : D} (h : cellX d = true) : ∃ p, d = ce p ∧ okC p := by
  unfold cellX at h
  split at h
  · rename_i a b
    rw [Bool.and_eq_true] at h
    obtain ⟨i, rfl, h1, h2⟩ := isW_int h.1
    obtain ⟨j, rfl, h3, h4⟩ := isW_int h.2
    exact ⟨(i, j), rfl, ⟨h1, h2⟩, h3, h4⟩
  · cases h
theorem cellsX_ce : ∀ {ds : List D}, ds.all cellX = true → ∃ ps : List (Int × Int), ds = ps.map ce
  | [], _ => ⟨[], rfl⟩
  | d :: r, h => by
    rw [List.all_cons, Bool.and_eq_true] at h
    obtain ⟨p, rfl, _⟩ := cellX_ce h.1
    obtain ⟨ps, rfl⟩ := cellsX_ce h.2
    exact ⟨p :: ps, rfl⟩
theorem compL_id {bnd : D → Res (List SV)} {c : List SV → Res Bool} {e : List SV → Res D} (g : D → D) {xs : List D} (hc : ∀ τ, c τ = .ok true) (h : ∀ x ∈ xs, ∃ τ, bnd x = .ok τ ∧ e τ = .ok (g x)) :
    compL bnd c e xs = .ok (xs.map g) := by
  have := compL_map0 (enc := fun x : D => x) (c := c) g hc h
  rwa [List.map_id'] at this
section
variable (φ : Nat → List D → Res D) (fu : Nat)
theorem cell_x (W : ∀ d l m, plain d = true → φ 10 [d, .int l, .int m] = .ok (.bool (isW d l m))) (d : D) (h : fitD d = true) : retOf (evSs φ fu f_is_cell.body (start0 2 [d])) = .ok (.bool (cellX d)) := by
  cases d <;> first | cases h | skip
  case tuple ds =>
    have hp := fit_tup h
    by_cases hl : ds.length = 2
    · match ds, hl with
      | [a, b], _ =>
      have ha := W a 0 9 (fit_plain (hp a (by simp)))
      have hb := W b 0 9 (fit_plain (hp b (by simp)))
      have z := b_all [isW a 0 9, isW b 0 9]
      simp only [List.map] at z
      simp [f_is_cell, f_is_cell_s1, start0, dIsI, tyB, noOwn_eq, wipeS, cellX]
      rw [compL_id (fun d => .bool (isW d 0 9)) (fun _ => rfl) fun x hx => ⟨_, rfl, by simp [W x 0 9 (fit_plain (hp x (by simpa using hx)))]⟩]
      simp [z]
    · have : cellX (.tuple ds) = false := by
        unfold cellX
        split
        · rename_i e; cases e; exact absurd rfl hl
        · rfl
      rw [this]
      have hl' : ¬ ((ds.length : Nat) : Int) = 2 := by omega
      simp [f_is_cell, f_is_cell_s1, start0, dIsI, tyB, hl']
  all_goals simp [f_is_cell, f_is_cell_s1, start0, dIsI, tyB, cellX]
theorem islands_x (C : ∀ d, fitD d = true → φ 12 [d] = .ok (.bool (cellX d))) (R : ∀ (ps : List (Int × Int)), φ 13 [.tuple (ps.map ce)] = .ok (.bool (rise (ps.map ce)))) (d : D) (h : fitD d = true) : retOf (evSs φ fu f_is_islands.body (start0 2 [d])) = .ok (.bool (islX d)) := by
  cases d <;> first | cases h | skip
  case tuple ds =>
    have hp := fit_tup h
    by_cases hl : ds.length ≤ 12
    · have hl' : ¬ ((12 : Int) < (ds.length : Nat)) := by omega
      simp [f_is_islands, f_is_islands_s1, f_is_islands_s2, start0, dIsI, tyB, noOwn_eq, wipeS, islX, hl, hl']
      rw [compL_id (fun d => .bool (cellX d)) (fun _ => rfl) fun x hx => ⟨_, rfl, by simp [C x (hp x hx)]⟩]
      have q := b_allM cellX ds
      cases hc : ds.all cellX with
      | false => rw [hc] at q; simp [q]
      | true =>
        rw [hc] at q
        obtain ⟨ps, rfl⟩ := cellsX_ce hc
        have := R ps
        simp only [List.map_map] at q this
        simp [q, this]
    · have hl' : ((12 : Int) < (ds.length : Nat)) := by omega
      simp [f_is_islands, f_is_islands_s1, f_is_islands_s2, start0, dIsI, tyB, noOwn_eq, wipeS, islX, hl, hl']
  all_goals simp [f_is_islands, f_is_islands_s1, f_is_islands_s2, start0, dIsI, tyB, islX]
theorem in_cellsD (p : Int × Int) (ps : List (Int × Int)) : dIn (ce p) (.tuple (ps.map ce)) = .ok ((ps.map ce).any fun z => PyData.eqv z (ce p)) := by
  show (if (SeqAt.shaped (ce p) && SeqAt.shaped (.tuple (ps.map ce))) = true then Res.ok ((ps.map ce).any fun z => PyData.eqv z (ce p)) else .bad) = _
  rw [shaped_cells, if_pos (by rfl)]
theorem ship_x (W : ∀ d l m, plain d = true → φ 10 [d, .int l, .int m] = .ok (.bool (isW d l m))) (N : ∀ d, fitD d = true → φ 11 [d] = .ok (.bool (nameX d))) (C : ∀ d, fitD d = true → φ 12 [d] = .ok (.bool (cellX d)))
    (last : Int) (ps : List (Int × Int)) (d : D) (h : fitD d = true) : retOf (evSs φ fu f_is_ship.body (start0 5 [.int last, .tuple (ps.map ce), d])) = .ok (.bool (shipX last (ps.map ce) d)) := by
  cases d <;> first | cases h | skip
  case tuple ds =>
    have hp := fit_tup h
    by_cases hl : ds.length = 3
    · match ds, hl with
      | [n, s, c], hl3 =>
      clear hl3 hl
      have hn := N n (hp n (by simp))
      have hs := W s 0 9 (fit_plain (hp s (by simp)))
      simp [f_is_ship, f_is_ship_s1, f_is_ship_s2, f_is_ship_s3, f_is_ship_s4, start0, dIsI, tyB, noOwn_eq, wipeS, shipX, hn, hs]
      cases nameX n <;> simp
      cases isW s 0 9 <;> simp
      have hc := hp c (by simp)
      cases c <;> first | cases hc | skip
      case tuple cs =>
        have hq := fit_tup hc
        simp [crsX, dIsI, tyB]
        by_cases hl : (cs.length : Int) = last + 1
        · simp [hl]
          rw [compL_id (fun d => .bool (cellN (ps.map ce) d)) (fun _ => rfl) fun x hx => ⟨_, rfl, ?_⟩]
          · have q := b_allM (cellN (ps.map ce)) cs
            simp [q]
          · simp [C x (hq x hx), cellN]
            cases hx : cellX x with
            | false => rfl
            | true =>
              obtain ⟨p, rfl, _⟩ := cellX_ce hx
              have z := in_cellsD p ps
              simp
              show (dCmp .NotIn (ce p) (.tuple (ps.map ce)) >>= _) = _
              have : dCmp .NotIn (ce p) (.tuple (ps.map ce)) = (dIn (ce p) (.tuple (ps.map ce)) >>= fun b => .ok !b) := rfl
              rw [this, z]
              simp
        · simp [hl]
      all_goals simp [dIsI, tyB, crsX]
    · have : shipX last (ps.map ce) (.tuple ds) = false := by
        unfold shipX
        split
        · rename_i e; cases e; exact absurd rfl hl
        · rfl
      rw [this]
      have hl' : ¬ ((ds.length : Nat) : Int) = 3 := by omega
      simp [f_is_ship, f_is_ship_s1, start0, dIsI, tyB, hl']
  all_goals simp [f_is_ship, f_is_ship_s1, start0, dIsI, tyB, shipX]
theorem mist_x (W : ∀ d l m, plain d = true → φ 10 [d, .int l, .int m] = .ok (.bool (isW d l m))) (C : ∀ d, fitD d = true → φ 12 [d] = .ok (.bool (cellX d)))
    (last : Int) (d : D) (h : fitD d = true) : retOf (evSs φ fu f_is_mist.body (start0 7 [.int last, d])) = .ok (.bool (mistX last d)) := by
  cases d <;> first | cases h | skip
  case tuple ds =>
    have hp := fit_tup h
    by_cases hl : ds.length = 5
    · match ds, hl with
      | [f, u, a, b, m], _ =>
      have hf := W f 0 last (fit_plain (hp f (by simp)))
      have hm := W m 0 9 (fit_plain (hp m (by simp)))
      have ha := C a (hp a (by simp))
      have hb := C b (hp b (by simp))
      simp [f_is_mist, f_is_mist_s1, f_is_mist_s2, f_is_mist_s3, f_is_mist_s4, start0, dIsI, tyB, noOwn_eq, setAll, wipeS, mistX, hf, hm, ha, hb]
      cases h1 : isW f 0 last with
      | false => simp
      | true =>
        obtain ⟨i, rfl, _, _⟩ := isW_int h1
        have hu := W u i last (fit_plain (hp u (by simp)))
        simp [hu, intX]
        cases isW u i last <;> simp
        cases isW m 0 9 <;> simp
        cases h2 : cellX a with
        | false => rw [h2] at ha; simp [ha]
        | true =>
          rw [h2] at ha
          cases h3 : cellX b with
          | false => rw [h3] at hb; simp [ha, hb]
          | true =>
            obtain ⟨p, rfl, _⟩ := cellX_ce h2
            obtain ⟨q, rfl, _⟩ := cellX_ce h3
            rw [h3] at hb
            have e : leX (ce p) (ce q) = (decide (p.1 ≤ q.1) && decide (p.2 ≤ q.2)) := rfl
            simp [ha, hb, e]
    · have : mistX last (.tuple ds) = false := by
        unfold mistX
        split
        · rename_i e; cases e; exact absurd rfl hl
        · rfl
      rw [this]
      have hl' : ¬ ((ds.length : Nat) : Int) = 5 := by omega
      simp [f_is_mist, f_is_mist_s1, start0, dIsI, tyB, hl']
  all_goals simp [f_is_mist, f_is_mist_s1, start0, dIsI, tyB, mistX]
end
end HF

set_option Elab.async false
set_option autoImplicit false
set_option linter.all false
set_option maxRecDepth 100000
set_option maxHeartbeats 4000000
/-! is_fleet over any thing at all, the end. -/
namespace HF
open PySem PySem.Spec PyProof.Rows L2
theorem name_str {last : Int} {isl : List D} {d : D} (h : shipX last isl d = true) : ∃ x, nm0 d = .str x ∧ nameB x = true ∧ ∃ r, d = .tuple (.str x :: r) := by
  unfold shipX at h
  split at h
  · rename_i n s c
    rw [Bool.and_eq_true] at h
    cases n <;> first | (have := h.1; cases this; done) | skip
    exact ⟨_, rfl, h.1, _, rfl⟩
  · cases h
theorem mistX_of {last : Int} {d : D} (h : mistX last d = true) : ∃ m, d = mistD m := by
  unfold mistX at h
  split at h
  · rename_i f u a b m
    simp only [Bool.and_eq_true] at h
    obtain ⟨⟨h1, h2, h3⟩, h4, h5, _⟩ := h
    obtain ⟨i, rfl, _⟩ := isW_int h1
    obtain ⟨j, rfl, _⟩ := isW_int h2
    obtain ⟨k, rfl, _⟩ := isW_int h3
    obtain ⟨p, rfl, _⟩ := cellX_ce h4
    obtain ⟨q, rfl, _⟩ := cellX_ce h5
    exact ⟨⟨i, j, p, q, k⟩, rfl⟩
  · cases h
theorem mists_of {last : Int} : ∀ {ds : List D}, ds.all (mistX last) = true → ∃ ms : List Mist, ds = ms.map mistD
  | [], _ => ⟨[], rfl⟩
  | d :: r, h => by
    rw [List.all_cons, Bool.and_eq_true] at h
    obtain ⟨p, rfl⟩ := mistX_of h.1
    obtain ⟨ps, rfl⟩ := mists_of h.2
    exact ⟨p :: ps, rfl⟩
theorem islX_of {d : D} (h : islX d = true) : ∃ ps : List (Int × Int), d = .tuple (ps.map ce) := by
  unfold islX at h
  split at h
  · simp only [Bool.and_eq_true] at h
    obtain ⟨ps, rfl⟩ := cellsX_ce h.2.1
    exact ⟨ps, rfl⟩
  · cases h
section
variable (φ : Nat → List D → Res D) (fu : Nat)
theorem fleet_x (W : ∀ d l m, plain d = true → φ 10 [d, .int l, .int m] = .ok (.bool (isW d l m))) (I : ∀ d, fitD d = true → φ 14 [d] = .ok (.bool (islX d)))
    (S : ∀ (last : Int) (ps : List (Int × Int)) (d : D), fitD d = true → φ 15 [.int last, .tuple (ps.map ce), d] = .ok (.bool (shipX last (ps.map ce) d)))
    (M : ∀ (last : Int) (d : D), fitD d = true → φ 16 [.int last, d] = .ok (.bool (mistX last d)))
    (R1 : ∀ (xs : List D), (∀ d ∈ xs, ∃ x, d = .str x ∧ PyData.strOk x = true) → φ 13 [.list xs] = .ok (.bool (rise xs)))
    (R2 : ∀ (ms : List Mist), φ 13 [.tuple (ms.map mistD)] = .ok (.bool (rise (ms.map mistD))))
    (d : D) (h : fitD d = true) : retOf (evSs φ fu f_is_fleet.body (start0 7 [d])) = .ok (.bool (fleetX d)) := by
  cases d <;> first | cases h | skip
  case tuple ds =>
    have hp := fit_tup h
    by_cases hl : ds.length = 4
    · match ds, hl with
      | [l, i, s, m], hl4 =>
      clear hl4 hl
      have hW := W l 0 7 (fit_plain (hp l (by simp)))
      have hI := I i (hp i (by simp))
      simp [f_is_fleet, f_is_fleet_s1, f_is_fleet_s2, f_is_fleet_s3, f_is_fleet_s4, f_is_fleet_s5, f_is_fleet_s6, start0, dIsI, tyB, noOwn_eq, setAll, wipeS, fleetX, hW, hI]
      cases h1 : isW l 0 7 with
      | false => simp
      | true =>
      obtain ⟨last, rfl, _⟩ := isW_int h1
      cases h2 : islX i with
      | false => simp
      | true =>
      obtain ⟨ps, rfl⟩ := islX_of h2
      have hs := hp s (by simp)
      have hm := hp m (by simp)
      simp [intX, lstT]
      cases s <;> first | cases hs | skip
      case tuple ss =>
        have hq := fit_tup hs
        simp [dIsI, tyB, shipsX]
        by_cases l1 : 1 ≤ ss.length
        · by_cases l5 : ss.length ≤ 5
          · have l1' : (1 : Int) ≤ (ss.length : Nat) := by omega
            have l5' : ((ss.length : Nat) : Int) ≤ 5 := by omega
            simp [l1, l5, l1', l5']
            rw [compL_id (fun d => .bool (shipX last (ps.map ce) d)) (fun _ => rfl) fun x hx => ⟨_, rfl, by simp [S last ps x (hq x hx)]⟩]
            have q := b_allM (shipX last (ps.map ce)) ss
            cases hc : ss.all (shipX last (ps.map ce)) with
            | false => rw [hc] at q; simp [q]
            | true =>
              rw [hc] at q
              have hall := List.all_eq_true.mp hc
              simp [q]
              rw [compL_id nm0 (fun _ => rfl) fun x hx => ⟨_, rfl, by
                obtain ⟨y, e, _, r, e2⟩ := name_str (hall x hx)
                rw [e2]
                simp [nm0]⟩]
              have r1 := R1 (ss.map nm0) fun d hd => by
                obtain ⟨x, hx, rfl⟩ := List.mem_map.mp hd
                obtain ⟨y, e, _, r, e2⟩ := name_str (hall x hx)
                refine ⟨y, e, ?_⟩
                have := hq x hx
                rw [e2] at this
                have := fit_tup this (.str y) (by simp)
                have z : (PyData.strOk y && decide (y.length ≤ 16777216)) = true := this
                rw [Bool.and_eq_true] at z
                exact z.1
              simp [r1]
              cases rise (ss.map nm0) with
              | false => simp
              | true =>
              simp
              cases m <;> first | cases hm | skip
              case tuple ms =>
                have hr := fit_tup hm
                simp [dIsI, tyB, mistsX]
                by_cases l4 : ms.length ≤ 4
                · have l4' : ¬ (4 : Int) < (ms.length : Nat) := by omega
                  simp [l4, l4']
                  rw [compL_id (fun d => .bool (mistX last d)) (fun _ => rfl) fun x hx => ⟨_, rfl, by simp [M last x (hr x hx)]⟩]
                  have q := b_allM (mistX last) ms
                  cases hc : ms.all (mistX last) with
                  | false => rw [hc] at q; simp [q]
                  | true =>
                    rw [hc] at q
                    obtain ⟨mm, rfl⟩ := mists_of hc
                    have r2 := R2 mm
                    simp only [List.map_map] at q r2
                    simp [q, r2]
                    intro h
                    omega
                · have l4' : (4 : Int) < (ms.length : Nat) := by omega
                  simp [l4, l4']
              all_goals simp [dIsI, tyB, mistsX]
          · have l1' : (1 : Int) ≤ (ss.length : Nat) := by omega
            have l5' : ¬ ((ss.length : Nat) : Int) ≤ 5 := by omega
            simp [l1, l5, l1', l5']
        · have l1' : ¬ (1 : Int) ≤ (ss.length : Nat) := by omega
          simp [l1, l1']
      all_goals simp [dIsI, tyB, shipsX]
    · have : fleetX (.tuple ds) = false := by
        unfold fleetX
        split
        · rename_i e; cases e; exact absurd rfl hl
        · rfl
      rw [this]
      have hl' : ¬ ((ds.length : Nat) : Int) = 4 := by omega
      simp [f_is_fleet, f_is_fleet_s1, start0, dIsI, tyB, hl']
  all_goals simp [f_is_fleet, f_is_fleet_s1, start0, dIsI, tyB, fleetX]
end
section
variable {T : List Fn} (F : HasF T) (fu n : Nat)
include F
theorem cell_run (d : D) (h : fitD d = true) : run T fu (n + 2) 12 [d] = .ok (.bool (cellX d)) := (call_eq F.cell rfl).trans (cell_x _ fu (fun d l m h => whole_ok F fu n d l m h) d h)
theorem islands_run (d : D) (h : fitD d = true) : run T fu (n + 3) 14 [d] = .ok (.bool (islX d)) :=
  (call_eq F.islands rfl).trans (islands_x _ fu (fun d h => cell_run F fu n d h) (fun ps => rising_list F fu (n + 1) (fun a ha b hb => by
    obtain ⟨p, _, rfl⟩ := List.mem_map.mp ha
    obtain ⟨q, _, rfl⟩ := List.mem_map.mp hb
    rfl) true) d h)
theorem name_run (d : D) (h : fitD d = true) : run T fu (n + 1) 11 [d] = .ok (.bool (nameX d)) := by
  cases d <;> first | cases h | skip
  case str s =>
    have z : (PyData.strOk s && decide (s.length ≤ 16777216)) = true := h
    rw [Bool.and_eq_true] at z
    exact name_ok F fu n s (of_decide_eq_true z.2)
  all_goals
    refine (call_eq F.name rfl).trans ?_
    simp [f_is_name, f_is_name_s1, start0, dIsI, tyB, nameX]
theorem ship_run (last : Int) (ps : List (Int × Int)) (d : D) (h : fitD d = true) : run T fu (n + 3) 15 [.int last, .tuple (ps.map ce), d] = .ok (.bool (shipX last (ps.map ce) d)) :=
  (call_eq F.ship rfl).trans (ship_x _ fu (fun d l m h => whole_ok F fu (n + 1) d l m h) (fun d h => name_run F fu (n + 1) d h) (fun d h => cell_run F fu n d h) last ps d h)
theorem mist_run (last : Int) (d : D) (h : fitD d = true) : run T fu (n + 3) 16 [.int last, d] = .ok (.bool (mistX last d)) :=
  (call_eq F.mist rfl).trans (mist_x _ fu (fun d l m h => whole_ok F fu (n + 1) d l m h) (fun d h => cell_run F fu n d h) last d h)
theorem fleet_run (d : D) (h : fitD d = true) : run T fu (n + 4) 17 [d] = .ok (.bool (fleetX d)) :=
  (call_eq F.fleet rfl).trans (fleet_x _ fu (fun d l m h => whole_ok F fu (n + 2) d l m h) (fun d h => islands_run F fu n d h) (fun last ps d h => ship_run F fu n last ps d h) (fun last d h => mist_run F fu n last d h)
    (fun xs h => rising_list F fu (n + 2) (fun a ha b hb => by
      obtain ⟨x, rfl, hx⟩ := h a ha
      obtain ⟨y, rfl, hy⟩ := h b hb
      exact lt_str _ _ hx hy) false)
    (fun ms => rising_list F fu (n + 2) (fun a ha b hb => by
      obtain ⟨p, _, rfl⟩ := List.mem_map.mp ha
      obtain ⟨q, _, rfl⟩ := List.mem_map.mp hb
      rfl) true) d h)
end
end HF

set_option Elab.async false
set_option autoImplicit false
set_option linter.all false
set_option maxRecDepth 100000
set_option maxHeartbeats 4000000
/-! The fleets that the earlier laws draw. -/
namespace HF
open PySem PySem.Spec PyProof.Rows L2
def abc : List Str := ["a", "b", "c", "d", "e"]
structure DrawnF (G : Fleet) (most : Int) : Prop where
  last1 : 1 ≤ G.last
  last5 : G.last ≤ 5
  n2 : 2 ≤ G.ships.length
  nm : (G.ships.length : Int) ≤ most
  names : G.ships.map (·.name) = abc.take G.ships.length
  ships : ∀ s ∈ G.ships, (0 ≤ s.sight ∧ s.sight ≤ 3) ∧ (s.course.length : Int) = G.last + 1 ∧ ∀ c ∈ s.course, okC c ∧ c ∉ G.isl
  isl3 : G.isl.length ≤ 3
  isl : ∀ c ∈ G.isl, okC c
  islR : rise (G.isl.map ce) = true
  mis2 : G.mists.length ≤ 2
  mists : ∀ m ∈ G.mists, (0 ≤ m.first ∧ m.first ≤ m.until_ ∧ m.until_ ≤ G.last) ∧ okC m.one ∧ okC m.other ∧ (m.one.1 ≤ m.other.1 ∧ m.one.2 ≤ m.other.2) ∧ 0 ≤ m.most ∧ m.most ≤ 2
  misR : rise (G.mists.map mistD) = true
/-- draws as a function -/
structure Draw (φ : Nat → List D → Res D) (scr : D) (dr : Int → Int → Int) : Prop where
  eq : ∀ k m, 0 ≤ k → 0 < m → φ 1001 [scr, .int k, .int m] = .ok (.int (dr k m))
  lo : ∀ k m, 0 ≤ k → 0 < m → 0 ≤ dr k m
  hi : ∀ k m, 0 ≤ k → 0 < m → dr k m < m
@[simp] theorem b_fdiv2 (i : Int) : dBin .fdiv (.int i) (.int 2) = .ok (.int (i / 2)) := rfl
theorem abc_ix : ∀ {j : Nat}, j < 5 → ∃ x, dIx (.str "abcde") (.int (j : Nat)) = .ok (.str x) ∧ abc[j]? = some x
  | 0, _ => ⟨"a", rfl, rfl⟩
  | 1, _ => ⟨"b", rfl, rfl⟩
  | 2, _ => ⟨"c", rfl, rfl⟩
  | 3, _ => ⟨"d", rfl, rfl⟩
  | 4, _ => ⟨"e", rfl, rfl⟩
  | n + 5, h => by omega
theorem sight_ix {d : Int} (h0 : 0 ≤ d) (h1 : d < 5) : ∃ x, dIx (.list [.int 0, .int 1, .int 1, .int 2, .int 3]) (.int d) = .ok (.int x) ∧ 0 ≤ x ∧ x ≤ 3 := by
  have : d = 0 ∨ d = 1 ∨ d = 2 ∨ d = 3 ∨ d = 4 := by omega
  rcases this with rfl | rfl | rfl | rfl | rfl
  · exact ⟨0, rfl, by decide, by decide⟩
  · exact ⟨1, rfl, by decide, by decide⟩
  · exact ⟨1, rfl, by decide, by decide⟩
  · exact ⟨2, rfl, by decide, by decide⟩
  · exact ⟨3, rfl, by decide, by decide⟩
theorem rngI_get {n : Int} {j : Nat} {x : D} (h : (rngD 0 n)[j]? = some x) : x = .int (j : Nat) ∧ (j : Int) < n := by
  rw [rngD_nat, List.getElem?_map] at h
  cases e : (List.range n.toNat)[j]? with
  | none => rw [e] at h; cases h
  | some k =>
    rw [e] at h
    obtain ⟨hj, hk⟩ := List.getElem?_eq_some_iff.mp e
    rw [List.getElem_range] at hk
    rw [List.length_range] at hj
    subst hk
    cases h
    exact ⟨rfl, by omega⟩
theorem rngI_len {n : Int} : (rngD 0 n).length = n.toNat := by rw [rngD_nat, List.length_map, List.length_range]
/-- a loop told by the number of turns -/
theorem forL_n {bnd : D → List SV → Res (List SV)} {b : List SV → SR} (P : Nat → List SV → Prop) {n : Int} {σ : List SV} (h0 : P 0 σ)
    (hs : ∀ (j : Nat) σ, (j : Int) < n → P j σ → ∃ τ, bnd (.int (j : Nat)) σ = .ok τ ∧ Ends (b τ) (P (j + 1))) : EndsN (forL bnd b (rngD 0 n) σ) (P n.toNat) := by
  obtain ⟨ρ, h1, h2⟩ := forL_inv P (xs := rngD 0 n) (i := 0) h0 fun j x σ hx hp => by
    obtain ⟨rfl, hj⟩ := rngI_get hx
    rw [Nat.zero_add] at hp ⊢
    obtain ⟨τ, e1, ρ, e2, e3⟩ := hs j σ hj hp
    exact ⟨τ, ρ, e1, e2, e3⟩
  rw [Nat.zero_add, rngI_len] at h2
  exact ⟨ρ, h1, h2⟩
theorem mul_lit {i j : Int} (h : -1000 ≤ i) (h' : i ≤ 1000) : dBin .mul (.int i) (.int j) = .ok (.int (i * j)) := by
  rw [b_mul, if_pos (cmul_small h h')]
theorem ends_mk {r : SR} {ρ : List SV} {Q : List SV → Prop} (h : r = .ok .nx ρ) (q : Q ρ) : Ends r Q := ⟨ρ, .inl h, q⟩
theorem endsN_mk {r : SR} {ρ : List SV} {Q : List SV → Prop} (h : r = .ok .nx ρ) (q : Q ρ) : EndsN r Q := ⟨ρ, h, q⟩
def ownL : Option (List D) → SV
  | none => .no
  | some xs => .own (.list xs)
section
variable {φ : Nat → List D → Res D} {fu : Nat} {scr : D} {dr : Int → Int → Int} (DR : Draw φ scr dr) (at_ most : Int) (hat : 0 ≤ at_)
include DR hat
def s6b : Ss := (.cons (.set 13 (.bi .max2 (.cons (.int 0) (.cons (.bi .min2 (.cons (.int 9) (.cons (.bin .sub (.bin .add (.loc 13) (.call 1001 (.cons (.loc 0) (.cons (.bin .add (.bin .add (.loc 9) (.int 3)) (.loc 10)) (.cons (.int 3) .nil))))) (.int 1)) .nil))) .nil))))
      (.cons (.set 14 (.bi .max2 (.cons (.int 0) (.cons (.bi .min2 (.cons (.int 9) (.cons (.bin .add (.loc 14) (.bin .fdiv (.call 1001 (.cons (.loc 0) (.cons (.bin .add (.bin .add (.loc 9) (.int 8)) (.loc 10)) (.cons (.int 3) .nil)))) (.int 2))) .nil))) .nil))))
      (.cons (.app 15 (.tup (.cons (.loc 13) (.cons (.loc 14) .nil))))
      .nil)))
theorem course_loop (last here : Int) (h0 : 0 ≤ here) (hl : last ≤ 7) (x y : Int) (hx : 0 ≤ x ∧ x ≤ 9) (hy : 0 ≤ y ∧ y ≤ 9) (a0 a1 a2 a3 a4 a5 a6 a7 a8 a9 : SV) (o10 : Option D) (h9 : a9 = .fz (.int here)) (h0' : a0 = .fz scr) (b1 b2 b3 b4 b5 : SV) :
    EndsN (forL (fun x τ => bindT (.one 10) x τ) (fun τ => evSs φ fu s6b τ) (rngD 0 (last + 1)) [a0, a1, a2, a3, a4, a5, a6, a7, a8, a9, gv o10, b1, b2, .fz (.int x), .fz (.int y), .own (.list []), b3, b4, b5])
      (fun σ => ∃ cs : List (Int × Int), cs.length = (last + 1).toNat ∧ (∀ c ∈ cs, okC c) ∧ ∃ o10 o13 o14, σ = [a0, a1, a2, a3, a4, a5, a6, a7, a8, a9, gv o10, b1, b2, gv o13, gv o14, .own (.list (cs.map ce)), b3, b4, b5]) := by
  subst h9
  subst h0'
  refine (forL_n (n := last + 1) (fun j σ => ∃ cs : List (Int × Int), cs.length = j ∧ (∀ c ∈ cs, okC c) ∧ ∃ o10 x y, ((0 ≤ x ∧ x ≤ 9) ∧ 0 ≤ y ∧ y ≤ 9) ∧ σ = [SV.fz scr, a1, a2, a3, a4, a5, a6, a7, a8, .fz (.int here), gv o10, b1, b2, .fz (.int x), .fz (.int y), .own (.list (cs.map ce)), b3, b4, b5])
    ⟨[], rfl, (fun _ h => by cases h), o10, x, y, ⟨hx, hy⟩, rfl⟩ ?_).imp ?_
  · rintro j _ hj ⟨cs, hc, hok, o10, x, y, ⟨hx, hy⟩, rfl⟩
    refine ⟨_, by simp; rfl, ?_⟩
    have e1 := DR.eq (here + 3 + (j : Nat)) 3 (by omega) (by decide)
    have e2 := DR.eq (here + 8 + (j : Nat)) 3 (by omega) (by decide)
    have d1 := DR.lo (here + 8 + (j : Nat)) 3 (by omega) (by decide)
    have hcl : cs.length < 16777216 := by omega
    simp [s6b, e1, e2, hcl, -Prod.forall]
    refine ⟨cs ++ [(max 0 (min 9 (x + dr (here + 3 + (j : Nat)) 3 - 1)), max 0 (min 9 (y + dr (here + 8 + (j : Nat)) 3 / 2)))], by simp [hc], fun c hm => ?_, some (.int (j : Nat)), max 0 (min 9 (x + dr (here + 3 + (j : Nat)) 3 - 1)), max 0 (min 9 (y + dr (here + 8 + (j : Nat)) 3 / 2)), ⟨⟨by omega, by omega⟩, by omega, by omega⟩, by simp [ce]⟩
    rcases List.mem_append.mp hm with z | z
    · exact hok c z
    · rw [List.mem_singleton.mp z]
      exact ⟨⟨by dsimp only; omega, by dsimp only; omega⟩, by dsimp only; omega, by dsimp only; omega⟩
  · rintro σ ⟨cs, hc, hok, o10, x, y, _, rfl⟩
    exact ⟨cs, hc, hok, o10, some (.int x), some (.int y), rfl⟩
def s2b : Ss := (.cons (.set 9 (.bin .add (.bin .add (.loc 1) (.int 10)) (.bin .mul (.int 14) (.loc 3))))
      (.cons (.parO [13, 14, 15] [false, false, true] (.cons (.call 1001 (.cons (.loc 0) (.cons (.loc 9) (.cons (.int 5) .nil)))) (.cons (.call 1001 (.cons (.loc 0) (.cons (.bin .add (.loc 9) (.int 1)) (.cons (.int 4) .nil)))) (.cons (.lst .nil) .nil))))
      (.cons (.for (.one 10) (.rng1 (.bin .add (.loc 6) (.int 1))) s6b)
      (.cons (.set 8 (.bin .add (.loc 8) (.tr 15)))
      (.cons (.app 7 (.tup (.cons (.ix (.str "abcde") (.loc 3)) (.cons (.ix (.lst (.cons (.int 0) (.cons (.int 1) (.cons (.int 1) (.cons (.int 2) (.cons (.int 3) .nil)))))) (.call 1001 (.cons (.loc 0) (.cons (.bin .add (.loc 9) (.int 2)) (.cons (.int 5) .nil))))) (.cons (.bi .tuple (.cons (.tr 15) .nil)) .nil)))))
      .nil)))))
structure ShipsP (last : Int) (j : Nat) (used : List (Int × Int)) (ss : List Ship) : Prop where
  len : ss.length = j
  names : ss.map (·.name) = abc.take j
  ul : used.length ≤ 8 * j
  ok : ∀ s ∈ ss, (0 ≤ s.sight ∧ s.sight ≤ 3) ∧ (s.course.length : Int) = last + 1 ∧ ∀ c ∈ s.course, okC c ∧ c ∈ used
theorem ships_loop (last n : Int) (h0 : 0 ≤ last) (hl : last ≤ 7) (hn : n ≤ 5) (a4 a5 : SV) :
    EndsN (forL (fun x τ => bindT (.one 3) x τ) (fun τ => evSs φ fu s2b τ) (rngD 0 n) [.fz scr, .fz (.int at_), .fz (.int most), .no, a4, a5, .fz (.int last), .own (.list []), .fz (.list []), .no, .no, .no, .no, .no, .no, .no, .no, .no, .no])
      (fun σ => ∃ ss used, ShipsP last n.toNat used ss ∧ ∃ o3 o9 o10 o13 o14 o15, σ = [.fz scr, .fz (.int at_), .fz (.int most), gv o3, a4, a5, .fz (.int last), .own (.list (ss.map shipD)), .fz (.list (used.map ce)), gv o9, gv o10, .no, .no, gv o13, gv o14, ownL o15, .no, .no, .no]) := by
  refine forL_n (n := n) (fun j σ => ∃ ss used, ShipsP last j used ss ∧ ∃ o3 o9 o10 o13 o14 o15, σ = [SV.fz scr, .fz (.int at_), .fz (.int most), gv o3, a4, a5, .fz (.int last), .own (.list (ss.map shipD)), .fz (.list (used.map ce)), gv o9, gv o10, .no, .no, gv o13, gv o14, ownL o15, .no, .no, .no])
    ⟨[], [], ⟨rfl, rfl, by decide, fun _ h => by cases h⟩, none, none, none, none, none, none, rfl⟩ ?_
  rintro j _ hj ⟨ss, used, H, o3, o9, o10, o13, o14, o15, rfl⟩
  refine ⟨_, by simp; rfl, ?_⟩
  have hh : 0 ≤ at_ + 10 + 14 * (j : Nat) := by omega
  have e1 := DR.eq (at_ + 10 + 14 * (j : Nat)) 5 hh (by decide)
  have l1 := DR.lo (at_ + 10 + 14 * (j : Nat)) 5 hh (by decide)
  have u1 := DR.hi (at_ + 10 + 14 * (j : Nat)) 5 hh (by decide)
  have e2 := DR.eq (at_ + 10 + 14 * (j : Nat) + 1) 4 (by omega) (by decide)
  have l2 := DR.lo (at_ + 10 + 14 * (j : Nat) + 1) 4 (by omega) (by decide)
  have u2 := DR.hi (at_ + 10 + 14 * (j : Nat) + 1) 4 (by omega) (by decide)
  have e3 := DR.eq (at_ + 10 + 14 * (j : Nat) + 2) 5 (by omega) (by decide)
  have l3 := DR.lo (at_ + 10 + 14 * (j : Nat) + 2) 5 (by omega) (by decide)
  have u3 := DR.hi (at_ + 10 + 14 * (j : Nat) + 2) 5 (by omega) (by decide)
  have m14 : dBin .mul (.int 14) (.int (j : Nat)) = .ok (.int (14 * (j : Nat))) := mul_lit (by decide) (by decide)
  have rg : dRng (.int 0) (.int (last + 1)) = .ok (rngD 0 (last + 1)) := by
    show (if _ then _ else _) = _
    rw [if_pos (by omega)]
  obtain ⟨nm, n1, n2⟩ := abc_ix (j := j) (by omega)
  obtain ⟨sg, g1, g2, g3⟩ := sight_ix l3 u3
  simp only [s2b, ss_cons, ss_nil]
  simp only [s_set, x_bin, x_loc, getF_0, getF_s, use_loc, use_bin, use_int, x_int, Res.ok_bind, b_add, m14, of_ok, then_ok, List.set_cons_succ, List.set_cons_zero]
  simp only [s_parO, xs_cons, xs_nil, x_call, x_loc, getF_0, getF_s, Res.ok_bind, x_bin, use_loc, use_int, x_int, b_add, e1, e2, x_lst]
  simp [fits, ownable, setParO, itFz, frzE, rg, -bind_one]
  refine (course_loop DR at_ hat last (at_ + 10 + 14 * (j : Nat)) hh hl (dr (at_ + 10 + 14 * (j : Nat)) 5) (dr (at_ + 10 + 14 * (j : Nat) + 1) 4) ⟨by omega, by omega⟩ ⟨by omega, by omega⟩ _ _ _ _ _ _ _ _ _ _ _ rfl rfl _ _ _ _ _).thenE ?_
  rintro _ ⟨cs, c1, c2, p10, p13, p14, rfl⟩
  have u5 := H.ul
  have ad : dBin .add (.list (used.map ce)) (.list (cs.map ce)) = .ok (.list ((used ++ cs).map ce)) := by
    show (if _ then _ else _) = _
    rw [if_pos (by rw [List.length_map, List.length_map]; omega), List.map_append]
  have hs : ss.length < 16777216 := by have := H.len; omega
  refine ends_mk (by simp [ad, n1, e3, g1, hs]; rfl) ⟨ss ++ [⟨nm, sg, cs⟩], used ++ cs, ⟨by simp [H.len], ?_, by rw [List.length_append]; omega, fun s hm => ?_⟩, some (.int (j : Nat)), some (.int (at_ + 10 + 14 * (j : Nat))), p10, p13, p14, some (cs.map ce), by simp [shipD, ownL]⟩
  · rw [List.map_append, H.names, List.take_add_one, n2]
    rfl
  · rcases List.mem_append.mp hm with z | z
    · obtain ⟨a, b, c⟩ := H.ok s z
      exact ⟨a, b, fun q hq => ⟨(c q hq).1, List.mem_append_left _ (c q hq).2⟩⟩
    · rw [List.mem_singleton.mp z]
      exact ⟨⟨g2, g3⟩, by dsimp only; omega, fun q hq => ⟨c2 q hq, List.mem_append_right _ hq⟩⟩
end
end HF

set_option Elab.async false
set_option autoImplicit false
set_option linter.all false
set_option maxRecDepth 100000
set_option maxHeartbeats 4000000
/-! The fleets that the earlier laws draw, the end. -/
namespace HF
open PySem PySem.Spec PyProof.Rows L2
theorem notin_cells (p : Int × Int) (ps : List (Int × Int)) (h : ps.length ≤ 1000) : dCmp .NotIn (ce p) (.list (ps.map ce)) = .ok (!decide (p ∈ ps)) := by
  have q : dIn (ce p) (.list (ps.map ce)) = .ok (decide (p ∈ ps)) := by
    have sh : SeqAt.shaped (.list (ps.map ce)) = true := by
      obtain ⟨h1, h2⟩ := lay_cells ps
      unfold SeqAt.shaped
      have h3 : PyData.depth (.list (ps.map ce)) = PyData.depthAll (ps.map ce) + 1 := rfl
      rw [h3]
      simp only [PyData.canLay0, h1, Bool.true_and, decide_eq_true_eq]
      omega
    show (if (SeqAt.shaped (ce p) && SeqAt.shaped (.list (ps.map ce))) = true then Res.ok ((ps.map ce).any fun z => PyData.eqv z (ce p)) else .bad) = _
    rw [sh, if_pos (by rfl)]
    congr 1
    rw [List.any_map, Bool.eq_iff_iff]
    simp only [List.any_eq_true, Function.comp, decide_eq_true_eq, eqv_ce]
    constructor
    · rintro ⟨q, h1, h2⟩; exact h2 ▸ h1
    · exact fun h => ⟨p, h, rfl⟩
  have : dCmp .NotIn (ce p) (.list (ps.map ce)) = (dIn (ce p) (.list (ps.map ce)) >>= fun b => .ok !b) := rfl
  rw [this, q]
  rfl
section
variable {φ : Nat → List D → Res D} {fu : Nat} {scr : D} {dr : Int → Int → Int} (DR : Draw φ scr dr) (at_ most : Int) (hat : 0 ≤ at_)
include DR hat
def s6m : Ss := (.cons (.set 11 (.call 1001 (.cons (.loc 0) (.cons (.bin .add (.bin .add (.loc 1) (.int 90)) (.bin .mul (.int 6) (.loc 3))) (.cons (.bin .add (.loc 6) (.int 1)) .nil)))))
      (.cons (.set 12 (.bin .add (.loc 11) (.call 1001 (.cons (.loc 0) (.cons (.bin .add (.bin .add (.loc 1) (.int 91)) (.bin .mul (.int 6) (.loc 3))) (.cons (.bin .add (.bin .sub (.loc 6) (.loc 11)) (.int 1)) .nil))))))
      (.cons (.par [13, 14] (.cons (.call 1001 (.cons (.loc 0) (.cons (.bin .add (.bin .add (.loc 1) (.int 92)) (.bin .mul (.int 6) (.loc 3))) (.cons (.int 5) .nil)))) (.cons (.call 1001 (.cons (.loc 0) (.cons (.bin .add (.bin .add (.loc 1) (.int 93)) (.bin .mul (.int 6) (.loc 3))) (.cons (.int 5) .nil)))) .nil)))
      (.cons (.par [16, 17] (.cons (.call 1001 (.cons (.loc 0) (.cons (.bin .add (.bin .add (.loc 1) (.int 94)) (.bin .mul (.int 6) (.loc 3))) (.cons (.int 4) .nil)))) (.cons (.call 1001 (.cons (.loc 0) (.cons (.bin .add (.bin .add (.loc 1) (.int 95)) (.bin .mul (.int 6) (.loc 3))) (.cons (.int 3) .nil)))) .nil)))
      (.cons (.app 5 (.tup (.cons (.loc 11) (.cons (.loc 12) (.cons (.tup (.cons (.loc 13) (.cons (.loc 14) .nil))) (.cons (.tup (.cons (.bin .add (.loc 13) (.loc 16)) (.cons (.bin .add (.loc 14) (.loc 16)) .nil))) (.cons (.loc 17) .nil)))))))
      .nil)))))
def goodM (last : Int) (m : Mist) : Prop := (0 ≤ m.first ∧ m.first ≤ m.until_ ∧ m.until_ ≤ last) ∧ okC m.one ∧ okC m.other ∧ (m.one.1 ≤ m.other.1 ∧ m.one.2 ≤ m.other.2) ∧ 0 ≤ m.most ∧ m.most ≤ 2
theorem mists_loop (last n : Int) (h0 : 0 ≤ last) (hl : last ≤ 7) (hn : n ≤ 2) (a2 a4 a7 a8 a9 a10 a15 a18 : SV) (o3 o13 o14 : Option D) :
    EndsN (forL (fun x τ => bindT (.one 3) x τ) (fun τ => evSs φ fu s6m τ) (rngD 0 n) [.fz scr, .fz (.int at_), a2, gv o3, a4, .own (.list []), .fz (.int last), a7, a8, a9, a10, .no, .no, gv o13, gv o14, a15, .no, .no, a18])
      (fun σ => ∃ ms : List Mist, ms.length = n.toNat ∧ (∀ m ∈ ms, goodM last m) ∧ ∃ o3 o11 o12 o13 o14 o16 o17, σ = [.fz scr, .fz (.int at_), a2, gv o3, a4, .own (.list (ms.map mistD)), .fz (.int last), a7, a8, a9, a10, gv o11, gv o12, gv o13, gv o14, a15, gv o16, gv o17, a18]) := by
  refine forL_n (n := n) (fun j σ => ∃ ms : List Mist, ms.length = j ∧ (∀ m ∈ ms, goodM last m) ∧ ∃ o3 o11 o12 o13 o14 o16 o17, σ = [.fz scr, .fz (.int at_), a2, gv o3, a4, .own (.list (ms.map mistD)), .fz (.int last), a7, a8, a9, a10, gv o11, gv o12, gv o13, gv o14, a15, gv o16, gv o17, a18])
    ⟨[], rfl, (fun _ h => by cases h), o3, none, none, o13, o14, none, none, rfl⟩ ?_
  rintro j _ hj ⟨ms, hm, hg, o3, o11, o12, o13, o14, o16, o17, rfl⟩
  refine ⟨_, by simp; rfl, ?_⟩
  have e1 := DR.eq (at_ + 90 + 6 * (j : Nat)) (last + 1) (by omega) (by omega)
  have l1 := DR.lo (at_ + 90 + 6 * (j : Nat)) (last + 1) (by omega) (by omega)
  have u1 := DR.hi (at_ + 90 + 6 * (j : Nat)) (last + 1) (by omega) (by omega)
  generalize dr (at_ + 90 + 6 * (j : Nat)) (last + 1) = f at e1 l1 u1
  have e2 := DR.eq (at_ + 91 + 6 * (j : Nat)) (last - f + 1) (by omega) (by omega)
  have l2 := DR.lo (at_ + 91 + 6 * (j : Nat)) (last - f + 1) (by omega) (by omega)
  have u2 := DR.hi (at_ + 91 + 6 * (j : Nat)) (last - f + 1) (by omega) (by omega)
  generalize dr (at_ + 91 + 6 * (j : Nat)) (last - f + 1) = u at e2 l2 u2
  have e3 := DR.eq (at_ + 92 + 6 * (j : Nat)) 5 (by omega) (by omega)
  have l3 := DR.lo (at_ + 92 + 6 * (j : Nat)) 5 (by omega) (by omega)
  have u3 := DR.hi (at_ + 92 + 6 * (j : Nat)) 5 (by omega) (by omega)
  generalize dr (at_ + 92 + 6 * (j : Nat)) 5 = x at e3 l3 u3
  have e4 := DR.eq (at_ + 93 + 6 * (j : Nat)) 5 (by omega) (by omega)
  have l4 := DR.lo (at_ + 93 + 6 * (j : Nat)) 5 (by omega) (by omega)
  have u4 := DR.hi (at_ + 93 + 6 * (j : Nat)) 5 (by omega) (by omega)
  generalize dr (at_ + 93 + 6 * (j : Nat)) 5 = y at e4 l4 u4
  have e5 := DR.eq (at_ + 94 + 6 * (j : Nat)) 4 (by omega) (by omega)
  have l5 := DR.lo (at_ + 94 + 6 * (j : Nat)) 4 (by omega) (by omega)
  have u5 := DR.hi (at_ + 94 + 6 * (j : Nat)) 4 (by omega) (by omega)
  generalize dr (at_ + 94 + 6 * (j : Nat)) 4 = o at e5 l5 u5
  have e6 := DR.eq (at_ + 95 + 6 * (j : Nat)) 3 (by omega) (by omega)
  have l6 := DR.lo (at_ + 95 + 6 * (j : Nat)) 3 (by omega) (by omega)
  have u6 := DR.hi (at_ + 95 + 6 * (j : Nat)) 3 (by omega) (by omega)
  generalize dr (at_ + 95 + 6 * (j : Nat)) 3 = s at e6 l6 u6
  have m6 : dBin .mul (.int 6) (.int (j : Nat)) = .ok (.int (6 * (j : Nat))) := mul_lit (by decide) (by decide)
  have hs : ms.length < 16777216 := by omega
  refine ends_mk (by simp [s6m, m6, e1, e2, e3, e4, e5, e6, hs, noOwn_eq, setAll, -b_mul]; rfl) ⟨ms ++ [⟨f, f + u, (x, y), (x + o, y + o), s⟩], by simp [hm], fun m hm => ?_, some (.int (j : Nat)), some (.int f), some (.int (f + u)), some (.int x), some (.int y), some (.int o), some (.int s), by simp [mistD, ce]⟩
  rcases List.mem_append.mp hm with z | z
  · exact hg m z
  · rw [List.mem_singleton.mp z]
    refine ⟨⟨l1, ?_, ?_⟩, ⟨⟨l3, ?_⟩, l4, ?_⟩, ⟨⟨?_, ?_⟩, ?_, ?_⟩, ⟨?_, ?_⟩, l6, ?_⟩ <;> dsimp only <;> omega
theorem fleet2_ok (h2 : 2 ≤ most) (h5 : most ≤ 5) : ∃ G, DrawnF G most ∧ retOf (evSs φ fu f__law_fleet2.body (start0 19 [scr, .int at_, .int most])) = .ok G.toD := by
  have e1 := DR.eq at_ 5 hat (by decide)
  have l1 := DR.lo at_ 5 hat (by decide)
  have u1 := DR.hi at_ 5 hat (by decide)
  generalize hd1 : dr at_ 5 = d1 at e1 l1 u1
  have e2 := DR.eq (at_ + 1) (most - 1) (by omega) (by omega)
  have l2 := DR.lo (at_ + 1) (most - 1) (by omega) (by omega)
  have u2 := DR.hi (at_ + 1) (most - 1) (by omega) (by omega)
  generalize dr (at_ + 1) (most - 1) = d2 at e2 l2 u2
  have e8 := DR.eq (at_ + 8) 3 (by omega) (by omega)
  have l8 := DR.lo (at_ + 8) 3 (by omega) (by omega)
  have u8 := DR.hi (at_ + 8) 3 (by omega) (by omega)
  generalize dr (at_ + 8) 3 = d8 at e8 l8 u8
  have rg1 : dRng (.int 0) (.int (2 + d2)) = .ok (rngD 0 (2 + d2)) := by
    show (if _ then _ else _) = _
    rw [if_pos (by omega)]
  have rg8 : dRng (.int 0) (.int d8) = .ok (rngD 0 d8) := by
    show (if _ then _ else _) = _
    rw [if_pos (by omega)]
  have rg3 : dRng (.int 0) (.int 3) = .ok (rngD 0 3) := rfl
  have hs1 : evS φ fu f__law_fleet2_s1 (start0 19 [scr, .int at_, .int most]) = .ok .nx [.fz scr, .fz (.int at_), .fz (.int most), .no, .no, .no, .fz (.int (1 + d1)), .own (.list []), .fz (.list []), .no, .no, .no, .no, .no, .no, .no, .no, .no, .no] := by
    simp [f__law_fleet2_s1, start0, e1, fits, ownable, setParO]
  have hs2 : evS φ fu f__law_fleet2_s2 [.fz scr, .fz (.int at_), .fz (.int most), .no, .no, .no, .fz (.int (1 + d1)), .own (.list []), .fz (.list []), .no, .no, .no, .no, .no, .no, .no, .no, .no, .no] = forL (fun x τ => bindT (.one 3) x τ) (fun τ => evSs φ fu s2b τ) (rngD 0 (2 + d2)) [.fz scr, .fz (.int at_), .fz (.int most), .no, .no, .no, .fz (.int (1 + d1)), .own (.list []), .fz (.list []), .no, .no, .no, .no, .no, .no, .no, .no, .no, .no] := by
    have q : evI φ (.rng1 (.bin .add (.int 2) (.call 1001 (.cons (.loc 0) (.cons (.bin .add (.loc 1) (.int 1)) (.cons (.bin .sub (.loc 2) (.int 1)) .nil)))))) [.fz scr, .fz (.int at_), .fz (.int most), .no, .no, .no, .fz (.int (1 + d1)), .own (.list []), .fz (.list []), .no, .no, .no, .no, .no, .no, .no, .no, .no, .no] = .ok (rngD 0 (2 + d2)) := by
      simp [e2, rg1]
    show SR.of (evI φ _ _) _ _ = _
    rw [q]
    rfl
  obtain ⟨ρ2, hl2, ss, used, H, o3, o9, o10, o13, o14, o15, rfl⟩ := ships_loop DR at_ most hat (1 + d1) (2 + d2) (by omega) (by omega) (by omega) .no .no
  obtain ⟨cs, c1, c2, hs3⟩ : ∃ cs : List (Int × Int), cs.length = 3 ∧ (∀ c ∈ cs, okC c) ∧ evS φ fu f__law_fleet2_s3 [.fz scr, .fz (.int at_), .fz (.int most), gv o3, .no, .no, .fz (.int (1 + d1)), .own (.list (ss.map shipD)), .fz (.list (used.map ce)), gv o9, gv o10, .no, .no, gv o13, gv o14, ownL o15, .no, .no, .no] = .ok .nx [.fz scr, .fz (.int at_), .fz (.int most), gv o3, .fz (.list (cs.map ce)), .no, .fz (.int (1 + d1)), .own (.list (ss.map shipD)), .fz (.list (used.map ce)), gv o9, gv o10, .no, .no, gv o13, gv o14, ownL o15, .no, .no, .no] := by
    refine ⟨(List.range 3).map fun k => (dr (at_ + 2 + (k : Nat)) 6, dr (at_ + 5 + (k : Nat)) 5), by simp, fun c hc => ?_, ?_⟩
    · obtain ⟨k, hk, rfl⟩ := List.mem_map.mp hc
      have a1 := DR.lo (at_ + 2 + (k : Nat)) 6 (by omega) (by decide)
      have a2 := DR.hi (at_ + 2 + (k : Nat)) 6 (by omega) (by decide)
      have a3 := DR.lo (at_ + 5 + (k : Nat)) 5 (by omega) (by decide)
      have a4 := DR.hi (at_ + 5 + (k : Nat)) 5 (by omega) (by decide)
      refine ⟨⟨?_, ?_⟩, ?_, ?_⟩ <;> dsimp only <;> omega
    · have q := compL_map0 (enc := fun k : Nat => (.int (k : Nat) : D)) (bnd := fun x => bindT (.one 3) x [.fz scr, .fz (.int at_), .fz (.int most), .no, .no, .no, .fz (.int (1 + d1)), .own (.list (ss.map shipD)), .fz (.list (used.map ce)), gv o9, gv o10, .no, .no, gv o13, gv o14, ownL o15, .no, .no, .no]) (c := fun τ => evC φ .no τ) (e := fun τ => ev φ (.tup (.cons (.call 1001 (.cons (.loc 0) (.cons (.bin .add (.bin .add (.loc 1) (.int 2)) (.loc 3)) (.cons (.int 6) .nil)))) (.cons (.call 1001 (.cons (.loc 0) (.cons (.bin .add (.bin .add (.loc 1) (.int 5)) (.loc 3)) (.cons (.int 5) .nil)))) .nil))) τ)
        (fun k => ce (dr (at_ + 2 + (k : Nat)) 6, dr (at_ + 5 + (k : Nat)) 5)) (xs := List.range 3) (fun _ => rfl) fun k hk => by
          have a1 := DR.eq (at_ + 2 + (k : Nat)) 6 (by omega) (by decide)
          have a3 := DR.eq (at_ + 5 + (k : Nat)) 5 (by omega) (by decide)
          exact ⟨_, rfl, by simp [a1, a3, ce]⟩
      have q2 : rngD 0 3 = (List.range 3).map fun k : Nat => (.int (k : Nat) : D) := rfl
      simp only [f__law_fleet2_s3, s_set, x_comp, xi_rng1, x_int, Res.ok_bind, rg3, noOwn_eq, List.map_cons, List.map_nil, wipeS]
      simp only [List.all_cons, List.all_nil, List.getElem?_cons_succ, List.getElem?_cons_zero, nOwn_gv, Bool.and_true, Bool.true_eq_false, if_false, List.set_cons_succ, List.set_cons_zero]
      rw [q2, q]
      simp
  obtain ⟨isl, i1, i2, hs4⟩ : ∃ isl : List (Int × Int), (∀ c ∈ isl, okC c ∧ c ∉ used) ∧ (isl.length ≤ 3 ∧ rise (isl.map ce) = true) ∧ evS φ fu f__law_fleet2_s4 [.fz scr, .fz (.int at_), .fz (.int most), gv o3, .fz (.list (cs.map ce)), .no, .fz (.int (1 + d1)), .own (.list (ss.map shipD)), .fz (.list (used.map ce)), gv o9, gv o10, .no, .no, gv o13, gv o14, ownL o15, .no, .no, .no] = .ok .nx [.fz scr, .fz (.int at_), .fz (.int most), gv o3, .fz (.list (isl.map ce)), .no, .fz (.int (1 + d1)), .own (.list (ss.map shipD)), .fz (.list (used.map ce)), gv o9, gv o10, .no, .no, gv o13, gv o14, ownL o15, .no, .no, .no] := by
    obtain ⟨ys, y1, y2, _, y4, y5⟩ := sset_typed ce (cs.filter fun c => !decide (c ∈ used)) (setOk_cells _ (by
      have := List.length_filter_le (fun c => !decide (c ∈ used)) cs
      omega))
    refine ⟨ys, fun c hc => ?_, ⟨?_, y5⟩, ?_⟩
    · have := y2 c hc
      rw [List.mem_filter] at this
      exact ⟨c2 c this.1, by simpa using this.2⟩
    · have := List.length_filter_le (fun c => !decide (c ∈ used)) cs
      omega
    · have ul := H.ul
      have q := compL_map (enc := ce) (bnd := fun x => bindT (.one 18) x [.fz scr, .fz (.int at_), .fz (.int most), gv o3, .fz (.list (cs.map ce)), .no, .fz (.int (1 + d1)), .own (.list (ss.map shipD)), .fz (.list (used.map ce)), gv o9, gv o10, .no, .no, gv o13, gv o14, ownL o15, .no, .no, .no]) (c := fun τ => evC φ (.yes (.cmp .NotIn (.loc 18) (.loc 8))) τ) (e := fun τ => getF τ 18)
        ce (fun c => !decide (c ∈ used)) (xs := cs) fun c hc => ⟨_, rfl, by simp [notin_cells c used (by omega)], fun _ => rfl⟩
      simp only [f__law_fleet2_s4, s_set, x_sset, use_comp, x_comp, xi_val, use_loc, x_loc, getF_0, getF_s, Res.ok_bind, seq_l, noOwn_eq, List.map_cons, List.map_nil, wipeS]
      simp only [List.all_cons, List.all_nil, List.getElem?_cons_succ, List.getElem?_cons_zero, nOwn_no, Bool.and_true, Bool.true_eq_false, if_false, List.set_cons_succ, List.set_cons_zero]
      rw [q]
      simp [y1]
  have hs6 : evS φ fu f__law_fleet2_s6 [.fz scr, .fz (.int at_), .fz (.int most), gv o3, .fz (.list (isl.map ce)), .own (.list []), .fz (.int (1 + d1)), .own (.list (ss.map shipD)), .fz (.list (used.map ce)), gv o9, gv o10, .no, .no, gv o13, gv o14, ownL o15, .no, .no, .no] = forL (fun x τ => bindT (.one 3) x τ) (fun τ => evSs φ fu s6m τ) (rngD 0 d8) [.fz scr, .fz (.int at_), .fz (.int most), gv o3, .fz (.list (isl.map ce)), .own (.list []), .fz (.int (1 + d1)), .own (.list (ss.map shipD)), .fz (.list (used.map ce)), gv o9, gv o10, .no, .no, gv o13, gv o14, ownL o15, .no, .no, .no] := by
    have q : evI φ (.rng1 (.call 1001 (.cons (.loc 0) (.cons (.bin .add (.loc 1) (.int 8)) (.cons (.int 3) .nil))))) [.fz scr, .fz (.int at_), .fz (.int most), gv o3, .fz (.list (isl.map ce)), .own (.list []), .fz (.int (1 + d1)), .own (.list (ss.map shipD)), .fz (.list (used.map ce)), gv o9, gv o10, .no, .no, gv o13, gv o14, ownL o15, .no, .no, .no] = .ok (rngD 0 d8) := by
      simp [e8, rg8]
    show SR.of (evI φ _ _) _ _ = _
    rw [q]
    rfl
  obtain ⟨ρ6, hl6, ms, m1, m2, p3, p11, p12, p13, p14, p16, p17, rfl⟩ := mists_loop DR at_ hat (1 + d1) d8 (by omega) (by omega) (by omega) (.fz (.int most)) (.fz (.list (isl.map ce))) (.own (.list (ss.map shipD))) (.fz (.list (used.map ce))) (gv o9) (gv o10) (ownL o15) .no o3 o13 o14
  obtain ⟨ys, y1, y2, _, y4, y5⟩ := sset_typed mistD ms (setOk_mists ms (by omega))
  refine ⟨⟨1 + d1, isl, ss, ys⟩, ⟨by dsimp only; omega, by dsimp only; omega, by have := H.len; dsimp only; omega, by have := H.len; dsimp only; omega, ?_, fun s hs => ?_, i2.1, fun c hc => (i1 c hc).1, i2.2, by dsimp only; omega, fun m hm => m2 m (y2 m hm), y5⟩, ?_⟩
  · have := H.names
    rw [H.len]
    exact this
  · obtain ⟨a, b, c⟩ := H.ok s hs
    exact ⟨a, b, fun q hq => ⟨(c q hq).1, fun z => (i1 q z).2 (c q hq).2⟩⟩
  · show retOf (evSs φ fu (.cons f__law_fleet2_s1 (.cons f__law_fleet2_s2 (.cons f__law_fleet2_s3 (.cons f__law_fleet2_s4 (.cons f__law_fleet2_s5 (.cons f__law_fleet2_s6 (.cons f__law_fleet2_s7 .nil))))))) _) = _
    rw [ss_cons, hs1, then_ok, ss_cons, hs2, hl2, then_ok, ss_cons, hs3, then_ok, ss_cons, hs4, then_ok, ss_cons]
    rw [show evS φ fu f__law_fleet2_s5 [.fz scr, .fz (.int at_), .fz (.int most), gv o3, .fz (.list (isl.map ce)), .no, .fz (.int (1 + d1)), .own (.list (ss.map shipD)), .fz (.list (used.map ce)), gv o9, gv o10, .no, .no, gv o13, gv o14, ownL o15, .no, .no, .no] = .ok .nx [.fz scr, .fz (.int at_), .fz (.int most), gv o3, .fz (.list (isl.map ce)), .own (.list []), .fz (.int (1 + d1)), .own (.list (ss.map shipD)), .fz (.list (used.map ce)), gv o9, gv o10, .no, .no, gv o13, gv o14, ownL o15, .no, .no, .no] from rfl, then_ok, ss_cons, hs6, hl6, then_ok, ss_cons]
    simp [f__law_fleet2_s7, y1, Fleet.toD]
end
end HF

set_option Elab.async false
set_option autoImplicit false
set_option linter.all false
set_option maxRecDepth 100000
set_option maxHeartbeats 4000000
/-! Draws, drawn fleets, slices. -/
namespace HF
open PySem PySem.Spec PyProof.Rows L2
theorem draws {T : List Fn} (h : findF T 1001 = some f_drawn) (fu n : Nat) (hf : 60 ≤ fu) (ns : List Int) (hn63 : ns.length ≤ 63) : ∃ dr, Draw (run T fu (n + 1)) (scrD ns) dr := by
  have ex : ∀ k m : Int, ∃ d, 0 ≤ k → 0 < m → (0 ≤ d ∧ d < m ∧ run T fu (n + 1) 1001 [scrD ns, .int k, .int m] = .ok (.int d)) := fun k m => by
    by_cases hk : 0 ≤ k
    · by_cases hm : 0 < m
      · obtain ⟨d, a, b, c⟩ := drawn_ok (run T fu n) fu hf ns hn63 k m hk hm
        exact ⟨d, fun _ _ => ⟨a, b, (call_eq h rfl).trans c⟩⟩
      · exact ⟨0, fun _ z => absurd z hm⟩
    · exact ⟨0, fun z => absurd z hk⟩
  refine ⟨fun k m => Classical.choose (ex k m), ⟨fun k m hk hm => (Classical.choose_spec (ex k m) hk hm).2.2, fun k m hk hm => (Classical.choose_spec (ex k m) hk hm).1, fun k m hk hm => (Classical.choose_spec (ex k m) hk hm).2.1⟩⟩
theorem fleet2_run {T : List Fn} (h : findF T 1001 = some f_drawn) {f : Nat} {F : Fn} (hF : findF T f = some F) (hb : F.body = f__law_fleet2.body) (hls : F.ns.length = 19) (hp : F.ps.length = 3) (fu n : Nat) (hf : 60 ≤ fu) (ns : List Int) (hn63 : ns.length ≤ 63) (at_ most : Int) (hat : 0 ≤ at_) (h2 : 2 ≤ most) (h5 : most ≤ 5) :
    ∃ G, DrawnF G most ∧ run T fu (n + 2) f [scrD ns, .int at_, .int most] = .ok G.toD := by
  obtain ⟨dr, DR⟩ := draws h fu n hf ns hn63
  obtain ⟨G, g, e⟩ := fleet2_ok (fu := fu) DR at_ most hat h2 h5
  refine ⟨G, g, (call_eq hF (by rw [hp]; rfl)).trans ?_⟩
  rw [hb, hls]
  exact e
/-! fit -/
theorem fit_map {α : Type} {enc : α → D} {xs : List α} (h : ∀ x ∈ xs, fitD (enc x) = true) : fitDs (xs.map enc) = true := by
  rw [fitDs_all, List.all_map]
  exact List.all_eq_true.mpr h
@[simp] theorem fit_ce (c : Int × Int) : fitD (ce c) = true := rfl
@[simp] theorem fit_mist (m : Mist) : fitD (mistD m) = true := rfl
@[simp] theorem fit_ces (cs : List (Int × Int)) : fitDs (cs.map ce) = true := fit_map fun _ _ => rfl
@[simp] theorem fit_mists (cs : List Mist) : fitDs (cs.map mistD) = true := fit_map fun _ _ => rfl
theorem fit_ship {s : Ship} (h : PyData.strOk s.name = true ∧ s.name.length ≤ 16777216) : fitD (shipD s) = true := by
  simp [shipD, fitD, fitDs, h]
@[simp] theorem fit_int (i : Int) : fitD (.int i) = true := rfl
@[simp] theorem fit_bool (i : Bool) : fitD (.bool i) = true := rfl
@[simp] theorem fit_none : fitD .none = true := rfl
@[simp] theorem fit_t (xs : List D) : fitD (.tuple xs) = fitDs xs := rfl
@[simp] theorem fit_l (xs : List D) : fitD (.list xs) = fitDs xs := rfl
@[simp] theorem fits_nil : fitDs [] = true := rfl
@[simp] theorem fits_cons (d : D) (r : List D) : fitDs (d :: r) = (fitD d && fitDs r) := rfl
@[simp] theorem fits_app (a b : List D) : fitDs (a ++ b) = (fitDs a && fitDs b) := by
  rw [fitDs_all, fitDs_all, fitDs_all, List.all_append]
theorem fit_str {s : Str} (h : PyData.strOk s = true) (h' : s.length ≤ 16777216) : fitD (.str s) = true := by
  show (PyData.strOk s && decide (s.length ≤ 16777216)) = true
  rw [h, decide_eq_true h']
  rfl
theorem fit_abc : ∀ x ∈ abc, fitD (.str x) = true ∧ nameB x = true ∧ PyData.strOk x = true ∧ x.length ≤ 16777216 := by decide +kernel
/-! what is drawn is a fleet -/
theorem isW_i (i l m : Int) : isW (.int i) l m = (decide (l ≤ i) && decide (i ≤ m)) := rfl
@[simp] theorem cellX_p (p : Int × Int) : cellX (ce p) = cellB p := rfl
theorem cellB_ok {p : Int × Int} (h : okC p) : cellB p = true := by
  obtain ⟨⟨a, b⟩, c, d⟩ := h
  simp [cellB, inB, a, b, c, d]
section
variable {G : Fleet} {most : Int} (g : DrawnF G most)
include g
theorem dr_islX : islX (.tuple (G.isl.map ce)) = true := by
  have := g.isl3
  simp only [islX, Bool.and_eq_true, decide_eq_true_eq]
  refine ⟨by rw [List.length_map]; omega, ?_, g.islR⟩
  rw [List.all_map]
  exact List.all_eq_true.mpr fun c hc => cellB_ok (g.isl c hc)
theorem any_cells (p : Int × Int) (ps : List (Int × Int)) : ((ps.map ce).any fun z => PyData.eqv z (ce p)) = decide (p ∈ ps) := by
  rw [List.any_map, Bool.eq_iff_iff]
  simp only [List.any_eq_true, Function.comp, decide_eq_true_eq, eqv_ce]
  constructor
  · rintro ⟨q, h1, h2⟩; exact h2 ▸ h1
  · exact fun h => ⟨p, h, rfl⟩
theorem dr_name {s : Ship} (hs : s ∈ G.ships) : s.name ∈ abc := by
  have : s.name ∈ G.ships.map (·.name) := List.mem_map_of_mem hs
  rw [g.names] at this
  exact List.mem_of_mem_take this
theorem dr_crs {s : Ship} (hs : s ∈ G.ships) (isl : List (Int × Int)) (hi : isl = G.isl ∨ isl = []) : crsX G.last (isl.map ce) (.tuple (s.course.map ce)) = true := by
  obtain ⟨⟨a, b⟩, c, d⟩ := g.ships s hs
  simp only [crsX, Bool.and_eq_true, decide_eq_true_eq]
  refine ⟨by rw [List.length_map]; exact c, ?_⟩
  rw [List.all_map]
  refine List.all_eq_true.mpr fun q hq => ?_
  show (cellB q && !((isl.map ce).any fun z => PyData.eqv z (ce q))) = true
  rw [any_cells g, cellB_ok (d q hq).1]
  rcases hi with rfl | rfl
  · rw [decide_eq_false (d q hq).2]
    rfl
  · rfl
theorem dr_shipX {s : Ship} (hs : s ∈ G.ships) (isl : List (Int × Int)) (hi : isl = G.isl ∨ isl = []) : shipX G.last (isl.map ce) (shipD s) = true := by
  obtain ⟨⟨a, b⟩, c, d⟩ := g.ships s hs
  show (nameB s.name && (isW (.int s.sight) 0 9 && crsX G.last (isl.map ce) (.tuple (s.course.map ce)))) = true
  rw [(fit_abc _ (dr_name g hs)).2.1, dr_crs g hs isl hi, isW_i, decide_eq_true a, decide_eq_true (show s.sight ≤ 9 by omega)]
  rfl
theorem dr_mistX {m : Mist} (hm : m ∈ G.mists) : mistX G.last (mistD m) = true := by
  obtain ⟨⟨a, b, c⟩, d, e, ⟨f, f'⟩, h, i⟩ := g.mists m hm
  show ((isW (.int m.first) 0 G.last && (isW (.int m.until_) m.first G.last && isW (.int m.most) 0 9)) && (cellB m.one && (cellB m.other && (decide (m.one.1 ≤ m.other.1) && decide (m.one.2 ≤ m.other.2))))) = true
  simp only [isW_i, cellB_ok d, cellB_ok e, Bool.and_eq_true, decide_eq_true_eq]
  exact ⟨⟨⟨a, by omega⟩, ⟨b, c⟩, h, by omega⟩, trivial, trivial, f, f'⟩
theorem abc_rise (k : Nat) (h : k ≤ 5) : rise ((abc.take k).map .str) = true := by
  have : k = 0 ∨ k = 1 ∨ k = 2 ∨ k = 3 ∨ k = 4 ∨ k = 5 := by omega
  rcases this with rfl | rfl | rfl | rfl | rfl | rfl <;> decide +kernel
theorem dr_rise (h5 : most ≤ 5) : rise (G.ships.map fun s => .str s.name) = true := by
  have e : (G.ships.map fun s => PyData.str s.name) = (G.ships.map (·.name)).map .str := by rw [List.map_map]; rfl
  rw [e, g.names]
  exact abc_rise g _ (by have := g.nm; omega)
theorem dr_shipsX (h5 : most ≤ 5) (isl : List (Int × Int)) (hi : isl = G.isl ∨ isl = []) : shipsX G.last (isl.map ce) (.tuple (G.ships.map shipD)) = true := by
  have a := g.n2
  have b := g.nm
  simp only [shipsX, Bool.and_eq_true, decide_eq_true_eq, List.length_map]
  refine ⟨⟨by omega, by omega⟩, ?_, ?_⟩
  · rw [List.all_map]
    exact List.all_eq_true.mpr fun s hs => dr_shipX g hs isl hi
  · rw [List.map_map]
    exact dr_rise g h5
theorem dr_mistsX : mistsX G.last (.tuple (G.mists.map mistD)) = true := by
  have a := g.mis2
  simp only [mistsX, Bool.and_eq_true, decide_eq_true_eq, List.length_map]
  refine ⟨by omega, ?_, g.misR⟩
  rw [List.all_map]
  exact List.all_eq_true.mpr fun s hs => dr_mistX g hs
theorem dr_lastX : isW (.int G.last) 0 7 = true := by
  have := g.last1
  have := g.last5
  rw [isW_i, decide_eq_true (by omega), decide_eq_true (by omega)]
  rfl
theorem dr_fleetX (h5 : most ≤ 5) : fleetX G.toD = true := by
  show (isW (.int G.last) 0 7 && (islX (.tuple (G.isl.map ce)) && (shipsX G.last (G.isl.map ce) (.tuple (G.ships.map shipD)) && mistsX G.last (.tuple (G.mists.map mistD))))) = true
  rw [dr_lastX g, dr_islX g, dr_shipsX g h5 _ (.inl rfl), dr_mistsX g]
  rfl
theorem dr_fitS : fitDs (G.ships.map shipD) = true := fit_map fun s hs => fit_ship (fit_abc _ (dr_name g hs)).2.2
theorem dr_fit : fitD G.toD = true := by
  simp [Fleet.toD, dr_fitS g]
end
/-! slices -/
@[simp] theorem sl_2of3 (a b c : D) : dSl (.tuple [a, b, c]) none (some 2) = .ok (.tuple [a, b]) := rfl
@[simp] theorem sl_4of5 (a b c d e : D) : dSl (.tuple [a, b, c, d, e]) none (some 4) = .ok (.tuple [a, b, c, d]) := rfl
@[simp] theorem sl_3of4 (a b c d : D) : dSl (.tuple [a, b, c, d]) none (some 3) = .ok (.tuple [a, b, c]) := rfl
@[simp] theorem sl_2up5 (a b c d e : D) : dSl (.tuple [a, b, c, d, e]) (some 2) none = .ok (.tuple [c, d, e]) := rfl
@[simp] theorem sl_1up (a : D) (r : List D) : dSl (.tuple (a :: r)) (some 1) none = .ok (.tuple r) := by
  show Res.ok (PyData.tuple (cutD (a :: r) (some 1) none)) = _
  rw [drop_cut]
  rfl
@[simp] theorem sl_to1 (a : D) (r : List D) : dSl (.tuple (a :: r)) none (some 1) = .ok (.tuple [a]) := by
  show Res.ok (PyData.tuple (cutD (a :: r) none (some ((1 : Nat) : Int)))) = _
  rw [cut_take]
  rfl
@[simp] theorem b_isnotF (b : Bool) : dCmp .IsNot (.bool b) (.bool false) = .ok b := by cases b <;> rfl
@[simp] theorem b_isnotT (b : Bool) : dCmp .IsNot (.bool b) (.bool true) = .ok (!b) := by cases b <;> rfl
@[simp] theorem b_neNil : dCmp .NotEq (.list []) (.list []) = .ok false := rfl
@[simp] theorem b_eqNil : dCmp .Eq (.list []) (.list []) = .ok true := rfl
theorem b_addT (a b : List D) (h : a.length + b.length ≤ 16777216) : dBin .add (.tuple a) (.tuple b) = .ok (.tuple (a ++ b)) := if_pos h
theorem b_addL (a b : List D) (h : a.length + b.length ≤ 16777216) : dBin .add (.list a) (.list b) = .ok (.list (a ++ b)) := if_pos h
theorem compL_none {bnd : D → Res (List SV)} {c : List SV → Res Bool} {e : List SV → Res D} : ∀ {xs : List D}, (∀ x ∈ xs, ∃ τ, bnd x = .ok τ ∧ c τ = .ok false) → compL bnd c e xs = .ok []
  | [], _ => rfl
  | x :: xs, h => by
    obtain ⟨τ, h1, h2⟩ := h x List.mem_cons_self
    have ih := compL_none (bnd := bnd) (c := c) (e := e) fun y hy => h y (List.mem_cons_of_mem _ hy)
    unfold compL
    rw [h1]
    simp only [Res.ok_bind]
    rw [h2]
    simp only [Res.ok_bind]
    rw [if_neg Bool.false_ne_true, ih]
end HF

set_option Elab.async false
set_option autoImplicit false
set_option linter.all false
set_option maxRecDepth 100000
set_option maxHeartbeats 4000000
/-! Sightings. -/
namespace HF
open PySem PySem.Spec PyProof.Rows L2
structure HasS (T : List Fn) : Prop extends HasF T where
  look : findF T 18 = some f_look_fleet
  nms : findF T 19 = some f_plain_names
  lship : findF T 21 = some f_look_ship
  lhour : findF T 22 = some f_look_hour
  isin : findF T 23 = some f_is_in
  betw : findF T 24 = some f_is_between
  seesat : findF T 25 = some f_sees_at
  plainS : findF T 28 = some f_plain_sightings
  sights : findF T 29 = some f_sightings
structure HasSee (T : List Fn) : Prop extends HasS T where
  shipof : findF T 26 = some f_ship_of
  sees : findF T 27 = some f_sees
structure FleetOk (G : Fleet) : Prop where
  wf : G.wf
  fb : fleetB G = true
  nd : G.names.Nodup
theorem FleetOk.parts {G : Fleet} (h : FleetOk G) : (0 ≤ G.last ∧ G.last ≤ 7) ∧ (∀ c ∈ G.isl, okC c) ∧ (1 ≤ G.ships.length ∧ G.ships.length ≤ 5) ∧ (∀ s ∈ G.ships, nameB s.name = true ∧ (0 ≤ s.sight ∧ s.sight ≤ 9) ∧ (s.course.length : Int) = G.last + 1 ∧ ∀ c ∈ s.course, okC c) := by
  have hb := h.fb
  unfold fleetB islB at hb
  simp only [Bool.and_eq_true, decide_eq_true_eq, List.all_eq_true] at hb
  obtain ⟨h1, ⟨h2, h3, _⟩, h4, h5, h6, h7, h8, _⟩ := hb
  refine ⟨by simpa [inB] using h1, fun c hc => okC_of (h3 c hc), h4, fun s hs => ?_⟩
  have z := h5 s hs
  unfold shipB at z
  simp only [Bool.and_eq_true, decide_eq_true_eq, List.all_eq_true] at z
  exact ⟨z.1, by simpa [inB] using z.2.1, z.2.2.1, fun c hc => okC_of (z.2.2.2 c hc).1⟩
theorem canlay_course (cs : List (Int × Int)) : PyData.canLay0 (.tuple (cs.map ce)) = true := (lay_cells cs).1
theorem shaped_ship {s : Ship} (h : PyData.strOk s.name = true) : SeqAt.shaped (shipD s) = true := by
  obtain ⟨h1, h2⟩ := lay_cells s.course
  unfold SeqAt.shaped
  have h3 : PyData.depth (shipD s) ≤ 4 := by
    simp [shipD, PyData.depth, PyData.depthAll]
    omega
  have h4 : PyData.canLay0 (shipD s) = true := by
    simp [shipD, PyData.canLay0, PyData.canLayAll0, h, h1]
  rw [h4]
  simp only [Bool.true_and, decide_eq_true_eq]
  omega
theorem eqv_name {s t : Ship} (h : s.name ≠ t.name) : PyData.eqv (shipD s) (shipD t) = false := by
  have : (s.name == t.name) = false := by simpa using h
  simp [shipD, PyData.eqv, PyData.eqvAll, h]
theorem eqvAll_cells : ∀ cs : List (Int × Int), PyData.eqvAll (cs.map ce) (cs.map ce) = true
  | [] => rfl
  | c :: r => by
    have : PyData.eqv (ce c) (ce c) = true := by rw [eqv_ce]; simp
    rw [List.map_cons, PyData.eqvAll, this, eqvAll_cells r]
    rfl
theorem eqv_ship (s : Ship) : PyData.eqv (shipD s) (shipD s) = true := by
  simp [shipD, PyData.eqv, PyData.eqvAll, eqvAll_cells]
theorem map_inj {α β : Type} {f : α → β} : ∀ {l : List α}, (l.map f).Nodup → ∀ {a b : α}, a ∈ l → b ∈ l → f a = f b → a = b
  | [], _, _, _, ha, _, _ => by cases ha
  | x :: r, nd, a, b, ha, hb, e => by
    rw [List.map_cons, List.nodup_cons] at nd
    rcases List.mem_cons.mp ha with h1 | h1 <;> rcases List.mem_cons.mp hb with h2 | h2
    · rw [h1, h2]
    · exact absurd (List.mem_map.mpr ⟨b, h2, by rw [← e, h1]⟩) nd.1
    · exact absurd (List.mem_map.mpr ⟨a, h1, by rw [e, h2]⟩) nd.1
    · exact map_inj nd.2 h1 h2 e
theorem ship_inj {G : Fleet} (nd : G.names.Nodup) {s t : Ship} (hs : s ∈ G.ships) (ht : t ∈ G.ships) (e : s.name = t.name) : s = t := map_inj nd hs ht e
theorem eq_ships {G : Fleet} (w : G.wf) (nd : G.names.Nodup) {s t : Ship} (hs : s ∈ G.ships) (ht : t ∈ G.ships) : dCmp .Eq (shipD s) (shipD t) = .ok (decide (s.name = t.name)) := by
  show (if (SeqAt.shaped (shipD s) && SeqAt.shaped (shipD t)) = true then Res.ok (PyData.eqv (shipD s) (shipD t)) else _) = _
  rw [shaped_ship (w s hs).1, shaped_ship (w t ht).1, if_pos (by rfl)]
  by_cases h : s.name = t.name
  · have := ship_inj nd hs ht h
    subst this
    rw [eqv_ship, decide_eq_true rfl]
  · rw [eqv_name h, decide_eq_false h]
theorem shaped_names {l : List Str} (hl : ∀ y ∈ l, PyData.strOk y = true) : SeqAt.shaped (.list (l.map .str)) = true := by
  have lay : ∀ l : List Str, (∀ y ∈ l, PyData.strOk y = true) → PyData.canLayAll0 (l.map .str) = true ∧ PyData.depthAll (l.map .str) ≤ 0 := by
    intro l hl
    induction l with
    | nil => exact ⟨rfl, by simp [PyData.depthAll]⟩
    | cons y r ih =>
      obtain ⟨a, b⟩ := ih fun z hz => hl z (List.mem_cons_of_mem _ hz)
      refine ⟨by simp [PyData.canLayAll0, PyData.canLay0, a, hl y List.mem_cons_self], ?_⟩
      simp [PyData.depthAll, PyData.depth]
      omega
  obtain ⟨a, b⟩ := lay l hl
  have h3 : PyData.depth (.list (l.map PyData.str)) = PyData.depthAll (l.map .str) + 1 := rfl
  unfold SeqAt.shaped
  rw [h3]
  simp only [PyData.canLay0, a, Bool.true_and, decide_eq_true_eq]
  omega
section
variable {T : List Fn} (F : HasS T) (fu n : Nat) {G : Fleet} (ok : FleetOk G)
include F ok
theorem seesat_run {h : Nat} {s t : Ship} (hs : s ∈ G.ships) (ht : t ∈ G.ships) (hh : (h : Int) ≤ G.last) : run T fu (n + 2) 25 [G.toD, .int (h : Nat), shipD s, shipD t] = .ok (.bool (seesS G h s t)) := by
  obtain ⟨⟨l0, l7⟩, i1, ⟨k1, k5⟩, sh⟩ := ok.parts
  obtain ⟨_, _, ls, cs⟩ := sh s hs
  obtain ⟨_, _, lt, ct⟩ := sh t ht
  have e1 : s.course[h]? = some s.course[h] := List.getElem?_eq_getElem (by omega)
  have e2 : t.course[h]? = some t.course[h] := List.getElem?_eq_getElem (by omega)
  refine (call_eq F.seesat rfl).trans ((sees_at_ok _ fu (fun m c => (call_eq F.isin rfl).trans (is_in_ok _ fu m c)) (fun a b c ha hb hc => (call_eq F.betw rfl).trans (is_between_ok _ fu ha hb hc)) G h s t _ _ _ e1 e2 (cs _ (List.getElem_mem _)) (ct _ (List.getElem_mem _)) i1 (eq_ships ok.wf ok.nd hs ht)).trans ?_)
  unfold seesS
  rw [e1, e2]
theorem plainS_run : run T fu (n + 3) 28 [G.toD] = .ok (.list ((sightOf G).map rowD)) := by
  obtain ⟨⟨l0, l7⟩, i1, ⟨k1, k5⟩, sh⟩ := ok.parts
  exact (call_eq F.plainS rfl).trans (plain_sightings_ok _ fu G (fun h s t hs ht hh => seesat_run F fu n ok hs ht hh) l0 l7 k5)
theorem look_run : run T fu (n + 5) 18 [G.toD] = .ok .none := look_ok F.toHasF fu n F.look G ok.wf ok.fb
theorem sights_run : run T fu (n + 6) 29 [G.toD] = .ok (.list ((sightOf G).map rowD)) := by
  refine (call_eq F.sights rfl).trans ?_
  have a := look_run F fu n ok
  have b := plainS_run F fu (n + 2) ok
  simp [f_sightings, f_sightings_s1, f_sightings_s2, start0, a, b]
theorem names_run : run T fu (n + 1) 19 [G.toD] = .ok (.list (G.names.map .str)) := (call_eq F.nms rfl).trans (plain_names_ok _ fu G)
theorem lhour_run {h : Int} (h0 : 0 ≤ h) (h1 : h ≤ G.last) : run T fu (n + 2) 22 [.int h, .int G.last] = .ok .none := by
  refine (call_eq F.lhour rfl).trans ?_
  have := int_ok F.toHasF fu n h 0 G.last
  rw [show inB h 0 G.last = true by simp [inB, h0, h1]] at this
  simp [f_look_hour, f_look_hour_s1, start0, this]
omit F ok in
theorem in_names {x : Str} : ∀ {l : List Str}, (∀ y ∈ l, PyData.strOk y = true) → PyData.strOk x = true → dIn (.str x) (.list (l.map .str)) = .ok (decide (x ∈ l)) := by
  intro l hl hx
  have s1 : SeqAt.shaped (.str x) = true := by simp [SeqAt.shaped, PyData.canLay0, PyData.depth, hx]
  have s2 := shaped_names hl
  show (if (SeqAt.shaped (.str x) && SeqAt.shaped (.list (l.map .str))) = true then Res.ok ((l.map .str).any fun z => PyData.eqv z (.str x)) else .bad) = _
  rw [s1, s2, if_pos (by rfl)]
  congr 1
  rw [List.any_map, Bool.eq_iff_iff]
  simp [PyData.eqv, Function.comp]
theorem lship_run {s : Ship} (hs : s ∈ G.ships) : run T fu (n + 2) 21 [G.toD, .str s.name] = .ok .none := by
  refine (call_eq F.lship rfl).trans ?_
  obtain ⟨_, _, _, sh⟩ := ok.parts
  have a := name_ok F.toHasF fu n s.name (ok.wf s hs).2
  rw [(sh s hs).1] at a
  have b := names_run F fu n ok
  have c : dCmp .NotIn (.str s.name) (.list (G.names.map .str)) = .ok false := by
    have z := in_names (x := s.name) (l := G.names) (fun y hy => by
      obtain ⟨t, ht, rfl⟩ := List.mem_map.mp hy
      exact (ok.wf t ht).1) (ok.wf s hs).1
    have : dCmp .NotIn (.str s.name) (.list (G.names.map .str)) = (dIn (.str s.name) (.list (G.names.map .str)) >>= fun b => .ok !b) := rfl
    rw [this, z, decide_eq_true (show s.name ∈ G.names from List.mem_map_of_mem hs)]
    rfl
  simp [f_look_ship, f_look_ship_s1, start0, a, b, c]
end
section
variable {T : List Fn} (F : HasSee T) (fu n : Nat) {G : Fleet} (ok : FleetOk G)
include F ok
theorem shipof_run {s : Ship} (hs : s ∈ G.ships) : run T fu (n + 2) 26 [G.toD, .str s.name] = .ok (shipD s) := by
  refine (call_eq F.shipof rfl).trans ?_
  have b := names_run F.toHasS fu n ok
  obtain ⟨j, hj, ej⟩ : ∃ j, (G.names.map PyData.str).findIdx? (fun z => PyData.eqv z (.str s.name)) = some j ∧ G.ships[j]? = some s := by
    cases hf : (G.names.map PyData.str).findIdx? (fun z => PyData.eqv z (.str s.name)) with
    | none =>
      rw [List.findIdx?_eq_none_iff] at hf
      have := hf (.str s.name) (List.mem_map_of_mem (List.mem_map_of_mem hs))
      simp [PyData.eqv] at this
    | some j =>
      refine ⟨j, rfl, ?_⟩
      rw [List.findIdx?_eq_some_iff_getElem] at hf
      obtain ⟨hl, h1, _⟩ := hf
      have hl' : j < G.ships.length := by simpa [Fleet.names] using hl
      have h2 : G.ships[j].name = s.name := by
        simpa [Fleet.names, PyData.eqv] using h1
      rw [List.getElem?_eq_getElem hl', ship_inj ok.nd (List.getElem_mem hl') hs h2]
  have c : dIndex (.list (G.names.map .str)) (.str s.name) = .ok (.int (j : Nat)) := by
    have s1 := shaped_names (l := G.names) fun y hy => by
      obtain ⟨t, ht, rfl⟩ := List.mem_map.mp hy
      exact (ok.wf t ht).1
    have s2 : SeqAt.shaped (.str s.name) = true := by simp [SeqAt.shaped, PyData.canLay0, PyData.depth, (ok.wf s hs).1]
    show (if (SeqAt.shaped (.list (G.names.map .str)) && SeqAt.shaped (.str s.name)) = true then (match (G.names.map PyData.str).findIdx? (fun z => PyData.eqv z (.str s.name)) with
      | some j => Res.ok (PyData.int (j : Nat))
      | none => .bad) else .bad) = _
    rw [s1, s2, hj]
    rfl
  have d : dIx (.tuple (G.ships.map shipD)) (.int (j : Nat)) = .ok (shipD s) := ix_t (by rw [List.getElem?_map, ej]; rfl)
  simp [f_ship_of, f_ship_of_s1, start0, b, c, d, asL]
theorem sees_run {h : Nat} {s t : Ship} (hs : s ∈ G.ships) (ht : t ∈ G.ships) (hh : (h : Int) ≤ G.last) : run T fu (n + 6) 27 [G.toD, .int (h : Nat), .str s.name, .str t.name] = .ok (.bool (seesS G h s t)) := by
  refine (call_eq F.sees rfl).trans ?_
  have a := look_run F.toHasS fu n ok
  have b := lhour_run F.toHasS fu (n + 3) ok (h := (h : Nat)) (by omega) hh
  have c := lship_run F.toHasS fu (n + 3) ok hs
  have d := lship_run F.toHasS fu (n + 3) ok ht
  have e := shipof_run F fu (n + 3) ok hs
  have f := shipof_run F fu (n + 3) ok ht
  have g := seesat_run F.toHasS fu (n + 3) ok hs ht hh
  simp [f_sees, f_sees_s1, f_sees_s2, f_sees_s3, f_sees_s4, f_sees_s5, start0, a, b, c, d, e, f, g]
end
end HF

set_option Elab.async false
set_option autoImplicit false
set_option linter.all false
set_option maxRecDepth 100000
set_option maxHeartbeats 4000000
/-! Rows of sightings; sorted lists. -/
namespace HF
open PySem PySem.Spec PyProof.Rows L2
theorem ddD_nodup : ∀ {xs : List D}, xs.Pairwise (fun a b => PyData.eqv b a = false) → ddD xs = xs
  | [], _ => rfl
  | a :: r, h => by
    obtain ⟨h1, h2⟩ := List.pairwise_cons.mp h
    unfold ddD
    have : r.any (fun b => PyData.eqv b a) = false := by
      rw [List.any_eq_false]
      intro x hx
      rw [h1 x hx]
      exact Bool.false_ne_true
    rw [this, if_neg Bool.false_ne_true, ddD_nodup h2]
theorem sorted_typed {α : Type} (enc : α → D) (xs : List α) (ok : setOk (xs.map enc) = true) (nd : xs.Pairwise fun a b => PyData.eqv (enc b) (enc a) = false) : ∃ ys : List α, dBi .sorted [.list (xs.map enc)] = .ok (.list (ys.map enc)) ∧ (∀ y ∈ ys, y ∈ xs) ∧ (∀ x ∈ xs, ∃ y ∈ ys, enc y = enc x) ∧ ys.length = xs.length ∧ rise (ys.map enc) = true := by
  obtain ⟨ys, h1, h2, h3, h4, h5⟩ := sset_typed enc xs ok
  have e : ddD (xs.map enc) = xs.map enc := ddD_nodup (List.pairwise_map.mpr nd)
  have e2 : isort (xs.map enc) = ys.map enc := by
    have : (if setOk (xs.map enc) = true then Res.ok (PyData.list (isort (ddD (xs.map enc)))) else .bad) = .ok (.list (ys.map enc)) := h1
    rw [if_pos ok, e] at this
    simpa using this
  refine ⟨ys, ?_, h2, h3, ?_, h5⟩
  · have so : sortOk (xs.map enc) = true := by
      have ok' := ok
      unfold setOk at ok'
      simp only [Bool.and_eq_true] at ok'
      exact ok'.2.1
    show (if sortOk (xs.map enc) = true then Res.ok (PyData.list (isort (xs.map enc))) else .bad) = _
    rw [if_pos so, e2]
  · have := (isort_pm (xs.map enc)).length_eq
    rw [e2, List.length_map, List.length_map] at this
    exact this
theorem lt_irr (a : D) : PySem.W.dataLt a a = false := lex_irrefl _
theorem rise_ne {α : Type} {enc : α → D} {xs : List α} (h : rise (xs.map enc) = true) : xs.Pairwise fun a b => a ≠ b := by
  have := List.pairwise_map.mp (rise_pw _ h)
  refine this.imp fun {a b} hab e => ?_
  rw [e, lt_irr] at hab
  cases hab
theorem ce_inj {p q : Int × Int} (h : ce p = ce q) : p = q := by
  have := eqv_ce p q
  rw [h] at this
  have z : PyData.eqv (ce q) (ce q) = true := by rw [eqv_ce]; simp
  rw [z] at this
  exact of_decide_eq_true this.symm
theorem eqv_mist (a b : Mist) : PyData.eqv (mistD a) (mistD b) = true ↔ a = b := by
  obtain ⟨f, u, ⟨a1, a2⟩, ⟨b1, b2⟩, m⟩ := a
  obtain ⟨f', u', ⟨a1', a2'⟩, ⟨b1', b2'⟩, m'⟩ := b
  simp [mistD, ce, PyData.eqv, PyData.eqvAll, and_assoc]
theorem mist_inj {a b : Mist} (h : mistD a = mistD b) : a = b := by
  rw [← eqv_mist, h]
  exact (eqv_mist b b).mpr rfl
/-! insertion sort leaves what is sorted -/
theorem isort_id : ∀ {xs : List D}, (xs.Pairwise fun a b => PySem.W.dataLt a b = true) → isort xs = xs
  | [], _ => rfl
  | a :: r, h => by
    obtain ⟨h1, h2⟩ := List.pairwise_cons.mp h
    show insD a (isort r) = a :: r
    rw [isort_id h2]
    cases r with
    | nil => rfl
    | cons b r =>
      have hab := h1 b List.mem_cons_self
      have hba : PySem.W.dataLt b a = false := by
        cases e : PySem.W.dataLt b a with
        | false => rfl
        | true =>
          have := lex_trans _ _ _ hab e
          rw [lex_irrefl] at this
          cases this
      unfold insD
      rw [hba, if_neg Bool.false_ne_true]
/-! rows -/
def rowOk (r : Row) : Prop := PyData.strOk r.2.1 = true ∧ PyData.strOk r.2.2 = true
theorem shaped_row {r : Row} (h : rowOk r) : SeqAt.shaped (rowD r) = true := by
  simp [SeqAt.shaped, rowD, PyData.canLay0, PyData.canLayAll0, PyData.depth, PyData.depthAll, h.1, h.2]
theorem shaped_rows {rs : List Row} (h : ∀ r ∈ rs, rowOk r) : SeqAt.shaped (.list (rs.map rowD)) = true := by
  have lay : ∀ l : List Row, (∀ y ∈ l, rowOk y) → PyData.canLayAll0 (l.map rowD) = true ∧ PyData.depthAll (l.map rowD) ≤ 1 := by
    intro l hl
    induction l with
    | nil => exact ⟨rfl, by simp [PyData.depthAll]⟩
    | cons y r ih =>
      obtain ⟨a, b⟩ := ih fun z hz => hl z (List.mem_cons_of_mem _ hz)
      obtain ⟨y1, y2⟩ := hl y List.mem_cons_self
      refine ⟨by simp [PyData.canLayAll0, PyData.canLay0, rowD, a, y1, y2], ?_⟩
      simp [PyData.depthAll, PyData.depth, rowD]
      omega
  obtain ⟨a, b⟩ := lay rs h
  have h3 : PyData.depth (.list (rs.map rowD)) = PyData.depthAll (rs.map rowD) + 1 := rfl
  unfold SeqAt.shaped
  rw [h3]
  simp only [PyData.canLay0, a, Bool.true_and, decide_eq_true_eq]
  omega
theorem eqv_row (a b : Row) : PyData.eqv (rowD a) (rowD b) = decide (a = b) := by
  obtain ⟨h, s, t⟩ := a
  obtain ⟨h', s', t'⟩ := b
  rw [Bool.eq_iff_iff]
  simp [rowD, PyData.eqv, PyData.eqvAll]
theorem in_rows {r : Row} {rs : List Row} (h : rowOk r) (hs : ∀ r ∈ rs, rowOk r) : dIn (rowD r) (.list (rs.map rowD)) = .ok (decide (r ∈ rs)) := by
  show (if (SeqAt.shaped (rowD r) && SeqAt.shaped (.list (rs.map rowD))) = true then Res.ok ((rs.map rowD).any fun z => PyData.eqv z (rowD r)) else .bad) = _
  rw [shaped_row h, shaped_rows hs, if_pos (by rfl)]
  congr 1
  rw [List.any_map, Bool.eq_iff_iff]
  simp only [List.any_eq_true, Function.comp, decide_eq_true_eq, eqv_row]
  exact ⟨fun ⟨q, h1, h2⟩ => h2 ▸ h1, fun h => ⟨r, h, rfl⟩⟩
theorem notin_rows {r : Row} {rs : List Row} (h : rowOk r) (hs : ∀ r ∈ rs, rowOk r) : dCmp .NotIn (rowD r) (.list (rs.map rowD)) = .ok (!decide (r ∈ rs)) := by
  have : dCmp .NotIn (rowD r) (.list (rs.map rowD)) = (dIn (rowD r) (.list (rs.map rowD)) >>= fun b => .ok !b) := rfl
  rw [this, in_rows h hs]
  rfl
theorem eqvAll_rows : ∀ rs : List Row, PyData.eqvAll (rs.map rowD) (rs.map rowD) = true
  | [] => rfl
  | c :: r => by
    have : PyData.eqv (rowD c) (rowD c) = true := by rw [eqv_row]; simp
    rw [List.map_cons, PyData.eqvAll, this, eqvAll_rows r]
    rfl
theorem eq_rows {rs : List Row} (hs : ∀ r ∈ rs, rowOk r) : dCmp .Eq (.list (rs.map rowD)) (.list (rs.map rowD)) = .ok true := by
  show (if (SeqAt.shaped (.list (rs.map rowD)) && SeqAt.shaped (.list (rs.map rowD))) = true then Res.ok (PyData.eqv (.list (rs.map rowD)) (.list (rs.map rowD))) else _) = _
  rw [shaped_rows hs, if_pos (by rfl)]
  simp [PyData.eqv, eqvAll_rows]
theorem ne_rows {rs : List Row} (hs : ∀ r ∈ rs, rowOk r) : dCmp .NotEq (.list (rs.map rowD)) (.list (rs.map rowD)) = .ok false := by
  have : dCmp .NotEq (.list (rs.map rowD)) (.list (rs.map rowD)) = (dCmp .Eq (.list (rs.map rowD)) (.list (rs.map rowD)) >>= fun b => .ok !b) := rfl
  rw [this, eq_rows hs]
  rfl
theorem mem_sight {G : Fleet} {r : Row} : r ∈ sightOf G ↔ ∃ h : Nat, (h : Int) ≤ G.last ∧ ∃ s ∈ G.ships, ∃ t ∈ G.ships, seesS G h s t = true ∧ r = ((h : Int), s.name, t.name) := by
  unfold sightOf
  simp only [List.mem_flatMap, List.mem_range, List.mem_map, List.mem_filter]
  constructor
  · rintro ⟨h, hh, s, hs, t, ⟨ht, e⟩, rfl⟩
    exact ⟨h, by omega, s, hs, t, ht, e, rfl⟩
  · rintro ⟨h, hh, s, hs, t, ht, e, rfl⟩
    exact ⟨h, by omega, s, hs, t, ⟨ht, e⟩, rfl⟩
theorem sight_ok {G : Fleet} (w : G.wf) : ∀ r ∈ sightOf G, rowOk r := by
  intro r hr
  obtain ⟨h, _, s, hs, t, ht, _, rfl⟩ := mem_sight.mp hr
  exact ⟨(w s hs).1, (w t ht).1⟩
/-- ships one by one otherwise, seeing the same -/
theorem sight_map {G H : Fleet} (f : Ship → Ship) (hl : H.last = G.last) (hs : H.ships = G.ships.map f) (hn : ∀ s ∈ G.ships, (f s).name = s.name) (he : ∀ (h : Nat), (h : Int) ≤ G.last → ∀ s ∈ G.ships, ∀ t ∈ G.ships, seesS H h (f s) (f t) = seesS G h s t) : sightOf H = sightOf G := by
  unfold sightOf
  rw [hl, hs]
  have fm : ∀ {α β : Type} {l : List α} {f g : α → List β}, (∀ x ∈ l, f x = g x) → l.flatMap f = l.flatMap g := by
    intro α β l f g h
    induction l with
    | nil => rfl
    | cons x l ih => rw [List.flatMap_cons, List.flatMap_cons, h x List.mem_cons_self, ih fun y hy => h y (List.mem_cons_of_mem _ hy)]
  refine fm fun h hh => ?_
  have hh' := List.mem_range.mp hh
  rw [List.flatMap_map]
  refine fm fun s hs' => ?_
  rw [List.filter_map, List.map_map]
  have e1 : (G.ships.filter ((fun t => seesS H h (f s) t) ∘ f)) = G.ships.filter fun t => seesS G h s t := List.filter_congr fun t ht => he h (by omega) s hs' t ht
  rw [e1]
  refine List.map_congr_left fun t ht => ?_
  have ht' := (List.mem_filter.mp ht).1
  show ((h : Int), (f s).name, (f t).name) = _
  rw [hn s hs', hn t ht']
/-- what sees more tells more -/
theorem sight_more {G H : Fleet} (f : Ship → Ship) (hl : H.last = G.last) (hs : H.ships = G.ships.map f) (hn : ∀ s ∈ G.ships, (f s).name = s.name) (he : ∀ (h : Nat), (h : Int) ≤ G.last → ∀ s ∈ G.ships, ∀ t ∈ G.ships, seesS G h s t = true → seesS H h (f s) (f t) = true) : ∀ r ∈ sightOf G, r ∈ sightOf H := by
  intro r hr
  obtain ⟨h, hh, s, hs', t, ht, e, rfl⟩ := mem_sight.mp hr
  refine mem_sight.mpr ⟨h, by omega, f s, ?_, f t, ?_, he h hh s hs' t ht e, by rw [hn s hs', hn t ht]⟩
  · rw [hs]; exact List.mem_map_of_mem hs'
  · rw [hs]; exact List.mem_map_of_mem ht
/-! rows in order -/
def allRows : List Row := (List.range 8).flatMap fun (h : Nat) => abc.flatMap fun s => abc.map fun t => (((h : Nat) : Int), s, t)
theorem allRows_rise : rise (allRows.map rowD) = true := by decide +kernel
theorem flat_sub {α β γ : Type} (e : α → β) {f : α → List γ} {g : β → List γ} : ∀ {l : List α} {m : List β}, (l.map e).Sublist m → (∀ a ∈ l, (f a).Sublist (g (e a))) → (l.flatMap f).Sublist (m.flatMap g)
  | [], m, _, _ => by simp
  | a :: l, [], h, _ => by simp at h
  | a :: l, b :: m, h, hf => by
    rw [List.flatMap_cons, List.flatMap_cons]
    rw [List.map_cons] at h
    cases h with
    | cons _ h =>
      have := flat_sub e (f := f) (g := g) (l := a :: l) (m := m) (by simpa using h) hf
      rw [List.flatMap_cons] at this
      exact this.trans (List.sublist_append_right _ _)
    | cons_cons _ h =>
      exact List.Sublist.append (hf a List.mem_cons_self) (flat_sub e h fun b hb => hf b (List.mem_cons_of_mem _ hb))
theorem sight_sub {G : Fleet} (h7 : G.last ≤ 7) (hN : G.names.Sublist abc) : (sightOf G).Sublist allRows := by
  unfold sightOf allRows
  refine flat_sub id ?_ fun h hh => flat_sub (fun s : Ship => s.name) hN fun s hs => ?_
  · rw [List.map_id]
    exact List.range_sublist.mpr (by omega)
  · have e : ((G.ships.filter fun t => seesS G h s t).map fun t => ((h : Int), s.name, t.name)) = ((G.ships.filter fun t => seesS G h s t).map (·.name)).map fun y => ((h : Int), s.name, y) := by
      rw [List.map_map]
      rfl
    rw [e]
    exact (((List.filter_sublist).map _).trans hN).map _
theorem sight_sorted {G : Fleet} (h7 : G.last ≤ 7) (hN : G.names.Sublist abc) : isort ((sightOf G).map rowD) = (sightOf G).map rowD :=
  isort_id ((rise_pw _ allRows_rise).sublist ((sight_sub h7 hN).map _))
end HF

set_option Elab.async false
set_option autoImplicit false
set_option linter.all false
set_option maxRecDepth 100000
set_option maxHeartbeats 4000000
/-! Fleets made of others; mirrors. -/
namespace HF
open PySem PySem.Spec PyProof.Rows L2
def mistP (last : Int) (m : Mist) : Prop := (0 ≤ m.first ∧ m.first ≤ m.until_ ∧ m.until_ ≤ last) ∧ okC m.one ∧ okC m.other ∧ (m.one.1 ≤ m.other.1 ∧ m.one.2 ≤ m.other.2) ∧ 0 ≤ m.most ∧ m.most ≤ 9
theorem mistB_iff (last : Int) (m : Mist) : mistB last m = true ↔ mistP last m := by
  unfold mistB mistP cellB inB okC
  simp only [Bool.and_eq_true, decide_eq_true_eq]
  constructor
  · rintro ⟨⟨⟨a, b⟩, ⟨c, d⟩, e, f⟩, g, h, i, j⟩
    exact ⟨⟨a, c, d⟩, g, h, ⟨i, j⟩, e, f⟩
  · rintro ⟨⟨a, c, d⟩, g, h, ⟨i, j⟩, e, f⟩
    exact ⟨⟨⟨a, by omega⟩, ⟨c, d⟩, e, f⟩, g, h, i, j⟩
structure Parts (G : Fleet) : Prop where
  l0 : 0 ≤ G.last
  l7 : G.last ≤ 7
  i12 : G.isl.length ≤ 12
  ic : ∀ c ∈ G.isl, okC c
  ir : rise (G.isl.map ce) = true
  s1 : 1 ≤ G.ships.length
  s5 : G.ships.length ≤ 5
  sh : ∀ s ∈ G.ships, nameB s.name = true ∧ (0 ≤ s.sight ∧ s.sight ≤ 9) ∧ (s.course.length : Int) = G.last + 1 ∧ ∀ c ∈ s.course, okC c ∧ c ∉ G.isl
  sr : rise (G.ships.map fun s => .str s.name) = true
  m4 : G.mists.length ≤ 4
  mi : ∀ m ∈ G.mists, mistP G.last m
  mr : rise (G.mists.map mistD) = true
theorem cellB_iff (c : Int × Int) : cellB c = true ↔ okC c := ⟨okC_of, cellB_ok⟩
theorem Parts.fb {G : Fleet} (p : Parts G) : fleetB G = true := by
  unfold fleetB islB
  simp only [Bool.and_eq_true, decide_eq_true_eq, List.all_eq_true]
  refine ⟨by simp [inB, p.l0, p.l7], ⟨p.i12, fun c hc => cellB_ok (p.ic c hc), p.ir⟩, ⟨p.s1, p.s5⟩, fun s hs => ?_, p.sr, p.m4, fun m hm => (mistB_iff _ m).mpr (p.mi m hm), p.mr⟩
  obtain ⟨a, ⟨b, b'⟩, c, d⟩ := p.sh s hs
  unfold shipB
  simp only [Bool.and_eq_true, decide_eq_true_eq, List.all_eq_true]
  exact ⟨a, by simp [inB, b, b'], c, fun q hq => ⟨cellB_ok (d q hq).1, by simpa using (d q hq).2⟩⟩
theorem dr_parts {G : Fleet} {most : Int} (g : DrawnF G most) (h5 : most ≤ 5) : Parts G := by
  have a := g.last1
  have b := g.last5
  have c := g.n2
  have d := g.nm
  refine ⟨by omega, by omega, by have := g.isl3; omega, g.isl, g.islR, by omega, by omega, fun s hs => ?_, dr_rise g h5, by have := g.mis2; omega, fun m hm => ?_, g.misR⟩
  · obtain ⟨⟨x, y⟩, z, w⟩ := g.ships s hs
    exact ⟨(fit_abc _ (dr_name g hs)).2.1, ⟨x, by omega⟩, z, w⟩
  · obtain ⟨x, y, z, w, u, v⟩ := g.mists m hm
    exact ⟨x, y, z, w, u, by omega⟩
theorem abc_nd : abc.Nodup := by decide +kernel
theorem dr_okF {G : Fleet} {most : Int} (g : DrawnF G most) (h5 : most ≤ 5) : FleetOk G :=
  ⟨fun s hs => (fit_abc _ (dr_name g hs)).2.2, (dr_parts g h5).fb, by
    have : G.names = abc.take G.ships.length := g.names
    rw [this]
    exact abc_nd.sublist (List.take_sublist _ _)⟩
/-- a fleet with the ships' names of one that is one -/
theorem FleetOk.of {G H : Fleet} (ok : FleetOk G) (p : Parts H) (hn : H.names = G.names) : FleetOk H := by
  refine ⟨fun s hs => ?_, p.fb, by rw [hn]; exact ok.nd⟩
  have : s.name ∈ H.names := List.mem_map_of_mem hs
  rw [hn] at this
  obtain ⟨t, ht, e⟩ := List.mem_map.mp this
  rw [← e]
  exact ok.wf t ht
/-! mirrors -/
def flipC (w : Nat) (c : Int × Int) : Int × Int := if w = 0 then (9 - c.1, c.2) else (c.2, c.1)
def flipS (w : Nat) (s : Ship) : Ship := ⟨s.name, s.sight, s.course.map (flipC w)⟩
def flipM (w : Nat) (m : Mist) : Mist := ⟨m.first, m.until_, (min (flipC w m.one).1 (flipC w m.other).1, min (flipC w m.one).2 (flipC w m.other).2), (max (flipC w m.one).1 (flipC w m.other).1, max (flipC w m.one).2 (flipC w m.other).2), m.most⟩
theorem flip_ok {w : Nat} {c : Int × Int} (h : okC c) : okC (flipC w c) := by
  obtain ⟨a, b⟩ := c
  unfold flipC okC at *
  split <;> dsimp only at * <;> omega
theorem flip_inj {w : Nat} {c d : Int × Int} (h : flipC w c = flipC w d) : c = d := by
  obtain ⟨a, b⟩ := c
  obtain ⟨a', b'⟩ := d
  unfold flipC at h
  split at h <;> simp only [Prod.mk.injEq] at h ⊢ <;> omega
theorem apart_flip (w : Nat) (a b : Int × Int) : apartI (flipC w a) (flipC w b) = apartI a b := by
  unfold apartI flipC
  split <;> dsimp only <;> omega
theorem betw_flip (w : Nat) (a b c : Int × Int) : betw (flipC w a) (flipC w b) (flipC w c) = betw a b c := by
  have e : ∀ x y, (decide (flipC w x = flipC w y)) = decide (x = y) := fun x y => by
    by_cases h : x = y
    · rw [h]; simp
    · rw [decide_eq_false h, decide_eq_false fun z => h (flip_inj z)]
  unfold betw
  rw [e, e]
  congr 1
  obtain ⟨a1, a2⟩ := a
  obtain ⟨b1, b2⟩ := b
  obtain ⟨c1, c2⟩ := c
  unfold flipC
  split
  · have h1 : (9 - c1 - (9 - a1)) = -(c1 - a1) := by omega
    have h2 : (9 - b1 - (9 - a1)) = -(b1 - a1) := by omega
    rw [Bool.eq_iff_iff]
    simp only [Bool.and_eq_true, decide_eq_true_eq, h1, h2, Int.neg_mul, Int.mul_neg, Int.neg_inj]
    constructor <;> rintro ⟨p, ⟨q, r⟩, s, t⟩ <;> exact ⟨p, ⟨by omega, by omega⟩, by omega, by omega⟩
  · rw [Bool.eq_iff_iff]
    simp only [Bool.and_eq_true, decide_eq_true_eq]
    constructor <;> rintro ⟨p, ⟨q, r⟩, s, t⟩ <;> exact ⟨p.symm, ⟨s, t⟩, q, r⟩
theorem inM_flip (w : Nat) {m : Mist} (h : m.one.1 ≤ m.other.1 ∧ m.one.2 ≤ m.other.2) (c : Int × Int) : inM (flipM w m) (flipC w c) = inM m c := by
  unfold inM flipM flipC
  rw [Bool.eq_iff_iff]
  split <;> simp only [Bool.and_eq_true, decide_eq_true_eq] <;> omega
theorem flipM_P {w : Nat} {last : Int} {m : Mist} (h : mistP last m) : mistP last (flipM w m) := by
  obtain ⟨a, b, c, d, e⟩ := h
  refine ⟨a, ?_, ?_, ?_, e⟩
  · have x := flip_ok (w := w) b
    have y := flip_ok (w := w) c
    unfold okC at *
    dsimp only [flipM]
    omega
  · have x := flip_ok (w := w) b
    have y := flip_ok (w := w) c
    unfold okC at *
    dsimp only [flipM]
    omega
  · dsimp only [flipM]
    omega
theorem flipM_inj {w : Nat} {l l' : Int} {m n : Mist} (hm : mistP l m) (hn : mistP l' n) (h : flipM w m = flipM w n) : m = n := by
  obtain ⟨f, u, ⟨a1, a2⟩, ⟨b1, b2⟩, k⟩ := m
  obtain ⟨f', u', ⟨a1', a2'⟩, ⟨b1', b2'⟩, k'⟩ := n
  have x := hm.2.2.2.1
  have y := hn.2.2.2.1
  unfold flipM flipC at h
  dsimp only at x y
  split at h <;> simp only [Mist.mk.injEq, Prod.mk.injEq] at h ⊢ <;> omega
theorem any_eq {α β : Type} {f : α → β} {xs : List α} {ys : List β} {p : α → Bool} {q : β → Bool} (h1 : ∀ y ∈ ys, ∃ x ∈ xs, y = f x) (h2 : ∀ x ∈ xs, f x ∈ ys) (h : ∀ x ∈ xs, q (f x) = p x) : ys.any q = xs.any p := by
  rw [Bool.eq_iff_iff]
  simp only [List.any_eq_true]
  constructor
  · rintro ⟨y, hy, hq⟩
    obtain ⟨x, hx, rfl⟩ := h1 y hy
    exact ⟨x, hx, by rw [← h x hx]; exact hq⟩
  · rintro ⟨x, hx, hp⟩
    exact ⟨f x, h2 x hx, by rw [h x hx]; exact hp⟩
structure Mir (w : Nat) (G H : Fleet) : Prop where
  last : H.last = G.last
  ships : H.ships = G.ships.map (flipS w)
  i1 : ∀ y ∈ H.isl, ∃ x ∈ G.isl, y = flipC w x
  i2 : ∀ x ∈ G.isl, flipC w x ∈ H.isl
  il : H.isl.length = G.isl.length
  ir : rise (H.isl.map ce) = true
  m1 : ∀ y ∈ H.mists, ∃ x ∈ G.mists, y = flipM w x
  m2 : ∀ x ∈ G.mists, flipM w x ∈ H.mists
  ml : H.mists.length = G.mists.length
  mr : rise (H.mists.map mistD) = true
theorem Mir.names {w : Nat} {G H : Fleet} (m : Mir w G H) : H.names = G.names := by
  unfold Fleet.names
  rw [m.ships, List.map_map]
  rfl
theorem Mir.parts {w : Nat} {G H : Fleet} (m : Mir w G H) (p : Parts G) : Parts H := by
  refine ⟨by rw [m.last]; exact p.l0, by rw [m.last]; exact p.l7, by rw [m.il]; exact p.i12, fun c hc => ?_, m.ir, by rw [m.ships, List.length_map]; exact p.s1, by rw [m.ships, List.length_map]; exact p.s5, fun s hs => ?_, ?_, by rw [m.ml]; exact p.m4, fun c hc => ?_, m.mr⟩
  · obtain ⟨x, hx, rfl⟩ := m.i1 c hc
    exact flip_ok (p.ic x hx)
  · rw [m.ships] at hs
    obtain ⟨t, ht, rfl⟩ := List.mem_map.mp hs
    obtain ⟨a, b, c, d⟩ := p.sh t ht
    refine ⟨a, b, by rw [m.last]; show ((t.course.map _).length : Int) = _; rw [List.length_map]; exact c, fun q hq => ?_⟩
    obtain ⟨r, hr, rfl⟩ := List.mem_map.mp hq
    refine ⟨flip_ok (d r hr).1, fun z => ?_⟩
    obtain ⟨x, hx, e⟩ := m.i1 _ z
    rw [flip_inj e] at hr
    exact (d x hr).2 hx
  · rw [m.ships, List.map_map]
    exact p.sr
  · obtain ⟨x, hx, rfl⟩ := m.m1 c hc
    rw [m.last]
    exact flipM_P (p.mi x hx)
theorem Mir.sight {w : Nat} {G H : Fleet} (m : Mir w G H) (p : Parts G) : sightOf H = sightOf G := by
  refine sight_map (flipS w) m.last m.ships (fun _ _ => rfl) fun h hh s hs t ht => ?_
  unfold seesS
  show (match (s.course.map (flipC w))[h]?, (t.course.map (flipC w))[h]? with
    | some a, some b => _
    | _, _ => false) = _
  rw [List.getElem?_map, List.getElem?_map]
  cases s.course[h]? with
  | none => rfl
  | some a =>
    cases t.course[h]? with
    | none => rfl
    | some b =>
      show (!decide (s.name = t.name) && seesC H h s.sight (flipC w a) (flipC w b)) = (!decide (s.name = t.name) && seesC G h s.sight a b)
      congr 1
      unfold seesC
      rw [apart_flip]
      congr 2
      · congr 1
        refine any_eq m.m1 m.m2 fun x hx => ?_
        unfold hides
        have z := (p.mi x hx).2.2.2.1
        rw [inM_flip w z, inM_flip w z, apart_flip]
        rfl
      · congr 1
        exact any_eq m.i1 m.i2 fun x _ => betw_flip w a b x
end HF

set_option Elab.async false
set_option autoImplicit false
set_option linter.all false
set_option maxRecDepth 100000
set_option maxHeartbeats 4000000
/-! Fleets that see more; like sight; loops and comprehensions, once more. -/
namespace HF
open PySem PySem.Spec PyProof.Rows L2
theorem comp_ok {φ : Nat → List D → Res D} {σ : List SV} {own : List (Str × Nat)} {t : Tg} {s : HF.It} {c : Eo} {e : E} {xs ys : List D} (hs : evI φ s σ = .ok xs) (ho : noOwn σ (own.map (·.2)) = true)
    (h : compL (fun x => bindT t x (wipeS σ (own.map (·.2)))) (fun τ => evC φ c τ) (fun τ => ev φ e τ) xs = .ok ys) : ev φ (.comp own t s c e) σ = .ok (.list ys) := by
  rw [x_comp, hs]
  simp only [Res.ok_bind]
  rw [ho, if_neg (by simp), h]
  rfl
theorem forL_mem {bnd : D → List SV → Res (List SV)} {b : List SV → SR} (P : List SV → Prop) : ∀ {xs : List D} {σ : List SV}, P σ →
    (∀ x ∈ xs, ∀ σ, P σ → ∃ τ, bnd x σ = .ok τ ∧ Ends (b τ) P) → EndsN (forL bnd b xs σ) P := by
  intro xs σ h0 hs
  have := forL_foldN (enc := fun x : D => x) (bnd := bnd) (body := b) (fun (_ : Unit) σ => P σ) (fun _ _ => ()) (xs := xs) (acc := ()) h0 fun x hx _ σ hp => hs x hx σ hp
  rwa [List.map_id'] at this
theorem rise_subl {α : Type} {enc : α → D} {xs ys : List α} (h : rise (xs.map enc) = true) (s : ys.Sublist xs) : rise (ys.map enc) = true := pw_rise _ ((rise_pw _ h).sublist (s.map _))
structure Like (G H : Fleet) (f : Ship → Ship) : Prop where
  last : H.last = G.last
  ships : H.ships = G.ships.map f
  nc : ∀ s ∈ G.ships, (f s).name = s.name ∧ (f s).course = s.course ∧ (0 ≤ (f s).sight ∧ (f s).sight ≤ 9)
  isl : H.isl.Sublist G.isl
  mists : H.mists.Sublist G.mists
theorem map_congr' {α β : Type} {f g : α → β} {l : List α} (h : ∀ x ∈ l, f x = g x) : l.map f = l.map g := List.map_congr_left h
theorem Like.names {G H : Fleet} {f : Ship → Ship} (l : Like G H f) : H.names = G.names := by
  unfold Fleet.names
  rw [l.ships, List.map_map]
  exact map_congr' fun s hs => (l.nc s hs).1
theorem Like.parts {G H : Fleet} {f : Ship → Ship} (l : Like G H f) (p : Parts G) : Parts H := by
  refine ⟨by rw [l.last]; exact p.l0, by rw [l.last]; exact p.l7, Nat.le_trans l.isl.length_le p.i12, fun c hc => p.ic c (l.isl.subset hc), rise_subl p.ir l.isl, by rw [l.ships, List.length_map]; exact p.s1, by rw [l.ships, List.length_map]; exact p.s5, fun s hs => ?_, ?_, Nat.le_trans l.mists.length_le p.m4, fun c hc => by rw [l.last]; exact p.mi c (l.mists.subset hc), rise_subl p.mr l.mists⟩
  · rw [l.ships] at hs
    obtain ⟨t, ht, rfl⟩ := List.mem_map.mp hs
    obtain ⟨a, b, c, d⟩ := p.sh t ht
    obtain ⟨e1, e2, e3⟩ := l.nc t ht
    rw [e1, e2, l.last]
    exact ⟨a, e3, c, fun q hq => ⟨(d q hq).1, fun z => (d q hq).2 (l.isl.subset z)⟩⟩
  · rw [l.ships, List.map_map]
    have : G.ships.map ((fun s => PyData.str s.name) ∘ f) = G.ships.map fun s => .str s.name := map_congr' fun s hs => by
      show PyData.str (f s).name = _
      rw [(l.nc s hs).1]
    rw [this]
    exact p.sr
theorem any_sub {α : Type} {p : α → Bool} {xs ys : List α} (h : ys.Sublist xs) (e : xs.any p = false) : ys.any p = false := by
  rw [List.any_eq_false] at *
  exact fun x hx => e x (h.subset hx)
theorem Like.more {G H : Fleet} {f : Ship → Ship} (l : Like G H f) (hs : ∀ s ∈ G.ships, s.sight ≤ (f s).sight) : ∀ r ∈ sightOf G, r ∈ sightOf H := by
  refine sight_more f l.last l.ships (fun s h => (l.nc s h).1) fun h hh s hs' t ht e => ?_
  unfold seesS at *
  rw [(l.nc s hs').1, (l.nc t ht).1, (l.nc s hs').2.1, (l.nc t ht).2.1]
  cases e1 : s.course[h]? with
  | none => rw [e1] at e; cases e
  | some a =>
    cases e2 : t.course[h]? with
    | none => rw [e1, e2] at e; cases e
    | some b =>
      rw [e1, e2] at e
      dsimp only at e ⊢
      rw [Bool.and_eq_true] at e ⊢
      refine ⟨e.1, ?_⟩
      have e' := e.2
      unfold seesC at e' ⊢
      simp only [Bool.and_eq_true, Bool.not_eq_true', decide_eq_false_iff_not] at e' ⊢
      have := hs s hs'
      exact ⟨by omega, any_sub l.mists e'.2.1, any_sub l.isl e'.2.2⟩
theorem apart_symm (a b : Int × Int) : apartI a b = apartI b a := by
  unfold apartI
  omega
theorem betw_symm (a b c : Int × Int) : betw a b c = betw b a c := by
  obtain ⟨a1, a2⟩ := a
  obtain ⟨b1, b2⟩ := b
  obtain ⟨c1, c2⟩ := c
  unfold betw
  rw [Bool.eq_iff_iff]
  simp only [Bool.and_eq_true, Bool.not_eq_true', Bool.or_eq_false_iff, decide_eq_true_eq, decide_eq_false_iff_not]
  have key : ∀ a1 a2 b1 b2 : Int, (c1 - a1) * (b2 - a2) = (c2 - a2) * (b1 - a1) → (c1 - b1) * (a2 - b2) = (c2 - b2) * (a1 - b1) := by
    intro a1 a2 b1 b2 h
    have h1 : (c1 - b1) * (a2 - b2) = (c1 - a1) * (a2 - b2) + (a1 - b1) * (a2 - b2) := by rw [← Int.add_mul]; congr 1; omega
    have h2 : (c2 - b2) * (a1 - b1) = (c2 - a2) * (a1 - b1) + (a2 - b2) * (a1 - b1) := by rw [← Int.add_mul]; congr 1; omega
    have h3 : (c1 - a1) * (a2 - b2) = -((c1 - a1) * (b2 - a2)) := by rw [← Int.mul_neg]; congr 1; omega
    have h4 : (c2 - a2) * (a1 - b1) = -((c2 - a2) * (b1 - a1)) := by rw [← Int.mul_neg]; congr 1; omega
    rw [h1, h2, h3, h4, h, Int.mul_comm (a1 - b1)]
  constructor
  · rintro ⟨⟨p, q⟩, r, ⟨s, t⟩, u, v⟩
    exact ⟨⟨q, p⟩, key _ _ _ _ r, ⟨by omega, by omega⟩, by omega, by omega⟩
  · rintro ⟨⟨p, q⟩, r, ⟨s, t⟩, u, v⟩
    exact ⟨⟨q, p⟩, key _ _ _ _ r, ⟨by omega, by omega⟩, by omega, by omega⟩
theorem sees_symm {G : Fleet} {h : Nat} {s t : Ship} (e : s.sight = t.sight) : seesS G h s t = seesS G h t s := by
  unfold seesS
  cases s.course[h]? with
  | none => cases t.course[h]? <;> rfl
  | some a =>
    cases t.course[h]? with
    | none => rfl
    | some b =>
      dsimp only
      have e1 : decide (s.name = t.name) = decide (t.name = s.name) := by rw [Bool.eq_iff_iff]; simp [eq_comm]
      have e2 : (fun m => hides m h a b) = fun m => hides m h b a := by
        funext m
        unfold hides
        rw [apart_symm, Bool.or_comm]
      have e3 : betw a b = betw b a := by funext c; exact betw_symm a b c
      rw [e1]
      unfold seesC
      rw [e, apart_symm, e2, e3]
theorem sight_symm {G : Fleet} (h : ∀ s ∈ G.ships, ∀ t ∈ G.ships, s.sight = t.sight) {r : Row} (hr : r ∈ sightOf G) : (r.1, r.2.2, r.2.1) ∈ sightOf G := by
  obtain ⟨k, hk, s, hs, t, ht, e, rfl⟩ := mem_sight.mp hr
  exact mem_sight.mpr ⟨k, hk, t, ht, s, hs, by rw [← sees_symm (h s hs t ht)]; exact e, rfl⟩
theorem apart_self (a : Int × Int) : apartI a a = 0 := by
  unfold apartI
  omega
theorem betw_self (a c : Int × Int) : betw a a c = false := by
  obtain ⟨a1, a2⟩ := a
  obtain ⟨c1, c2⟩ := c
  cases h : betw (a1, a2) (a1, a2) (c1, c2) with
  | false => rfl
  | true =>
    exfalso
    unfold betw at h
    simp only [Bool.and_eq_true, Bool.not_eq_true', Bool.or_eq_false_iff, decide_eq_true_eq, decide_eq_false_iff_not, Prod.mk.injEq] at h
    obtain ⟨⟨p, _⟩, _, ⟨s, t⟩, u, v⟩ := h
    exact p ⟨by omega, by omega⟩
/-- in one cell each sees the other -/
theorem sees_here {G : Fleet} (p : Parts G) {h : Nat} {s t : Ship} {a : Int × Int} (hs : s ∈ G.ships) (e1 : s.course[h]? = some a) (e2 : t.course[h]? = some a) (hn : s.name ≠ t.name) : seesS G h s t = true := by
  unfold seesS
  rw [e1, e2]
  dsimp only
  rw [decide_eq_false hn]
  unfold seesC
  rw [apart_self]
  have h1 : (G.mists.any fun m => hides m h a a) = false := by
    rw [List.any_eq_false]
    intro m hm
    have := (p.mi m hm).2.2.2.2
    unfold hides
    rw [apart_self, decide_eq_false (show ¬ m.most < 0 by omega)]
    simp
  have h2 : G.isl.any (betw a a) = false := by
    rw [List.any_eq_false]
    intro c _
    rw [betw_self]
    exact Bool.false_ne_true
  rw [h1, h2, decide_eq_false (show ¬ s.sight < 0 by have := (p.sh s hs).2.1; omega)]
  rfl
end HF

set_option Elab.async false
set_option autoImplicit false
set_option linter.all false
set_option maxRecDepth 100000
set_option maxHeartbeats 4000000
/-! Dicts from names to hours; spread and bounds_for. -/
namespace HF
open PySem PySem.Spec PyProof.Rows L2
abbrev AL := List (Str × Int)
def kvD (p : Str × Int) : D × D := (.str p.1, .int p.2)
def dicD (ps : AL) : D := .dict (ps.map kvD)
def getA (ps : AL) (x : Str) : Option Int := (ps.find? fun p => decide (p.1 = x)).map (·.2)
def putA (ps : AL) (x : Str) (v : Int) : AL := if ps.any (fun p => decide (p.1 = x)) then ps.map (fun p => if p.1 = x then (p.1, v) else p) else ps ++ [(x, v)]
theorem eqv_strs (a b : Str) : PyData.eqv (.str a) (.str b) = decide (a = b) := by
  rw [Bool.eq_iff_iff]
  simp [PyData.eqv]
theorem keysK_al (ps : AL) : keysK (ps.map kvD) = true := by
  unfold keysK
  rw [List.all_map]
  exact List.all_eq_true.mpr fun _ _ => rfl
theorem dps_al (ps : AL) : dps (ps.map kvD) = ps.map kvD := by
  cases ps <;> rfl
/-- the same, of a dict that stays as it is -/
def dicF (ps : AL) : D := .dict (mark :: ps.map kvD)
theorem lookD_al (ps : AL) (x : Str) : lookD (ps.map kvD) (.str x) = (getA ps x).map .int := by
  unfold lookD getA
  rw [List.find?_map, Option.map_map, Option.map_map]
  have : ((fun p : D × D => PyData.eqv p.1 (.str x)) ∘ kvD) = fun p : Str × Int => decide (p.1 = x) := by
    funext p
    exact eqv_strs p.1 x
  rw [this]
  rfl
theorem putD_al (ps : AL) (x : Str) (v : Int) : putD (ps.map kvD) (.str x) (.int v) = (putA ps x v).map kvD := by
  unfold putD putA
  have : ((fun p : D × D => PyData.eqv p.1 (.str x)) ∘ kvD) = fun p : Str × Int => decide (p.1 = x) := by
    funext p
    exact eqv_strs p.1 x
  rw [List.any_map, this]
  split
  · rw [List.map_map, List.map_map]
    refine List.map_congr_left fun p _ => ?_
    show (if PyData.eqv (.str p.1) (.str x) = true then (PyData.str p.1, PyData.int v) else kvD p) = kvD (if p.1 = x then (p.1, v) else p)
    rw [eqv_strs]
    by_cases h : p.1 = x <;> simp [h, kvD]
  · rw [List.map_append]
    rfl
@[simp] theorem din_al (neg : Bool) (ps : AL) (x : Str) : dDin neg (.str x) (dicD ps) = .ok (.bool (neg != (getA ps x).isSome)) := by
  show (if (isKey (.str x) && keysK (dps (ps.map kvD))) = true then Res.ok (PyData.bool (neg != (lookD (dps (ps.map kvD)) (.str x)).isSome)) else .bad) = _
  rw [dps_al, keysK_al, if_pos (by rfl), lookD_al]
  simp
@[simp] theorem din_alF (neg : Bool) (ps : AL) (x : Str) : dDin neg (.str x) (dicF ps) = .ok (.bool (neg != (getA ps x).isSome)) := by
  show (if (isKey (.str x) && keysK (ps.map kvD)) = true then Res.ok (PyData.bool (neg != (lookD (ps.map kvD) (.str x)).isSome)) else .bad) = _
  rw [keysK_al, if_pos (by rfl), lookD_al]
  simp
theorem dix_alF {ps : AL} {x : Str} {i : Int} (h : getA ps x = some i) : dDix (dicF ps) (.str x) = .ok (.int i) := by
  show (if (isKey (.str x) && keysK (ps.map kvD)) = true then (match lookD (ps.map kvD) (.str x) with
    | some d => Res.ok d
    | none => .bad) else .bad) = _
  rw [keysK_al, if_pos (by rfl), lookD_al, h]
  rfl
@[simp] theorem asD_alF (ps : AL) : asD (dicF ps) = .ok (ps.map kvD) := by
  show (if keysK (ps.map kvD) = true then Res.ok (ps.map kvD) else .bad) = _
  rw [keysK_al, if_pos rfl]
theorem seq_alF {ps : AL} (h : ps.length ≤ 16777216) : seqD (dicF ps) = .ok (ps.map fun p => .str p.1) := by
  show (if (keysK (ps.map kvD) && decide ((ps.map kvD).length ≤ 16777216)) = true then Res.ok ((ps.map kvD).map (·.1)) else .bad) = _
  rw [keysK_al, List.length_map, decide_eq_true h, if_pos (by rfl), List.map_map]
  rfl
theorem dix_al {ps : AL} {x : Str} {i : Int} (h : getA ps x = some i) : dDix (dicD ps) (.str x) = .ok (.int i) := by
  show (if (isKey (.str x) && keysK (dps (ps.map kvD))) = true then (match lookD (dps (ps.map kvD)) (.str x) with
    | some d => Res.ok d
    | none => .bad) else .bad) = _
  rw [dps_al, keysK_al, if_pos (by rfl), lookD_al, h]
  rfl
@[simp] theorem asD_al (ps : AL) : asD (dicD ps) = .ok (ps.map kvD) := by
  show (if keysK (dps (ps.map kvD)) = true then Res.ok (dps (ps.map kvD)) else .bad) = _
  rw [dps_al, keysK_al, if_pos rfl]
@[simp] theorem dget_al (ps : AL) (x : Str) (i : Int) : dDget (ps.map kvD) (.str x) (.int i) = .ok (.int ((getA ps x).getD i)) := by
  show (if isKey (.str x) = true then Res.ok ((lookD (ps.map kvD) (.str x)).getD (.int i)) else .bad) = _
  rw [if_pos (by rfl), lookD_al]
  cases getA ps x <;> rfl
theorem getA_put (ps : AL) (x : Str) (v : Int) (y : Str) : getA (putA ps x v) y = if y = x then some v else getA ps y := by
  unfold putA
  cases ha : ps.any (fun p => decide (p.1 = x)) with
  | true =>
    rw [if_pos rfl]
    unfold getA
    induction ps with
    | nil => cases ha
    | cons p r ih =>
      rw [List.map_cons]
      by_cases hp : p.1 = x
      · rw [if_pos hp]
        by_cases hy : y = x
        · rw [List.find?_cons_of_pos (by simp [hp, hy]), if_pos hy]
          rfl
        · have h1 : ¬ p.1 = y := fun z => hy (by rw [← z, hp])
          rw [List.find?_cons_of_neg (by simpa using h1), List.find?_cons_of_neg (by simpa using h1), if_neg hy]
          cases hr : r.any (fun p => decide (p.1 = x)) with
          | true => rw [ih hr, if_neg hy]
          | false =>
            have : r.map (fun p => if p.1 = x then (p.1, v) else p) = r := by
              rw [List.any_eq_false] at hr
              conv => rhs; rw [← List.map_id r]
              refine List.map_congr_left fun q hq => ?_
              have := hr q hq
              simp only [decide_eq_true_eq] at this
              rw [if_neg this]
              rfl
            rw [this]
      · rw [if_neg hp]
        have hr : r.any (fun p => decide (p.1 = x)) = true := by
          rw [List.any_cons] at ha
          simpa [hp] using ha
        by_cases hy : p.1 = y
        · rw [List.find?_cons_of_pos (by simpa using hy), List.find?_cons_of_pos (by simpa using hy), if_neg (fun z => hp (by rw [hy, z]))]
        · rw [List.find?_cons_of_neg (by simpa using hy), List.find?_cons_of_neg (by simpa using hy), ih hr]
  | false =>
    rw [if_neg Bool.false_ne_true]
    unfold getA
    rw [List.find?_append]
    by_cases hy : y = x
    · rw [if_pos hy]
      have : ps.find? (fun p => decide (p.1 = y)) = none := by
        rw [List.find?_eq_none]
        rw [List.any_eq_false] at ha
        intro q hq
        rw [hy]
        exact ha q hq
      rw [this]
      simp [hy]
    · rw [if_neg hy]
      have : ([(x, v)] : AL).find? (fun p => decide (p.1 = y)) = none := by
        rw [List.find?_cons_of_neg (by simpa using fun z => hy z.symm)]
        rfl
      rw [this]
      simp
@[simp] theorem s_dput (φ : Nat → List D → Res D) (fu : Nat) (i : Nat) (k e : E) (σ : List SV) : evS φ fu (.dput i k e) σ = SR.of (ev φ e σ) σ fun d => (match σ[i]? with
    | some (.own (.dict ps)) => SR.of (ev φ k σ) σ fun x => if (isKey x && keysK ps) && decide (ps.length < 16777216) then .ok .nx (σ.set i (.own (.dict (putD ps x d)))) else .bad
    | _ => .bad) := rfl
end HF

set_option Elab.async false
set_option autoImplicit false
set_option linter.all false
set_option maxRecDepth 100000
set_option maxHeartbeats 4000000
/-! spread and bounds_for: who can have it when. -/
namespace HF
open PySem PySem.Spec PyProof.Rows L2
def stepS (f : AL) (r : Row) : AL := match getA f r.2.2 with
  | some i => if i ≤ r.1 ∧ getA f r.2.1 = none then putA f r.2.1 (r.1 + 1) else f
  | none => f
def spreadS (rows : List Row) (x : Str) (h : Int) : AL := rows.foldl stepS [(x, h)]
def stepB (f : AL) (r : Row) : AL := match getA f r.2.1 with
  | some i => if r.1 + 1 ≤ i ∧ getA f r.2.2 = none then putA f r.2.2 r.1 else f
  | none => f
def boundS (rows : List Row) (x : Str) (h : Int) : AL := rows.reverse.foldl stepB [(x, h)]
/-- from (x, h) on it can be at (y, t) -/
inductive Reach (rows : List Row) : Str × Int → Str × Int → Prop where
  | stay (x : Str) (h t : Int) (e : h ≤ t) : Reach rows (x, h) (x, t)
  | hop (a : Str × Int) (w : Int) (y z : Str) (t : Int) (m : (w, y, z) ∈ rows) (p : Reach rows a (z, w)) (e : w + 1 ≤ t) : Reach rows a (y, t)
theorem Reach.later {rows : List Row} {a : Str × Int} {y : Str} {t t' : Int} (p : Reach rows a (y, t)) (h : t ≤ t') : Reach rows a (y, t') := by
  cases p with
  | stay x h0 _ e => exact .stay _ _ _ (by omega)
  | hop _ w _ z _ m p e => exact .hop _ w _ z _ m p (by omega)
theorem Reach.mono {rows more : List Row} (h : ∀ r ∈ rows, r ∈ more) {a b : Str × Int} (p : Reach rows a b) : Reach more a b := by
  induction p with
  | stay x h0 t e => exact .stay _ _ _ e
  | hop a w y z t m p e ih => exact .hop _ w y z t (h _ m) ih e
theorem Reach.trans {rows : List Row} {a b c : Str × Int} (p : Reach rows a b) (q : Reach rows b c) : Reach rows a c := by
  induction q with
  | stay x h0 t e => exact p.later e
  | hop a w y z t m _ e ih => exact .hop _ w y z t m (ih p) e
theorem Reach.le {rows : List Row} {a b : Str × Int} (p : Reach rows a b) : a.2 ≤ b.2 := by
  induction p with
  | stay x h0 t e => exact e
  | hop a w y z t m p e ih => dsimp only at *; omega
theorem Reach.earlier {rows : List Row} {x : Str} {h h' : Int} {b : Str × Int} (p : Reach rows (x, h) b) (e : h' ≤ h) : Reach rows (x, h') b := (Reach.stay x h' h e).trans p
/-- the first hop -/
theorem Reach.head {rows : List Row} {a b : Str × Int} (p : Reach rows a b) : (a.1 = b.1 ∧ a.2 ≤ b.2) ∨ ∃ w y, (w, y, a.1) ∈ rows ∧ a.2 ≤ w ∧ Reach rows (y, w + 1) b := by
  induction p with
  | stay x h0 t e => exact .inl ⟨rfl, e⟩
  | hop a w y z t m p e ih =>
    rcases ih with ⟨e1, e2⟩ | ⟨w', y', m', e', p'⟩
    · dsimp only at e1 e2
      exact .inr ⟨w, y, by rw [e1]; exact m, e2, .stay _ _ _ e⟩
    · exact .inr ⟨w', y', m', e', .hop _ w y z t m p' e⟩
def Sorted (rows : List Row) : Prop := rows.Pairwise fun a b => a.1 ≤ b.1
/-- what spread holds behind the rows P: w is no less than any hour of P -/
structure SpI (P : List Row) (x : Str) (h : Int) (f : AL) : Prop where
  sound : ∀ y e, getA f y = some e → Reach P (x, h) (y, e)
  full : ∀ y t, Reach P (x, h) (y, t) → ∃ e, getA f y = some e ∧ e ≤ t
  top : ∀ y e, getA f y = some e → e = h ∨ ∃ r ∈ P, e = r.1 + 1
theorem getA_one (x : Str) (h : Int) (y : Str) : getA [(x, h)] y = if y = x then some h else none := by
  unfold getA
  by_cases e : x = y
  · rw [List.find?_cons_of_pos (by simpa using e), if_pos e.symm]
    rfl
  · rw [List.find?_cons_of_neg (by simpa using e), if_neg fun z => e z.symm]
    rfl
theorem spI_nil (x : Str) (h : Int) : SpI [] x h [(x, h)] := by
  refine ⟨fun y e he => ?_, fun y t p => ?_, fun y e he => ?_⟩
  · rw [getA_one] at he
    split at he
    · rename_i z
      cases he
      rw [z]
      exact .stay _ _ _ (Int.le_refl _)
    · cases he
  · cases p with
    | stay x h0 _ e => exact ⟨h, by rw [getA_one, if_pos rfl], e⟩
    | hop _ w _ z _ m p e => cases m
  · rw [getA_one] at he
    split at he
    · cases he
      exact .inl rfl
    · cases he
theorem spI_step {P : List Row} {x : Str} {h : Int} {f : AL} (I : SpI P x h f) (r : Row) (hr : ∀ q ∈ P, q.1 ≤ r.1) : SpI (P ++ [r]) x h (stepS f r) := by
  obtain ⟨w, y, z⟩ := r
  have sub : ∀ q ∈ P, q ∈ P ++ [(w, y, z)] := fun q hq => List.mem_append_left _ hq
  have hin : (w, y, z) ∈ P ++ [(w, y, z)] := List.mem_append_right _ (List.mem_singleton.mpr rfl)
  -- what is there stays, what comes is new and w + 1
  have keep : ∀ u e, getA f u = some e → getA (stepS f (w, y, z)) u = some e := fun u e he => by
    unfold stepS
    split
    · split
      · rename_i c
        rw [getA_put]
        split
        · rename_i q
          rw [q, c.2] at he
          cases he
        · exact he
      · exact he
    · exact he
  have new : ∀ u e, getA (stepS f (w, y, z)) u = some e → getA f u = some e ∨ (u = y ∧ e = w + 1 ∧ ∃ i, getA f z = some i ∧ i ≤ w) := fun u e he => by
    unfold stepS at he
    split at he
    · rename_i i hi
      split at he
      · rename_i c
        rw [getA_put] at he
        split at he
        · rename_i q
          cases he
          exact .inr ⟨q, rfl, i, hi, c.1⟩
        · exact .inl he
      · exact .inl he
    · exact .inl he
  have put : ∀ i, getA f z = some i → i ≤ w → getA f y = none → getA (stepS f (w, y, z)) y = some (w + 1) := fun i h1 h2 h3 => by
    unfold stepS
    dsimp only
    rw [h1]
    dsimp only
    rw [if_pos ⟨h2, h3⟩, getA_put, if_pos rfl]
  refine ⟨fun u e he => ?_, fun u t p => ?_, fun u e he => ?_⟩
  · rcases new u e he with k | ⟨rfl, rfl, i, hi, hiw⟩
    · exact (I.sound u e k).mono sub
    · exact .hop _ w _ z _ hin (((I.sound z i hi).mono sub).later hiw) (Int.le_refl _)
  · have key : ∀ b : Str × Int, Reach (P ++ [(w, y, z)]) (x, h) b → ∃ e, getA (stepS f (w, y, z)) b.1 = some e ∧ e ≤ b.2 := by
      intro b p
      generalize ha : (x, h) = a at p
      induction p with
      | stay x' h' t e =>
        cases ha
        obtain ⟨e0, h1, h2⟩ := I.full x h (.stay _ _ _ (Int.le_refl _))
        exact ⟨e0, keep _ _ h1, by dsimp only; omega⟩
      | hop a' w' y' z' t m p e ih =>
        obtain ⟨e0, h1, h2⟩ := ih ha
        dsimp only at h1 h2 ⊢
        have hw : w' ≤ w := by
          rcases List.mem_append.mp m with q | q
          · exact hr _ q
          · rw [List.mem_singleton] at q
            cases q
            exact Int.le_refl _
        have old : getA f z' = some e0 := by
          rcases new z' e0 h1 with k | ⟨_, q, _⟩
          · exact k
          · omega
        rcases List.mem_append.mp m with q | q
        · obtain ⟨e1, k1, k2⟩ := I.full y' (w' + 1) (.hop _ w' y' z' _ q ((I.sound z' e0 old).later h2) (Int.le_refl _))
          exact ⟨e1, keep _ _ k1, by omega⟩
        · rw [List.mem_singleton] at q
          cases q
          cases hy : getA f y with
          | none => exact ⟨w + 1, put e0 old h2 hy, by omega⟩
          | some e1 =>
            refine ⟨e1, keep _ _ hy, ?_⟩
            have hx := (I.sound z e0 old).le
            dsimp only at hx
            rcases I.top y e1 hy with k | ⟨q, hq, k⟩
            · omega
            · have := hr q hq
              omega
    exact key (u, t) p
  · rcases new u e he with k | ⟨rfl, rfl, i, hi, hiw⟩
    · rcases I.top u e k with k | ⟨q, hq, k⟩
      · exact .inl k
      · exact .inr ⟨q, sub q hq, k⟩
    · exact .inr ⟨_, hin, rfl⟩
theorem spread_inv {x : Str} {h : Int} : ∀ (Q P : List Row) (f : AL), Sorted (P ++ Q) → SpI P x h f → SpI (P ++ Q) x h (Q.foldl stepS f)
  | [], P, f, _, I => by rw [List.append_nil]; exact I
  | r :: Q, P, f, s, I => by
    have hr : ∀ q ∈ P, q.1 ≤ r.1 := fun q hq => (List.pairwise_append.mp s).2.2 q hq r List.mem_cons_self
    have e : P ++ r :: Q = (P ++ [r]) ++ Q := by simp
    rw [e] at s ⊢
    exact spread_inv Q (P ++ [r]) (stepS f r) s (spI_step I r hr)
theorem spread_ok {rows : List Row} (s : Sorted rows) (x : Str) (h : Int) : SpI rows x h (spreadS rows x h) := by
  have := spread_inv (x := x) (h := h) rows [] [(x, h)] (by simpa using s) (spI_nil x h)
  rw [List.nil_append] at this
  exact this
/-- the earliest hour, told by Reach -/
theorem spread_iff {rows : List Row} (s : Sorted rows) {x : Str} {h : Int} {y : Str} {t : Int} : (∃ e, getA (spreadS rows x h) y = some e ∧ e ≤ t) ↔ Reach rows (x, h) (y, t) :=
  ⟨fun ⟨e, h1, h2⟩ => ((spread_ok s x h).sound y e h1).later h2, fun p => (spread_ok s x h).full y t p⟩
/-! bounds_for: the same, from the end -/
structure BoI (P : List Row) (x : Str) (h : Int) (f : AL) : Prop where
  sound : ∀ y e, getA f y = some e → Reach P (y, e) (x, h)
  full : ∀ y t, Reach P (y, t) (x, h) → ∃ e, getA f y = some e ∧ t ≤ e
  top : ∀ y e, getA f y = some e → e = h ∨ ∃ r ∈ P, e = r.1
theorem boI_nil (x : Str) (h : Int) : BoI [] x h [(x, h)] := by
  refine ⟨fun y e he => ?_, fun y t p => ?_, fun y e he => ?_⟩
  · rw [getA_one] at he
    split at he
    · rename_i z
      cases he
      rw [z]
      exact .stay _ _ _ (Int.le_refl _)
    · cases he
  · cases p with
    | stay x h0 _ e => exact ⟨h, by rw [getA_one, if_pos rfl], e⟩
    | hop _ w _ z _ m p e => cases m
  · rw [getA_one] at he
    split at he
    · cases he
      exact .inl rfl
    · cases he
theorem boI_step {P : List Row} {x : Str} {h : Int} {f : AL} (I : BoI P x h f) (r : Row) (hr : ∀ q ∈ P, r.1 ≤ q.1) : BoI (r :: P) x h (stepB f r) := by
  obtain ⟨w, y, z⟩ := r
  have sub : ∀ q ∈ P, q ∈ (w, y, z) :: P := fun q hq => List.mem_cons_of_mem _ hq
  have hin : (w, y, z) ∈ (w, y, z) :: P := List.mem_cons_self
  have keep : ∀ u e, getA f u = some e → getA (stepB f (w, y, z)) u = some e := fun u e he => by
    unfold stepB
    split
    · split
      · rename_i c
        rw [getA_put]
        split
        · rename_i q
          rw [q, c.2] at he
          cases he
        · exact he
      · exact he
    · exact he
  have new : ∀ u e, getA (stepB f (w, y, z)) u = some e → getA f u = some e ∨ (u = z ∧ e = w ∧ ∃ i, getA f y = some i ∧ w + 1 ≤ i) := fun u e he => by
    unfold stepB at he
    split at he
    · rename_i i hi
      split at he
      · rename_i c
        rw [getA_put] at he
        split at he
        · rename_i q
          cases he
          exact .inr ⟨q, rfl, i, hi, c.1⟩
        · exact .inl he
      · exact .inl he
    · exact .inl he
  have put : ∀ i, getA f y = some i → w + 1 ≤ i → getA f z = none → getA (stepB f (w, y, z)) z = some w := fun i h1 h2 h3 => by
    unfold stepB
    dsimp only
    rw [h1]
    dsimp only
    rw [if_pos ⟨h2, h3⟩, getA_put, if_pos rfl]
  have one : ∀ {rows : List Row} {w : Int} {y z : Str} {b : Str × Int}, (w, y, z) ∈ rows → Reach rows (y, w + 1) b → Reach rows (z, w) b := fun m p => (Reach.hop _ _ _ _ _ m (.stay _ _ _ (Int.le_refl _)) (Int.le_refl _)).trans p
  refine ⟨fun u e he => ?_, fun u t p => ?_, fun u e he => ?_⟩
  · rcases new u e he with k | ⟨rfl, rfl, i, hi, hiw⟩
    · exact (I.sound u e k).mono sub
    · exact one hin (((I.sound y i hi).mono sub).earlier hiw)
  · -- walk from the front: the number of hops
    have key : ∀ (n : Nat) (a : Str × Int), (h - a.2).toNat ≤ n → Reach ((w, y, z) :: P) a (x, h) → ∃ e, getA (stepB f (w, y, z)) a.1 = some e ∧ a.2 ≤ e := by
      intro n
      induction n with
      | zero =>
        intro a hn p
        have hle := p.le
        dsimp only at hle
        rcases p.head with ⟨e1, e2⟩ | ⟨w', y', m', e', p'⟩
        · dsimp only at e1
          obtain ⟨e0, h1, h2⟩ := I.full x h (.stay _ _ _ (Int.le_refl _))
          exact ⟨e0, keep _ _ (by rw [e1]; exact h1), by omega⟩
        · have := p'.le
          dsimp only at this
          omega
      | succ n ih =>
        intro a hn p
        rcases p.head with ⟨e1, e2⟩ | ⟨w', y', m', e', p'⟩
        · dsimp only at e1 e2
          obtain ⟨e0, h1, h2⟩ := I.full x h (.stay _ _ _ (Int.le_refl _))
          exact ⟨e0, keep _ _ (by rw [e1]; exact h1), by omega⟩
        · have hle := p'.le
          dsimp only at hle
          obtain ⟨e0, h1, h2⟩ := ih (y', w' + 1) (by dsimp only; omega) p'
          dsimp only at h1 h2
          have hw : w ≤ w' := by
            rcases List.mem_cons.mp m' with q | q
            · cases q
              exact Int.le_refl _
            · exact hr _ q
          have old : getA f y' = some e0 := by
            rcases new y' e0 h1 with k | ⟨_, q, _⟩
            · exact k
            · omega
          rcases List.mem_cons.mp m' with q | q
          · cases q
            cases hz : getA f a.1 with
            | none => exact ⟨w, put e0 old h2 hz, e'⟩
            | some e1 =>
              refine ⟨e1, keep _ _ hz, ?_⟩
              have hx := (I.sound y e0 old).le
              dsimp only at hx
              rcases I.top _ e1 hz with k | ⟨q, hq, k⟩
              · omega
              · have := hr q hq
                dsimp only at this
                omega
          · obtain ⟨e1, k1, k2⟩ := I.full a.1 w' (one q ((I.sound y' e0 old).earlier h2))
            exact ⟨e1, keep _ _ k1, by omega⟩
    exact key _ (u, t) (Nat.le_refl _) p
  · rcases new u e he with k | ⟨rfl, rfl, i, hi, hiw⟩
    · rcases I.top u e k with k | ⟨q, hq, k⟩
      · exact .inl k
      · exact .inr ⟨q, sub q hq, k⟩
    · exact .inr ⟨_, hin, rfl⟩
theorem bound_inv {x : Str} {h : Int} : ∀ (P : List Row), Sorted P → BoI P x h (P.reverse.foldl stepB [(x, h)])
  | [], _ => boI_nil x h
  | r :: P, s => by
    rw [List.reverse_cons, List.foldl_append]
    exact boI_step (bound_inv P (List.pairwise_cons.mp s).2) r (List.pairwise_cons.mp s).1
theorem bound_ok {rows : List Row} (s : Sorted rows) (x : Str) (h : Int) : BoI rows x h (boundS rows x h) := bound_inv rows s
theorem bound_iff {rows : List Row} (s : Sorted rows) {x : Str} {h : Int} {y : Str} {t : Int} : (∃ e, getA (boundS rows x h) y = some e ∧ t ≤ e) ↔ Reach rows (y, t) (x, h) :=
  ⟨fun ⟨e, h1, h2⟩ => ((bound_ok s x h).sound y e h1).earlier h2, fun p => (bound_ok s x h).full y t p⟩
theorem sight_hours (G : Fleet) : Sorted (sightOf G) := by
  unfold sightOf Sorted
  rw [List.pairwise_flatMap]
  refine ⟨fun h hh => ?_, ?_⟩
  · rw [List.pairwise_flatMap]
    refine ⟨fun s hs => ?_, ?_⟩
    · rw [List.pairwise_map]
      exact List.pairwise_of_forall fun _ _ => Int.le_refl _
    · refine List.pairwise_of_forall fun s t a ha b hb => ?_
      obtain ⟨_, _, rfl⟩ := List.mem_map.mp ha
      obtain ⟨_, _, rfl⟩ := List.mem_map.mp hb
      exact Int.le_refl _
  · refine List.pairwise_lt_range.imp fun {h k} hk a ha b hb => ?_
    obtain ⟨_, _, ha⟩ := List.mem_flatMap.mp ha
    obtain ⟨_, _, hb⟩ := List.mem_flatMap.mp hb
    obtain ⟨_, _, rfl⟩ := List.mem_map.mp ha
    obtain ⟨_, _, rfl⟩ := List.mem_map.mp hb
    dsimp only
    omega
end HF

set_option Elab.async false
set_option autoImplicit false
set_option linter.all false
set_option maxRecDepth 100000
set_option maxHeartbeats 4000000
/-! earliest and latest, run. -/
namespace HF
open PySem PySem.Spec PyProof.Rows L2
def prD (p : Str × Int) : D := .tuple [.str p.1, .int p.2]
def keysNd (ps : AL) : Prop := (ps.map (·.1)).Nodup
theorem getA_mem {ps : AL} (nd : keysNd ps) {y : Str} {e : Int} : getA ps y = some e ↔ (y, e) ∈ ps := by
  unfold getA
  constructor
  · intro h
    cases hf : ps.find? (fun p => decide (p.1 = y)) with
    | none => rw [hf] at h; cases h
    | some p =>
      rw [hf] at h
      have h1 := List.mem_of_find?_eq_some hf
      have h2 := List.find?_some hf
      simp only [decide_eq_true_eq] at h2
      have h3 : p.2 = e := by simpa using h
      rw [← h2, ← h3]
      exact h1
  · intro h
    cases hf : ps.find? (fun p => decide (p.1 = y)) with
    | none =>
      rw [List.find?_eq_none] at hf
      have := hf _ h
      simp at this
    | some p =>
      have h1 := List.mem_of_find?_eq_some hf
      have h2 := List.find?_some hf
      simp only [decide_eq_true_eq] at h2
      have : p = (y, e) := map_inj nd h1 h h2
      rw [this]
      rfl
theorem getA_perm {ps ys : AL} (nd : keysNd ps) (p : ys.Perm ps) (y : Str) : getA ys y = getA ps y := by
  have nd' : keysNd ys := (p.map _).nodup_iff.mpr nd
  apply Option.ext
  intro e
  rw [getA_mem nd, getA_mem nd', p.mem_iff]
theorem putA_nd {ps : AL} (nd : keysNd ps) (x : Str) (v : Int) : keysNd (putA ps x v) := by
  unfold putA keysNd
  cases ha : ps.any (fun p => decide (p.1 = x)) with
  | true =>
    rw [if_pos rfl, List.map_map]
    have : ps.map ((fun p : Str × Int => p.1) ∘ fun p => if p.1 = x then (p.1, v) else p) = ps.map (·.1) := List.map_congr_left fun p _ => by
      show (if p.1 = x then (p.1, v) else p).1 = p.1
      split <;> rfl
    rw [this]
    exact nd
  | false =>
    rw [if_neg Bool.false_ne_true, List.map_append]
    rw [List.any_eq_false] at ha
    refine List.nodup_append.mpr ⟨nd, by simp, fun a h1 b h2 e => ?_⟩
    obtain ⟨p, hp, rfl⟩ := List.mem_map.mp h1
    rw [List.map_singleton, List.mem_singleton] at h2
    have := ha p hp
    simp only [decide_eq_true_eq] at this
    exact this (e.trans h2)
theorem putA_len (ps : AL) (x : Str) (v : Int) : (putA ps x v).length ≤ ps.length + 1 := by
  unfold putA
  split
  · rw [List.length_map]; omega
  · rw [List.length_append]; simp
theorem putA_keys {ps : AL} {x : Str} {v : Int} {q : Str → Prop} (h : ∀ p ∈ ps, q p.1) (hx : q x) : ∀ p ∈ putA ps x v, q p.1 := by
  intro p hp
  unfold putA at hp
  split at hp
  · obtain ⟨r, hr, rfl⟩ := List.mem_map.mp hp
    have := h r hr
    split <;> exact this
  · rcases List.mem_append.mp hp with z | z
    · exact h p z
    · rw [List.mem_singleton.mp z]
      exact hx
/-- what a walk keeps -/
structure ALok (q : Str → Prop) (n : Nat) (ps : AL) : Prop where
  nd : keysNd ps
  len : ps.length ≤ n
  keys : ∀ p ∈ ps, q p.1
theorem alok_one {q : Str → Prop} {x : Str} (h : Int) (hx : q x) : ALok q 1 [(x, h)] := ⟨by simp [keysNd], by simp, fun p hp => by rw [List.mem_singleton.mp hp]; exact hx⟩
theorem alok_put {q : Str → Prop} {n : Nat} {ps : AL} (o : ALok q n ps) {x : Str} (hx : q x) (v : Int) : ALok q (n + 1) (putA ps x v) :=
  ⟨putA_nd o.nd x v, by have := putA_len ps x v; have := o.len; omega, putA_keys o.keys hx⟩
theorem alok_up {q : Str → Prop} {n m : Nat} {ps : AL} (o : ALok q n ps) (h : n ≤ m) : ALok q m ps := ⟨o.nd, Nat.le_trans o.len h, o.keys⟩
theorem alok_S {q : Str → Prop} {n : Nat} {ps : AL} (o : ALok q n ps) {r : Row} (hr : q r.2.1) : ALok q (n + 1) (stepS ps r) := by
  unfold stepS
  split
  · split
    · exact alok_put o hr _
    · exact alok_up o (Nat.le_succ _)
  · exact alok_up o (Nat.le_succ _)
theorem alok_B {q : Str → Prop} {n : Nat} {ps : AL} (o : ALok q n ps) {r : Row} (hr : q r.2.2) : ALok q (n + 1) (stepB ps r) := by
  unfold stepB
  split
  · split
    · exact alok_put o hr _
    · exact alok_up o (Nat.le_succ _)
  · exact alok_up o (Nat.le_succ _)
theorem alok_fold {q : Str → Prop} {st : AL → Row → AL} : ∀ {rows : List Row} {n : Nat} {ps : AL}, (∀ (n : Nat) (ps : AL) (r : Row), r ∈ rows → ALok q n ps → ALok q (n + 1) (st ps r)) → ALok q n ps → ALok q (n + rows.length) (rows.foldl st ps)
  | [], _, _, _, o => o
  | r :: rows, n, ps, h, o => by
    have := alok_fold (rows := rows) (fun n ps q hq => h n ps q (List.mem_cons_of_mem _ hq)) (h n ps r List.mem_cons_self o)
    rw [List.length_cons, show n + (rows.length + 1) = n + 1 + rows.length by omega]
    exact this
/-- a walk told by the number of turns -/
theorem forL_idx {α : Type} {enc : α → D} {bnd : D → List SV → Res (List SV)} {b : List SV → SR} (P : Nat → List SV → Prop) {xs : List α} {σ : List SV} (h0 : P 0 σ)
    (hs : ∀ (j : Nat) x σ, xs[j]? = some x → P j σ → ∃ τ, bnd (enc x) σ = .ok τ ∧ Ends (b τ) (P (j + 1))) : EndsN (forL bnd b (xs.map enc) σ) (P xs.length) := by
  obtain ⟨ρ, h1, h2⟩ := forL_inv P (xs := xs.map enc) (i := 0) h0 fun j x σ hx hp => by
    rw [List.getElem?_map] at hx
    cases hj : xs[j]? with
    | none => rw [hj] at hx; cases hx
    | some y =>
      rw [hj] at hx
      cases hx
      rw [Nat.zero_add] at hp ⊢
      obtain ⟨τ, e1, ρ, e2, e3⟩ := hs j y σ hj hp
      exact ⟨τ, ρ, e1, e2, e3⟩
  rw [Nat.zero_add, List.length_map] at h2
  exact ⟨ρ, h1, h2⟩
theorem fold_take {α β : Type} {st : β → α → β} {xs : List α} {b : β} {j : Nat} {x : α} (h : xs[j]? = some x) : (xs.take (j + 1)).foldl st b = st ((xs.take j).foldl st b) x := by
  rw [List.take_add_one, h, List.foldl_append]
  rfl
theorem dput_al (φ : Nat → List D → Res D) (fu : Nat) (i : Nat) (k e : E) (σ : List SV) (f : AL) (x : Str) (v : Int) (hs : σ[i]? = some (.own (dicD f))) (he : ev φ e σ = .ok (.int v)) (hk : ev φ k σ = .ok (.str x)) (hl : f.length < 16777216) :
    evS φ fu (.dput i k e) σ = .ok .nx (σ.set i (.own (dicD (putA f x v)))) := by
  rw [s_dput, he, of_ok, hs]
  show SR.of (ev φ k σ) σ _ = _
  rw [hk, of_ok]
  rw [if_pos (by rw [keysK_al, List.length_map, decide_eq_true hl]; rfl), putD_al]
  rfl
section
variable (φ : Nat → List D → Res D) (fu : Nat)
theorem spread_spec (rows : List Row) (x : Str) (h : Int) (hl : rows.length ≤ 1000) : retOf (evSs φ fu f_spread.body (start0 7 [.list (rows.map rowD), .str x, .int h])) = .ok (dicD (spreadS rows x h)) := by
  have h1 : evS φ fu f_spread_s1 (start0 7 [.list (rows.map rowD), .str x, .int h]) = .ok .nx [.fz (.list (rows.map rowD)), .fz (.str x), .fz (.int h), .own (dicD [(x, h)]), .no, .no, .no] := by
    simp [f_spread_s1, start0, isKey, keyK, ownable, dicD, kvD]
  have h2 : EndsN (evS φ fu f_spread_s2 [.fz (.list (rows.map rowD)), .fz (.str x), .fz (.int h), .own (dicD [(x, h)]), .no, .no, .no]) fun σ => ∃ o4 o5 o6, σ = [.fz (.list (rows.map rowD)), .fz (.str x), .fz (.int h), .own (dicD (spreadS rows x h)), gv o4, gv o5, gv o6] := by
    rw [f_spread_s2, s_for, if_pos (by simp [itFz, frzE]), show evI φ (.val (.loc 0)) _ = .ok (rows.map rowD) from rfl, of_ok]
    refine (forL_idx (fun j σ => ∃ o4 o5 o6, σ = [.fz (.list (rows.map rowD)), .fz (.str x), .fz (.int h), .own (dicD ((rows.take j).foldl stepS [(x, h)])), gv o4, gv o5, gv o6]) ⟨none, none, none, rfl⟩ ?_).imp fun ρ ⟨o4, o5, o6, e⟩ => ⟨o4, o5, o6, by rw [e, List.take_length]; rfl⟩
    rintro j r _ hj ⟨o4, o5, o6, rfl⟩
    have hf := fold_take (st := stepS) (b := [(x, h)]) hj
    have ok := alok_fold (q := fun _ => True) (st := stepS) (rows := rows.take j) (fun n ps r _ o => alok_S o trivial) (alok_one (x := x) h trivial)
    have hlen : ((rows.take j).foldl stepS [(x, h)]).length < 16777216 := by
      have a := ok.len
      rw [List.length_take] at a
      omega
    generalize (rows.take j).foldl stepS [(x, h)] = f at hf hlen
    refine ⟨[.fz (.list (rows.map rowD)), .fz (.str x), .fz (.int h), .own (dicD f), .fz (.int r.1), .fz (.str r.2.1), .fz (.str r.2.2)], by rw [show rowD r = .tuple [.int r.1, .str r.2.1, .str r.2.2] from rfl, bind_tup]; simp [setAll], ?_⟩
    refine ends_mk (ρ := [.fz (.list (rows.map rowD)), .fz (.str x), .fz (.int h), .own (dicD (stepS f r)), .fz (.int r.1), .fz (.str r.2.1), .fz (.str r.2.2)]) ?_ ⟨some (.int r.1), some (.str r.2.1), some (.str r.2.2), by rw [hf]; rfl⟩
    unfold stepS
    cases hi : getA f r.2.2 with
    | none => simp [hi]
    | some i =>
      have d := dix_al hi
      by_cases hle : i ≤ r.1
      · cases hy : getA f r.2.1 with
        | some e => simp [hi, d, hle, hy]
        | none =>
          have p := dput_al φ fu 3 (.loc 5) (.bin .add (.loc 4) (.int 1)) [.fz (.list (rows.map rowD)), .fz (.str x), .fz (.int h), .own (dicD f), .fz (.int r.1), .fz (.str r.2.1), .fz (.str r.2.2)] f r.2.1 (r.1 + 1) rfl rfl rfl hlen
          simp [-s_dput, hi, d, hle, hy, p]
      · simp [hi, d, hle]
  show retOf (evSs φ fu (.cons f_spread_s1 (.cons f_spread_s2 (.cons f_spread_s3 .nil))) _) = _
  rw [ss_cons, h1, then_ok, ss_cons]
  refine EndsN.ret h2 ?_
  rintro _ ⟨o4, o5, o6, rfl⟩
  rfl
theorem bounds_spec (rows : List Row) (x : Str) (h : Int) (hl : rows.length ≤ 1000) : retOf (evSs φ fu f_bounds_for.body (start0 7 [.list (rows.map rowD), .str x, .int h])) = .ok (dicD (boundS rows x h)) := by
  have h1 : evS φ fu f_bounds_for_s1 (start0 7 [.list (rows.map rowD), .str x, .int h]) = .ok .nx [.fz (.list (rows.map rowD)), .fz (.str x), .fz (.int h), .own (dicD [(x, h)]), .no, .no, .no] := by
    simp [f_bounds_for_s1, start0, isKey, keyK, ownable, dicD, kvD]
  have hrev : evI φ (.val (.rev (.loc 0) .no)) [.fz (.list (rows.map rowD)), .fz (.str x), .fz (.int h), .own (dicD [(x, h)]), .no, .no, .no] = .ok (rows.reverse.map rowD) := by
    have : dRev (.list (rows.map rowD)) none = .ok (.list (rows.map rowD).reverse) := rfl
    simp [this]
  have h2 : EndsN (evS φ fu f_bounds_for_s2 [.fz (.list (rows.map rowD)), .fz (.str x), .fz (.int h), .own (dicD [(x, h)]), .no, .no, .no]) fun σ => ∃ o4 o5 o6, σ = [.fz (.list (rows.map rowD)), .fz (.str x), .fz (.int h), .own (dicD (boundS rows x h)), gv o4, gv o5, gv o6] := by
    rw [f_bounds_for_s2, s_for, if_pos (by simp [itFz, frzE]), hrev, of_ok]
    have hl' : rows.reverse.length ≤ 1000 := by rw [List.length_reverse]; exact hl
    unfold boundS
    generalize rows.reverse = rv at hl'
    refine (forL_idx (fun j σ => ∃ o4 o5 o6, σ = [.fz (.list (rows.map rowD)), .fz (.str x), .fz (.int h), .own (dicD ((rv.take j).foldl stepB [(x, h)])), gv o4, gv o5, gv o6]) ⟨none, none, none, rfl⟩ ?_).imp fun ρ ⟨o4, o5, o6, e⟩ => ⟨o4, o5, o6, by rw [e, List.take_length]⟩
    rintro j r _ hj ⟨o4, o5, o6, rfl⟩
    have hf := fold_take (st := stepB) (b := [(x, h)]) hj
    have ok := alok_fold (q := fun _ => True) (st := stepB) (rows := rv.take j) (fun n ps r _ o => alok_B o trivial) (alok_one (x := x) h trivial)
    have hlen : ((rv.take j).foldl stepB [(x, h)]).length < 16777216 := by
      have a := ok.len
      rw [List.length_take] at a
      omega
    generalize (rv.take j).foldl stepB [(x, h)] = f at hf hlen
    refine ⟨[.fz (.list (rows.map rowD)), .fz (.str x), .fz (.int h), .own (dicD f), .fz (.int r.1), .fz (.str r.2.1), .fz (.str r.2.2)], by rw [show rowD r = .tuple [.int r.1, .str r.2.1, .str r.2.2] from rfl, bind_tup]; simp [setAll], ?_⟩
    refine ends_mk (ρ := [.fz (.list (rows.map rowD)), .fz (.str x), .fz (.int h), .own (dicD (stepB f r)), .fz (.int r.1), .fz (.str r.2.1), .fz (.str r.2.2)]) ?_ ⟨some (.int r.1), some (.str r.2.1), some (.str r.2.2), by rw [hf]; rfl⟩
    unfold stepB
    cases hi : getA f r.2.1 with
    | none => simp [hi]
    | some i =>
      have d := dix_al hi
      by_cases hle : r.1 + 1 ≤ i
      · cases hy : getA f r.2.2 with
        | some e => simp [hi, d, hle, hy]
        | none =>
          have p := dput_al φ fu 3 (.loc 6) (.loc 4) [.fz (.list (rows.map rowD)), .fz (.str x), .fz (.int h), .own (dicD f), .fz (.int r.1), .fz (.str r.2.1), .fz (.str r.2.2)] f r.2.2 r.1 rfl rfl rfl hlen
          simp [-s_dput, hi, d, hle, hy, p]
      · simp [hi, d, hle]
  show retOf (evSs φ fu (.cons f_bounds_for_s1 (.cons f_bounds_for_s2 (.cons f_bounds_for_s3 .nil))) _) = _
  rw [ss_cons, h1, then_ok, ss_cons]
  refine EndsN.ret h2 ?_
  rintro _ ⟨o4, o5, o6, rfl⟩
  rfl
end
/-! sorted items, and dict of them -/
theorem sortOk_prs {ps : AL} (h : ∀ p ∈ ps, PyData.strOk p.1 = true) : sortOk (ps.map prD) = true := by
  unfold sortOk
  simp only [Bool.and_eq_true, Bool.or_eq_true, List.all_eq_true]
  have f : ∀ d ∈ ps.map prD, ∃ r ∈ ps, d = prD r := fun d hd => let ⟨r, hr, e⟩ := List.mem_map.mp hd; ⟨r, hr, e.symm⟩
  refine ⟨⟨fun d hd => ?_, fun a ha b hb => ?_⟩, .inl fun d hd => ?_⟩
  · obtain ⟨r, hr, rfl⟩ := f d hd
    simp [SeqAt.shaped, prD, PyData.canLay0, PyData.canLayAll0, PyData.depth, PyData.depthAll, h r hr]
  · obtain ⟨r, hr, rfl⟩ := f a ha
    obtain ⟨q, hq, rfl⟩ := f b hb
    rfl
  · obtain ⟨r, hr, rfl⟩ := f d hd
    rfl
def unpr : D → Str × Int
  | .tuple [.str x, .int i] => (x, i)
  | _ => ("", 0)
theorem unpr_map (ps : AL) : (ps.map prD).map unpr = ps := by
  rw [List.map_map]
  conv => rhs; rw [← List.map_id ps]
  exact List.map_congr_left fun _ _ => rfl
theorem sitems_al {ps : AL} (h : ∀ p ∈ ps, PyData.strOk p.1 = true) : ∃ ys : AL, ys.Perm ps ∧ dSItems (dicD ps) = .ok (.list (ys.map prD)) := by
  have e1 : (ps.map kvD).map pairD = ps.map prD := by rw [List.map_map]; rfl
  obtain ⟨ys, e, _⟩ := typed_list (enc := prD) (xs := ps) (l := isort (ps.map prD)) fun d hd => (isort_pm _).mem_iff.mp hd
  refine ⟨ys, ?_, ?_⟩
  · have p := (isort_pm (ps.map prD)).map unpr
    rw [e, unpr_map, unpr_map] at p
    exact p
  · show (if (keysK (ps.map kvD) && sortOk ((ps.map kvD).map pairD)) = true then Res.ok (PyData.list (isort ((ps.map kvD).map pairD))) else .bad) = _
    rw [keysK_al, e1, sortOk_prs h, if_pos (by rfl), e]
theorem merge_al : ∀ (more ps : AL), keysNd (ps ++ more) → mergeD (ps.map kvD) (more.map kvD) = (ps ++ more).map kvD
  | [], ps, _ => by rw [List.append_nil]; rfl
  | m :: more, ps, nd => by
    have e : ps ++ m :: more = (ps ++ [m]) ++ more := by simp
    have hn : ps.any (fun p => decide (p.1 = m.1)) = false := by
      rw [List.any_eq_false]
      intro p hp
      unfold keysNd at nd
      rw [List.map_append, List.map_cons] at nd
      have := (List.nodup_append.mp nd).2.2 p.1 (List.mem_map_of_mem hp) m.1 List.mem_cons_self
      simpa using this
    have hp : putD (ps.map kvD) (kvD m).1 (kvD m).2 = (ps ++ [m]).map kvD := by
      show putD (ps.map kvD) (.str m.1) (.int m.2) = _
      rw [putD_al]
      unfold putA
      rw [hn, if_neg Bool.false_ne_true]
    have := merge_al more (ps ++ [m]) (by rw [← e]; exact nd)
    rw [e, ← this]
    show mergeD (putD (ps.map kvD) (kvD m).1 (kvD m).2) (more.map kvD) = _
    rw [hp]
theorem dict_al {ps : AL} (nd : keysNd ps) (hl : ps.length ≤ 1000) : dDictL (.list (ps.map prD)) = .ok (dicD ps) := by
  have e : (ps.map prD).mapM unpair = some (ps.map kvD) := by
    clear nd hl
    induction ps with
    | nil => rfl
    | cons p r ih => simp [List.mapM_cons, ih, prD, unpair, isKey, keyK, kvD]
  show (match (ps.map prD).mapM unpair with
    | some qs => if qs.length ≤ 1000 then Res.ok (PyData.dict (mergeD [] qs)) else .bad
    | none => .bad) = _
  rw [e]
  show (if (ps.map kvD).length ≤ 1000 then _ else _) = _
  rw [if_pos (by rw [List.length_map]; exact hl)]
  have := merge_al ps [] (by simpa using nd)
  rw [show mergeD [] (ps.map kvD) = mergeD (([] : AL).map kvD) (ps.map kvD) from rfl, this]
  rfl
theorem dict_alF {ps : AL} (nd : keysNd ps) (hl : ps.length ≤ 1000) : dDictF (.list (ps.map prD)) = .ok (dicF ps) := by
  unfold dDictF
  rw [dict_al nd hl]
  rfl
end HF

set_option Elab.async false
set_option autoImplicit false
set_option linter.all false
set_option maxRecDepth 100000
set_option maxHeartbeats 4000000
/-! earliest and latest of a fleet. -/
namespace HF
open PySem PySem.Spec PyProof.Rows L2
structure HasR (T : List Fn) : Prop extends HasS T where
  spread : findF T 31 = some f_spread
  earliest : findF T 32 = some f_earliest
  bounds : findF T 41 = some f_bounds_for
  plainL : findF T 42 = some f_plain_latest
  latest : findF T 43 = some f_latest
/-- what earliest tells, as a dict -/
structure Ear (rows : List Row) (x : Str) (h : Int) (ys : AL) : Prop where
  nd : keysNd ys
  len : ys.length ≤ 1000
  keys : ∀ p ∈ ys, PyData.strOk p.1 = true
  sound : ∀ y e, getA ys y = some e → Reach rows (x, h) (y, e)
  full : ∀ y t, Reach rows (x, h) (y, t) → ∃ e, getA ys y = some e ∧ e ≤ t
theorem Ear.iff {rows : List Row} {x : Str} {h : Int} {ys : AL} (E : Ear rows x h ys) {y : Str} {t : Int} : (∃ e, getA ys y = some e ∧ e ≤ t) ↔ Reach rows (x, h) (y, t) :=
  ⟨fun ⟨e, h1, h2⟩ => (E.sound y e h1).later h2, E.full y t⟩
/-- what latest tells: the goal's own hour is cut at the last -/
structure Lat (rows : List Row) (x : Str) (h last : Int) (ys : AL) : Prop where
  nd : keysNd ys
  len : ys.length ≤ 1000
  keys : ∀ p ∈ ys, PyData.strOk p.1 = true
  own : getA ys x = some (min h last)
  sound : ∀ y e, y ≠ x → getA ys y = some e → Reach rows (y, e) (x, h)
  full : ∀ y t, y ≠ x → Reach rows (y, t) (x, h) → ∃ e, getA ys y = some e ∧ t ≤ e
theorem sight_len {G : Fleet} (l0 : 0 ≤ G.last) (l7 : G.last ≤ 7) (k5 : G.ships.length ≤ 5) : (sightOf G).length ≤ 200 := by
  have h1 : ∀ (h : Nat) (s : Ship), ((G.ships.filter fun t => seesS G h s t).map fun t => (((h : Int), s.name, t.name) : Row)).length ≤ 5 := fun h s => by
    rw [List.length_map]
    exact Nat.le_trans (List.length_filter_le _ _) k5
  have h2 : ∀ h : Nat, (G.ships.flatMap fun s => (G.ships.filter fun t => seesS G h s t).map fun t => (((h : Int), s.name, t.name) : Row)).length ≤ 25 := fun h => by
    have := flatMap_len (xs := G.ships) (fun s _ => h1 h s)
    omega
  have := flatMap_len (xs := List.range (G.last + 1).toNat) (fun h _ => h2 h)
  rw [List.length_range] at this
  have e : (sightOf G).length ≤ 25 * (G.last + 1).toNat := this
  omega
theorem spread_ear {G : Fleet} (w : G.wf) (hl : (sightOf G).length ≤ 200) {x : Str} (hx : PyData.strOk x = true) (h : Int) {ys : AL} (p : ys.Perm (spreadS (sightOf G) x h)) : Ear (sightOf G) x h ys := by
  have o := alok_fold (q := fun n => PyData.strOk n = true) (st := stepS) (rows := sightOf G) (fun n ps r hr o => alok_S o (sight_ok w r hr).1) (alok_one h hx)
  have o' : ALok _ _ (spreadS (sightOf G) x h) := o
  have s := spread_ok (sight_hours G) x h
  refine ⟨(p.map _).nodup_iff.mpr o'.nd, by have := p.length_eq; have := o'.len; omega, fun q hq => o'.keys q (p.mem_iff.mp hq), fun y e he => ?_, fun y t r => ?_⟩
  · rw [getA_perm o'.nd p] at he
    exact s.sound y e he
  · obtain ⟨e, h1, h2⟩ := s.full y t r
    exact ⟨e, by rw [getA_perm o'.nd p]; exact h1, h2⟩
theorem bound_lat {G : Fleet} (w : G.wf) (hl : (sightOf G).length ≤ 200) {x : Str} (hx : PyData.strOk x = true) (h : Int) {ys : AL} (p : ys.Perm (putA (boundS (sightOf G) x h) x (min h G.last))) : Lat (sightOf G) x h G.last ys := by
  have o := alok_fold (q := fun n => PyData.strOk n = true) (st := stepB) (rows := (sightOf G).reverse) (fun n ps r hr o => alok_B o (sight_ok w r (List.mem_reverse.mp hr)).2) (alok_one h hx)
  have o' : ALok _ _ (putA (boundS (sightOf G) x h) x (min h G.last)) := alok_put o hx _
  have s := bound_ok (sight_hours G) x h
  have ll : (sightOf G).reverse.length = (sightOf G).length := List.length_reverse
  refine ⟨(p.map _).nodup_iff.mpr o'.nd, by have := p.length_eq; have := o'.len; omega, fun q hq => o'.keys q (p.mem_iff.mp hq), ?_, fun y e hy he => ?_, fun y t hy r => ?_⟩
  · rw [getA_perm o'.nd p, getA_put, if_pos rfl]
  · rw [getA_perm o'.nd p, getA_put, if_neg hy] at he
    exact s.sound y e he
  · obtain ⟨e, h1, h2⟩ := s.full y t r
    exact ⟨e, by rw [getA_perm o'.nd p, getA_put, if_neg hy]; exact h1, h2⟩
section
variable {T : List Fn} (F : HasR T) (fu n : Nat) {G : Fleet} (ok : FleetOk G)
include F ok
theorem earliest_run {s : Ship} (hs : s ∈ G.ships) {h : Int} (h0 : 0 ≤ h) (h1 : h ≤ G.last) : ∃ ys, Ear (sightOf G) s.name h ys ∧ run T fu (n + 6) 32 [G.toD, .str s.name, .int h] = .ok (.list (ys.map prD)) := by
  obtain ⟨⟨l0, l7⟩, i1, ⟨k1, k5⟩, sh⟩ := ok.parts
  have hl := sight_len l0 l7 k5
  have wn := (ok.wf s hs).1
  have o : ALok (fun n => PyData.strOk n = true) _ (spreadS (sightOf G) s.name h) := alok_fold (st := stepS) (rows := sightOf G) (fun n ps r hr o => alok_S o (sight_ok ok.wf r hr).1) (alok_one h wn)
  obtain ⟨ys, p, e⟩ := sitems_al o.keys
  refine ⟨ys, spread_ear ok.wf hl wn h p, (call_eq F.earliest rfl).trans ?_⟩
  have a := look_run F.toHasS fu n ok
  have b := lship_run F.toHasS fu (n + 3) ok hs
  have c := lhour_run F.toHasS fu (n + 3) ok h0 h1
  have d := plainS_run F.toHasS fu (n + 2) ok
  have f : run T fu (n + 5) 31 [.list ((sightOf G).map rowD), .str s.name, .int h] = .ok (dicD (spreadS (sightOf G) s.name h)) := (call_eq F.spread rfl).trans (spread_spec _ _ _ _ _ (by omega))
  simp [f_earliest, f_earliest_s1, f_earliest_s2, f_earliest_s3, f_earliest_s4, start0, a, b, c, d, f, e]
theorem latest_run {s : Ship} (hs : s ∈ G.ships) {h : Int} (h0 : 0 ≤ h) (h1 : h ≤ G.last + 1) : ∃ ys, Lat (sightOf G) s.name h G.last ys ∧ run T fu (n + 6) 43 [G.toD, .str s.name, .int h] = .ok (.list (ys.map prD)) := by
  obtain ⟨⟨l0, l7⟩, i1, ⟨k1, k5⟩, sh⟩ := ok.parts
  have hl := sight_len l0 l7 k5
  have wn := (ok.wf s hs).1
  have o0 : ALok (fun n => PyData.strOk n = true) _ (boundS (sightOf G) s.name h) := alok_fold (st := stepB) (rows := (sightOf G).reverse) (fun n ps r hr o => alok_B o (sight_ok ok.wf r (List.mem_reverse.mp hr)).2) (alok_one h wn)
  have o := alok_put o0 (x := s.name) wn (min h G.last)
  obtain ⟨ys, p, e⟩ := sitems_al o.keys
  refine ⟨ys, bound_lat ok.wf hl wn h p, (call_eq F.latest rfl).trans ?_⟩
  have a := look_run F.toHasS fu n ok
  have b := lship_run F.toHasS fu (n + 3) ok hs
  have c : run T fu (n + 5) 22 [.int h, .int (G.last + 1)] = .ok .none := by
    refine (call_eq F.lhour rfl).trans ?_
    have := int_ok F.toHasF fu (n + 3) h 0 (G.last + 1)
    rw [show inB h 0 (G.last + 1) = true by simp [inB, h0, h1]] at this
    simp [f_look_hour, f_look_hour_s1, start0, this]
  have d : run T fu (n + 5) 42 [G.toD, .str s.name, .int h] = .ok (.list (ys.map prD)) := by
    refine (call_eq F.plainL rfl).trans ?_
    have d1 := plainS_run F.toHasS fu (n + 1) ok
    have d2 : run T fu (n + 4) 41 [.list ((sightOf G).map rowD), .str s.name, .int h] = .ok (dicD (boundS (sightOf G) s.name h)) := (call_eq F.bounds rfl).trans (bounds_spec _ _ _ _ _ (by omega))
    generalize run T fu (n + 4) = φ at *
    have s1 : evS φ fu f_plain_latest_s1 (start0 4 [G.toD, .str s.name, .int h]) = .ok .nx [.fz G.toD, .fz (.str s.name), .fz (.int h), .own (dicD (boundS (sightOf G) s.name h))] := by
      have : ownable (dicD (boundS (sightOf G) s.name h)) = true := rfl
      simp [f_plain_latest_s1, start0, d1, d2, this]
    have hlen : (boundS (sightOf G) s.name h).length < 16777216 := by
      have a := o0.len
      rw [List.length_reverse] at a
      omega
    have s2 := dput_al φ fu 3 (.loc 1) (.bi .min2 (.cons (.loc 2) (.cons (.ix (.loc 0) (.int 0)) .nil))) [.fz G.toD, .fz (.str s.name), .fz (.int h), .own (dicD (boundS (sightOf G) s.name h))] (boundS (sightOf G) s.name h) s.name (min h G.last) rfl (by simp) rfl hlen
    show retOf (evSs φ fu (.cons f_plain_latest_s1 (.cons (.dput 3 (.loc 1) (.bi .min2 (.cons (.loc 2) (.cons (.ix (.loc 0) (.int 0)) .nil)))) (.cons f_plain_latest_s3 .nil))) (start0 4 [G.toD, .str s.name, .int h])) = _
    rw [ss_cons, s1, then_ok, ss_cons, s2, then_ok]
    simp [f_plain_latest_s3, e]
  simp [f_latest, f_latest_s1, f_latest_s2, f_latest_s3, f_latest_s4, start0, a, b, c, d]
end
end HF

set_option Elab.async false
set_option autoImplicit false
set_option linter.all false
set_option maxRecDepth 100000
set_option maxHeartbeats 0
namespace K06
open PySem PySem.Spec PyProof.Rows L2 HF
def f_law_s1 : S := .set 1 (.call 1007 (.cons (.loc 0) (.cons (.int 10) (.cons (.int 4) .nil))))
def f_law_s2 : S := .par [7, 8, 9] (.cons (.call 1003 (.cons (.loc 1) .nil)) (.cons (.ix (.loc 1) (.int 0)) (.cons (.call 29 (.cons (.loc 1) .nil)) .nil)))
def f_law_s3 : S := .set 2 (.ix (.loc 7) (.call 1001 (.cons (.loc 0) (.cons (.int 1) (.cons (.bi .len (.cons (.loc 7) .nil)) .nil)))))
def f_law_s4 : S := .set 3 .non
def f_law_s5 : S := .for (.one 4) (.rng1 (.bin .add (.loc 8) (.int 1)))
      (.cons (.set 10 (.dictF (.call 32 (.cons (.loc 1) (.cons (.loc 2) (.cons (.loc 4) .nil))))))
      (.cons (.ite (.cmp .NotEq (.dix (.loc 10) (.loc 2)) (.loc 4))
      (.cons (.ret (.bl false))
      .nil)
      .nil)
      (.cons (.ite (.cmp .NotEq (.comp [("_law_name", 6)] (.one 6) (.val (.loc 10)) (.yes (.or (.cmp .Lt (.dix (.loc 10) (.loc 6)) (.loc 4)) (.cmp .Gt (.dix (.loc 10) (.loc 6)) (.bin .add (.loc 8) (.int 1))))) (.loc 6)) (.lst .nil))
      (.cons (.ret (.bl false))
      .nil)
      .nil)
      (.cons (.ite (.cmp .IsNot (.loc 3) .non)
      (.cons (.ite (.cmp .NotEq (.comp [("_law_name", 6)] (.one 6) (.val (.loc 10)) (.yes (.cmp .Gt (.dget (.loc 3) (.loc 6) (.int 99)) (.dix (.loc 10) (.loc 6)))) (.loc 6)) (.lst .nil))
      (.cons (.ret (.bl false))
      .nil)
      .nil)
      .nil)
      .nil)
      (.cons (.for (.one 6) (.val (.loc 10))
      (.cons (.ite (.cmp .NotEq (.loc 6) (.loc 2))
      (.cons (.set 15 (.bin .sub (.dix (.loc 10) (.loc 6)) (.int 1)))
      (.cons (.ite (.cmp .Eq (.comp [("_law_row", 17)] (.one 17) (.val (.loc 9)) (.yes (.and (.cmp .Eq (.ix (.loc 17) (.int 0)) (.loc 15)) (.and (.cmp .Eq (.ix (.loc 17) (.int 1)) (.loc 6)) (.cmp .LtE (.dget (.loc 10) (.ix (.loc 17) (.int 2)) (.int 99)) (.loc 15))))) (.loc 17)) (.lst .nil))
      (.cons (.ret (.bl false))
      .nil)
      .nil)
      (.cons (.ite (.cmp .LtE (.bin .add (.loc 15) (.int 1)) (.loc 8))
      (.cons (.set 16 (.dictF (.call 32 (.cons (.loc 1) (.cons (.loc 6) (.cons (.bin .add (.loc 15) (.int 1)) .nil))))))
      (.cons (.ite (.cmp .NotEq (.comp [("_law_other", 18)] (.one 18) (.val (.loc 16)) (.yes (.cmp .Gt (.dget (.loc 10) (.loc 18) (.int 99)) (.dix (.loc 16) (.loc 18)))) (.loc 18)) (.lst .nil))
      (.cons (.ret (.bl false))
      .nil)
      .nil)
      .nil))
      .nil)
      .nil)))
      .nil)
      .nil))
      (.cons (.set 11 (.dictF (.call 32 (.cons (.call 30 (.cons (.loc 1) .nil)) (.cons (.loc 2) (.cons (.loc 4) .nil))))))
      (.cons (.ite (.cmp .NotEq (.comp [("_law_name", 6)] (.one 6) (.val (.loc 10)) (.yes (.cmp .Gt (.dget (.loc 11) (.loc 6) (.int 99)) (.dix (.loc 10) (.loc 6)))) (.loc 6)) (.lst .nil))
      (.cons (.ret (.bl false))
      .nil)
      .nil)
      (.cons (.set 3 (.loc 10))
      .nil))))))))
def f_law_s6 : S := .par [12, 13] (.cons (.ix (.loc 7) (.call 1001 (.cons (.loc 0) (.cons (.int 2) (.cons (.bi .len (.cons (.loc 7) .nil)) .nil))))) (.cons (.call 1001 (.cons (.loc 0) (.cons (.int 3) (.cons (.bin .add (.loc 8) (.int 2)) .nil)))) .nil))
def f_law_s7 : S := .set 5 (.dictF (.call 43 (.cons (.loc 1) (.cons (.loc 12) (.cons (.loc 13) .nil)))))
def f_law_s8 : S := .for (.one 6) (.val (.loc 7))
      (.cons (.for (.one 4) (.rng1 (.bin .add (.loc 8) (.int 1)))
      (.cons (.set 14 (.cmp .LtE (.dget (.dictF (.call 32 (.cons (.loc 1) (.cons (.loc 6) (.cons (.loc 4) .nil))))) (.loc 12) (.int 99)) (.loc 13)))
      (.cons (.ite (.cmp .NotEq (.loc 14) (.and (.din false (.loc 6) (.loc 5)) (.cmp .LtE (.loc 4) (.dix (.loc 5) (.loc 6)))))
      (.cons (.ret (.bl false))
      .nil)
      .nil)
      .nil)))
      .nil)
def f_law_s9 : S := .ret (.cmp .Eq (.dix (.loc 5) (.loc 12)) (.bi .min2 (.cons (.loc 13) (.cons (.loc 8) .nil))))
def f_law : Fn := ⟨1019, "law", ["_law_script"], ["_law_script", "_law_fleet_here", "_law_ship", "_law_shown", "_law_hour", "_law_till", "_law_name", "_law_names_here", "_law_last", "_law_rows", "_law_here", "_law_clear", "_law_goal", "_law_by", "_law_in_time", "_law_since", "_law_on", "_law_row", "_law_other"],
    (.cons f_law_s1 (.cons f_law_s2 (.cons f_law_s3 (.cons f_law_s4 (.cons f_law_s5 (.cons f_law_s6 (.cons f_law_s7 (.cons f_law_s8 (.cons f_law_s9 .nil)))))))))⟩
end K06

set_option Elab.async false
set_option autoImplicit false
set_option linter.all false
set_option maxRecDepth 100000
set_option maxHeartbeats 0
namespace K06
open PySem PySem.Spec PyProof.Rows L2 HF
def top (i : Nat) : Stmt := PySem.Challenge.pw_hullflags_k06_whole_reading.main.body.getD i (.Pass ⟨0, 0, 0, 0⟩)
def tx : Tx where
  defs := [(f_is_whole, top 12), (f_is_name, top 13), (f_is_cell, top 14), (f_is_rising, top 15), (f_is_islands, top 16), (f_is_ship, top 17), (f_is_mist, top 18), (f_is_fleet, top 19), (f_look_fleet, top 20), (f_plain_names, top 21), (f_look_ship, top 22), (f_look_hour, top 23), (f_is_in, top 24), (f_is_between, top 25), (f_sees_at, top 26), (f_plain_sightings, top 27), (f_sightings, top 28), (f_spread, top 30), (f_earliest, top 31), (f_bounds_for, top 32), (f_plain_latest, top 33), (f_latest, top 34), (f_cleared, top 36), (f_drawn, top 38), (f__law_fleet2, top 39), (f__law_names, top 40), (f_law, top 41)]
  nums := [("MOST_PART", 9), ("MOST_LAST", 7), ("MOST_ISLANDS", 12), ("MOST_SHIPS", 5), ("MOST_MISTS", 4)]
  txts := [("SMALL", "abcdefghijklmnopqrstuvwxyz")]
  excs := ["FleetError", "NoFleet", "NoShip", "NoHour"]
  own := [41]
theorem txOk : tx.ok = true := by decide +kernel
end K06

set_option Elab.async false
set_option autoImplicit false
set_option linter.all false
set_option maxRecDepth 100000
set_option maxHeartbeats 4000000
namespace K06
open PySem PySem.Spec PyProof.Rows L2 HF
theorem ear_val {rows : List HF.Row} {x : Str} {h : Int} {ys : AL} (E : Ear rows x h ys) {y : Str} {e : Int} (he : getA ys y = some e) : h ≤ e ∧ ((y = x ∧ e = h) ∨ ∃ z, (e - 1, y, z) ∈ rows ∧ Reach rows (x, h) (z, e - 1)) := by
  have p := E.sound y e he
  refine ⟨p.le, ?_⟩
  have mn : ∀ t, Reach rows (x, h) (y, t) → e ≤ t := fun t q => by
    obtain ⟨e', h1, h2⟩ := E.full y t q
    rw [he] at h1
    cases h1
    exact h2
  have hle := p.le
  dsimp only at hle
  cases p with
  | stay _ _ _ k =>
    have := mn h (.stay _ _ _ (Int.le_refl _))
    exact .inl ⟨rfl, by omega⟩
  | hop _ w _ z _ m q k =>
    have := mn (w + 1) (.hop _ w y z _ m q (Int.le_refl _))
    have hw : w = e - 1 := by omega
    rw [hw] at m q
    exact .inr ⟨z, m, q⟩
theorem ear_own {rows : List HF.Row} {x : Str} {h : Int} {ys : AL} (E : Ear rows x h ys) : getA ys x = some h := by
  obtain ⟨e, h1, h2⟩ := E.full x h (.stay _ _ _ (Int.le_refl _))
  have := (E.sound x e h1).le
  dsimp only at this
  rw [h1, show e = h by omega]
theorem key_get {ys : AL} (nd : keysNd ys) {p : Str × Int} (hp : p ∈ ys) : getA ys p.1 = some p.2 := (getA_mem nd).mpr hp
theorem row_hour {G : Fleet} {r : HF.Row} (h : r ∈ sightOf G) : r.1 ≤ G.last ∧ r.2.1 ∈ G.names ∧ 0 ≤ r.1 := by
  obtain ⟨k, hk, s, hs, t, ht, _, rfl⟩ := mem_sight.mp h
  exact ⟨hk, List.mem_map_of_mem hs, by dsimp only; omega⟩
theorem ear_name {G : Fleet} {x : Str} {h : Int} {ys : AL} (E : Ear (sightOf G) x h ys) (hx : x ∈ G.names) {y : Str} {e : Int} (he : getA ys y = some e) : y ∈ G.names ∧ (h ≤ G.last → e ≤ G.last + 1) := by
  obtain ⟨_, ⟨rfl, rfl⟩ | ⟨z, m, _⟩⟩ := ear_val E he
  · exact ⟨hx, fun _ => by omega⟩
  · have := row_hour m
    exact ⟨this.2.1, fun _ => by have := this.1; dsimp only at this; omega⟩
/-- told later, told by one who has it, told where more is seen: it comes no earlier -/
theorem get_le {rows : List HF.Row} {x : Str} {h : Int} {ys : AL} (E : Ear rows x h ys) {y : Str} {e : Int} (p : Reach rows (x, h) (y, e)) : (getA ys y).getD 99 ≤ e := by
  obtain ⟨e', h1, h2⟩ := E.full y e p
  rw [h1]
  exact h2
theorem comp_dict {φ : Nat → List D → Res D} {σ : List SV} {own : List (Str × Nat)} {i k : Nat} {c e : E} {ys : AL} (ho : own.map (·.2) = [i]) (hk : getF σ k = .ok (dicF ys)) (hl : ys.length ≤ 16777216) (hn : noOwn σ [i] = true)
    (hc : ∀ p ∈ ys, ∃ τ, bindT (.one i) (.str p.1) (σ.set i .no) = .ok τ ∧ bOf (ev φ c τ) = .ok false) : ev φ (.comp own (.one i) (.val (.loc k)) (.yes c) e) σ = .ok (.list []) := by
  refine comp_ok (xs := ys.map fun p => .str p.1) ?_ (by rw [ho]; exact hn) (compL_none fun x hx => ?_)
  · rw [xi_val, use_loc, x_loc, hk]
    exact seq_alF hl
  · obtain ⟨p, hp, rfl⟩ := List.mem_map.mp hx
    rw [ho]
    obtain ⟨τ, h1, h2⟩ := hc p hp
    exact ⟨τ, h1, h2⟩
@[simp] theorem row_0 (r : HF.Row) : dIx (rowD r) (.int 0) = .ok (.int r.1) := ix_t (i := 0) rfl
@[simp] theorem row_1 (r : HF.Row) : dIx (rowD r) (.int 1) = .ok (.str r.2.1) := ix_t (i := 1) rfl
@[simp] theorem row_2 (r : HF.Row) : dIx (rowD r) (.int 2) = .ok (.str r.2.2) := ix_t (i := 2) rfl
theorem eq_str {a b : Str} (ha : PyData.strOk a = true) (hb : PyData.strOk b = true) : dCmp .Eq (.str a) (.str b) = .ok (decide (a = b)) := by
  have s1 : SeqAt.shaped (.str a) = true := by simp [SeqAt.shaped, PyData.canLay0, PyData.depth, ha]
  have s2 : SeqAt.shaped (.str b) = true := by simp [SeqAt.shaped, PyData.canLay0, PyData.depth, hb]
  show (if (SeqAt.shaped (.str a) && SeqAt.shaped (.str b)) = true then Res.ok (PyData.eqv (.str a) (.str b)) else _) = _
  rw [s1, s2, if_pos (by rfl)]
  rw [show PyData.eqv (.str a) (.str b) = decide (a = b) by rw [Bool.eq_iff_iff]; simp [PyData.eqv]]
theorem ne_str {a b : Str} (ha : PyData.strOk a = true) (hb : PyData.strOk b = true) : dCmp .NotEq (.str a) (.str b) = .ok (!decide (a = b)) := by
  have : dCmp .NotEq (.str a) (.str b) = (dCmp .Eq (.str a) (.str b) >>= fun b => .ok !b) := rfl
  rw [this, eq_str ha hb]
  rfl
theorem eq_nil {rs : List HF.Row} (h : ∀ r ∈ rs, rowOk r) (hn : rs ≠ []) : dCmp .Eq (.list (rs.map rowD)) (.list []) = .ok false := by
  show (if (SeqAt.shaped (.list (rs.map rowD)) && SeqAt.shaped (.list [])) = true then Res.ok (PyData.eqv (.list (rs.map rowD)) (.list [])) else _) = _
  rw [shaped_rows h, if_pos (by rfl)]
  cases rs with
  | nil => exact absurd rfl hn
  | cons r rs => rfl
theorem isnot_d (ps : AL) : dCmp .IsNot (dicF ps) .none = .ok true := rfl
theorem isnot_n : dCmp .IsNot .none .none = .ok false := rfl
def rowsD (G : Fleet) : D := .list ((sightOf G).map rowD)
def st (scr : D) (G : Fleet) (x : Str) (d3 : D) (o4 o5 o6 o10 o11 o12 o13 o14 o15 o16 : Option D) : List SV := [.fz scr, .fz G.toD, .fz (.str x), .fz d3, gv o4, gv o5, gv o6, .fz (.list (G.names.map .str)), .fz (.int G.last), .fz (rowsD G), gv o10, gv o11, gv o12, gv o13, gv o14, gv o15, gv o16, .no, .no]
def clearF (G : Fleet) : Fleet := ⟨G.last, G.isl, G.ships, []⟩
/-- what earliest tells of G -/
def Q32 (φ : Nat → List D → Res D) (G : Fleet) : Prop := ∀ y ∈ G.names, ∀ h : Int, 0 ≤ h → h ≤ G.last → ∃ ys, Ear (sightOf G) y h ys ∧ φ 32 [G.toD, .str y, .int h] = .ok (.list (ys.map HF.prD))
section
variable {φ : Nat → List D → Res D} {fu : Nat} {scr : D} {G : Fleet} (ok : FleetOk G) (q32 : Q32 φ G) {x : Str} (hx : x ∈ G.names)
include ok q32 hx
def b5 : Ss := (.cons (.ite (.cmp .NotEq (.loc 6) (.loc 2))
      (.cons (.set 15 (.bin .sub (.dix (.loc 10) (.loc 6)) (.int 1)))
      (.cons (.ite (.cmp .Eq (.comp [("_law_row", 17)] (.one 17) (.val (.loc 9)) (.yes (.and (.cmp .Eq (.ix (.loc 17) (.int 0)) (.loc 15)) (.and (.cmp .Eq (.ix (.loc 17) (.int 1)) (.loc 6)) (.cmp .LtE (.dget (.loc 10) (.ix (.loc 17) (.int 2)) (.int 99)) (.loc 15))))) (.loc 17)) (.lst .nil))
      (.cons (.ret (.bl false))
      .nil)
      .nil)
      (.cons (.ite (.cmp .LtE (.bin .add (.loc 15) (.int 1)) (.loc 8))
      (.cons (.set 16 (.dictF (.call 32 (.cons (.loc 1) (.cons (.loc 6) (.cons (.bin .add (.loc 15) (.int 1)) .nil))))))
      (.cons (.ite (.cmp .NotEq (.comp [("_law_other", 18)] (.one 18) (.val (.loc 16)) (.yes (.cmp .Gt (.dget (.loc 10) (.loc 18) (.int 99)) (.dix (.loc 16) (.loc 18)))) (.loc 18)) (.lst .nil))
      (.cons (.ret (.bl false))
      .nil)
      .nil)
      .nil))
      .nil)
      .nil)))
      .nil)
      .nil)
theorem b5_ok {h : Int} (h0 : 0 ≤ h) (hl : h ≤ G.last) {ys : AL} (E : Ear (sightOf G) x h ys) (d3 : D) (o4 o5 o11 o12 o13 o14 o15 o16 : Option D) {p : Str × Int} (hp : p ∈ ys) :
    Ends (evSs φ fu b5 (st scr G x d3 o4 o5 (some (.str p.1)) (some (dicF ys)) o11 o12 o13 o14 o15 o16)) fun σ => ∃ o6 o15 o16, σ = st scr G x d3 o4 o5 o6 (some (dicF ys)) o11 o12 o13 o14 o15 o16 := by
  have hg := key_get E.nd hp
  obtain ⟨hy, _⟩ := ear_name E hx hg
  have xk : PyData.strOk x = true := by
    obtain ⟨s, hs, rfl⟩ := List.mem_map.mp hx
    exact (ok.wf s hs).1
  have yk := E.keys p hp
  have n1 := ne_str yk xk
  by_cases hne : p.1 = x
  · rw [decide_eq_true hne] at n1
    refine ends_mk (ρ := st scr G x d3 o4 o5 (some (.str p.1)) (some (dicF ys)) o11 o12 o13 o14 o15 o16) (by simp [b5, st, n1]) ⟨_, _, _, rfl⟩
  · rw [decide_eq_false hne] at n1
    obtain ⟨hhe, hv⟩ := ear_val E hg
    obtain ⟨z, hm, hr⟩ : ∃ z, (p.2 - 1, p.1, z) ∈ sightOf G ∧ Reach (sightOf G) (x, h) (z, p.2 - 1) := by
      rcases hv with ⟨k, _⟩ | k
      · exact absurd k hne
      · exact k
    have c1 : ev φ (.comp [("_law_row", 17)] (.one 17) (.val (.loc 9)) (.yes (.and (.cmp .Eq (.ix (.loc 17) (.int 0)) (.loc 15)) (.and (.cmp .Eq (.ix (.loc 17) (.int 1)) (.loc 6)) (.cmp .LtE (.dget (.loc 10) (.ix (.loc 17) (.int 2)) (.int 99)) (.loc 15))))) (.loc 17)) (st scr G x d3 o4 o5 (some (.str p.1)) (some (dicF ys)) o11 o12 o13 o14 (some (.int (p.2 - 1))) o16) =
        .ok (.list (((sightOf G).filter fun r => decide (r.1 = p.2 - 1) && (decide (r.2.1 = p.1) && decide ((getA ys r.2.2).getD 99 ≤ p.2 - 1))).map rowD)) := by
      refine comp_ok (xs := (sightOf G).map rowD) (by simp [st, rowsD]) (by simp [noOwn_eq, st]) (compL_map (enc := rowD) rowD (fun r => decide (r.1 = p.2 - 1) && (decide (r.2.1 = p.1) && decide ((getA ys r.2.2).getD 99 ≤ p.2 - 1))) fun r hr => ?_)
      obtain ⟨w1, w2⟩ := sight_ok ok.wf r hr
      have e1 := eq_str w1 yk
      refine ⟨_, by simp [st, wipeS]; rfl, ?_, fun _ => by simp⟩
      by_cases k1 : r.1 = p.2 - 1
      · by_cases k2 : r.2.1 = p.1
        · have e1 := eq_str yk yk
          rw [decide_eq_true rfl] at e1
          simp [k1, k2, e1]
        · rw [decide_eq_false k2] at e1
          simp [k1, k2, e1]
      · simp [k1]
    have c2 := eq_nil (rs := (sightOf G).filter fun r => decide (r.1 = p.2 - 1) && (decide (r.2.1 = p.1) && decide ((getA ys r.2.2).getD 99 ≤ p.2 - 1))) (fun r hr => sight_ok ok.wf r (List.mem_filter.mp hr).1) (fun k => by
      have : (p.2 - 1, p.1, z) ∈ (sightOf G).filter fun r => decide (r.1 = p.2 - 1) && (decide (r.2.1 = p.1) && decide ((getA ys r.2.2).getD 99 ≤ p.2 - 1)) := List.mem_filter.mpr ⟨hm, by
        have := get_le E hr
        simp [this]⟩
      rw [k] at this
      cases this)
    have d1 := dix_alF hg
    have hrow := row_hour hm
    dsimp only at hrow
    by_cases hlast : p.2 ≤ G.last
    · obtain ⟨zs, E2, e2⟩ := q32 p.1 hy p.2 (by omega) hlast
      have dd := dict_alF E2.nd E2.len
      have s1 : (p.2 - 1 + 1 : Int) = p.2 := by omega
      have c3 : ev φ (.comp [("_law_other", 18)] (.one 18) (.val (.loc 16)) (.yes (.cmp .Gt (.dget (.loc 10) (.loc 18) (.int 99)) (.dix (.loc 16) (.loc 18)))) (.loc 18)) (st scr G x d3 o4 o5 (some (.str p.1)) (some (dicF ys)) o11 o12 o13 o14 (some (.int (p.2 - 1))) (some (dicF zs))) = .ok (.list []) := by
        refine comp_dict rfl rfl (by have := E2.len; omega) (by simp [noOwn_eq, st]) fun q hq => ⟨_, by simp [st]; rfl, ?_⟩
        have g2 := key_get E2.nd hq
        have d2 := dix_alF g2
        have le := get_le E ((E.sound _ _ hg).trans (E2.sound _ _ g2))
        have : ¬ q.2 < (getA ys q.1).getD 99 := by omega
        simp [d2, this]
      refine ends_mk (ρ := st scr G x d3 o4 o5 (some (.str p.1)) (some (dicF ys)) o11 o12 o13 o14 (some (.int (p.2 - 1))) (some (dicF zs))) ?_ ⟨_, _, _, rfl⟩
      simp only [st, gv_some] at c1 c3 ⊢
      simp [-x_comp, b5, n1, hne, d1, c1, c2, s1, hlast, e2, dd, c3]
    · refine ends_mk (ρ := st scr G x d3 o4 o5 (some (.str p.1)) (some (dicF ys)) o11 o12 o13 o14 (some (.int (p.2 - 1))) o16) ?_ ⟨_, _, _, rfl⟩
      have s1 : (p.2 - 1 + 1 : Int) = p.2 := by omega
      simp only [st, gv_some] at c1 ⊢
      simp [-x_comp, b5, n1, hne, d1, c1, c2, s1, hlast]
end
end K06

set_option Elab.async false
set_option autoImplicit false
set_option linter.all false
set_option maxRecDepth 100000
set_option maxHeartbeats 4000000
namespace K06
open PySem PySem.Spec PyProof.Rows L2 HF
def b5h : Ss := (.cons (.set 10 (.dictF (.call 32 (.cons (.loc 1) (.cons (.loc 2) (.cons (.loc 4) .nil))))))
      (.cons (.ite (.cmp .NotEq (.dix (.loc 10) (.loc 2)) (.loc 4))
      (.cons (.ret (.bl false))
      .nil)
      .nil)
      (.cons (.ite (.cmp .NotEq (.comp [("_law_name", 6)] (.one 6) (.val (.loc 10)) (.yes (.or (.cmp .Lt (.dix (.loc 10) (.loc 6)) (.loc 4)) (.cmp .Gt (.dix (.loc 10) (.loc 6)) (.bin .add (.loc 8) (.int 1))))) (.loc 6)) (.lst .nil))
      (.cons (.ret (.bl false))
      .nil)
      .nil)
      (.cons (.ite (.cmp .IsNot (.loc 3) .non)
      (.cons (.ite (.cmp .NotEq (.comp [("_law_name", 6)] (.one 6) (.val (.loc 10)) (.yes (.cmp .Gt (.dget (.loc 3) (.loc 6) (.int 99)) (.dix (.loc 10) (.loc 6)))) (.loc 6)) (.lst .nil))
      (.cons (.ret (.bl false))
      .nil)
      .nil)
      .nil)
      .nil)
      (.cons (.for (.one 6) (.val (.loc 10)) b5)
      (.cons (.set 11 (.dictF (.call 32 (.cons (.call 30 (.cons (.loc 1) .nil)) (.cons (.loc 2) (.cons (.loc 4) .nil))))))
      (.cons (.ite (.cmp .NotEq (.comp [("_law_name", 6)] (.one 6) (.val (.loc 10)) (.yes (.cmp .Gt (.dget (.loc 11) (.loc 6) (.int 99)) (.dix (.loc 10) (.loc 6)))) (.loc 6)) (.lst .nil))
      (.cons (.ret (.bl false))
      .nil)
      .nil)
      (.cons (.set 3 (.loc 10))
      .nil))))))))
def shown (G : Fleet) (x : Str) (j : Nat) (d : D) : Prop := (j = 0 ∧ d = .none) ∨ ∃ ys, Ear (sightOf G) x ((j : Int) - 1) ys ∧ d = dicF ys
section
variable {φ : Nat → List D → Res D} {fu : Nat} {scr : D} {G : Fleet} (ok : FleetOk G) (q32 : Q32 φ G) (q30 : φ 30 [G.toD] = .ok (clearF G).toD) (q32c : Q32 φ (clearF G)) (cs : ∀ r ∈ sightOf G, r ∈ sightOf (clearF G)) {x : Str} (hx : x ∈ G.names)
include ok q32 q30 q32c cs hx
theorem hour_turn {j : Nat} (hl : (j : Int) ≤ G.last) {d3 : D} (sh : shown G x j d3) (o5 o6 o10 o11 o12 o13 o14 o15 o16 : Option D) :
    Ends (evSs φ fu b5h (st scr G x d3 (some (.int (j : Nat))) o5 o6 o10 o11 o12 o13 o14 o15 o16)) fun σ => ∃ d3 o4 o6 o10 o11 o15 o16, shown G x (j + 1) d3 ∧ σ = st scr G x d3 o4 o5 o6 o10 o11 o12 o13 o14 o15 o16 := by
  obtain ⟨ys, E, e32⟩ := q32 x hx j (by omega) hl
  obtain ⟨zs, E2, e32c⟩ := q32c x hx j (by omega) hl
  have dd := dict_alF E.nd E.len
  have dd2 := dict_alF E2.nd E2.len
  have own := dix_alF (ear_own E)
  have ylen : ys.length ≤ 16777216 := by have := E.len; omega
  have c1 : ev φ (.comp [("_law_name", 6)] (.one 6) (.val (.loc 10)) (.yes (.or (.cmp .Lt (.dix (.loc 10) (.loc 6)) (.loc 4)) (.cmp .Gt (.dix (.loc 10) (.loc 6)) (.bin .add (.loc 8) (.int 1))))) (.loc 6)) (st scr G x d3 (some (.int (j : Nat))) o5 o6 (some (dicF ys)) o11 o12 o13 o14 o15 o16) = .ok (.list []) := by
    refine comp_dict rfl rfl ylen (by simp [noOwn_eq, st]) fun q hq => ⟨_, by simp [st]; rfl, ?_⟩
    have g := key_get E.nd hq
    have d := dix_alF g
    have a := (ear_val E g).1
    have b := (ear_name E hx g).2 hl
    have n1 : ¬ q.2 < (j : Int) := by omega
    have n2 : ¬ G.last + 1 < q.2 := by omega
    simp [d, n1, n2]
  have c2 : ∀ ws, Ear (sightOf G) x ((j : Int) - 1) ws → ev φ (.comp [("_law_name", 6)] (.one 6) (.val (.loc 10)) (.yes (.cmp .Gt (.dget (.loc 3) (.loc 6) (.int 99)) (.dix (.loc 10) (.loc 6)))) (.loc 6)) (st scr G x (dicF ws) (some (.int (j : Nat))) o5 o6 (some (dicF ys)) o11 o12 o13 o14 o15 o16) = .ok (.list []) := fun ws W => by
    refine comp_dict rfl rfl ylen (by simp [noOwn_eq, st]) fun q hq => ⟨_, by simp [st]; rfl, ?_⟩
    have g := key_get E.nd hq
    have d := dix_alF g
    have le := get_le W ((E.sound _ _ g).earlier (show (j : Int) - 1 ≤ j by omega))
    have n1 : ¬ q.2 < (getA ws q.1).getD 99 := by omega
    simp [d, n1]
  have c3 : ∀ o6 o15 o16, ev φ (.comp [("_law_name", 6)] (.one 6) (.val (.loc 10)) (.yes (.cmp .Gt (.dget (.loc 11) (.loc 6) (.int 99)) (.dix (.loc 10) (.loc 6)))) (.loc 6)) (st scr G x d3 (some (.int (j : Nat))) o5 o6 (some (dicF ys)) (some (dicF zs)) o12 o13 o14 o15 o16) = .ok (.list []) := fun o6 o15 o16 => by
    refine comp_dict rfl rfl ylen (by simp [noOwn_eq, st]) fun q hq => ⟨_, by simp [st]; rfl, ?_⟩
    have g := key_get E.nd hq
    have d := dix_alF g
    have le := get_le E2 ((E.sound _ _ g).mono cs)
    have n1 : ¬ q.2 < (getA zs q.1).getD 99 := by omega
    simp [d, n1]
  have s1 : evS φ fu (.set 10 (.dictF (.call 32 (.cons (.loc 1) (.cons (.loc 2) (.cons (.loc 4) .nil)))))) (st scr G x d3 (some (.int (j : Nat))) o5 o6 o10 o11 o12 o13 o14 o15 o16) = .ok .nx (st scr G x d3 (some (.int (j : Nat))) o5 o6 (some (dicF ys)) o11 o12 o13 o14 o15 o16) := by
    simp [st, e32, dd]
  have s2 : evS φ fu (.ite (.cmp .NotEq (.dix (.loc 10) (.loc 2)) (.loc 4)) (.cons (.ret (.bl false)) .nil) .nil) (st scr G x d3 (some (.int (j : Nat))) o5 o6 (some (dicF ys)) o11 o12 o13 o14 o15 o16) = .ok .nx (st scr G x d3 (some (.int (j : Nat))) o5 o6 (some (dicF ys)) o11 o12 o13 o14 o15 o16) := by
    simp [st, own]
  have s3 : evS φ fu (.ite (.cmp .NotEq (.comp [("_law_name", 6)] (.one 6) (.val (.loc 10)) (.yes (.or (.cmp .Lt (.dix (.loc 10) (.loc 6)) (.loc 4)) (.cmp .Gt (.dix (.loc 10) (.loc 6)) (.bin .add (.loc 8) (.int 1))))) (.loc 6)) (.lst .nil)) (.cons (.ret (.bl false)) .nil) .nil) (st scr G x d3 (some (.int (j : Nat))) o5 o6 (some (dicF ys)) o11 o12 o13 o14 o15 o16) = .ok .nx (st scr G x d3 (some (.int (j : Nat))) o5 o6 (some (dicF ys)) o11 o12 o13 o14 o15 o16) := by
    simp [-x_comp, c1]
  have s4 : evS φ fu (.ite (.cmp .IsNot (.loc 3) .non) (.cons (.ite (.cmp .NotEq (.comp [("_law_name", 6)] (.one 6) (.val (.loc 10)) (.yes (.cmp .Gt (.dget (.loc 3) (.loc 6) (.int 99)) (.dix (.loc 10) (.loc 6)))) (.loc 6)) (.lst .nil)) (.cons (.ret (.bl false)) .nil) .nil) .nil) .nil) (st scr G x d3 (some (.int (j : Nat))) o5 o6 (some (dicF ys)) o11 o12 o13 o14 o15 o16) = .ok .nx (st scr G x d3 (some (.int (j : Nat))) o5 o6 (some (dicF ys)) o11 o12 o13 o14 o15 o16) := by
    rcases sh with ⟨_, rfl⟩ | ⟨ws, W, rfl⟩
    · simp [st, isnot_n]
    · have hg : getF (st scr G x (dicF ws) (some (.int (j : Nat))) o5 o6 (some (dicF ys)) o11 o12 o13 o14 o15 o16) 3 = .ok (dicF ws) := rfl
      simp [-x_comp, c2 ws W, hg, isnot_d]
  have s5 : EndsN (evS φ fu (.for (.one 6) (.val (.loc 10)) b5) (st scr G x d3 (some (.int (j : Nat))) o5 o6 (some (dicF ys)) o11 o12 o13 o14 o15 o16)) fun σ => ∃ o6 o15 o16, σ = st scr G x d3 (some (.int (j : Nat))) o5 o6 (some (dicF ys)) o11 o12 o13 o14 o15 o16 := by
    have hs : evI φ (.val (.loc 10)) (st scr G x d3 (some (.int (j : Nat))) o5 o6 (some (dicF ys)) o11 o12 o13 o14 o15 o16) = .ok (ys.map fun p => .str p.1) := by
      rw [xi_val]
      exact seq_alF ylen
    rw [s_for, if_pos (by simp [itFz, frzE]), hs, of_ok]
    refine forL_mem (fun σ => ∃ o6 o15 o16, σ = st scr G x d3 (some (.int (j : Nat))) o5 o6 (some (dicF ys)) o11 o12 o13 o14 o15 o16) ⟨o6, o15, o16, rfl⟩ ?_
    rintro d hd _ ⟨o6, o15, o16, rfl⟩
    obtain ⟨p, hp, rfl⟩ := List.mem_map.mp hd
    exact ⟨_, by simp [st], b5_ok ok q32 hx (by omega) hl E d3 (some (.int (j : Nat))) o5 o11 o12 o13 o14 o15 o16 hp⟩
  have s6 : ∀ o6 o15 o16, evS φ fu (.set 11 (.dictF (.call 32 (.cons (.call 30 (.cons (.loc 1) .nil)) (.cons (.loc 2) (.cons (.loc 4) .nil)))))) (st scr G x d3 (some (.int (j : Nat))) o5 o6 (some (dicF ys)) o11 o12 o13 o14 o15 o16) = .ok .nx (st scr G x d3 (some (.int (j : Nat))) o5 o6 (some (dicF ys)) (some (dicF zs)) o12 o13 o14 o15 o16) := fun _ _ _ => by
    simp [st, q30, e32c, dd2]
  have s7 : ∀ o6 o15 o16, evS φ fu (.ite (.cmp .NotEq (.comp [("_law_name", 6)] (.one 6) (.val (.loc 10)) (.yes (.cmp .Gt (.dget (.loc 11) (.loc 6) (.int 99)) (.dix (.loc 10) (.loc 6)))) (.loc 6)) (.lst .nil)) (.cons (.ret (.bl false)) .nil) .nil) (st scr G x d3 (some (.int (j : Nat))) o5 o6 (some (dicF ys)) (some (dicF zs)) o12 o13 o14 o15 o16) = .ok .nx (st scr G x d3 (some (.int (j : Nat))) o5 o6 (some (dicF ys)) (some (dicF zs)) o12 o13 o14 o15 o16) := fun a b c => by
    simp [-x_comp, c3 a b c]
  unfold b5h
  rw [ss_cons, s1, then_ok, ss_cons, s2, then_ok, ss_cons, s3, then_ok, ss_cons, s4, then_ok, ss_cons]
  refine s5.thenE ?_
  rintro _ ⟨o6, o15, o16, rfl⟩
  rw [ss_cons, s6, then_ok, ss_cons, s7, then_ok]
  refine ends_mk (ρ := st scr G x (dicF ys) (some (.int (j : Nat))) o5 o6 (some (dicF ys)) (some (dicF zs)) o12 o13 o14 o15 o16) (by simp [st]) ⟨dicF ys, _, _, _, _, _, _, .inr ⟨ys, ?_, rfl⟩, rfl⟩
  have : (((j + 1 : Nat) : Int) - 1) = j := by omega
  rw [this]
  exact E
theorem s5_ok (o4 o5 o6 o10 o11 o12 o13 o14 o15 o16 : Option D) (l0 : 0 ≤ G.last) (l7 : G.last ≤ 7) :
    EndsN (evS φ fu f_law_s5 (st scr G x .none o4 o5 o6 o10 o11 o12 o13 o14 o15 o16)) fun σ => ∃ d3 o4 o6 o10 o11 o15 o16, σ = st scr G x d3 o4 o5 o6 o10 o11 o12 o13 o14 o15 o16 := by
  have rg : dRng (.int 0) (.int (G.last + 1)) = .ok (rngD 0 (G.last + 1)) := by
    show (if _ then _ else _) = _
    rw [if_pos (by omega)]
  have hs : evI φ (.rng1 (.bin .add (.loc 8) (.int 1))) (st scr G x .none o4 o5 o6 o10 o11 o12 o13 o14 o15 o16) = .ok (rngD 0 (G.last + 1)) := by
    simp [st, rg]
  have e0 : evS φ fu f_law_s5 (st scr G x .none o4 o5 o6 o10 o11 o12 o13 o14 o15 o16) = forL (fun x τ => bindT (.one 4) x τ) (fun τ => evSs φ fu b5h τ) (rngD 0 (G.last + 1)) (st scr G x .none o4 o5 o6 o10 o11 o12 o13 o14 o15 o16) := by
    rw [f_law_s5, s_for, if_pos (by simp [itFz, frzE]), hs]
    rfl
  rw [e0]
  refine (forL_n (n := G.last + 1) (fun j σ => ∃ d3 o4 o6 o10 o11 o15 o16, shown G x j d3 ∧ σ = st scr G x d3 o4 o5 o6 o10 o11 o12 o13 o14 o15 o16) ⟨.none, o4, o6, o10, o11, o15, o16, .inl ⟨rfl, rfl⟩, rfl⟩ ?_).imp fun ρ ⟨d3, a, b, c, d, e, f, _, g⟩ => ⟨d3, a, b, c, d, e, f, g⟩
  rintro j _ hj ⟨d3, o4, o6, o10, o11, o15, o16, sh, rfl⟩
  exact ⟨_, by simp [st], hour_turn ok q32 q30 q32c cs hx (by omega) sh o5 o6 o10 o11 o12 o13 o14 o15 o16⟩
end
end K06

set_option Elab.async false
set_option autoImplicit false
set_option linter.all false
set_option maxRecDepth 100000
set_option maxHeartbeats 4000000
namespace K06
open PySem PySem.Spec PyProof.Rows L2 HF
theorem ne_bool (a b : Bool) : dCmp .NotEq (.bool a) (.bool b) = .ok (a != b) := by cases a <;> cases b <;> rfl
section
variable {φ : Nat → List D → Res D} {fu : Nat} {scr : D} {G : Fleet} (ok : FleetOk G) (q32 : Q32 φ G) {x : Str}
include ok q32
theorem s8_ok (l0 : 0 ≤ G.last) (l7 : G.last ≤ 7) {y : Str} (hy : y ∈ G.names) {b : Int} (hb : 0 ≤ b ∧ b ≤ G.last + 1) {ts : AL} (L : Lat (sightOf G) y b G.last ts) (d3 : D) (o4 o6 o10 o11 o14 o15 o16 : Option D) :
    EndsN (evS φ fu f_law_s8 (st scr G x d3 o4 (some (dicF ts)) o6 o10 o11 (some (.str y)) (some (.int b)) o14 o15 o16)) fun σ => ∃ o4 o6 o14, σ = st scr G x d3 o4 (some (dicF ts)) o6 o10 o11 (some (.str y)) (some (.int b)) o14 o15 o16 := by
  have hs : ∀ o4 o6 o14, evI φ (.val (.loc 7)) (st scr G x d3 o4 (some (dicF ts)) o6 o10 o11 (some (.str y)) (some (.int b)) o14 o15 o16) = .ok (G.names.map .str) := fun _ _ _ => rfl
  have rg : dRng (.int 0) (.int (G.last + 1)) = .ok (rngD 0 (G.last + 1)) := by
    show (if _ then _ else _) = _
    rw [if_pos (by omega)]
  have hs2 : ∀ o4 o6 o14, evI φ (.rng1 (.bin .add (.loc 8) (.int 1))) (st scr G x d3 o4 (some (dicF ts)) o6 o10 o11 (some (.str y)) (some (.int b)) o14 o15 o16) = .ok (rngD 0 (G.last + 1)) := fun _ _ _ => by
    simp [st, rg]
  rw [f_law_s8, s_for, if_pos (by simp [itFz, frzE]), hs, of_ok]
  refine forL_mem (fun σ => ∃ o4 o6 o14, σ = st scr G x d3 o4 (some (dicF ts)) o6 o10 o11 (some (.str y)) (some (.int b)) o14 o15 o16) ⟨o4, o6, o14, rfl⟩ ?_
  rintro d hd _ ⟨o4, o6, o14, rfl⟩
  obtain ⟨u, hu, rfl⟩ := List.mem_map.mp hd
  refine ⟨st scr G x d3 o4 (some (dicF ts)) (some (.str u)) o10 o11 (some (.str y)) (some (.int b)) o14 o15 o16, by simp [st], ?_⟩
  rw [ss_cons, s_for, if_pos (by simp [itFz, frzE]), hs2, of_ok]
  simp only [ss_nil, then_id]
  refine (forL_n (n := G.last + 1) (fun _ σ => ∃ o4 o14, σ = st scr G x d3 o4 (some (dicF ts)) (some (.str u)) o10 o11 (some (.str y)) (some (.int b)) o14 o15 o16) ⟨o4, o14, rfl⟩ ?_).e.imp fun ρ ⟨a, c, e⟩ => ⟨a, _, c, e⟩
  rintro j _ hj ⟨o4, o14, rfl⟩
  refine ⟨st scr G x d3 (some (.int (j : Nat))) (some (dicF ts)) (some (.str u)) o10 o11 (some (.str y)) (some (.int b)) o14 o15 o16, by simp [st], ?_⟩
  obtain ⟨ys, E, e32⟩ := q32 u hu j (by omega) (by omega)
  have dd := dict_alF E.nd E.len
  have hA : (getA ys y).getD 99 ≤ b ↔ Reach (sightOf G) (u, (j : Int)) (y, b) := by
    constructor
    · intro k
      cases h : getA ys y with
      | none =>
        rw [h] at k
        have : (99 : Int) ≤ b := k
        omega
      | some e =>
        rw [h] at k
        exact (E.sound y e h).later k
    · exact get_le E
  have e1 : evSs φ fu (.cons (.set 14 (.cmp .LtE (.dget (.dictF (.call 32 (.cons (.loc 1) (.cons (.loc 6) (.cons (.loc 4) .nil))))) (.loc 12) (.int 99)) (.loc 13))) (.cons (.ite (.cmp .NotEq (.loc 14) (.and (.din false (.loc 6) (.loc 5)) (.cmp .LtE (.loc 4) (.dix (.loc 5) (.loc 6))))) (.cons (.ret (.bl false)) .nil) .nil) .nil)) (st scr G x d3 (some (.int (j : Nat))) (some (dicF ts)) (some (.str u)) o10 o11 (some (.str y)) (some (.int b)) o14 o15 o16) = .ok .nx (st scr G x d3 (some (.int (j : Nat))) (some (dicF ts)) (some (.str u)) o10 o11 (some (.str y)) (some (.int b)) (some (.bool (decide ((getA ys y).getD 99 ≤ b)))) o15 o16) := by
    cases ht : getA ts u with
    | none =>
      have hr : ¬ (getA ys y).getD 99 ≤ b := fun k => by
        have r := hA.mp k
        by_cases huy : u = y
        · rw [huy, L.own] at ht
          cases ht
        · obtain ⟨e, h1, _⟩ := L.full u j huy r
          rw [ht] at h1
          cases h1
      have nb := ne_bool false false
      simp [st, e32, dd, ht, hr, nb]
    | some e =>
      have d := dix_alF ht
      have hB : (j : Int) ≤ e ↔ (getA ys y).getD 99 ≤ b := by
        rw [hA]
        by_cases huy : u = y
        · subst huy
          rw [L.own] at ht
          cases ht
          constructor
          · intro k
            exact .stay _ _ _ (by omega)
          · intro r
            have := r.le
            dsimp only at this
            omega
        · constructor
          · intro k
            exact (L.sound u e huy ht).earlier k
          · intro r
            obtain ⟨e', h1, h2⟩ := L.full u j huy r
            rw [ht] at h1
            cases h1
            exact h2
      have nb := ne_bool (decide ((getA ys y).getD 99 ≤ b)) (decide ((j : Int) ≤ e))
      have : decide ((j : Int) ≤ e) = decide ((getA ys y).getD 99 ≤ b) := by rw [Bool.eq_iff_iff]; simp [hB]
      rw [this, bne_self_eq_false] at nb
      simp [st, e32, dd, ht, d, this, nb]
  exact ends_mk e1 ⟨_, _, rfl⟩
end
end K06

set_option Elab.async false
set_option autoImplicit false
set_option linter.all false
set_option maxRecDepth 100000
set_option maxHeartbeats 4000000
namespace K06
open PySem PySem.Spec PyProof.Rows L2 HF
theorem hasR : HasR tx.T := { whole := rfl, name := rfl, cell := rfl, rising := rfl, islands := rfl, ship := rfl, mist := rfl, fleet := rfl, look := rfl, nms := rfl, lship := rfl, lhour := rfl, isin := rfl, betw := rfl, seesat := rfl, plainS := rfl, sights := rfl, spread := rfl, earliest := rfl, bounds := rfl, plainL := rfl, latest := rfl }
theorem q32_of {H : Fleet} (ok : FleetOk H) : Q32 (run tx.T 2000 39) H := fun y hy h h0 h1 => by
  obtain ⟨s, hs, rfl⟩ := List.mem_map.mp hy
  exact earliest_run hasR 2000 33 ok hs h0 h1
theorem name_ix {G : Fleet} {d : Int} (h0 : 0 ≤ d) (h1 : d < G.names.length) : ∃ x ∈ G.names, dIx (.list (G.names.map .str)) (.int d) = .ok (.str x) := by
  obtain ⟨j, rfl⟩ : ∃ j : Nat, d = j := ⟨d.toNat, by omega⟩
  have hj : j < G.names.length := by omega
  exact ⟨G.names[j], List.getElem_mem hj, ix_l (by rw [List.getElem?_map, List.getElem?_eq_getElem hj]; rfl)⟩
theorem pureLaw (ns : List Int) (hn63 : ns.length ≤ 63) : run tx.T 2000 40 1019 [scrD ns] = .ok (.bool true) := by
  obtain ⟨G, g, hG⟩ := fleet2_run (T := tx.T) rfl (f := 1007) (F := f__law_fleet2) rfl rfl rfl rfl 2000 37 (by decide) ns hn63 10 4 (by decide) (by decide) (by decide)
  obtain ⟨dr, DR⟩ := draws (T := tx.T) rfl 2000 38 (by decide) ns hn63
  have p := dr_parts g (by decide)
  have ok := dr_okF g (by decide)
  have lk : Like G (clearF G) id := ⟨rfl, (List.map_id _).symm, fun s hs => ⟨rfl, rfl, (p.sh s hs).2.1⟩, .refl _, List.nil_sublist _⟩
  have okc := ok.of (lk.parts p) lk.names
  have cs : ∀ r ∈ sightOf G, r ∈ sightOf (clearF G) := lk.more fun s _ => Int.le_refl _
  have q32 := q32_of ok
  have q32c := q32_of okc
  have q30 : run tx.T 2000 39 30 [G.toD] = .ok (clearF G).toD := by
    refine (call_eq (F := f_cleared) rfl rfl).trans ?_
    have a := look_run hasR.toHasS 2000 33 ok
    have b : dSl G.toD none (some 3) = .ok (.tuple [.int G.last, .tuple (G.isl.map ce), .tuple (G.ships.map shipD)]) := rfl
    have c : dBin .add (.tuple [.int G.last, .tuple (G.isl.map ce), .tuple (G.ships.map shipD)]) (.tuple [.tuple []]) = .ok (clearF G).toD := b_addT _ _ (by simp)
    simp [f_cleared, f_cleared_s1, f_cleared_s2, start0, a, b, c]
  have q29 : run tx.T 2000 39 29 [G.toD] = .ok (rowsD G) := sights_run hasR.toHasS 2000 33 ok
  have q3 : run tx.T 2000 39 1003 [G.toD] = .ok (.list (G.names.map .str)) := (call_eq (F := f__law_names) rfl rfl).trans (plain_names_ok _ _ G)
  have nl : G.names.length = G.ships.length := List.length_map ..
  have n2 := g.n2
  have l1 := g.last1
  have l5 := g.last5
  have e1 := DR.eq 1 G.names.length (by decide) (by omega)
  obtain ⟨x, hx, ix⟩ := name_ix (G := G) (DR.lo 1 G.names.length (by decide) (by omega)) (DR.hi 1 G.names.length (by decide) (by omega))
  have e2 := DR.eq 2 G.names.length (by decide) (by omega)
  obtain ⟨y, hy, iy⟩ := name_ix (G := G) (DR.lo 2 G.names.length (by decide) (by omega)) (DR.hi 2 G.names.length (by decide) (by omega))
  have e3 := DR.eq 3 (G.last + 2) (by decide) (by omega)
  have b0 := DR.lo 3 (G.last + 2) (by decide) (by omega)
  have b1 := DR.hi 3 (G.last + 2) (by decide) (by omega)
  obtain ⟨ts, L, e43⟩ : ∃ ts, Lat (sightOf G) y (dr 3 (G.last + 2)) G.last ts ∧ run tx.T 2000 39 43 [G.toD, .str y, .int (dr 3 (G.last + 2))] = .ok (.list (ts.map HF.prD)) := by
    obtain ⟨s, hs, rfl⟩ := List.mem_map.mp hy
    exact latest_run hasR 2000 33 ok hs b0 (by omega)
  have dd := dict_alF L.nd L.len
  have own := dix_alF L.own
  refine (call_eq (F := f_law) rfl rfl).trans ?_
  generalize run tx.T 2000 39 = φ at *
  generalize dr 3 (G.last + 2) = b at *
  have h14 : ∀ r, evSs φ 2000 (.cons f_law_s1 (.cons f_law_s2 (.cons f_law_s3 (.cons f_law_s4 r)))) (start0 19 [scrD ns]) = evSs φ 2000 r (st (scrD ns) G x .none none none none none none none none none none none) := fun r => by
    have ll : ((G.names.map PyData.str).length : Int) = G.names.length := by rw [List.length_map]
    simp [f_law_s1, f_law_s2, f_law_s3, f_law_s4, start0, hG, q3, q29, noOwn_eq, setAll, e1, ix, st]
  show retOf (evSs φ 2000 (.cons f_law_s1 (.cons f_law_s2 (.cons f_law_s3 (.cons f_law_s4 (.cons f_law_s5 (.cons f_law_s6 (.cons f_law_s7 (.cons f_law_s8 (.cons f_law_s9 .nil))))))))) (start0 19 [scrD ns])) = _
  rw [h14, ss_cons]
  refine EndsN.ret (s5_ok ok q32 q30 q32c cs hx _ _ _ _ _ _ _ _ _ _ (by omega) (by omega)) ?_
  rintro _ ⟨d3, o4, o6, o10, o11, o15, o16, rfl⟩
  have h67 : ∀ r, evSs φ 2000 (.cons f_law_s6 (.cons f_law_s7 r)) (st (scrD ns) G x d3 o4 none o6 o10 o11 none none none o15 o16) = evSs φ 2000 r (st (scrD ns) G x d3 o4 (some (dicF ts)) o6 o10 o11 (some (.str y)) (some (.int b)) none o15 o16) := fun r => by
    simp [f_law_s6, f_law_s7, st, noOwn_eq, setAll, e2, e3, iy, e43, dd]
  rw [h67, ss_cons]
  refine EndsN.ret (s8_ok ok q32 (by omega) (by omega) hy ⟨b0, by omega⟩ L _ _ _ _ _ _ _ _) ?_
  rintro _ ⟨o4, o6, o14, rfl⟩
  simp [f_law_s9, st, own]
end K06

set_option Elab.async false
set_option autoImplicit false
set_option linter.all false
set_option maxRecDepth 100000
set_option maxHeartbeats 0
namespace K06
open PySem PySem.Spec PyProof.Rows L2 HF
abbrev R : PySem.W.OpenRow := PySem.W.OpenLaw.row PySem.Challenge.rw_hullflags_k06_whole_reading
abbrev hk : PySem.W.Hook := He.hookD 4 tx.fa tx.fn
def ob (s : PySem.W.SharedT) : He.AlD := He.obsDG 4 tx.fa tx.fn (HandSHeadRun.getT s)
theorem ob_eq (s : PySem.W.SharedT) : ob s = hk.obs s.abs := He.obsDG_eq (HandSHeadRun.getT_eq s)
def loose0 : List PySem.Str := ["is_whole", "is_name", "is_cell", "is_rising", "is_islands", "is_ship", "is_mist", "is_fleet", "look_fleet", "plain_names", "look_ship", "look_hour", "is_in", "is_between", "sees_at", "plain_sightings", "sightings", "spread", "earliest", "bounds_for", "plain_latest", "latest", "cleared", "_law_drawn", "_law_fleet", "_law_names", "FleetError", "NoFleet", "NoShip", "NoHour"]
def loose1 : List PySem.Str := ["SMALL", "MOST_PART", "MOST_LAST", "MOST_ISLANDS", "MOST_SHIPS", "MOST_MISTS"]
def loose : List PySem.Str := loose0 ++ loose1
theorem headRun (w : World) : HandSHeadRun.RunEq R (PySem.W.view R.prog [41]) hk ob 6000 loose w := by
  intro os
  kernel_rfl
end K06
open PySem PySem.W PySem.Calls PyProof.Rows
theorem PySem.Challenge.cw_hullflags_k06_whole_reading_holds : PySem.Challenge.rw_hullflags_k06_whole_reading.Holds := by
  w_on; o_law
  refine HandSHeadRun.head_any (r := OpenLaw.row PySem.Challenge.rw_hullflags_k06_whole_reading) (q := view (OpenLaw.row PySem.Challenge.rw_hullflags_k06_whole_reading).prog [41]) (H := K06.hk) (ob := K06.ob) (M := 6000) (loose := K06.loose) (d := HandSHeadRun.topDef (OpenLaw.row PySem.Challenge.rw_hullflags_k06_whole_reading).prog 41) (kwd := []) K06.ob_eq
    (by kernel_rfl) (fun s => by kernel_rfl) K06.headRun (by kernel_rfl) (by kernel_rfl) (by kernel_rfl) (by rfl) (by first | assumption | decide +kernel) (by decide +kernel) ⟨rfl, rfl, rfl, rfl, rfl, by decide +kernel⟩ ?hw ?hc
  case hw => w_witness2
  case hc =>
    refine L2.walk_ofE (l := PySem.Challenge.rw_hullflags_k06_whole_reading) (n := 63) (k := 40) (x := "_law_script") (CX := HF.CXA (PySem.Challenge.rw_hullflags_k06_whole_reading).prog) rfl (by decide) (by kernel_rfl) ⟨rfl, by decide, by decide⟩ ?F HF.noEnd
    intro w mg fa h Y G hmg0
    obtain ⟨K, KX, c⟩ := Y
    have hmg : mg ("law" : PySem.Str) = some (.ref fa) := by
      have e : (HandSHeadRun.topDef (OpenLaw.row PySem.Challenge.rw_hullflags_k06_whole_reading).prog 41).name = ("law" : PySem.Str) := by kernel_rfl
      rw [← e]
      exact hmg0
    exact HF.law_end (i := 1019) (fu := 2000) K06.txOk (q := (K06.f_law, K06.top 41)) rfl rfl KX G hmg c K06.pureLaw
