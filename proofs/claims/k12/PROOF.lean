import PyProof.Rows.All
import Wide.All
import OpenK.AllK
import Wide.FinOn
import HandS.ForMost
import HandS.ForExc
import HandS.CallSlots
import HandS.Style
import HandS.TupAny
import HandS.Wide
import HandS.WideBits
import HandS.IsInst
import HandS.NoneIn
import HandS.Walk
import HandS.SortInts
import HandS.SetFor
import HandS.TupSets
import HandS.ExcOwn
import HandS.WordsExc
import HandS.EndBits
import HandS.TupLe
import HandS.Flow
import HandS.Conv
import HandS.Iter
import HandS.SortOrd
import HandS.Zip
import HandS.ExcInit
import HandS.ExcField
import HandS.Star
import HandS.DictComp
import HandS.GenOver
import HandS.Call
import HandS.Deep
import HandS.Defaults
import KE.DataCmp
import HandS.More
import PyProof.TupleOfSeq
import HandS.Finally
import HandS.DictTup
import KE.KItemsList
import HandS.Sort
import KE.KDictSum
import HandS.Strs
import KE.DataEq
import PySem.Challenge.RW_handsorted_k12_level_covers
set_option Elab.async false
set_option linter.all false
set_option maxRecDepth 100000
set_option maxHeartbeats 1000000
/-! Own1: plain data, ownership, the state's invariant, evaluators and their soundness -/
namespace O
open PySem

/-- plain data -/
inductive D where
  | non
  | bl (b : Bool)
  | int (i : Int)
  | str (x : Str)
  | tup (ds : List D)
  | lst (ds : List D)
  | dic (kvs : List (L2.Key × D))
  | set (xs : List Int)
  | scr (ns : List Int)
  | dlk (kvs : List (L2.Key × D))
/-- what a name owns -/
inductive OD where
  | fz (d : D)
  | lst (ds : List D)
  | dic (kvs : List (L2.Key × D))
  | ins (C : Addr) (fs : List (Str × OD))
def OD.top : OD → Option D
  | .fz d => some d
  | .lst ds => some (.lst ds)
  | .dic kvs => some (.dic kvs)
  | .ins _ _ => none

open L2 (V Hp HO Rd SqL SqT upd upd_same upd_ne ne_of ne_of_none TE TT TA TS VK XK Ends St)

mutual
inductive Rep (K : PySem.W.Frag) (H : Hp) : D → V → Prop
  | non : Rep K H .non .non
  | bl (b : Bool) : Rep K H (.bl b) (.bl b)
  | int (i : Int) : Rep K H (.int i) (.int i)
  | str (x : Str) : Rep K H (.str x) (.str x)
  | tup {a : Addr} {vs : List V} {ds : List D} : SqT K H a vs → Reps K H ds vs → Rep K H (.tup ds) (.ref a)
  | lst {a : Addr} {vs : List V} {ds : List D} : Rd H a (.lst vs) → Reps K H ds vs → Rep K H (.lst ds) (.ref a)
  | scr {a : Addr} {ns : List Int} : SqL K H a (ns.map V.int) → Rep K H (.scr ns) (.ref a)
  | dic {a : Addr} {kws : List (L2.Key × V)} {kvs : List (L2.Key × D)} : Rd H a (.dK kws) → Repk K H kvs kws → Rep K H (.dic kvs) (.ref a)
  | set {a : Addr} {S : Int → Bool} {n : Nat} {xs : List Int} : Rd H a (.set S n) → (∀ j, S j = decide (j ∈ xs)) → Rep K H (.set xs) (.ref a)
  | dlk {a : Addr} {o : Obj} {kws : List (L2.Key × V)} {kvs : List (L2.Key × D)} : H a = some (.frz o (.dK kws)) → Repk K H kvs kws → Rep K H (.dlk kvs) (.ref a)
inductive Reps (K : PySem.W.Frag) (H : Hp) : List D → List V → Prop
  | nil : Reps K H [] []
  | cons {d : D} {v : V} {ds : List D} {vs : List V} : Rep K H d v → Reps K H ds vs → Reps K H (d :: ds) (v :: vs)
inductive Repk (K : PySem.W.Frag) (H : Hp) : List (L2.Key × D) → List (L2.Key × V) → Prop
  | nil : Repk K H [] []
  | cons {k : L2.Key} {d : D} {v : V} {kvs : List (L2.Key × D)} {kws : List (L2.Key × V)} : Rep K H d v → Repk K H kvs kws → Repk K H ((k, d) :: kvs) ((k, v) :: kws)
end

/-- what can be read may still be read -/
structure Le (H H' : Hp) : Prop where
  rd : ∀ a u, Rd H a u → Rd H' a u
  fr : ∀ a o u, H a = some (.frz o u) → H' a = some (.frz o u)
instance {H H' : Hp} : CoeFun (Le H H') (fun _ => ∀ a u, Rd H a u → Rd H' a u) := ⟨Le.rd⟩
theorem Le.refl (H : Hp) : Le H H := ⟨fun _ _ h => h, fun _ _ _ h => h⟩
theorem Le.trans {H H1 H2 : Hp} (a : Le H H1) (b : Le H1 H2) : Le H H2 := ⟨fun x u h => b x u (a x u h), fun x o u h => b.fr x o u (a.fr x o u h)⟩
theorem Le.ne {H H' : Hp} (l : Le H H') {b : Addr} (h : H b ≠ none) : H' b ≠ none := by
  cases e : H b with
  | none => exact absurd e h
  | some o =>
    rcases l b o (Or.inl e) with q | ⟨u, q⟩ <;> rw [q] <;> intro z <;> cases z
theorem Le.noneB {H H' : Hp} (l : Le H H') {b : Addr} (h : H' b = none) : H b = none := by
  cases e : H b with
  | none => rfl
  | some o => exact absurd h (l.ne (by rw [e]; intro z; cases z))
theorem Le.of_ext {H H' : Hp} (e : ∀ b o, H b = some o → H' b = some o) : Le H H' := ⟨fun a u h => by
  rcases h with h | ⟨o, h⟩
  · exact Or.inl (e _ _ h)
  · exact Or.inr ⟨o, e _ _ h⟩, fun a o u h => e a _ h⟩
theorem Le.upd_new {H : Hp} {p : Addr} {o : HO} (h : H p = none) : Le H (upd H p o) := .of_ext fun b u e => by
  rw [upd_ne (ne_of_none e h)]; exact e
theorem Le.sqL {K : PySem.W.Frag} {H H' : Hp} {a : Addr} {xs : List V} (l : Le H H') (h : SqL K H a xs) : SqL K H' a xs := by
  rcases h with h | h
  · exact Or.inl (l _ _ h)
  · exact Or.inr h
theorem Le.sqT {K : PySem.W.Frag} {H H' : Hp} {a : Addr} {xs : List V} (l : Le H H') (h : SqT K H a xs) : SqT K H' a xs := by
  rcases h with h | h
  · exact Or.inl (l _ _ h)
  · exact Or.inr h
mutual
theorem Rep.mono {K : PySem.W.Frag} {H H' : Hp} (l : Le H H') : ∀ {d : D} {v : V}, Rep K H d v → Rep K H' d v
  | _, _, .non => .non
  | _, _, .bl b => .bl b
  | _, _, .int i => .int i
  | _, _, .str x => .str x
  | _, _, .tup h r => .tup (l.sqT h) (Reps.mono l r)
  | _, _, .lst h r => .lst (l _ _ h) (Reps.mono l r)
  | _, _, .scr h => .scr (l.sqL h)
  | _, _, .dic h r => .dic (l _ _ h) (Repk.mono l r)
  | _, _, .set h r => .set (l _ _ h) r
  | _, _, .dlk h r => .dlk (l.fr _ _ _ h) (Repk.mono l r)
theorem Reps.mono {K : PySem.W.Frag} {H H' : Hp} (l : Le H H') : ∀ {ds : List D} {vs : List V}, Reps K H ds vs → Reps K H' ds vs
  | _, _, .nil => .nil
  | _, _, .cons h r => .cons (Rep.mono l h) (Reps.mono l r)
theorem Repk.mono {K : PySem.W.Frag} {H H' : Hp} (l : Le H H') : ∀ {ds : List (L2.Key × D)} {vs : List (L2.Key × V)}, Repk K H ds vs → Repk K H' ds vs
  | _, _, .nil => .nil
  | _, _, .cons h r => .cons (Rep.mono l h) (Repk.mono l r)
end
section
variable {K : PySem.W.Frag} {H : Hp}
theorem Reps.length : ∀ {ds : List D} {vs : List V}, Reps K H ds vs → vs.length = ds.length
  | _, _, .nil => rfl
  | _, _, .cons _ r => by simp [Reps.length r]
theorem Repk.length : ∀ {ds : List (L2.Key × D)} {vs : List (L2.Key × V)}, Repk K H ds vs → vs.length = ds.length
  | _, _, .nil => rfl
  | _, _, .cons _ r => by simp [Repk.length r]
theorem Reps.get : ∀ {ds : List D} {vs : List V} {i : Nat} {d : D}, Reps K H ds vs → ds[i]? = some d → ∃ v, vs[i]? = some v ∧ Rep K H d v
  | _, _, _, _, .nil, e => by simp at e
  | _, _, 0, _, .cons h _, e => by simp at e; subst e; exact ⟨_, rfl, h⟩
  | _, _, i + 1, _, .cons _ r, e => by
    obtain ⟨v, q, h⟩ := Reps.get (i := i) r (by simpa using e)
    exact ⟨v, by simpa using q, h⟩
theorem Reps.get' : ∀ {ds : List D} {vs : List V} {i : Nat} {v : V}, Reps K H ds vs → vs[i]? = some v → ∃ d, ds[i]? = some d ∧ Rep K H d v
  | _, _, _, _, .nil, e => by simp at e
  | _, _, 0, _, .cons h _, e => by simp at e; subst e; exact ⟨_, rfl, h⟩
  | _, _, i + 1, _, .cons _ r, e => by
    obtain ⟨v, q, h⟩ := Reps.get' (i := i) r (by simpa using e)
    exact ⟨v, by simpa using q, h⟩
theorem Reps.append : ∀ {ds es : List D} {vs ws : List V}, Reps K H ds vs → Reps K H es ws → Reps K H (ds ++ es) (vs ++ ws)
  | _, _, _, _, .nil, s => s
  | _, _, _, _, .cons h r, s => .cons h (Reps.append r s)
theorem Reps.take : ∀ {ds : List D} {vs : List V} (n : Nat), Reps K H ds vs → Reps K H (ds.take n) (vs.take n)
  | _, _, 0, _ => by simp; exact .nil
  | _, _, n + 1, .nil => .nil
  | _, _, n + 1, .cons h r => .cons h (Reps.take n r)
theorem Reps.drop : ∀ {ds : List D} {vs : List V} (n : Nat), Reps K H ds vs → Reps K H (ds.drop n) (vs.drop n)
  | _, _, 0, r => r
  | _, _, n + 1, .nil => .nil
  | _, _, n + 1, .cons h r => Reps.drop n r
theorem Reps.reverse {ds : List D} {vs : List V} (r : Reps K H ds vs) : Reps K H ds.reverse vs.reverse := by
  induction ds generalizing vs with
  | nil => cases r; exact .nil
  | cons d ds ih =>
    cases r with
    | cons h r => rw [List.reverse_cons, List.reverse_cons]; exact (ih r).append (.cons h .nil)
theorem Reps.set : ∀ {ds : List D} {vs : List V} (n : Nat) {d : D} {v : V}, Reps K H ds vs → Rep K H d v → Reps K H (ds.set n d) (vs.set n v)
  | _, _, _, _, _, .nil, _ => .nil
  | _, _, 0, _, _, .cons _ r, q => .cons q r
  | _, _, n + 1, _, _, .cons h r, q => .cons h (Reps.set n r q)
theorem Reps.insertIdx : ∀ {ds : List D} {vs : List V} (n : Nat) {d : D} {v : V}, Reps K H ds vs → Rep K H d v → Reps K H (ds.insertIdx n d) (vs.insertIdx n v)
  | _, _, 0, _, _, r, q => .cons q r
  | _, _, n + 1, _, _, .nil, q => .nil
  | _, _, n + 1, _, _, .cons h r, q => .cons h (Reps.insertIdx n r q)
theorem Reps.eraseIdx : ∀ {ds : List D} {vs : List V} (n : Nat), Reps K H ds vs → Reps K H (ds.eraseIdx n) (vs.eraseIdx n)
  | _, _, _, .nil => by simp; exact .nil
  | _, _, 0, .cons h r => r
  | _, _, n + 1, .cons h r => .cons h (Reps.eraseIdx n r)
end

/-- the top object stands in H, its parts in Hd -/
inductive Top (K : PySem.W.Frag) (Hd H : Hp) : D → V → Prop
  | rep {d : D} {v : V} : Rep K Hd d v → Top K Hd H d v
  | lst {a : Addr} {vs : List V} {ds : List D} : Rd H a (.lst vs) → Reps K Hd ds vs → Top K Hd H (.lst ds) (.ref a)
  | dic {a : Addr} {kws : List (L2.Key × V)} {kvs : List (L2.Key × D)} : Rd H a (.dK kws) → Repk K Hd kvs kws → Top K Hd H (.dic kvs) (.ref a)
theorem Top.all {K : PySem.W.Frag} {Hd H : Hp} {d : D} {v : V} (l : Le Hd H) (t : Top K Hd H d v) : Rep K H d v := by
  cases t with
  | rep r => exact r.mono l
  | lst h r => exact .lst h (r.mono l)
  | dic h r => exact .dic h (r.mono l)
theorem Top.lstD {K : PySem.W.Frag} {Hd H : Hp} {ds : List D} {v : V} (l : Le Hd H) (t : Top K Hd H (.lst ds) v) : ∃ a vs, v = .ref a ∧ Rd H a (.lst vs) ∧ Reps K Hd ds vs := by
  cases t with
  | rep r => cases r with | lst h r => exact ⟨_, _, rfl, l _ _ h, r⟩
  | lst h r => exact ⟨_, _, rfl, h, r⟩
theorem Top.scrD {K : PySem.W.Frag} {Hd H : Hp} {ns : List Int} {v : V} (l : Le Hd H) (t : Top K Hd H (.scr ns) v) : ∃ a, v = .ref a ∧ SqL K H a (ns.map V.int) := by
  cases t with
  | rep r => cases r with | scr h => exact ⟨_, rfl, l.sqL h⟩
theorem Top.tupD {K : PySem.W.Frag} {Hd H : Hp} {ds : List D} {v : V} (l : Le Hd H) (t : Top K Hd H (.tup ds) v) : ∃ a vs, v = .ref a ∧ SqT K H a vs ∧ Reps K Hd ds vs := by
  cases t with
  | rep r => cases r with | tup h r => exact ⟨_, _, rfl, l.sqT h, r⟩
theorem Top.dicD {K : PySem.W.Frag} {Hd H : Hp} {kvs : List (L2.Key × D)} {v : V} (l : Le Hd H) (t : Top K Hd H (.dic kvs) v) : ∃ a kws, v = .ref a ∧ Rd H a (.dK kws) ∧ Repk K Hd kvs kws := by
  cases t with
  | rep r => cases r with | dic h r => exact ⟨_, _, rfl, l _ _ h, r⟩
  | dic h r => exact ⟨_, _, rfl, h, r⟩
theorem Top.dlkD {K : PySem.W.Frag} {Hd H : Hp} {kvs : List (L2.Key × D)} {v : V} (l : Le Hd H) (t : Top K Hd H (.dlk kvs) v) : ∃ a o kws, v = .ref a ∧ H a = some (.frz o (.dK kws)) ∧ Repk K Hd kvs kws := by
  cases t with
  | rep r => cases r with | dlk h r => exact ⟨_, _, _, rfl, l.fr _ _ _ h, r⟩
theorem Top.intD {K : PySem.W.Frag} {Hd H : Hp} {i : Int} {v : V} (t : Top K Hd H (.int i) v) : v = .int i := by
  cases t with | rep r => cases r; rfl
theorem Top.blD {K : PySem.W.Frag} {Hd H : Hp} {i : Bool} {v : V} (t : Top K Hd H (.bl i) v) : v = .bl i := by
  cases t with | rep r => cases r; rfl
theorem Top.strD {K : PySem.W.Frag} {Hd H : Hp} {i : Str} {v : V} (t : Top K Hd H (.str i) v) : v = .str i := by
  cases t with | rep r => cases r; rfl
theorem Top.nonD {K : PySem.W.Frag} {Hd H : Hp} {v : V} (t : Top K Hd H .non v) : v = .non := by
  cases t with | rep r => cases r; rfl

mutual
inductive Own (K : PySem.W.Frag) (Hd H : Hp) : OD → V → List Addr → Prop
  | fz {d : D} {v : V} : Rep K Hd d v → Own K Hd H (.fz d) v []
  | lst {a : Addr} {vs : List V} {ds : List D} : H a = some (.lst vs) → Reps K Hd ds vs → Own K Hd H (.lst ds) (.ref a) [a]
  | dic {a : Addr} {kws : List (L2.Key × V)} {kvs : List (L2.Key × D)} : H a = some (.dK kws) → Repk K Hd kvs kws → Own K Hd H (.dic kvs) (.ref a) [a]
  | ins {a C dx : Addr} {gs : List (Str × V)} {fs : List (Str × OD)} {A : List Addr} : H a = some (.ins C dx gs) → H dx = some (.own a) → Owns K Hd H fs gs A → Own K Hd H (.ins C fs) (.ref a) (a :: dx :: A)
inductive Owns (K : PySem.W.Frag) (Hd H : Hp) : List (Str × OD) → List (Str × V) → List Addr → Prop
  | nil : Owns K Hd H [] [] []
  | cons {f : Str} {o : OD} {v : V} {A B : List Addr} {fs : List (Str × OD)} {gs : List (Str × V)} : Own K Hd H o v A → Owns K Hd H fs gs B → Owns K Hd H ((f, o) :: fs) ((f, v) :: gs) (A ++ B)
end
mutual
theorem Own.frame {K : PySem.W.Frag} {Hd H Hd' H' : Hp} (l : Le Hd Hd') : ∀ {o : OD} {v : V} {A : List Addr}, Own K Hd H o v A → (∀ a ∈ A, ∀ u, H a = some u → H' a = some u) → Own K Hd' H' o v A
  | _, _, _, .fz r, _ => .fz (r.mono l)
  | _, _, _, .lst h r, k => .lst (k _ (by simp) _ h) (r.mono l)
  | _, _, _, .dic h r, k => .dic (k _ (by simp) _ h) (r.mono l)
  | _, _, _, .ins h h' r, k => .ins (k _ (by simp) _ h) (k _ (by simp) _ h') (Owns.frame l r fun a ha => k a (by simp [ha]))
theorem Owns.frame {K : PySem.W.Frag} {Hd H Hd' H' : Hp} (l : Le Hd Hd') : ∀ {fs : List (Str × OD)} {gs : List (Str × V)} {A : List Addr}, Owns K Hd H fs gs A → (∀ a ∈ A, ∀ u, H a = some u → H' a = some u) → Owns K Hd' H' fs gs A
  | _, _, _, .nil, _ => .nil
  | _, _, _, .cons h r, k => .cons (Own.frame l h fun a ha => k a (by simp [ha])) (Owns.frame l r fun a ha => k a (by simp [ha]))
end
mutual
theorem Own.there {K : PySem.W.Frag} {Hd H : Hp} : ∀ {o : OD} {v : V} {A : List Addr}, Own K Hd H o v A → ∀ a ∈ A, H a ≠ none
  | _, _, _, .fz _, _, h => by simp at h
  | _, _, _, .lst e _, a, h => by simp at h; subst h; rw [e]; intro z; cases z
  | _, _, _, .dic e _, a, h => by simp at h; subst h; rw [e]; intro z; cases z
  | _, _, _, .ins e e' r, a, h => by
    rcases List.mem_cons.mp h with rfl | h
    · rw [e]; intro z; cases z
    · rcases List.mem_cons.mp h with rfl | h
      · rw [e']; intro z; cases z
      · exact Owns.there r a h
theorem Owns.there {K : PySem.W.Frag} {Hd H : Hp} : ∀ {fs : List (Str × OD)} {gs : List (Str × V)} {A : List Addr}, Owns K Hd H fs gs A → ∀ a ∈ A, H a ≠ none
  | _, _, _, .nil, _, h => by simp at h
  | _, _, _, .cons q r, a, h => by
    rcases List.mem_append.mp h with h | h
    · exact Own.there q a h
    · exact Owns.there r a h
end
theorem Own.topD {K : PySem.W.Frag} {Hd H : Hp} {o : OD} {v : V} {A : List Addr} {d : D} (h : Own K Hd H o v A) (e : o.top = some d) : Top K Hd H d v := by
  cases h with
  | fz r => cases e; exact .rep r
  | lst h r => cases e; exact .lst (.inl h) r
  | dic h r => cases e; exact .dic (.inl h) r
  | ins _ _ _ => cases e

/-! ### the state -/
inductive Sl where
  | un | sh (d : D) | br (d : D) | ow (o : OD) | io (o : OD)
abbrev Env := List Sl
inductive RV where
  | val (d : D) | own (o : OD) | bor (i : Nat)
structure Exc where
  cls : Value
  fs : Option (List (Str × D))
inductive Res (α : Type) where
  | ok (a : α) (ρ : Env) | ex (e : Exc) (ρ : Env) | no
def Res.bind {α β : Type} (x : Res α) (f : α → Env → Res β) : Res β :=
  match x with
  | .ok a ρ => f a ρ
  | .ex e ρ => .ex e ρ
  | .no => .no
structure Cn where
  H0 : Hp
  Hd0 : Hp
  M : Nat → List Addr
  io : Nat → V → Prop
abbrev Fp := Nat → List Addr

def SlotOk (K : PySem.W.Frag) (C : Cn) (Hd H : Hp) (i : Nat) (s : Sl) (ov : Option (Option V)) (A : List Addr) : Prop :=
  match s with
  | .un => A = []
  | .sh d => A = [] ∧ ∃ v, ov = some (some v) ∧ Rep K Hd d v
  | .br d => A = [] ∧ ∃ v, ov = some (some v) ∧ Top K C.Hd0 C.H0 d v ∧ (Rep K C.Hd0 d v ∨ ∀ a, v = .ref a → ∀ i, a ∉ C.M i)
  | .ow o => ∃ v, ov = some (some v) ∧ Own K Hd H o v A ∧ A.Nodup ∧ ∀ a ∈ A, Hd a = none ∧ C.H0 a = none
  | .io o => ∃ v, ov = some (some v) ∧ Own K Hd H o v A ∧ A.Nodup ∧ (∀ a ∈ A, Hd a = none ∧ (a ∈ C.M i ∨ C.H0 a = none)) ∧ C.io i v

structure Inv (K : PySem.W.Frag) (C : Cn) (fp : Fp) (Hd H : Hp) (σ : St) (ρ : Env) : Prop where
  le : Le Hd H
  hd0 : Le C.Hd0 Hd
  keep : ∀ b o, C.H0 b = some o → (∀ i, b ∉ C.M i) → H b = some o
  dom : ∀ b, C.H0 b ≠ none → H b ≠ none
  fresh : ∀ b, Hd b ≠ none → C.Hd0 b ≠ none ∨ C.H0 b = none
  len : σ.length = ρ.length
  slot : ∀ i s, ρ[i]? = some s → SlotOk K C Hd H i s σ[i]? (fp i)
  out : ∀ i, ρ.length ≤ i → fp i = []
  dis : ∀ i j a, a ∈ fp i → a ∈ fp j → i = j
/-- a step of the state -/
structure Stp (fp : Fp) (Hd H : Hp) (fp' : Fp) (Hd' H' : Hp) : Prop where
  hd : Le Hd Hd'
  fr : ∀ b, Hd' b ≠ none → Hd b ≠ none ∨ H b = none ∨ ∃ i, b ∈ fp i
  keep : ∀ b o, H b = some o → (∀ i, b ∉ fp i) → H' b = some o
  dom : ∀ b, H b ≠ none → H' b ≠ none
  fpx : ∀ i b, b ∈ fp' i → (∃ j, b ∈ fp j) ∨ H b = none
theorem Stp.refl (fp : Fp) (Hd H : Hp) : Stp fp Hd H fp Hd H := ⟨.refl _, fun _ h => .inl h, fun _ _ h _ => h, fun _ h => h, fun i _ h => .inl ⟨i, h⟩⟩
theorem none_back {H H' : Hp} (d : ∀ b, H b ≠ none → H' b ≠ none) {b : Addr} (h : H' b = none) : H b = none := by
  cases e : H b with
  | none => rfl
  | some o => exact absurd h (d b (by rw [e]; intro z; cases z))
theorem Stp.trans {fp fp1 fp2 : Fp} {Hd H Hd1 H1 Hd2 H2 : Hp} (a : Stp fp Hd H fp1 Hd1 H1) (b : Stp fp1 Hd1 H1 fp2 Hd2 H2) : Stp fp Hd H fp2 Hd2 H2 where
  hd := a.hd.trans b.hd
  fr := fun x h => by
    rcases b.fr x h with h | h | ⟨i, h⟩
    · exact a.fr x h
    · exact .inr (.inl (none_back a.dom h))
    · rcases a.fpx i x h with q | q
      · exact .inr (.inr q)
      · exact .inr (.inl q)
  keep := fun x o h n => b.keep x o (a.keep x o h n) fun i hi => by
    rcases a.fpx i x hi with ⟨j, hj⟩ | q
    · exact n j hj
    · rw [q] at h; cases h
  dom := fun x h => b.dom x (a.dom x h)
  fpx := fun i x h => by
    rcases b.fpx i x h with ⟨j, hj⟩ | q
    · exact a.fpx j x hj
    · exact .inr (none_back a.dom q)

/-- an owned value by itself -/
def Loose (K : PySem.W.Frag) (C : Cn) (fp : Fp) (Hd H : Hp) (o : OD) (v : V) : Prop :=
  ∃ A, Own K Hd H o v A ∧ A.Nodup ∧ ∀ a ∈ A, Hd a = none ∧ C.H0 a = none ∧ ∀ i, a ∉ fp i
def RVal (K : PySem.W.Frag) (C : Cn) (fp : Fp) (Hd H : Hp) (σ : St) (r : RV) (v : V) : Prop :=
  match r with
  | .val d => Rep K Hd d v
  | .own o => Loose K C fp Hd H o v
  | .bor i => σ[i]? = some (some v)
theorem Loose.stp {K : PySem.W.Frag} {C : Cn} {fp fp' : Fp} {Hd H Hd' H' : Hp} {o : OD} {v : V} (s : Stp fp Hd H fp' Hd' H') (h : Loose K C fp Hd H o v) : Loose K C fp' Hd' H' o v := by
  obtain ⟨A, ow, nd, f⟩ := h
  refine ⟨A, ow.frame s.hd fun a ha u e => s.keep a u e (f a ha).2.2, nd, fun a ha => ⟨?_, (f a ha).2.1, fun i hi => ?_⟩⟩
  · cases e : Hd' a with
    | none => rfl
    | some u =>
      rcases s.fr a (by rw [e]; intro z; cases z) with q | q | ⟨i, q⟩
      · exact absurd (f a ha).1 q
      · exact absurd q (ow.there a ha)
      · exact absurd q ((f a ha).2.2 i)
  · rcases s.fpx i a hi with ⟨j, hj⟩ | q
    · exact (f a ha).2.2 j hj
    · exact ow.there a ha q
theorem RVal.stp {K : PySem.W.Frag} {C : Cn} {fp fp' : Fp} {Hd H Hd' H' : Hp} {σ : St} {r : RV} {v : V} (s : Stp fp Hd H fp' Hd' H') (h : RVal K C fp Hd H σ r v) : RVal K C fp' Hd' H' σ r v := by
  cases r with
  | val d => exact Rep.mono s.hd h
  | own o => exact Loose.stp s h
  | bor i => exact h
/-- an exception's dict -/
inductive ExAt (K : PySem.W.Frag) (Hd H : Hp) : Exc → Option Addr → Prop
  | none {c : Value} : ExAt K Hd H ⟨c, none⟩ none
  | some {c : Value} {fs : List (Str × D)} {gs : List (Str × V)} {a : Addr} : H a = some (.xd gs) → gs.map (·.1) = fs.map (·.1) → Reps K Hd (fs.map (·.2)) (gs.map (·.2)) → ExAt K Hd H ⟨c, some fs⟩ (some a)

/-! ### soundness -/
/-- what is known of an answer: Hs the heap ahead of the run -/
structure Rel (α β : Type) where
  r : Cn → Hp → Fp → Hp → Hp → St → α → β → Prop
  back : ∀ {C : Cn} {Hs Hs' : Hp} {fp : Fp} {Hd H : Hp} {σ : St} {a : α} {b : β}, (∀ x, Hs x ≠ none → Hs' x ≠ none) → r C Hs' fp Hd H σ a b → r C Hs fp Hd H σ a b
/-- what stands behind a run, relative to a state -/
def Post {α β : Type} (K : PySem.W.Frag) (W : St → XK) (C : Cn) (rel : Rel α β) (fp : Fp) (Hd H : Hp) (σ : St) (x : Res α) (Q : β → Hp → Prop) : Prop :=
  match x with
  | .ok r ρ' => ∀ v fp' Hd' H', Stp fp Hd H fp' Hd' H' → Inv K C fp' Hd' H' σ ρ' → rel.r C H fp' Hd' H' σ r v → Q v H'
  | .ex c ρ' => ∀ d fp' Hd' H', Stp fp Hd H fp' Hd' H' → Inv K C fp' Hd' H' σ ρ' → ExAt K Hd' H' c d → W σ c.cls d H'
  | .no => False
def Sd {α β : Type} (K : PySem.W.Frag) (W : St → XK) (rel : Rel α β) (t : St → Hp → (β → Hp → Prop) → Prop) (f : Env → Res α) : Prop :=
  ∀ (C : Cn) (fp : Fp) (Hd H : Hp) (σ : St) (ρ : Env), Inv K C fp Hd H σ ρ → ∀ Q : β → Hp → Prop, Post K W C rel fp Hd H σ (f ρ) Q → t σ H Q
/-- a value: an owned one is new -/
def rV (K : PySem.W.Frag) : Rel RV V where
  r := fun C Hs fp Hd H σ r v => match r with
    | .val d => Rep K Hd d v
    | .own o => ∃ A, Own K Hd H o v A ∧ A.Nodup ∧ ∀ a ∈ A, Hd a = none ∧ C.H0 a = none ∧ (∀ i, a ∉ fp i) ∧ Hs a = none
    | .bor i => σ[i]? = some (some v)
  back := fun {C Hs Hs' fp Hd H σ a b} d h => by
    cases a with
    | val x => exact h
    | own o =>
      obtain ⟨A, ow, nd, f⟩ := h
      exact ⟨A, ow, nd, fun a ha => ⟨(f a ha).1, (f a ha).2.1, (f a ha).2.2.1, none_back d (f a ha).2.2.2⟩⟩
    | bor i => exact h
theorem rV_loose {K : PySem.W.Frag} {C : Cn} {Hs : Hp} {fp : Fp} {Hd H : Hp} {σ : St} {r : RV} {v : V} (h : (rV K).r C Hs fp Hd H σ r v) : RVal K C fp Hd H σ r v := by
  cases r with
  | val x => exact h
  | own o =>
    obtain ⟨A, ow, nd, f⟩ := h
    exact ⟨A, ow, nd, fun a ha => ⟨(f a ha).1, (f a ha).2.1, (f a ha).2.2.1⟩⟩
  | bor i => exact h
def rB : Rel Bool Bool := ⟨fun _ _ _ _ _ _ b b' => b' = b, fun _ h => h⟩
/-- frozen data -/
def rD (K : PySem.W.Frag) : Rel D V := ⟨fun _ _ _ Hd _ _ d v => Rep K Hd d v, fun _ h => h⟩
/-- a step ahead -/
theorem Post.stp {α β : Type} {K : PySem.W.Frag} {W : St → XK} {C : Cn} {rel : Rel α β} {fp fp' : Fp} {Hd H Hd' H' : Hp} {σ : St} {x : Res α} {Q : β → Hp → Prop}
    (s : Stp fp Hd H fp' Hd' H') (h : Post K W C rel fp Hd H σ x Q) : Post K W C rel fp' Hd' H' σ x Q := by
  cases x with
  | ok r ρ' => exact fun v fp2 Hd2 H2 s2 I2 r2 => h v fp2 Hd2 H2 (s.trans s2) I2 (rel.back s.dom r2)
  | ex c ρ' => exact fun d fp2 Hd2 H2 s2 => h d fp2 Hd2 H2 (s.trans s2)
  | no => exact h
theorem Sd.run {α α' β β' : Type} {K : PySem.W.Frag} {W : St → XK} {rel : Rel α β} {rel' : Rel α' β'} {t : St → Hp → (β → Hp → Prop) → Prop} {f : Env → Res α} {g : α → Env → Res α'} (h : Sd K W rel t f)
    {C : Cn} {fp : Fp} {Hd H : Hp} {σ : St} {ρ : Env} (I : Inv K C fp Hd H σ ρ) {Q : β' → Hp → Prop} {Q' : β → Hp → Prop} (p : Post K W C rel' fp Hd H σ ((f ρ).bind g) Q)
    (k : ∀ (r : α) (v : β) (fp1 : Fp) (Hd1 H1 : Hp) (ρ1 : Env), Stp fp Hd H fp1 Hd1 H1 → Inv K C fp1 Hd1 H1 σ ρ1 → rel.r C H fp1 Hd1 H1 σ r v → Post K W C rel' fp1 Hd1 H1 σ (g r ρ1) Q → Q' v H1) : t σ H Q' := by
  refine h C fp Hd H σ ρ I _ ?_
  cases e : f ρ with
  | ok r ρ1 =>
    have p' : Post K W C rel' fp Hd H σ (g r ρ1) Q := by
      have q := p
      simp only [e, Res.bind] at q
      exact q
    exact fun v fp1 Hd1 H1 s1 I1 r1 => k r v fp1 Hd1 H1 ρ1 s1 I1 r1 (p'.stp s1)
  | ex c ρ1 =>
    have q := p
    simp only [e, Res.bind] at q
    exact q
  | no =>
    have q := p
    simp only [e, Res.bind] at q
    exact q
theorem Sd.bind {α α' β β' : Type} {K : PySem.W.Frag} {W : St → XK} {rel : Rel α β} {rel' : Rel α' β'} {t : St → Hp → (β → Hp → Prop) → Prop} {f : Env → Res α} {k : β → St → Hp → (β' → Hp → Prop) → Prop} {g : α → Env → Res α'} (h : Sd K W rel t f)
    (hk : ∀ (C : Cn) (Hs : Hp) (fp : Fp) (Hd H : Hp) (σ : St) (ρ : Env) (r : α) (v : β), Inv K C fp Hd H σ ρ → (∀ x, Hs x ≠ none → H x ≠ none) → rel.r C Hs fp Hd H σ r v → ∀ Q : β' → Hp → Prop, Post K W C rel' fp Hd H σ (g r ρ) Q → k v σ H Q) :
    Sd K W rel' (fun σ H Q => t σ H fun v H1 => k v σ H1 Q) (fun ρ => (f ρ).bind g) := fun C fp Hd H σ ρ I Q p =>
  h.run I p fun r v fp1 Hd1 H1 ρ1 s1 I1 r1 p1 => hk C H fp1 Hd1 H1 σ ρ1 r v I1 s1.dom r1 Q p1
/-- the answer is there at once -/
theorem Post.now {α β : Type} {K : PySem.W.Frag} {W : St → XK} {C : Cn} {rel : Rel α β} {fp : Fp} {Hd H : Hp} {σ : St} {ρ : Env} {r : α} {v : β} {Q : β → Hp → Prop}
    (p : Post K W C rel fp Hd H σ (.ok r ρ) Q) (I : Inv K C fp Hd H σ ρ) (h : rel.r C H fp Hd H σ r v) : Q v H := p v fp Hd H (.refl _ _ _) I h

/-! ### reading -/
def rdS : Sl → Option D
  | .un => none
  | .sh d => some d
  | .br d => some d
  | .ow o => o.top
  | .io o => o.top
def rd (r : RV) (ρ : Env) : Option D :=
  match r with
  | .val d => some d
  | .own o => o.top
  | .bor i => match ρ[i]? with
    | some s => rdS s
    | none => none
section
variable {K : PySem.W.Frag} {C : Cn} {fp : Fp} {Hd H : Hp} {σ : St} {ρ : Env}
theorem Inv.brTop {d : D} {v : V} (I : Inv K C fp Hd H σ ρ) (t : Top K C.Hd0 C.H0 d v) (n : Rep K C.Hd0 d v ∨ ∀ a, v = .ref a → ∀ i, a ∉ C.M i) : Top K Hd H d v := by
  rcases n with n | n
  · exact .rep (n.mono I.hd0)
  have rdk : ∀ {a : Addr} {u : HO}, (∀ i, a ∉ C.M i) → Rd C.H0 a u → Rd H a u := fun {a u} na r => by
    rcases r with r | ⟨o, r⟩
    · exact .inl (I.keep _ _ r na)
    · exact .inr ⟨o, I.keep _ _ r na⟩
  cases t with
  | rep r => exact .rep (r.mono I.hd0)
  | lst h r => exact .lst (rdk (n _ rfl) h) (r.mono I.hd0)
  | dic h r => exact .dic (rdk (n _ rfl) h) (r.mono I.hd0)
theorem Inv.rdTop {r : RV} {v : V} {d : D} (I : Inv K C fp Hd H σ ρ) (h : RVal K C fp Hd H σ r v) (e : rd r ρ = some d) : Top K Hd H d v := by
  cases r with
  | val x => cases e; exact .rep h
  | own o =>
    obtain ⟨A, ow, _⟩ := h
    exact ow.topD e
  | bor i =>
    have h : σ[i]? = some (some v) := h
    simp only [rd] at e
    cases es : ρ[i]? with
    | none => rw [es] at e; cases e
    | some s =>
      rw [es] at e
      have q := I.slot i s es
      rw [h] at q
      cases s with
      | un => cases e
      | sh x =>
        cases e
        obtain ⟨_, w, ew, r⟩ := q
        cases ew
        exact .rep r
      | br x =>
        cases e
        obtain ⟨_, w, ew, t, n⟩ := q
        cases ew
        exact I.brTop t n
      | ow o =>
        obtain ⟨w, ew, ow, _⟩ := q
        cases ew
        exact ow.topD e
      | io o =>
        obtain ⟨w, ew, ow, _⟩ := q
        cases ew
        exact ow.topD e
/-- only new things -/
structure Ext (Hd H Hd' H' : Hp) : Prop where
  hd : Le Hd Hd'
  le : Le Hd' H'
  fr : ∀ b, Hd' b ≠ none → Hd b ≠ none ∨ H b = none
  keep : ∀ b o, H b = some o → H' b = some o
theorem Ext.refl (l : Le Hd H) : Ext Hd H Hd H := ⟨.refl _, l, fun _ h => .inl h, fun _ _ h => h⟩
theorem Ext.dom {Hd' H' : Hp} (x : Ext Hd H Hd' H') : ∀ b, H b ≠ none → H' b ≠ none := fun b h => by
  cases e : H b with
  | none => exact absurd e h
  | some o => rw [x.keep b o e]; intro z; cases z
theorem Ext.noneF {Hd' H' : Hp} (x : Ext Hd H Hd' H') {b : Addr} (h : Hd b = none) (h' : H b ≠ none) : Hd' b = none := by
  cases e : Hd' b with
  | none => rfl
  | some u =>
    rcases x.fr b (by rw [e]; intro z; cases z) with q | q
    · exact absurd h q
    · exact absurd q h'
theorem SlotOk.ext {Hd' H' : Hp} {i : Nat} {s : Sl} {ov : Option (Option V)} {A : List Addr} (l : Le Hd Hd') (hn : ∀ a ∈ A, Hd a = none → Hd' a = none) (k : ∀ a ∈ A, ∀ u, H a = some u → H' a = some u) (h : SlotOk K C Hd H i s ov A) : SlotOk K C Hd' H' i s ov A := by
  cases s with
  | un => exact h
  | sh d => obtain ⟨a, v, e, r⟩ := h; exact ⟨a, v, e, r.mono l⟩
  | br d => exact h
  | ow o => obtain ⟨v, e, ow, nd, f⟩ := h; exact ⟨v, e, ow.frame l k, nd, fun a ha => ⟨hn a ha (f a ha).1, (f a ha).2⟩⟩
  | io o => obtain ⟨v, e, ow, nd, f, m⟩ := h; exact ⟨v, e, ow.frame l k, nd, fun a ha => ⟨hn a ha (f a ha).1, (f a ha).2⟩, m⟩
theorem SlotOk.there {i : Nat} {s : Sl} {ov : Option (Option V)} {A : List Addr} (h : SlotOk K C Hd H i s ov A) : ∀ a ∈ A, H a ≠ none := by
  cases s with
  | un => have h : A = [] := h; subst h; intro a ha; cases ha
  | sh d => obtain ⟨h, _⟩ := h; subst h; intro a ha; cases ha
  | br d => obtain ⟨h, _⟩ := h; subst h; intro a ha; cases ha
  | ow o => obtain ⟨v, e, ow, _⟩ := h; exact ow.there
  | io o => obtain ⟨v, e, ow, _⟩ := h; exact ow.there
theorem SlotOk.hdn {i : Nat} {s : Sl} {ov : Option (Option V)} {A : List Addr} (h : SlotOk K C Hd H i s ov A) : ∀ a ∈ A, Hd a = none ∧ (a ∈ C.M i ∨ C.H0 a = none) := by
  cases s with
  | un => have h : A = [] := h; subst h; intro a ha; cases ha
  | sh d => obtain ⟨h, _⟩ := h; subst h; intro a ha; cases ha
  | br d => obtain ⟨h, _⟩ := h; subst h; intro a ha; cases ha
  | ow o => obtain ⟨v, e, ow, _, f⟩ := h; exact fun a ha => ⟨(f a ha).1, .inr (f a ha).2⟩
  | io o => obtain ⟨v, e, ow, _, f, _⟩ := h; exact f
theorem Inv.fpOk (I : Inv K C fp Hd H σ ρ) {i : Nat} {a : Addr} (h : a ∈ fp i) : H a ≠ none ∧ Hd a = none ∧ (a ∈ C.M i ∨ C.H0 a = none) := by
  by_cases hi : i < ρ.length
  · have e : ρ[i]? = some ρ[i] := by simp [hi]
    have q := I.slot i _ e
    exact ⟨q.there a h, q.hdn a h⟩
  · rw [I.out i (by omega)] at h; cases h
theorem Inv.ext {Hd' H' : Hp} (I : Inv K C fp Hd H σ ρ) (x : Ext Hd H Hd' H') : Inv K C fp Hd' H' σ ρ where
  le := x.le
  hd0 := I.hd0.trans x.hd
  keep := fun b o e n => x.keep b o (I.keep b o e n)
  dom := fun b h => x.dom b (I.dom b h)
  fresh := fun b h => by
    rcases x.fr b h with q | q
    · exact I.fresh b q
    · exact .inr (none_back I.dom q)
  len := I.len
  slot := fun i s e => (I.slot i s e).ext x.hd (fun a ha n => x.noneF n ((I.fpOk ha).1)) fun a _ u h => x.keep a u h
  out := I.out
  dis := I.dis
theorem Inv.stp {Hd' H' : Hp} (I : Inv K C fp Hd H σ ρ) (x : Ext Hd H Hd' H') : Stp fp Hd H fp Hd' H' :=
  ⟨x.hd, fun b h => (x.fr b h).imp_right .inl, fun b o h _ => x.keep b o h, x.dom, fun i _ h => .inl ⟨i, h⟩⟩
/-- a new object, loose -/
theorem ext_new {p : Addr} {o : HO} (l : Le Hd H) (h : H p = none) : Ext Hd H Hd (upd H p o) :=
  ⟨.refl _, l.trans (.upd_new h), fun _ q => .inl q, fun b u e => by rw [upd_ne (ne_of_none e h)]; exact e⟩
/-- a new object, frozen -/
theorem ext_frozen {p : Addr} {o : HO} (l : Le Hd H) (h : H p = none) : Ext Hd H (upd Hd p o) (upd H p o) :=
  ⟨.upd_new (l.noneB h), ⟨fun a u r => by
    by_cases e : a = p
    · subst e
      rcases r with r | ⟨x, r⟩
      · rw [upd_same] at r; cases r; exact .inl upd_same
      · rw [upd_same] at r; cases r; exact .inr ⟨x, upd_same⟩
    · have r' : Rd Hd a u := by
        rcases r with r | ⟨x, r⟩
        · rw [upd_ne e] at r; exact .inl r
        · rw [upd_ne e] at r; exact .inr ⟨x, r⟩
      exact (Le.upd_new h) a u (l a u r'), fun a x u r => by
    by_cases e : a = p
    · subst e
      rw [upd_same] at r ⊢
      exact r
    · rw [upd_ne e] at r ⊢
      exact l.fr a x u r⟩, fun b q => by
    by_cases e : b = p
    · subst e; exact .inr h
    · rw [upd_ne e] at q; exact .inl q, fun b u e => by rw [upd_ne (ne_of_none e h)]; exact e⟩
theorem Ext.trans {Hd1 H1 Hd2 H2 : Hp} (a : Ext Hd H Hd1 H1) (b : Ext Hd1 H1 Hd2 H2) : Ext Hd H Hd2 H2 :=
  ⟨a.hd.trans b.hd, b.le, fun x h => by
    rcases b.fr x h with q | q
    · exact a.fr x q
    · exact .inr (none_back a.dom q), fun x o h => b.keep x o (a.keep x o h)⟩
/-- what an operation hands back -/
def NewR (K : PySem.W.Frag) (Hd H : Hp) (r : RV) (v : V) (H' : Hp) : Prop :=
  ∃ Hd', Ext Hd H Hd' H' ∧ match r with
    | .val d => Rep K Hd' d v
    | .own o => ∃ A, Own K Hd' H' o v A ∧ A.Nodup ∧ ∀ a ∈ A, H a = none ∧ Hd' a = none
    | .bor _ => False
theorem NewR.at (I : Inv K C fp Hd H σ ρ) {r : RV} {v : V} {H' : Hp} (n : NewR K Hd H r v H') : ∃ Hd', Stp fp Hd H fp Hd' H' ∧ Inv K C fp Hd' H' σ ρ ∧ (rV K).r C H fp Hd' H' σ r v := by
  obtain ⟨Hd', x, h⟩ := n
  refine ⟨Hd', I.stp x, I.ext x, ?_⟩
  cases r with
  | val d => exact h
  | own o =>
    obtain ⟨A, ow, nd, f⟩ := h
    exact ⟨A, ow, nd, fun a ha => ⟨(f a ha).2, none_back I.dom (f a ha).1, fun i hi => (I.fpOk hi).1 (f a ha).1, (f a ha).1⟩⟩
  | bor i => exact h.elim
theorem Post.new {W : St → XK} {r : RV} {v : V} {H' : Hp} {Q : VK} (p : Post K W C (rV K) fp Hd H σ (.ok r ρ) Q) (I : Inv K C fp Hd H σ ρ) (n : NewR K Hd H r v H') : Q v H' := by
  obtain ⟨Hd', s, I', h⟩ := n.at I
  exact p v fp Hd' H' s I' h
theorem newR_here {d : D} {v : V} (l : Le Hd H) (h : Rep K Hd d v) : NewR K Hd H (.val d) v H := ⟨Hd, .refl l, h⟩
theorem newR_lst {p : Addr} {vs : List V} {ds : List D} (l : Le Hd H) (h : H p = none) (r : Reps K Hd ds vs) : NewR K Hd H (.own (.lst ds)) (.ref p) (upd H p (.lst vs)) :=
  ⟨Hd, ext_new l h, [p], .lst upd_same r, by simp, fun a ha => by simp at ha; subst ha; exact ⟨h, l.noneB h⟩⟩
theorem newR_dic {p : Addr} {vs : List (L2.Key × V)} {ds : List (L2.Key × D)} (l : Le Hd H) (h : H p = none) (r : Repk K Hd ds vs) : NewR K Hd H (.own (.dic ds)) (.ref p) (upd H p (.dK vs)) :=
  ⟨Hd, ext_new l h, [p], .dic upd_same r, by simp, fun a ha => by simp at ha; subst ha; exact ⟨h, l.noneB h⟩⟩
theorem newR_tup {p : Addr} {vs : List V} {ds : List D} (l : Le Hd H) (h : H p = none) (r : Reps K Hd ds vs) : NewR K Hd H (.val (.tup ds)) (.ref p) (upd H p (.tup vs)) :=
  ⟨upd Hd p (.tup vs), ext_frozen l h, .tup (.of upd_same) (r.mono (.upd_new (l.noneB h)))⟩
end
end O

/-! Own2: judgements; freezing, moving, storing; expressions and tests in general -/
namespace O
open PySem
open L2 (V Hp HO Rd SqL SqT upd upd_same upd_ne ne_of ne_of_none TE TT TA TS VK XK Ends St PE PT PW PA PS PSs PG PI Cx OpR UnR CallR R2 tOp tUn tVar tC tCons tNil tTup tLst tTest tB tAnd tOr tNot tAndV tOrV tNotV tIf tCB)

/-! ### slots set, things frozen -/
section
variable {K : PySem.W.Frag} {C : Cn} {fp : Fp} {Hd H : Hp} {σ : St} {ρ : Env}
def setF (fp : Fp) (i : Nat) (A : List Addr) : Fp := fun j => if j = i then A else fp j
theorem setF_same {fp : Fp} {i : Nat} {A : List Addr} : setF fp i A i = A := by simp [setF]
theorem setF_ne {fp : Fp} {i j : Nat} {A : List Addr} (h : j ≠ i) : setF fp i A j = fp j := by simp [setF, h]
theorem Inv.set_slot {i : Nat} {s' : Sl} {A' : List Addr} {σ' : St} (I : Inv K C fp Hd H σ ρ) (hi : i < ρ.length) (h : SlotOk K C Hd H i s' σ'[i]? A') (dj : ∀ a ∈ A', ∀ j, j ≠ i → a ∉ fp j)
    (hl : σ'.length = σ.length) (hs : ∀ j, j ≠ i → σ'[j]? = σ[j]?) : Inv K C (setF fp i A') Hd H σ' (ρ.set i s') where
  le := I.le
  hd0 := I.hd0
  keep := I.keep
  dom := I.dom
  fresh := I.fresh
  len := by rw [hl, List.length_set]; exact I.len
  slot := fun j s e => by
    by_cases hj : j = i
    · subst hj
      rw [List.getElem?_set_self hi] at e
      cases e
      rw [setF_same]; exact h
    · rw [List.getElem?_set_ne (Ne.symm hj)] at e
      rw [setF_ne hj, hs j hj]; exact I.slot j s e
  out := fun j hj => by
    rw [List.length_set] at hj
    rw [setF_ne (by omega)]; exact I.out j hj
  dis := fun j k a h1 h2 => by
    by_cases hj : j = i
    · by_cases hk : k = i
      · rw [hj, hk]
      · subst hj
        rw [setF_same] at h1
        rw [setF_ne hk] at h2
        exact absurd h2 (dj a h1 k hk)
    · by_cases hk : k = i
      · subst hk
        rw [setF_same] at h2
        rw [setF_ne hj] at h1
        exact absurd h1 (dj a h2 j hj)
      · rw [setF_ne hj] at h1
        rw [setF_ne hk] at h2
        exact I.dis j k a h1 h2
theorem stp_setF {i : Nat} {A' : List Addr} (h : ∀ a ∈ A', a ∈ fp i ∨ H a = none) : Stp fp Hd H (setF fp i A') Hd H :=
  ⟨.refl _, fun _ h => .inl h, fun _ _ h _ => h, fun _ h => h, fun j b hb => by
    by_cases hj : j = i
    · subst hj
      rw [setF_same] at hb
      exact (h b hb).imp_left fun q => ⟨j, q⟩
    · rw [setF_ne hj] at hb
      exact .inl ⟨j, hb⟩⟩
theorem stp_loose {i : Nat} {A' : List Addr} {fp0 : Fp} {Hd0 H0 : Hp} (s : Stp fp0 Hd0 H0 fp Hd H) (h : ∀ a ∈ A', H0 a = none) : Stp fp0 Hd0 H0 (setF fp i A') Hd H :=
  ⟨s.hd, s.fr, s.keep, s.dom, fun j b hb => by
    by_cases hj : j = i
    · subst hj
      rw [setF_same] at hb
      exact .inr (h b hb)
    · rw [setF_ne hj] at hb
      exact s.fpx j b hb⟩
/-- a slot forgotten, its name unbound in the reading or not -/
theorem Inv.drop {i : Nat} (I : Inv K C fp Hd H σ ρ) (hi : i < ρ.length) : Inv K C (setF fp i []) Hd H σ (ρ.set i .un) :=
  I.set_slot hi rfl (fun _ h => by cases h) rfl fun _ _ => rfl
theorem freezeOwn {o : OD} {d : D} {v : V} {A : List Addr} (e : o.top = some d) (l : Le Hd H) (ow : Own K Hd H o v A) (hn : ∀ a ∈ A, Hd a = none) :
    ∃ Hd', Le Hd Hd' ∧ Le Hd' H ∧ (∀ b, Hd' b ≠ none → Hd b ≠ none ∨ b ∈ A) ∧ Rep K Hd' d v := by
  have lu : ∀ {p : Addr} {u : HO}, H p = some u → Le (upd Hd p u) H := fun {p u} hp => ⟨fun a w r => by
    by_cases q : a = p
    · subst q
      rcases r with r | ⟨x, r⟩ <;> rw [upd_same] at r <;> cases r
      · exact .inl hp
      · exact .inr ⟨_, hp⟩
    · rcases r with r | ⟨x, r⟩ <;> rw [upd_ne q] at r
      · exact l _ _ (.inl r)
      · exact l _ _ (.inr ⟨_, r⟩), fun a x w r => by
    by_cases q : a = p
    · subst q
      rw [upd_same] at r
      rw [hp]; exact r
    · rw [upd_ne q] at r
      exact l.fr a x w r⟩
  have fr : ∀ {p : Addr} {u : HO} {b : Addr}, upd Hd p u b ≠ none → Hd b ≠ none ∨ b ∈ [p] := fun {p u b} h => by
    by_cases q : b = p
    · exact .inr (by simp [q])
    · rw [upd_ne q] at h; exact .inl h
  cases ow with
  | fz r => cases e; exact ⟨Hd, .refl _, l, fun _ h => .inl h, r⟩
  | lst h r =>
    cases e
    exact ⟨_, .upd_new (hn _ (by simp)), lu h, fun b => fr, .lst (.inl upd_same) (r.mono (.upd_new (hn _ (by simp))))⟩
  | dic h r =>
    cases e
    exact ⟨_, .upd_new (hn _ (by simp)), lu h, fun b => fr, .dic (.inl upd_same) (r.mono (.upd_new (hn _ (by simp))))⟩
  | ins _ _ _ => cases e
theorem Inv.freeze {Hd' : Hp} {A : List Addr} (I : Inv K C fp Hd H σ ρ) (l : Le Hd Hd') (l' : Le Hd' H) (n : ∀ b, Hd' b ≠ none → Hd b ≠ none ∨ b ∈ A) (hA : ∀ a ∈ A, C.H0 a = none ∧ ∀ i, a ∉ fp i) : Inv K C fp Hd' H σ ρ where
  le := l'
  hd0 := I.hd0.trans l
  keep := I.keep
  dom := I.dom
  fresh := fun b h => (n b h).elim (fun q => I.fresh b q) fun q => .inr (hA b q).1
  len := I.len
  slot := fun i s e => (I.slot i s e).ext l (fun a ha q => by
    cases e : Hd' a with
    | none => rfl
    | some u =>
      rcases n a (by rw [e]; intro z; cases z) with q' | q'
      · exact absurd q q'
      · exact absurd ha ((hA a q').2 i)) fun _ _ _ h => h
  out := I.out
  dis := I.dis
end

/-- data that carries no list or dict itself -/
def D.still : D → Bool
  | .lst _ => false
  | .dic _ => false
  | .set _ => false
  | _ => true
theorem Top.still {K : PySem.W.Frag} {Hd H : Hp} {d : D} {v : V} (t : Top K Hd H d v) (h : d.still = true) : Rep K Hd d v := by
  cases t with
  | rep r => exact r
  | lst _ _ => cases h
  | dic _ _ => cases h
/-- a value as frozen data -/
def fz (r : RV) (ρ : Env) : Res D :=
  match r with
  | .val d => .ok d ρ
  | .own o => match o.top with
    | some d => .ok d ρ
    | none => .no
  | .bor i => match ρ[i]? with
    | some (.sh d) => .ok d ρ
    | some (.br d) => if d.still then .ok d ρ else .no
    | some (.ow o) => match o.top with
      | some d => .ok d (ρ.set i (.sh d))
      | none => .no
    | _ => .no
theorem fz_at {K : PySem.W.Frag} {W : St → XK} {C : Cn} {fp fp1 : Fp} {Hd H Hd1 H1 : Hp} {σ : St} {ρ1 : Env} {r : RV} {v : V} {Q : VK} (s1 : Stp fp Hd H fp1 Hd1 H1) (I1 : Inv K C fp1 Hd1 H1 σ ρ1)
    (hr : (rV K).r C H fp1 Hd1 H1 σ r v) (p : Post K W C (rD K) fp Hd H σ (O.fz r ρ1) Q) : Q v H1 := by
  cases r with
  | val d => exact p v fp1 Hd1 H1 s1 I1 hr
  | own o =>
    obtain ⟨A, ow, nd, f⟩ := hr
    cases et : o.top with
    | none => simp only [O.fz, et] at p; exact p.elim
    | some d =>
      simp only [O.fz, et] at p
      obtain ⟨Hd2, l, l', n, r⟩ := freezeOwn et I1.le ow fun a ha => (f a ha).1
      refine p v fp1 Hd2 H1 ⟨s1.hd.trans l, fun b hb => ?_, s1.keep, s1.dom, s1.fpx⟩ (I1.freeze l l' n fun a ha => ⟨(f a ha).2.1, (f a ha).2.2.1⟩) r
      rcases n b hb with q | q
      · exact s1.fr b q
      · exact .inr (.inl (f b q).2.2.2)
  | bor i =>
    have hr : σ[i]? = some (some v) := hr
    simp only [O.fz] at p
    cases es : ρ1[i]? with
    | none => simp only [es] at p; exact p.elim
    | some s =>
      have q := I1.slot i s es
      rw [hr] at q
      have hi : i < ρ1.length := (List.getElem?_eq_some_iff.mp es).1
      cases s with
      | un => simp only [es] at p; exact p.elim
      | io o => simp only [es] at p; exact p.elim
      | sh d =>
        simp only [es] at p
        obtain ⟨_, w, ew, r⟩ := q
        cases ew
        exact p v fp1 Hd1 H1 s1 I1 r
      | br d =>
        simp only [es] at p
        obtain ⟨_, w, ew, t, n⟩ := q
        cases ew
        cases hs : d.still with
        | false => rw [hs] at p; exact p.elim
        | true =>
          rw [hs] at p
          exact p v fp1 Hd1 H1 s1 I1 ((I1.brTop t n).still hs)
      | ow o =>
        simp only [es] at p
        obtain ⟨w, ew, ow, nd, f⟩ := q
        cases ew
        cases et : o.top with
        | none => simp only [et] at p; exact p.elim
        | some d =>
          simp only [et] at p
          have I2 := I1.drop hi
          obtain ⟨Hd2, l, l', n, r⟩ := freezeOwn et I1.le ow fun a ha => (f a ha).1
          have hA : ∀ a ∈ fp1 i, C.H0 a = none ∧ ∀ j, a ∉ setF fp1 i [] j := fun a ha => ⟨(f a ha).2, fun j hj => by
            by_cases ej : j = i
            · subst ej; rw [setF_same] at hj; cases hj
            · rw [setF_ne ej] at hj
              exact ej (I1.dis j i a hj ha)⟩
          have I3 := I2.freeze l l' n hA
          have I4 := I3.set_slot (s' := .sh d) (A' := []) (σ' := σ) (i := i) (by rw [List.length_set]; exact hi) ⟨rfl, v, hr, r⟩ (fun _ h => by cases h) rfl fun _ _ => rfl
          rw [List.set_set] at I4
          refine p v _ Hd2 H1 ⟨s1.hd.trans l, fun b hb => ?_, s1.keep, s1.dom, fun j b hb => ?_⟩ I4 r
          · rcases n b hb with q | q
            · exact s1.fr b q
            · rcases s1.fpx i b q with q | q
              · exact .inr (.inr q)
              · exact .inr (.inl q)
          · by_cases ej : j = i
            · subst ej; rw [setF_same] at hb; cases hb
            · rw [setF_ne ej, setF_ne ej] at hb
              exact s1.fpx j b hb
theorem Sd.fz {K : PySem.W.Frag} {W : St → XK} {t : TE} {f : Env → Res RV} (h : Sd K W (rV K) t f) : Sd K W (rD K) t (fun ρ => (f ρ).bind O.fz) := by
  intro C fp Hd H σ ρ I Q p
  refine h C fp Hd H σ ρ I Q ?_
  cases e : f ρ with
  | no => simp only [e, Res.bind] at p; exact p
  | ex c ρ1 => simp only [e, Res.bind] at p; exact p
  | ok r ρ1 =>
    simp only [e, Res.bind] at p
    intro v fp1 Hd1 H1 s1 I1 hr
    exact fz_at s1 I1 hr p

/-! ### judgements -/
/-- arguments: frozen or borrowed -/
inductive RVs (K : PySem.W.Frag) (Hd : Hp) (σ : St) : List RV → List V → Prop
  | nil : RVs K Hd σ [] []
  | val {d : D} {v : V} {rs : List RV} {vs : List V} : Rep K Hd d v → RVs K Hd σ rs vs → RVs K Hd σ (.val d :: rs) (v :: vs)
  | bor {i : Nat} {v : V} {rs : List RV} {vs : List V} : σ[i]? = some (some v) → RVs K Hd σ rs vs → RVs K Hd σ (.bor i :: rs) (v :: vs)
theorem RVs.mono {K : PySem.W.Frag} {Hd Hd' : Hp} {σ : St} (l : Le Hd Hd') : ∀ {rs : List RV} {vs : List V}, RVs K Hd σ rs vs → RVs K Hd' σ rs vs
  | _, _, .nil => .nil
  | _, _, .val r q => .val (r.mono l) (q.mono l)
  | _, _, .bor r q => .bor r (q.mono l)
def rA (K : PySem.W.Frag) : Rel (List RV) (List V) := ⟨fun _ _ _ Hd _ σ rs vs => RVs K Hd σ rs vs, fun _ h => h⟩
structure JE (X : Cx) (W : St → XK) (e : Expr) (t : TE) (f : Env → Res RV) : Prop where
  pe : PE X e t
  se : Sd X.K W (rV X.K) t f
structure JT (X : Cx) (W : St → XK) (e : Expr) (t : TT) (f : Env → Res Bool) : Prop where
  pt : PT X e t
  st : Sd X.K W rB t f
structure JW (X : Cx) (W : St → XK) (e : Expr) (t : TT) (f : Env → Res Bool) : Prop where
  pw : PW X e t
  st : Sd X.K W rB t f
structure JA (X : Cx) (W : St → XK) (es : List Expr) (t : TA) (f : Env → Res (List RV)) : Prop where
  pa : PA X es t
  sa : Sd X.K W (rA X.K) t f

/-! ### expressions -/
section
variable {K : PySem.W.Frag} {W : St → XK}
/-- owned values frozen, borrowed ones left -/
def fzo (r : RV) (ρ : Env) : Res RV :=
  match r with
  | .val d => .ok (.val d) ρ
  | .own o => match o.top with
    | some d => .ok (.val d) ρ
    | none => .no
  | .bor i => .ok (.bor i) ρ
/-- frozen or borrowed -/
def rF (K : PySem.W.Frag) : Rel RV V where
  r := fun _ _ _ Hd _ σ r v => match r with
    | .val d => Rep K Hd d v
    | .own _ => False
    | .bor i => σ[i]? = some (some v)
  back := fun {C Hs Hs' fp Hd H σ a b} _ h => h
theorem Sd.fzo {t : TE} {f : Env → Res RV} (h : Sd K W (rV K) t f) : Sd K W (rF K) t (fun ρ => (f ρ).bind fzo) := by
  intro C fp Hd H σ ρ I Q p
  refine h C fp Hd H σ ρ I Q ?_
  cases e : f ρ with
  | no => simp only [e, Res.bind] at p; exact p
  | ex c ρ1 => simp only [e, Res.bind] at p; exact p
  | ok r ρ1 =>
    simp only [e, Res.bind] at p
    intro v fp1 Hd1 H1 s1 I1 hr
    cases r with
    | val d => exact p v fp1 Hd1 H1 s1 I1 hr
    | bor i => exact p v fp1 Hd1 H1 s1 I1 hr
    | own o =>
      obtain ⟨A, ow, nd, f⟩ := hr
      cases et : o.top with
      | none => simp only [O.fzo, et] at p; exact p.elim
      | some d =>
        simp only [O.fzo, et] at p
        obtain ⟨Hd2, l, l', n, r⟩ := freezeOwn et I1.le ow fun a ha => (f a ha).1
        refine p v fp1 Hd2 H1 ⟨s1.hd.trans l, fun b hb => ?_, s1.keep, s1.dom, s1.fpx⟩ (I1.freeze l l' n fun a ha => ⟨(f a ha).2.1, (f a ha).2.2.1⟩) r
        rcases n b hb with q | q
        · exact s1.fr b q
        · exact .inr (.inl (f b q).2.2.2)
theorem rF_loose {C : Cn} {Hs : Hp} {fp : Fp} {Hd H : Hp} {σ : St} {r : RV} {v : V} (h : (rF K).r C Hs fp Hd H σ r v) : RVal K C fp Hd H σ r v := by
  cases r with
  | val x => exact h
  | own o => exact h.elim
  | bor i => exact h

/-- a name -/
def fVar (i : Nat) : Env → Res RV := fun ρ => match ρ[i]? with
  | some .un => .no
  | some _ => .ok (.bor i) ρ
  | none => .no
theorem sd_var {i : Nat} : Sd K W (rV K) (tVar i) (fVar i) := by
  intro C fp Hd H σ ρ I Q p
  unfold fVar at p
  cases es : ρ[i]? with
  | none => simp only [es] at p; exact p.elim
  | some s =>
    have q := I.slot i s es
    have fin : ∀ v, σ[i]? = some (some v) → (Post K W C (rV K) fp Hd H σ (.ok (.bor i) ρ) Q) → tVar i σ H Q := fun v ev p => ⟨v, ev, p.now I ev⟩
    cases s with
    | un => simp only [es] at p; exact p.elim
    | sh d => simp only [es] at p; obtain ⟨_, v, ev, _⟩ := q; exact fin v ev p
    | br d => simp only [es] at p; obtain ⟨_, v, ev, _⟩ := q; exact fin v ev p
    | ow d => simp only [es] at p; obtain ⟨v, ev, _⟩ := q; exact fin v ev p
    | io d => simp only [es] at p; obtain ⟨v, ev, _⟩ := q; exact fin v ev p
def fC (d : D) : Env → Res RV := fun ρ => .ok (.val d) ρ
theorem sd_c {v : V} {d : D} (h : ∀ H, Rep K H d v) : Sd K W (rV K) (tC v) (fC d) := fun C fp Hd H σ ρ I Q p => p.now I (h Hd)
/-- of one operand that is read -/
def f1 (fa : Env → Res RV) (g : D → Option RV) : Env → Res RV := fun ρ => (fa ρ).bind fun r ρ1 => match rd r ρ1 with
  | some d => match g d with
    | some z => .ok z ρ1
    | none => .no
  | none => .no
/-- of two operands that are read -/
def f2 (fa fb : Env → Res RV) (g : D → D → Option RV) : Env → Res RV := fun ρ => (fa ρ).bind fun r1 ρ1 => (fb ρ1).bind fun r2 ρ2 => match rd r1 ρ2, rd r2 ρ2 with
  | some d1, some d2 => match g d1 d2 with
    | some z => .ok z ρ2
    | none => .no
  | _, _ => .no
def rG (K : PySem.W.Frag) (g : D → D → Option RV) : R2 := fun x y H Q => ∃ Hd d1 d2 z, Le Hd H ∧ Top K Hd H d1 x ∧ Top K Hd H d2 y ∧ g d1 d2 = some z ∧ ∀ v H', NewR K Hd H z v H' → Q v H'
def rG1 (K : PySem.W.Frag) (g : D → Option RV) : V → Hp → VK → Prop := fun x H Q => ∃ Hd d z, Le Hd H ∧ Top K Hd H d x ∧ g d = some z ∧ ∀ v H', NewR K Hd H z v H' → Q v H'
theorem sd_op2 {ta tb : TE} {fa fb : Env → Res RV} {g : D → D → Option RV} (ha : Sd K W (rV K) ta fa) (hb : Sd K W (rV K) tb fb) : Sd K W (rV K) (tOp (rG K g) ta tb) (f2 fa fb g) := fun C fp Hd H σ ρ I Q p =>
  ha.run I p fun r1 v1 fp0 Hd0 H0 ρ0 s0 I0 h1 p => hb.run I0 p fun r2 v2 fp1 Hd1 H1 ρ1 s1 I1 h2 p => by
    have h1 := (rV_loose h1).stp s1
    have h2 := rV_loose h2
    cases e1 : rd r1 ρ1 with
    | none => simp only [e1] at p; exact p.elim
    | some d1 =>
      cases e2 : rd r2 ρ1 with
      | none => simp only [e1, e2] at p; exact p.elim
      | some d2 =>
        simp only [e1, e2] at p
        cases eg : g d1 d2 with
        | none => simp only [eg] at p; exact p.elim
        | some z =>
          simp only [eg] at p
          exact ⟨Hd1, d1, d2, z, I1.le, I1.rdTop h1 e1, I1.rdTop h2 e2, eg, fun v H' n => p.new I1 n⟩
theorem sd_op1 {ta : TE} {fa : Env → Res RV} {g : D → Option RV} (ha : Sd K W (rV K) ta fa) : Sd K W (rV K) (tUn (rG1 K g) ta) (f1 fa g) := fun C fp Hd H σ ρ I Q p =>
  ha.run I p fun r1 v1 fp0 Hd0 H0 ρ0 s0 I0 h1 p => by
    have h1 := rV_loose h1
    cases e1 : rd r1 ρ0 with
    | none => simp only [e1] at p; exact p.elim
    | some d1 =>
      simp only [e1] at p
      cases eg : g d1 with
      | none => simp only [eg] at p; exact p.elim
      | some z =>
        simp only [eg] at p
        exact ⟨Hd0, d1, z, I0.le, I0.rdTop h1 e1, eg, fun v H' n => p.new I0 n⟩
/-! tests -/
/-- a value that is a bool -/
def fB (fa : Env → Res RV) : Env → Res Bool := fun ρ => (fa ρ).bind fun r ρ1 => match rd r ρ1 with
  | some (.bl b) => .ok b ρ1
  | _ => .no
theorem sd_tB {ta : TE} {fa : Env → Res RV} (ha : Sd K W (rV K) ta fa) : Sd K W rB (tB ta) (fB fa) := by
  refine Sd.bind (k := fun x σ H Q => ∃ c, x = .bl c ∧ Q c H) ha fun C Hs fp Hd H σ ρ r1 v1 I _ h1 Q p => ?_
  have h1 := rV_loose h1
  cases e1 : rd r1 ρ with
  | none => simp only [e1] at p; exact p.elim
  | some d =>
    cases d with
    | bl b =>
      simp only [e1] at p
      exact ⟨b, (I.rdTop h1 e1).blD, p.now I rfl⟩
    | _ => simp only [e1] at p; exact p.elim
theorem sd_tTest {ta : TE} {fa : Env → Res RV} (ha : Sd K W (rV K) ta fa) : Sd K W rB (tTest ta) (fB fa) := sd_tB ha
/-- truth -/
def truD : D → Option Bool
  | .non => some false
  | .bl b => some b
  | .int i => some (i != 0)
  | .str y => if y.length ≤ sizeLine then some ((y.length : Int) != 0) else none
  | .lst ds => some (!ds.isEmpty)
  | .tup ds => some (!ds.isEmpty)
  | _ => none
def fTru (fa : Env → Res RV) : Env → Res Bool := fun ρ => (fa ρ).bind fun r ρ1 => match rd r ρ1 with
  | some d => match truD d with
    | some b => .ok b ρ1
    | none => .no
  | none => .no
theorem isEmpty_reps {H : Hp} {ds : List D} {vs : List V} (r : Reps K H ds vs) : vs.isEmpty = ds.isEmpty := by
  cases r <;> rfl
theorem truV_of {Hd H : Hp} {d : D} {v : V} {b : Bool} (l : Le Hd H) (t : Top K Hd H d v) (e : truD d = some b) : L2.TruV K v H b := by
  cases d with
  | non => cases e; rw [t.nonD]; rfl
  | bl k => cases e; rw [t.blD]; rfl
  | int i => cases e; rw [t.intD]; rfl
  | str y =>
    rw [t.strD]
    simp only [truD] at e
    by_cases h : y.length ≤ sizeLine
    · rw [if_pos h] at e
      exact ⟨h, (Option.some.inj e).symm⟩
    · rw [if_neg h] at e; cases e
  | lst ds =>
    cases e
    obtain ⟨a, vs, rfl, h, r⟩ := t.lstD l
    exact .inl ⟨vs, .inl h, by rw [isEmpty_reps r]⟩
  | tup ds =>
    cases e
    obtain ⟨a, vs, rfl, h, r⟩ := t.tupD l
    exact .inr (.inl ⟨vs, h, by rw [isEmpty_reps r]⟩)
  | dic _ => cases e
  | set _ => cases e
  | dlk _ => cases e
  | scr _ => cases e
theorem sd_tru {ta : TE} {fa : Env → Res RV} (ha : Sd K W (rV K) ta fa) : Sd K W rB (fun σ H Q => ta σ H fun x H' => ∃ k, L2.TruV K x H' k ∧ Q k H') (fTru fa) := by
  refine Sd.bind (k := fun x σ H Q => ∃ k, L2.TruV K x H k ∧ Q k H) ha fun C Hs fp Hd H σ ρ r1 v1 I _ h1 Q p => ?_
  have h1 := rV_loose h1
  cases e1 : rd r1 ρ with
  | none => simp only [e1] at p; exact p.elim
  | some d =>
    simp only [e1] at p
    cases et : truD d with
    | none => simp only [et] at p; exact p.elim
    | some b =>
      simp only [et] at p
      exact ⟨b, truV_of I.le (I.rdTop h1 e1) et, p.now I rfl⟩
def fAnd (fa fb : Env → Res Bool) : Env → Res Bool := fun ρ => (fa ρ).bind fun b ρ1 => if b = true then fb ρ1 else .ok false ρ1
def fOr (fa fb : Env → Res Bool) : Env → Res Bool := fun ρ => (fa ρ).bind fun b ρ1 => if b = true then .ok true ρ1 else fb ρ1
def fNot (fa : Env → Res Bool) : Env → Res Bool := fun ρ => (fa ρ).bind fun b ρ1 => .ok (!b) ρ1
theorem sd_and {ta tb : TT} {fa fb : Env → Res Bool} (ha : Sd K W rB ta fa) (hb : Sd K W rB tb fb) : Sd K W rB (tAnd ta tb) (fAnd fa fb) := by
  refine Sd.bind (k := fun c σ H Q => if c = true then tb σ H Q else Q false H) ha fun C Hs fp Hd H σ ρ b b' I _ e Q p => ?_
  have e : b' = b := e
  subst e
  cases b' with
  | true => exact hb C fp Hd H σ ρ I Q p
  | false => exact p.now I rfl
theorem sd_or {ta tb : TT} {fa fb : Env → Res Bool} (ha : Sd K W rB ta fa) (hb : Sd K W rB tb fb) : Sd K W rB (tOr ta tb) (fOr fa fb) := by
  refine Sd.bind (k := fun c σ H Q => if c = true then Q true H else tb σ H Q) ha fun C Hs fp Hd H σ ρ b b' I _ e Q p => ?_
  have e : b' = b := e
  subst e
  cases b' with
  | true => exact p.now I rfl
  | false => exact hb C fp Hd H σ ρ I Q p
theorem sd_not {ta : TT} {fa : Env → Res Bool} (ha : Sd K W rB ta fa) : Sd K W rB (tNot ta) (fNot fa) := by
  refine Sd.bind (k := fun c σ H Q => Q (!c) H) ha fun C Hs fp Hd H σ ρ b b' I _ e Q p => ?_
  have e : b' = b := e
  subst e
  exact p.now I rfl
/-- and, or, not, as values of bools -/
def fAndV (fa fb : Env → Res RV) : Env → Res RV := fun ρ => (fB fa ρ).bind fun b ρ1 => if b = true then fb ρ1 else .ok (.val (.bl false)) ρ1
def fOrV (fa fb : Env → Res RV) : Env → Res RV := fun ρ => (fB fa ρ).bind fun b ρ1 => if b = true then .ok (.val (.bl true)) ρ1 else fb ρ1
def fNotV (fa : Env → Res RV) : Env → Res RV := fun ρ => (fB fa ρ).bind fun b ρ1 => .ok (.val (.bl (!b))) ρ1
theorem sd_andV {ta tb : TE} {fa fb : Env → Res RV} (ha : Sd K W (rV K) ta fa) (hb : Sd K W (rV K) tb fb) : Sd K W (rV K) (tAndV ta tb) (fAndV fa fb) := by
  intro C fp Hd H σ ρ I Q p
  have h := Sd.bind (rel' := rV K) (k := fun c σ H Q => if c = true then tb σ H Q else Q (.bl false) H) (g := fun b ρ1 => if b = true then fb ρ1 else .ok (.val (.bl false)) ρ1) (sd_tB ha) (fun C Hs fp Hd H σ ρ b b' I _ e Q p => by
    have e : b' = b := e
    subst e
    cases b' with
    | true => exact hb C fp Hd H σ ρ I Q p
    | false => exact p.now I (Rep.bl false)) C fp Hd H σ ρ I Q p
  exact h
theorem sd_orV {ta tb : TE} {fa fb : Env → Res RV} (ha : Sd K W (rV K) ta fa) (hb : Sd K W (rV K) tb fb) : Sd K W (rV K) (tOrV ta tb) (fOrV fa fb) := by
  intro C fp Hd H σ ρ I Q p
  have h := Sd.bind (rel' := rV K) (k := fun c σ H Q => if c = true then Q (.bl true) H else tb σ H Q) (g := fun b ρ1 => if b = true then .ok (.val (.bl true)) ρ1 else fb ρ1) (sd_tB ha) (fun C Hs fp Hd H σ ρ b b' I _ e Q p => by
    have e : b' = b := e
    subst e
    cases b' with
    | true => exact p.now I (Rep.bl true)
    | false => exact hb C fp Hd H σ ρ I Q p) C fp Hd H σ ρ I Q p
  exact h
theorem sd_notV {ta : TE} {fa : Env → Res RV} (ha : Sd K W (rV K) ta fa) : Sd K W (rV K) (tNotV ta) (fNotV fa) := by
  intro C fp Hd H σ ρ I Q p
  have h := Sd.bind (rel' := rV K) (k := fun c σ H Q => Q (.bl (!c)) H) (g := fun b ρ1 => .ok (.val (.bl (!b))) ρ1) (sd_tB ha) (fun C Hs fp Hd H σ ρ b b' I _ e Q p => by
    have e : b' = b := e
    subst e
    exact p.now I (Rep.bl _)) C fp Hd H σ ρ I Q p
  exact h
/-- a if t else b -/
def fIf (ft : Env → Res Bool) (fa fb : Env → Res RV) : Env → Res RV := fun ρ => (ft ρ).bind fun b ρ1 => if b = true then fa ρ1 else fb ρ1
theorem sd_if {tt : TT} {ta tb : TE} {ft : Env → Res Bool} {fa fb : Env → Res RV} (ht : Sd K W rB tt ft) (ha : Sd K W (rV K) ta fa) (hb : Sd K W (rV K) tb fb) : Sd K W (rV K) (tIf tt ta tb) (fIf ft fa fb) := by
  refine Sd.bind (k := fun c σ H Q => if c = true then ta σ H Q else tb σ H Q) ht fun C Hs fp Hd H σ ρ b b' I _ e Q p => ?_
  have e : b' = b := e
  subst e
  cases b' with
  | true => exact ha C fp Hd H σ ρ I Q p
  | false => exact hb C fp Hd H σ ρ I Q p
/-! arguments, displays -/
def aNil : Env → Res (List RV) := fun ρ => .ok [] ρ
/-- an argument: owned ones are frozen, borrowed ones stay borrowed -/
def aCons (fa : Env → Res RV) (fr : Env → Res (List RV)) : Env → Res (List RV) := fun ρ => ((fa ρ).bind fzo).bind fun r ρ1 => (fr ρ1).bind fun rs ρ2 => .ok (r :: rs) ρ2
/-- an item: frozen -/
def iCons (fa : Env → Res RV) (fr : Env → Res (List RV)) : Env → Res (List RV) := fun ρ => ((fa ρ).bind fz).bind fun d ρ1 => (fr ρ1).bind fun rs ρ2 => .ok (.val d :: rs) ρ2
theorem sa_nil : Sd K W (rA K) tNil aNil := fun C fp Hd H σ ρ I Q p => p.now I RVs.nil
theorem sa_cons {ta : TE} {fa : Env → Res RV} {tr : TA} {fr : Env → Res (List RV)} (ha : Sd K W (rV K) ta fa) (hr : Sd K W (rA K) tr fr) : Sd K W (rA K) (tCons ta tr) (aCons fa fr) := fun C fp Hd H σ ρ I Q p =>
  ha.fzo.run I p fun r v fp0 Hd0 H0 ρ0 s0 I0 h p => hr.run I0 p fun rs vs fp1 Hd1 H1 ρ1 s1 I1 hs p => by
    refine p.now I1 ?_
    cases r with
    | val d => exact .val (Rep.mono s1.hd h) hs
    | own o => exact h.elim
    | bor i => exact .bor h hs
theorem sa_item {ta : TE} {fa : Env → Res RV} {tr : TA} {fr : Env → Res (List RV)} (ha : Sd K W (rV K) ta fa) (hr : Sd K W (rA K) tr fr) : Sd K W (rA K) (tCons ta tr) (iCons fa fr) := fun C fp Hd H σ ρ I Q p =>
  ha.fz.run I p fun d v fp0 Hd0 H0 ρ0 s0 I0 h p => hr.run I0 p fun rs vs fp1 Hd1 H1 ρ1 s1 I1 hs p => p.now I1 (.val (Rep.mono s1.hd h) hs)
end
end O

/-! Own3: calls of built-ins, displays, the promise of a def, its call -/
namespace O
open PySem
open L2 (V Hp HO Rd SqL SqT upd upd_same upd_ne ne_of ne_of_none TE TT TA TS VK XK Ends St PE PT PW PA PS PSs PG PI Cx OpR UnR CallR R2 tOp tUn tVar tC tCons tNil tTup tLst tTest tB tAnd tOr tNot tAndV tOrV tNotV tIf tCB Sp FnOk)
section
variable {K : PySem.W.Frag} {W : St → XK}
/-! ### built-ins -/
inductive Tops (K : PySem.W.Frag) (Hd H : Hp) : List D → List V → Prop
  | nil : Tops K Hd H [] []
  | cons {d : D} {v : V} {ds : List D} {vs : List V} : Top K Hd H d v → Tops K Hd H ds vs → Tops K Hd H (d :: ds) (v :: vs)
def rds : List RV → Env → Option (List D)
  | [], _ => some []
  | r :: rs, ρ => match rd r ρ, rds rs ρ with
    | some d, some ds => some (d :: ds)
    | _, _ => none
theorem tops_of {C : Cn} {fp : Fp} {Hd H : Hp} {σ : St} {ρ : Env} (I : Inv K C fp Hd H σ ρ) : ∀ {rs : List RV} {vs : List V} {ds : List D}, RVs K Hd σ rs vs → rds rs ρ = some ds → Tops K Hd H ds vs
  | _, _, _, .nil, e => by cases e; exact .nil
  | _, _, _, .val (d := d) (rs := rs) h r, e => by
    simp only [rds, rd] at e
    cases e2 : rds rs ρ with
    | none => rw [e2] at e; cases e
    | some es => rw [e2] at e; cases e; exact .cons (.rep h) (tops_of I r e2)
  | _, _, _, .bor (i := i) (rs := rs) h r, e => by
    simp only [rds] at e
    cases e1 : rd (.bor i) ρ with
    | none => rw [e1] at e; cases e
    | some d =>
      cases e2 : rds rs ρ with
      | none => rw [e1, e2] at e; cases e
      | some es => rw [e1, e2] at e; cases e; exact .cons (I.rdTop (r := .bor i) h e1) (tops_of I r e2)
def rGC (K : PySem.W.Frag) (g : List D → Option RV) : List V → Hp → VK → Prop := fun xs H Q => ∃ Hd ds z, Le Hd H ∧ Tops K Hd H ds xs ∧ g ds = some z ∧ ∀ v H', NewR K Hd H z v H' → Q v H'
def fCB (fa : Env → Res (List RV)) (g : List D → Option RV) : Env → Res RV := fun ρ => (fa ρ).bind fun rs ρ1 => match rds rs ρ1 with
  | some ds => match g ds with
    | some z => .ok z ρ1
    | none => .no
  | none => .no
theorem sd_cb {ta : TA} {fa : Env → Res (List RV)} {g : List D → Option RV} (ha : Sd K W (rA K) ta fa) : Sd K W (rV K) (tCB (rGC K g) ta) (fCB fa g) := fun C fp Hd H σ ρ I Q p =>
  ha.run I p fun rs vs fp0 Hd0 H0 ρ0 s0 I0 h p => by
    cases e1 : rds rs ρ0 with
    | none => simp only [e1] at p; exact p.elim
    | some ds =>
      simp only [e1] at p
      cases eg : g ds with
      | none => simp only [eg] at p; exact p.elim
      | some z =>
        simp only [eg] at p
        exact ⟨Hd0, ds, z, I0.le, tops_of I0 h e1, eg, fun v H' n => p.new I0 n⟩
/-! ### displays -/
def vals : List RV → Option (List D)
  | [] => some []
  | .val d :: rs => match vals rs with
    | some ds => some (d :: ds)
    | none => none
  | _ :: _ => none
theorem reps_of {Hd : Hp} {σ : St} : ∀ {rs : List RV} {vs : List V} {ds : List D}, RVs K Hd σ rs vs → vals rs = some ds → Reps K Hd ds vs
  | _, _, _, .nil, e => by cases e; exact .nil
  | _, _, _, .val (d := d) (rs := rs) h r, e => by
    simp only [vals] at e
    cases e2 : vals rs with
    | none => rw [e2] at e; cases e
    | some es => rw [e2] at e; cases e; exact .cons h (reps_of r e2)
  | _, _, _, .bor h r, e => by cases e
def fTup (fa : Env → Res (List RV)) : Env → Res RV := fun ρ => (fa ρ).bind fun rs ρ1 => match vals rs with
  | some ds => if ds.length ≤ sizeLine then .ok (.val (.tup ds)) ρ1 else .no
  | none => .no
def fLst (fa : Env → Res (List RV)) : Env → Res RV := fun ρ => (fa ρ).bind fun rs ρ1 => match vals rs with
  | some ds => if ds.length ≤ sizeLine then .ok (.own (.lst ds)) ρ1 else .no
  | none => .no
theorem sd_tup {ta : TA} {fa : Env → Res (List RV)} (ha : Sd K W (rA K) ta fa) : Sd K W (rV K) (tTup ta) (fTup fa) := fun C fp Hd H σ ρ I Q p =>
  ha.run I p fun rs vs fp0 Hd0 H0 ρ0 s0 I0 h p => by
    cases e1 : vals rs with
    | none => simp only [e1] at p; exact p.elim
    | some ds =>
      simp only [e1] at p
      have r := reps_of h e1
      by_cases hz : ds.length ≤ sizeLine
      · rw [if_pos hz] at p
        exact ⟨by rw [r.length]; exact hz, fun q hq => p.new I0 (newR_tup I0.le hq r)⟩
      · rw [if_neg hz] at p; exact p.elim
theorem sd_lst {ta : TA} {fa : Env → Res (List RV)} (ha : Sd K W (rA K) ta fa) : Sd K W (rV K) (tLst ta) (fLst fa) := fun C fp Hd H σ ρ I Q p =>
  ha.run I p fun rs vs fp0 Hd0 H0 ρ0 s0 I0 h p => by
    cases e1 : vals rs with
    | none => simp only [e1] at p; exact p.elim
    | some ds =>
      simp only [e1] at p
      have r := reps_of h e1
      by_cases hz : ds.length ≤ sizeLine
      · rw [if_pos hz] at p
        exact ⟨by rw [r.length]; exact hz, fun q hq => p.new I0 (newR_lst I0.le hq r)⟩
      · rw [if_neg hz] at p; exact p.elim

/-! ### a def's promise -/
inductive Md where
  | sh | br | io
inductive Ar where
  | sh (d : D) | br (d : D) | io (o : OD)
inductive FO where
  | ret (r : RV) (outs : List (Option OD)) | exc (e : Exc) (outs : List (Option OD)) | no
def ArOk (K : PySem.W.Frag) (Hd H : Hp) (fp : Fp) (j : Nat) (a : Ar) (v : V) : Prop :=
  match a with
  | .sh d => fp j = [] ∧ Rep K Hd d v
  | .br d => fp j = [] ∧ Top K Hd H d v ∧ (Rep K Hd d v ∨ ∀ a, v = .ref a → ∀ i, a ∉ fp i)
  | .io o => Own K Hd H o v (fp j) ∧ (fp j).Nodup ∧ ∀ a ∈ fp j, Hd a = none
structure ArgsOk (K : PySem.W.Frag) (Hd H : Hp) (as : List Ar) (vs : List V) (fp : Fp) : Prop where
  len : as.length = vs.length
  ok : ∀ j a v, as[j]? = some a → vs[j]? = some v → ArOk K Hd H fp j a v
  dis : ∀ i j a, a ∈ fp i → a ∈ fp j → i = j
  out : ∀ j, as.length ≤ j → fp j = []
structure FinOk (K : PySem.W.Frag) (Hd H : Hp) (fp : Fp) (vs : List V) (outs : List (Option OD)) (Hd' H' : Hp) (fp' : Fp) : Prop where
  hd : Le Hd Hd'
  le : Le Hd' H'
  fr : ∀ b, Hd' b ≠ none → Hd b ≠ none ∨ H b = none
  keep : ∀ b o, H b = some o → (∀ i, b ∉ fp i) → H' b = some o
  dom : ∀ b, H b ≠ none → H' b ≠ none
  outs : ∀ j o v, outs[j]? = some (some o) → vs[j]? = some v → Own K Hd' H' o v (fp' j) ∧ (fp' j).Nodup ∧ ∀ a ∈ fp' j, Hd' a = none ∧ (a ∈ fp j ∨ H a = none)
  dis : ∀ i j a, a ∈ fp' i → a ∈ fp' j → i = j
def RetOk (K : PySem.W.Frag) (H Hd' H' : Hp) (fp' : Fp) (r : RV) (v : V) : Prop :=
  match r with
  | .val d => Rep K Hd' d v
  | .own o => ∃ B, Own K Hd' H' o v B ∧ B.Nodup ∧ ∀ b ∈ B, Hd' b = none ∧ H b = none ∧ ∀ i, b ∉ fp' i
  | .bor _ => False
def spF (K : PySem.W.Frag) (n : Nat) (F : List Ar → FO) : Sp := fun vs H Q E => ∃ (Hd : Hp) (as : List Ar) (fp : Fp), Le Hd H ∧ as.length = n ∧ ArgsOk K Hd H as vs fp ∧
  match F as with
  | .ret r outs => ∀ v Hd' H' fp', FinOk K Hd H fp vs outs Hd' H' fp' → RetOk K H Hd' H' fp' r v → Q v H'
  | .exc e outs => ∀ d Hd' H' fp', FinOk K Hd H fp vs outs Hd' H' fp' → ExAt K Hd' H' e d → E e.cls d H'
  | .no => False
theorem spF_len {n : Nat} {F : List Ar → FO} {vs : List V} {H : Hp} {Q : VK} {E : XK} (h : spF K n F vs H Q E) : vs.length = n := by
  obtain ⟨Hd, as, fp, _, e, a, _⟩ := h
  rw [← a.len]; exact e

/-! ### the call -/
/-- the slots that are handed over to be changed -/
def ioAt : List Md → List RV → Nat → Option Nat
  | .io :: _, .bor i :: _, 0 => some i
  | _ :: ms, _ :: rs, j + 1 => ioAt ms rs j
  | _, _, _ => none
def ioIx : List Md → List RV → List Nat
  | .io :: ms, .bor i :: rs => i :: ioIx ms rs
  | _ :: ms, _ :: rs => ioIx ms rs
  | _, _ => []
def mkArs (ios : List Nat) : List Md → List RV → Env → Option (List Ar)
  | [], [], _ => some []
  | .sh :: ms, .val d :: rs, ρ => (mkArs ios ms rs ρ).map (.sh d :: ·)
  | .br :: ms, .val d :: rs, ρ => (mkArs ios ms rs ρ).map (.br d :: ·)
  | .br :: ms, .bor i :: rs, ρ => if i ∈ ios then none else match rd (.bor i) ρ with
    | some d => (mkArs ios ms rs ρ).map (.br d :: ·)
    | none => none
  | .io :: ms, .bor i :: rs, ρ => match ρ[i]? with
    | some (.ow o) => (mkArs ios ms rs ρ).map (.io o :: ·)
    | some (.io o) => (mkArs ios ms rs ρ).map (.io o :: ·)
    | _ => none
  | _, _, _ => none
def drops : List Md → List RV → Env → Env
  | .io :: ms, .bor i :: rs, ρ => drops ms rs (ρ.set i .un)
  | _ :: ms, _ :: rs, ρ => drops ms rs ρ
  | _, _, ρ => ρ
def outE (ρ : Env) : List Md → List RV → List (Option OD) → Env → Option Env
  | [], [], [], acc => some acc
  | .io :: ms, .bor i :: rs, some o :: os, acc => match ρ[i]? with
    | some (.ow _) => outE ρ ms rs os (acc.set i (.ow o))
    | some (.io _) => outE ρ ms rs os (acc.set i (.io o))
    | _ => none
  | .sh :: ms, _ :: rs, none :: os, acc => outE ρ ms rs os acc
  | .br :: ms, _ :: rs, none :: os, acc => outE ρ ms rs os acc
  | _, _, _, _ => none
def callR (ms : List Md) (F : List Ar → FO) (rs : List RV) (ρ : Env) : Res RV :=
  if (ioIx ms rs).Nodup then
    match mkArs (ioIx ms rs) ms rs ρ with
    | some as => match F as with
      | .ret r outs => match outE ρ ms rs outs (drops ms rs ρ) with
        | some ρ' => match r with
          | .bor _ => .no
          | r => .ok r ρ'
        | none => .no
      | .exc e outs => match outE ρ ms rs outs (drops ms rs ρ) with
        | some ρ' => .ex e ρ'
        | none => .no
      | .no => .no
    | none => .no
  else .no
theorem ioAt_mem : ∀ {ms : List Md} {rs : List RV} {j i : Nat}, ioAt ms rs j = some i → i ∈ ioIx ms rs
  | .io :: ms, .bor k :: rs, 0, i, h => by simp only [ioAt, Option.some.injEq] at h; subst h; simp [ioIx]
  | .io :: ms, .bor k :: rs, j + 1, i, h => by simp only [ioIx]; exact List.mem_cons_of_mem _ (ioAt_mem (ms := ms) (rs := rs) (j := j) (by simpa [ioAt] using h))
  | .io :: ms, .val d :: rs, 0, i, h => by simp [ioAt] at h
  | .io :: ms, .val d :: rs, j + 1, i, h => by simp only [ioIx]; exact ioAt_mem (j := j) (by simpa [ioAt] using h)
  | .io :: ms, .own d :: rs, 0, i, h => by simp [ioAt] at h
  | .io :: ms, .own d :: rs, j + 1, i, h => by simp only [ioIx]; exact ioAt_mem (j := j) (by simpa [ioAt] using h)
  | .sh :: ms, r :: rs, 0, i, h => by simp [ioAt] at h
  | .sh :: ms, r :: rs, j + 1, i, h => by simp only [ioIx]; exact ioAt_mem (j := j) (by simpa [ioAt] using h)
  | .br :: ms, r :: rs, 0, i, h => by simp [ioAt] at h
  | .br :: ms, r :: rs, j + 1, i, h => by simp only [ioIx]; exact ioAt_mem (j := j) (by simpa [ioAt] using h)
  | [], _, _, _, h => by simp [ioAt] at h
  | _ :: _, [], _, _, h => by simp [ioAt] at h
theorem ioAt_inj : ∀ {ms : List Md} {rs : List RV} {j k i : Nat}, (ioIx ms rs).Nodup → ioAt ms rs j = some i → ioAt ms rs k = some i → j = k
  | .io :: ms, .bor q :: rs, 0, 0, i, _, _, _ => rfl
  | .io :: ms, .bor q :: rs, 0, k + 1, i, n, h, h' => by
    simp only [ioAt, Option.some.injEq] at h
    subst h
    exact absurd (ioAt_mem (ms := ms) (rs := rs) (j := k) (by simpa [ioAt] using h')) (List.nodup_cons.mp (by simpa [ioIx] using n)).1
  | .io :: ms, .bor q :: rs, j + 1, 0, i, n, h, h' => by
    simp only [ioAt, Option.some.injEq] at h'
    subst h'
    exact absurd (ioAt_mem (ms := ms) (rs := rs) (j := j) (by simpa [ioAt] using h)) (List.nodup_cons.mp (by simpa [ioIx] using n)).1
  | .io :: ms, .bor q :: rs, j + 1, k + 1, i, n, h, h' => by
    rw [ioAt_inj (ms := ms) (rs := rs) (j := j) (k := k) (i := i) (List.nodup_cons.mp (by simpa [ioIx] using n)).2 (by simpa [ioAt] using h) (by simpa [ioAt] using h')]
  | .io :: ms, .val d :: rs, 0, _, i, _, h, _ => by simp [ioAt] at h
  | .io :: ms, .val d :: rs, j + 1, 0, i, n, h, h' => by simp [ioAt] at h'
  | .io :: ms, .val d :: rs, j + 1, k + 1, i, n, h, h' => by rw [ioAt_inj (ms := ms) (rs := rs) (j := j) (k := k) (i := i) (by simpa [ioIx] using n) (by simpa [ioAt] using h) (by simpa [ioAt] using h')]
  | .io :: ms, .own d :: rs, 0, _, i, _, h, _ => by simp [ioAt] at h
  | .io :: ms, .own d :: rs, j + 1, 0, i, n, h, h' => by simp [ioAt] at h'
  | .io :: ms, .own d :: rs, j + 1, k + 1, i, n, h, h' => by rw [ioAt_inj (ms := ms) (rs := rs) (j := j) (k := k) (i := i) (by simpa [ioIx] using n) (by simpa [ioAt] using h) (by simpa [ioAt] using h')]
  | .sh :: ms, r :: rs, 0, _, i, _, h, _ => by simp [ioAt] at h
  | .sh :: ms, r :: rs, j + 1, 0, i, n, h, h' => by simp [ioAt] at h'
  | .sh :: ms, r :: rs, j + 1, k + 1, i, n, h, h' => by rw [ioAt_inj (ms := ms) (rs := rs) (j := j) (k := k) (i := i) (by simpa [ioIx] using n) (by simpa [ioAt] using h) (by simpa [ioAt] using h')]
  | .br :: ms, r :: rs, 0, _, i, _, h, _ => by simp [ioAt] at h
  | .br :: ms, r :: rs, j + 1, 0, i, n, h, h' => by simp [ioAt] at h'
  | .br :: ms, r :: rs, j + 1, k + 1, i, n, h, h' => by rw [ioAt_inj (ms := ms) (rs := rs) (j := j) (k := k) (i := i) (by simpa [ioIx] using n) (by simpa [ioAt] using h) (by simpa [ioAt] using h')]
  | [], _, _, _, _, _, h, _ => by simp [ioAt] at h
  | _ :: _, [], _, _, _, _, h, _ => by simp [ioAt] at h
def argFp (fp : Fp) (ms : List Md) (rs : List RV) : Fp := fun j => match ioAt ms rs j with
  | some i => fp i
  | none => []
theorem argFp_mem {fp : Fp} {ms : List Md} {rs : List RV} {j : Nat} {a : Addr} (h : a ∈ argFp fp ms rs j) : ∃ i, ioAt ms rs j = some i ∧ a ∈ fp i := by
  unfold argFp at h
  cases e : ioAt ms rs j with
  | none => rw [e] at h; cases h
  | some i => rw [e] at h; exact ⟨i, rfl, h⟩
theorem argFp_none {fp : Fp} {ms : List Md} {rs : List RV} {j : Nat} (h : ioAt ms rs j = none) : argFp fp ms rs j = [] := by
  unfold argFp; rw [h]
theorem argFp_some {fp : Fp} {ms : List Md} {rs : List RV} {j i : Nat} (h : ioAt ms rs j = some i) : argFp fp ms rs j = fp i := by
  unfold argFp; rw [h]
end
section
variable {K : PySem.W.Frag} {C : Cn} {fp : Fp} {Hd H : Hp} {σ : St} {ρ : Env}
/-- one argument, as the callee wants it -/
theorem ars_ok (I : Inv K C fp Hd H σ ρ) {MS : List Md} {RS : List RV} (nd : (ioIx MS RS).Nodup) :
    ∀ {ms : List Md} {rs : List RV} {vs : List V} {as : List Ar} (n : Nat), (∀ j, ioAt ms rs j = ioAt MS RS (n + j)) → RVs K Hd σ rs vs → mkArs (ioIx MS RS) ms rs ρ = some as →
      as.length = vs.length ∧ ms.length = vs.length ∧ ∀ j a v, as[j]? = some a → vs[j]? = some v → ArOk K Hd H (argFp fp MS RS) (n + j) a v := by
  -- nothing of M is read
  have apart : ∀ {i : Nat} {v : V} {d : D}, i ∉ ioIx MS RS → σ[i]? = some (some v) → rd (.bor i) ρ = some d → Rep K Hd d v ∨ ∀ a, v = .ref a → ∀ k, a ∉ argFp fp MS RS k := fun {i v d} ni hv hr => by
    simp only [rd] at hr
    cases es : ρ[i]? with
    | none => rw [es] at hr; cases hr
    | some s =>
      rw [es] at hr
      have q := I.slot i s es
      rw [hv] at q
      have own : ∀ {o : OD} {A : List Addr}, Own K Hd H o v A → (∀ a ∈ A, a ∈ fp i) → rdS s = some d → (∀ d', rdS s = o.top) → Rep K Hd d v ∨ ∀ a, v = .ref a → ∀ k, a ∉ argFp fp MS RS k := fun {o A} ow hA hr ho => by
        have far : ∀ a, a ∈ fp i → ∀ k, a ∉ argFp fp MS RS k := fun a ha k hk => by
          obtain ⟨i', e, ha'⟩ := argFp_mem hk
          have := I.dis i i' a ha ha'
          subst this
          exact ni (ioAt_mem e)
        have hr' := (ho d).symm.trans hr
        cases ow with
        | fz r => cases hr'; exact .inl r
        | lst h r => exact .inr fun a e => by cases e; exact far _ (hA _ (by simp))
        | dic h r => exact .inr fun a e => by cases e; exact far _ (hA _ (by simp))
        | ins _ _ _ => cases hr'
      cases s with
      | un => cases hr
      | sh x => cases hr; obtain ⟨_, w, ew, r⟩ := q; cases ew; exact .inl r
      | br x =>
        cases hr
        obtain ⟨_, w, ew, t, n⟩ := q
        cases ew
        rcases n with n | n
        · exact .inl (n.mono I.hd0)
        · cases t with
          | rep r => exact .inl (r.mono I.hd0)
          | lst h r =>
            refine .inr fun a e k hk => ?_
            cases e
            obtain ⟨i', e', ha'⟩ := argFp_mem hk
            rcases (I.fpOk ha').2.2 with z | z
            · exact n _ rfl i' z
            · rcases h with h | ⟨_, h⟩ <;> rw [z] at h <;> cases h
          | dic h r =>
            refine .inr fun a e k hk => ?_
            cases e
            obtain ⟨i', e', ha'⟩ := argFp_mem hk
            rcases (I.fpOk ha').2.2 with z | z
            · exact n _ rfl i' z
            · rcases h with h | ⟨_, h⟩ <;> rw [z] at h <;> cases h
      | ow o => obtain ⟨w, ew, ow, _⟩ := q; cases ew; exact own ow (fun _ h => h) hr fun _ => rfl
      | io o => obtain ⟨w, ew, ow, _⟩ := q; cases ew; exact own ow (fun _ h => h) hr fun _ => rfl
  intro ms
  induction ms with
  | nil =>
    intro rs vs as n hn r e
    cases r with
    | nil => cases e; exact ⟨rfl, rfl, fun j a v h => by simp at h⟩
    | val _ _ => cases e
    | bor _ _ => cases e
  | cons m ms ih =>
    intro rs vs as n hn r e
    have tail : ∀ {x : RV} {rs' : List RV} {vs' : List V} {as' : List Ar} {v0 : V} {a0 : Ar}, (∀ j, ioAt (m :: ms) (x :: rs') j = ioAt MS RS (n + j)) → RVs K Hd σ rs' vs' → mkArs (ioIx MS RS) ms rs' ρ = some as' → ArOk K Hd H (argFp fp MS RS) n a0 v0 →
        (a0 :: as').length = (v0 :: vs').length ∧ (m :: ms).length = (v0 :: vs').length ∧ ∀ j a v, (a0 :: as')[j]? = some a → (v0 :: vs')[j]? = some v → ArOk K Hd H (argFp fp MS RS) (n + j) a v := fun {x rs' vs' as' v0 a0} hx r' e' h0 => by
      obtain ⟨q1, q2, q3⟩ := ih (n + 1) (fun j => by
        have z := hx (j + 1)
        have : ioAt (m :: ms) (x :: rs') (j + 1) = ioAt ms rs' j := by cases m <;> cases x <;> rfl
        rw [this] at z
        rw [z]; congr 1; omega) r' e'
      refine ⟨by simp [q1], by simp [q2], fun j a v h h' => ?_⟩
      cases j with
      | zero => simp at h h'; subst h h'; exact h0
      | succ j =>
        have := q3 j a v (by simpa using h) (by simpa using h')
        rw [show n + (j + 1) = n + 1 + j by omega]; exact this
    have none0 : ∀ {x : RV} {rs' : List RV}, (∀ j, ioAt (m :: ms) (x :: rs') j = ioAt MS RS (n + j)) → ioAt (m :: ms) (x :: rs') 0 = none → argFp fp MS RS n = [] := fun {x rs'} hx h0 => argFp_none (by rw [← Nat.add_zero n, ← hx 0]; exact h0)
    cases r with
    | nil => cases m <;> cases e
    | val h r' =>
      rename_i d v0 rs' vs'
      cases m with
      | io => cases e
      | sh =>
        simp only [mkArs] at e
        cases e2 : mkArs (ioIx MS RS) ms rs' ρ with
        | none => rw [e2] at e; cases e
        | some as' => rw [e2] at e; cases e; exact tail hn r' e2 ⟨none0 hn rfl, h⟩
      | br =>
        simp only [mkArs] at e
        cases e2 : mkArs (ioIx MS RS) ms rs' ρ with
        | none => rw [e2] at e; cases e
        | some as' => rw [e2] at e; cases e; exact tail hn r' e2 ⟨none0 hn rfl, .rep h, .inl h⟩
    | bor h r' =>
      rename_i i v0 rs' vs'
      cases m with
      | sh => cases e
      | br =>
        simp only [mkArs] at e
        by_cases hi : i ∈ ioIx MS RS
        · rw [if_pos hi] at e; cases e
        · rw [if_neg hi] at e
          cases e1 : rd (.bor i) ρ with
          | none => rw [e1] at e; cases e
          | some d =>
            rw [e1] at e
            cases e2 : mkArs (ioIx MS RS) ms rs' ρ with
            | none => rw [e2] at e; cases e
            | some as' => rw [e2] at e; cases e; exact tail hn r' e2 ⟨none0 hn rfl, I.rdTop (r := .bor i) h e1, apart hi h e1⟩
      | io =>
        have hat : ioAt MS RS n = some i := by rw [← Nat.add_zero n, ← hn 0]; rfl
        simp only [mkArs] at e
        cases es : ρ[i]? with
        | none => rw [es] at e; cases e
        | some s =>
          rw [es] at e
          have q := I.slot i s es
          rw [h] at q
          cases s with
          | un => cases e
          | sh _ => cases e
          | br _ => cases e
          | ow o =>
            obtain ⟨w, ew, ow, nd, f⟩ := q
            cases ew
            simp only at e
            cases e2 : mkArs (ioIx MS RS) ms rs' ρ with
            | none => rw [e2] at e; cases e
            | some as' => rw [e2] at e; cases e; exact tail hn r' e2 ⟨by rw [argFp_some hat]; exact ow, by rw [argFp_some hat]; exact nd, by rw [argFp_some hat]; exact fun a ha => (f a ha).1⟩
          | io o =>
            obtain ⟨w, ew, ow, nd, f, _⟩ := q
            cases ew
            simp only at e
            cases e2 : mkArs (ioIx MS RS) ms rs' ρ with
            | none => rw [e2] at e; cases e
            | some as' => rw [e2] at e; cases e; exact tail hn r' e2 ⟨by rw [argFp_some hat]; exact ow, by rw [argFp_some hat]; exact nd, by rw [argFp_some hat]; exact fun a ha => (f a ha).1⟩
/-- other things changed -/
theorem Inv.change {Hd' H' : Hp} {N : Addr → Prop} (I : Inv K C fp Hd H σ ρ) (hd : Le Hd Hd') (le : Le Hd' H') (fr : ∀ b, Hd' b ≠ none → Hd b ≠ none ∨ H b = none) (keep : ∀ b o, H b = some o → ¬ N b → H' b = some o) (dom : ∀ b, H b ≠ none → H' b ≠ none)
    (hN : ∀ b, N b → (∃ i, b ∈ C.M i) ∨ C.H0 b = none) (hfp : ∀ i, ∀ a ∈ fp i, ¬ N a) : Inv K C fp Hd' H' σ ρ where
  le := le
  hd0 := I.hd0.trans hd
  keep := fun b o e n => keep b o (I.keep b o e n) fun z => by
    rcases hN b z with ⟨i, q⟩ | q
    · exact n i q
    · rw [q] at e; cases e
  dom := fun b h => dom b (I.dom b h)
  fresh := fun b h => by
    rcases fr b h with q | q
    · exact I.fresh b q
    · exact .inr (none_back I.dom q)
  len := I.len
  slot := fun i s e => (I.slot i s e).ext hd (fun a ha n => by
    cases e : Hd' a with
    | none => rfl
    | some u =>
      rcases fr a (by rw [e]; intro z; cases z) with q | q
      · exact absurd n q
      · exact absurd q (I.fpOk ha).1) fun a ha u h => keep a u h (hfp i a ha)
  out := I.out
  dis := I.dis
theorem drops_len : ∀ (ms : List Md) (rs : List RV) (ρ : Env), (drops ms rs ρ).length = ρ.length
  | [], _, _ => by simp [drops]
  | _ :: _, [], _ => by unfold drops; split <;> simp_all
  | .io :: ms, .bor i :: rs, ρ => by unfold drops; rw [drops_len ms rs]; simp
  | .io :: ms, .val _ :: rs, ρ => by unfold drops; exact drops_len ms rs ρ
  | .io :: ms, .own _ :: rs, ρ => by unfold drops; exact drops_len ms rs ρ
  | .sh :: ms, _ :: rs, ρ => by unfold drops; exact drops_len ms rs ρ
  | .br :: ms, _ :: rs, ρ => by unfold drops; exact drops_len ms rs ρ
theorem drops_inv : ∀ (ms : List Md) (rs : List RV) {fp : Fp} {ρ : Env}, Inv K C fp Hd H σ ρ → ∃ fp0, Inv K C fp0 Hd H σ (drops ms rs ρ) ∧ ∀ i a, a ∈ fp0 i → a ∈ fp i ∧ i ∉ ioIx ms rs
  | [], _, fp, ρ, I => ⟨fp, by unfold drops; exact I, fun i a h => ⟨h, by simp [ioIx]⟩⟩
  | m :: ms, [], fp, ρ, I => ⟨fp, by
      have e : drops (m :: ms) [] ρ = ρ := by unfold drops; split <;> simp_all
      rw [e]; exact I, fun i a h => ⟨h, by
      have e : ioIx (m :: ms) [] = [] := by unfold ioIx; split <;> simp_all
      rw [e]; simp⟩⟩
  | .io :: ms, .bor k :: rs, fp, ρ, I => by
    unfold drops
    by_cases hk : k < ρ.length
    · obtain ⟨fp0, I0, h0⟩ := drops_inv ms rs (I.drop hk)
      refine ⟨fp0, I0, fun i a h => ?_⟩
      obtain ⟨q1, q2⟩ := h0 i a h
      by_cases e : i = k
      · subst e; rw [setF_same] at q1; cases q1
      · rw [setF_ne e] at q1
        exact ⟨q1, by simp [ioIx, e, q2]⟩
    · rw [List.set_eq_of_length_le (by omega)]
      obtain ⟨fp0, I0, h0⟩ := drops_inv ms rs I
      refine ⟨fp0, I0, fun i a h => ?_⟩
      obtain ⟨q1, q2⟩ := h0 i a h
      refine ⟨q1, ?_⟩
      simp only [ioIx, List.mem_cons, not_or]
      refine ⟨fun e => ?_, q2⟩
      subst e
      rw [I.out i (by omega)] at q1; cases q1
  | .io :: ms, .val _ :: rs, fp, ρ, I => by unfold drops ioIx; exact drops_inv ms rs I
  | .io :: ms, .own _ :: rs, fp, ρ, I => by unfold drops ioIx; exact drops_inv ms rs I
  | .sh :: ms, _ :: rs, fp, ρ, I => by unfold drops ioIx; exact drops_inv ms rs I
  | .br :: ms, _ :: rs, fp, ρ, I => by unfold drops ioIx; exact drops_inv ms rs I
/-- the changed arguments are put back -/
theorem outE_inv {Hd0 H0' : Hp} {fp fp0 fpB : Fp} {MS : List Md} {RS : List RV} (I0 : Inv K C fp Hd0 H0' σ ρ) (nd : (ioIx MS RS).Nodup)
    (h0 : ∀ i a, a ∈ fp0 i → a ∈ fp i ∧ i ∉ ioIx MS RS) (dB : ∀ i j a, a ∈ fpB i → a ∈ fpB j → i = j) :
    ∀ (ms : List Md) (rs : List RV) (vs : List V) (os : List (Option OD)) (n : Nat) (fpc : Fp) (acc ρ' : Env), (∀ j, ioAt ms rs j = ioAt MS RS (n + j)) → RVs K Hd0 σ rs vs →
      (∀ j o v, os[j]? = some (some o) → vs[j]? = some v → Own K Hd H o v (fpB (n + j)) ∧ (fpB (n + j)).Nodup ∧ ∀ a ∈ fpB (n + j), Hd a = none ∧ (a ∈ argFp fp MS RS (n + j) ∨ H0' a = none)) →
      acc.length = ρ.length → Inv K C fpc Hd H σ acc → (∀ i a, a ∈ fpc i → a ∈ fp0 i ∨ ∃ j, j < n ∧ a ∈ fpB j ∧ (a ∈ argFp fp MS RS j ∨ H0' a = none)) → outE ρ ms rs os acc = some ρ' →
      ∃ fp', Inv K C fp' Hd H σ ρ' ∧ ∀ i a, a ∈ fp' i → a ∈ fp0 i ∨ ∃ j, a ∈ fpB j ∧ (a ∈ argFp fp MS RS j ∨ H0' a = none) := by
  intro ms
  induction ms with
  | nil =>
    intro rs vs os n fpc acc ρ' hn r ho hl I hf e
    cases rs with
    | cons _ _ => cases e
    | nil =>
      cases os with
      | cons _ _ => cases e
      | nil =>
        cases e
        exact ⟨fpc, I, fun i a h => (hf i a h).imp_right fun ⟨j, _, q⟩ => ⟨j, q⟩⟩
  | cons m ms ih =>
    intro rs vs os n fpc acc ρ' hn r ho hl I hf e
    have next : ∀ {x : RV} {rs' : List RV} {v0 : V} {vs' : List V} {o0 : Option OD} {os' : List (Option OD)} {fpc' : Fp} {acc' : Env}, (∀ j, ioAt (m :: ms) (x :: rs') j = ioAt MS RS (n + j)) → RVs K Hd0 σ rs' vs' →
        (∀ j o v, (o0 :: os')[j]? = some (some o) → (v0 :: vs')[j]? = some v → Own K Hd H o v (fpB (n + j)) ∧ (fpB (n + j)).Nodup ∧ ∀ a ∈ fpB (n + j), Hd a = none ∧ (a ∈ argFp fp MS RS (n + j) ∨ H0' a = none)) →
        acc'.length = ρ.length → Inv K C fpc' Hd H σ acc' → (∀ i a, a ∈ fpc' i → a ∈ fp0 i ∨ ∃ j, j < n + 1 ∧ a ∈ fpB j ∧ (a ∈ argFp fp MS RS j ∨ H0' a = none)) → outE ρ ms rs' os' acc' = some ρ' →
        ∃ fp', Inv K C fp' Hd H σ ρ' ∧ ∀ i a, a ∈ fp' i → a ∈ fp0 i ∨ ∃ j, a ∈ fpB j ∧ (a ∈ argFp fp MS RS j ∨ H0' a = none) := fun {x rs' v0 vs' o0 os' fpc' acc'} hx r' ho' hl' I' hf' e' => by
      refine ih rs' vs' os' (n + 1) fpc' acc' ρ' (fun j => ?_) r' (fun j o v h h' => ?_) hl' I' hf' e'
      · have z := hx (j + 1)
        have : ioAt (m :: ms) (x :: rs') (j + 1) = ioAt ms rs' j := by cases m <;> cases x <;> rfl
        rw [this] at z
        rw [z]; congr 1; omega
      · have q := ho' (j + 1) o v (by simpa using h) (by simpa using h')
        rw [show n + (j + 1) = n + 1 + j by omega] at q
        exact q
    have more : ∀ i a, a ∈ fpc i → a ∈ fp0 i ∨ ∃ j, j < n + 1 ∧ a ∈ fpB j ∧ (a ∈ argFp fp MS RS j ∨ H0' a = none) := fun i a h => (hf i a h).imp_right fun ⟨j, l, q⟩ => ⟨j, by omega, q⟩
    -- one that is put back
    have put : ∀ {i : Nat} {rs' : List RV} {v0 : V} {vs' : List V} {o0 : OD} {os' : List (Option OD)} {s' : Sl}, (∀ j, ioAt (m :: ms) (.bor i :: rs') j = ioAt MS RS (n + j)) → ioAt (m :: ms) (.bor i :: rs') 0 = some i → RVs K Hd0 σ rs' vs' → i < ρ.length →
        (∀ j o v, (some o0 :: os')[j]? = some (some o) → (v0 :: vs')[j]? = some v → Own K Hd H o v (fpB (n + j)) ∧ (fpB (n + j)).Nodup ∧ ∀ a ∈ fpB (n + j), Hd a = none ∧ (a ∈ argFp fp MS RS (n + j) ∨ H0' a = none)) →
        (Own K Hd H o0 v0 (fpB n) → (fpB n).Nodup → (∀ a ∈ fpB n, Hd a = none ∧ (a ∈ fp i ∨ H0' a = none)) → SlotOk K C Hd H i s' σ[i]? (fpB n)) → outE ρ ms rs' os' (acc.set i s') = some ρ' →
        ∃ fp', Inv K C fp' Hd H σ ρ' ∧ ∀ i a, a ∈ fp' i → a ∈ fp0 i ∨ ∃ j, a ∈ fpB j ∧ (a ∈ argFp fp MS RS j ∨ H0' a = none) := fun {i rs' v0 vs' o0 os' s'} hx h00 r' hi ho' hs e' => by
      have hat : ioAt MS RS n = some i := by rw [← Nat.add_zero n, ← hx 0]; exact h00
      obtain ⟨q1, q2, q3⟩ := ho' 0 o0 v0 rfl rfl
      rw [Nat.add_zero] at q1 q2 q3
      rw [argFp_some hat] at q3
      have I2 := I.set_slot (i := i) (s' := s') (A' := fpB n) (σ' := σ) (by rw [hl]; exact hi) (hs q1 q2 q3) (fun a ha k hk h => by
        rcases hf k a h with z | ⟨j, l, z, _⟩
        · obtain ⟨z1, z2⟩ := h0 k a z
          rcases (q3 a ha).2 with w | w
          · exact hk (I0.dis k i a z1 w)
          · exact (I0.fpOk z1).1 w
        · have := dB j n a z ha
          omega) rfl fun _ _ => rfl
      refine next hx r' ho' (by rw [List.length_set]; exact hl) I2 (fun k a h => ?_) e'
      by_cases e : k = i
      · subst e
        rw [setF_same] at h
        exact .inr ⟨n, by omega, h, by rw [argFp_some hat]; exact (q3 a h).2⟩
      · rw [setF_ne e] at h
        exact more k a h
    cases r with
    | nil => cases m <;> cases e
    | val h r' =>
      cases os with
      | nil => cases m <;> cases e
      | cons o0 os' =>
        cases m with
        | io => cases o0 <;> cases e
        | sh => cases o0 with
          | some _ => cases e
          | none => exact next hn r' ho hl I more (by simpa [outE] using e)
        | br => cases o0 with
          | some _ => cases e
          | none => exact next hn r' ho hl I more (by simpa [outE] using e)
    | bor h r' =>
      rename_i i v0 rs' vs'
      cases os with
      | nil => cases m <;> cases e
      | cons o0 os' =>
        cases m with
        | sh => cases o0 with
          | some _ => cases e
          | none => exact next hn r' ho hl I more (by simpa [outE] using e)
        | br => cases o0 with
          | some _ => cases e
          | none => exact next hn r' ho hl I more (by simpa [outE] using e)
        | io => cases o0 with
          | none => cases e
          | some o =>
            simp only [outE] at e
            cases es : ρ[i]? with
            | none => rw [es] at e; cases e
            | some s =>
              have hi : i < ρ.length := (List.getElem?_eq_some_iff.mp es).1
              have q := I0.slot i s es
              rw [h] at q
              rw [es] at e
              cases s with
              | un => cases e
              | sh _ => cases e
              | br _ => cases e
              | ow o' =>
                obtain ⟨w, ew, ow, nd', f⟩ := q
                cases ew
                refine put (s' := .ow o) hn rfl r' hi ho (fun p1 p2 p3 => ⟨v0, h, p1, p2, fun a ha => ⟨(p3 a ha).1, ?_⟩⟩) e
                rcases (p3 a ha).2 with z | z
                · exact (f a z).2
                · exact none_back I0.dom z
              | io o' =>
                obtain ⟨w, ew, ow, nd', f, m⟩ := q
                cases ew
                refine put (s' := .io o) hn rfl r' hi ho (fun p1 p2 p3 => ⟨v0, h, p1, p2, fun a ha => ⟨(p3 a ha).1, ?_⟩, m⟩) e
                rcases (p3 a ha).2 with z | z
                · exact (f a z).2
                · exact .inr (none_back I0.dom z)
/-- behind a callee's end: the new state -/
theorem call_end {ms : List Md} {rs : List RV} {vs : List V} {outs : List (Option OD)} {Hd' H' : Hp} {fpB : Fp} {ρ' : Env} (I : Inv K C fp Hd H σ ρ) (nd : (ioIx ms rs).Nodup) (r : RVs K Hd σ rs vs)
    (F : FinOk K Hd H (argFp fp ms rs) vs outs Hd' H' fpB) (e : outE ρ ms rs outs (drops ms rs ρ) = some ρ') : ∃ fp', Stp fp Hd H fp' Hd' H' ∧ Inv K C fp' Hd' H' σ ρ' ∧ ∀ i a, a ∈ fp' i → a ∈ fp i ∨ ∃ j, a ∈ fpB j := by
  obtain ⟨fp0, I0, h0⟩ := drops_inv ms rs I
  have I1 : Inv K C fp0 Hd' H' σ (drops ms rs ρ) := I0.change (N := fun b => ∃ i, b ∈ argFp fp ms rs i) F.hd F.le F.fr (fun b o q n => F.keep b o q fun i hi => n ⟨i, hi⟩) F.dom (fun b ⟨j, hb⟩ => by
    obtain ⟨i, _, hb⟩ := argFp_mem hb
    exact (I.fpOk hb).2.2.imp_left fun z => ⟨i, z⟩) fun i a ha ⟨j, hb⟩ => by
    obtain ⟨k, e', hb⟩ := argFp_mem hb
    obtain ⟨z1, z2⟩ := h0 i a ha
    have := I.dis i k a z1 hb
    subst this
    exact z2 (ioAt_mem e')
  obtain ⟨fp', I2, hf⟩ := outE_inv (Hd := Hd') (H := H') (fpB := fpB) I nd h0 F.dis ms rs vs outs 0 fp0 _ ρ' (fun j => by rw [Nat.zero_add]) r (fun j o v q q' => by rw [Nat.zero_add]; exact F.outs j o v q q') (drops_len ms rs ρ) I1 (fun i a h => .inl h) e
  refine ⟨fp', ⟨F.hd, fun b hb => (F.fr b hb).imp_right .inl, fun b o q n => F.keep b o q fun i hi => ?_, F.dom, fun i b hb => ?_⟩, I2, fun i a h => ?_⟩
  · obtain ⟨k, _, hb⟩ := argFp_mem hi
    exact n k hb
  · rcases hf i b hb with z | ⟨j, _, z⟩
    · exact .inl ⟨i, (h0 i b z).1⟩
    · rcases z with z | z
      · obtain ⟨k, _, hb⟩ := argFp_mem z
        exact .inl ⟨k, hb⟩
      · exact .inr z
  · rcases hf i a h with z | ⟨j, z, _⟩
    · exact .inl (h0 i a z).1
    · exact .inr ⟨j, z⟩
end
section
variable {K : PySem.W.Frag} {W : St → XK}
/-- the call of a def of the text; dds: the defaults' data -/
def fCall (ms : List Md) (dds : List D) (F : List Ar → FO) (fa : Env → Res (List RV)) : Env → Res RV := fun ρ => (fa ρ).bind fun rs ρ1 => callR ms F (rs ++ dds.map .val) ρ1
theorem RVs.append {Hd : Hp} {σ : St} : ∀ {rs rs' : List RV} {vs vs' : List V}, RVs K Hd σ rs vs → RVs K Hd σ rs' vs' → RVs K Hd σ (rs ++ rs') (vs ++ vs')
  | _, _, _, _, .nil, s => s
  | _, _, _, _, .val h r, s => .val h (RVs.append r s)
  | _, _, _, _, .bor h r, s => .bor h (RVs.append r s)
theorem rvs_vals {Hd : Hp} {σ : St} : ∀ {ds : List D} {vs : List V}, Reps K Hd ds vs → RVs K Hd σ (ds.map .val) vs
  | _, _, .nil => .nil
  | _, _, .cons h r => .val h (rvs_vals r)
theorem mkArs_len {ios : List Nat} {ρ : Env} : ∀ {ms : List Md} {rs : List RV} {as : List Ar}, mkArs ios ms rs ρ = some as → as.length = ms.length := by
  intro ms
  induction ms with
  | nil => intro rs as h; cases rs <;> cases h; rfl
  | cons m ms ih =>
    intro rs as h
    cases rs with
    | nil => cases m <;> cases h
    | cons r rs =>
      have fin : ∀ {a : Ar}, (mkArs ios ms rs ρ).map (a :: ·) = some as → as.length = (m :: ms).length := fun {a} e => by
        cases e2 : mkArs ios ms rs ρ with
        | none => rw [e2] at e; cases e
        | some as' => rw [e2] at e; cases e; simp [ih e2]
      cases m with
      | sh => cases r with
        | val d => exact fin h
        | own _ => cases h
        | bor _ => cases h
      | br => cases r with
        | val d => exact fin h
        | own _ => cases h
        | bor i =>
          simp only [mkArs] at h
          split at h
          · cases h
          · split at h
            · exact fin h
            · cases h
      | io => cases r with
        | val _ => cases h
        | own _ => cases h
        | bor i =>
          simp only [mkArs] at h
          split at h
          · exact fin h
          · exact fin h
          · cases h
theorem callR_ok {ms : List Md} {n : Nat} {F : List Ar → FO} {C : Cn} {fp : Fp} {Hd H : Hp} {σ : St} {ρ : Env} {rs : List RV} {vs : List V} {Q : VK} (I : Inv K C fp Hd H σ ρ) (hn : ms.length = n) (r : RVs K Hd σ rs vs)
    (p : Post K W C (rV K) fp Hd H σ (callR ms F rs ρ) Q) : spF K n F vs H Q (W σ) := by
  unfold callR at p
  by_cases nd : (ioIx ms rs).Nodup
  · rw [if_pos nd] at p
    cases ea : mkArs (ioIx ms rs) ms rs ρ with
    | none => simp only [ea] at p; exact p.elim
    | some as =>
      simp only [ea] at p
      obtain ⟨q1, q2, q3⟩ := ars_ok I nd (ms := ms) (rs := rs) 0 (fun j => by rw [Nat.zero_add]) r ea
      have hl := mkArs_len ea
      have A : ArgsOk K Hd H as vs (argFp fp ms rs) := ⟨q1, fun j a v h h' => by
        have q := q3 j a v h h'
        rw [Nat.zero_add] at q
        exact q, fun i j a h h' => by
        obtain ⟨k, e1, h1⟩ := argFp_mem h
        obtain ⟨k', e2, h2⟩ := argFp_mem h'
        have := I.dis k k' a h1 h2
        subst this
        exact ioAt_inj nd e1 e2, fun j hj => by
        refine argFp_none ?_
        have : ∀ (ms : List Md) (rs : List RV) (j : Nat), ms.length ≤ j → ioAt ms rs j = none := fun ms => by
          induction ms with
          | nil => intro rs j _; cases rs <;> cases j <;> rfl
          | cons m ms ih =>
            intro rs j hj
            cases j with
            | zero => simp at hj
            | succ j =>
              cases rs with
              | nil => cases m <;> rfl
              | cons x rs =>
                have : ioAt (m :: ms) (x :: rs) (j + 1) = ioAt ms rs j := by cases m <;> cases x <;> rfl
                rw [this]; exact ih rs j (by simpa using hj)
        exact this ms rs j (by omega)⟩
      refine ⟨Hd, as, argFp fp ms rs, I.le, by omega, A, ?_⟩
      cases eF : F as with
      | no => simp only [eF] at p; exact p.elim
      | exc ex outs =>
        simp only [eF] at p
        cases eo : outE ρ ms rs outs (drops ms rs ρ) with
        | none => simp only [eo] at p; exact p.elim
        | some ρ' =>
          simp only [eo] at p
          intro d Hd' H' fpB fin hx
          obtain ⟨fp', s, I', _⟩ := call_end I nd r fin eo
          exact p d fp' Hd' H' s I' hx
      | ret z outs =>
        simp only [eF] at p
        cases eo : outE ρ ms rs outs (drops ms rs ρ) with
        | none => simp only [eo] at p; exact p.elim
        | some ρ' =>
          simp only [eo] at p
          intro v Hd' H' fpB fin hr
          obtain ⟨fp', s, I', hf⟩ := call_end I nd r fin eo
          cases z with
          | bor _ => exact p.elim
          | val d => exact p v fp' Hd' H' s I' hr
          | own o =>
            obtain ⟨B, ow, ndB, f⟩ := hr
            refine p v fp' Hd' H' s I' ⟨B, ow, ndB, fun b hb => ⟨(f b hb).1, none_back I.dom (f b hb).2.1, fun i hi => ?_, (f b hb).2.1⟩⟩
            rcases hf i b hi with z | ⟨j, z⟩
            · exact (I.fpOk z).1 (f b hb).2.1
            · exact (f b hb).2.2 j z
  · rw [if_neg nd] at p; exact p.elim
theorem sd_call {ms : List Md} {n : Nat} {dds : List D} {dvs : List V} {F : List Ar → FO} {ta : TA} {fa : Env → Res (List RV)} (hn : ms.length = n) (hd : ∀ Hd : Hp, Reps K Hd dds dvs) (ha : Sd K W (rA K) ta fa) :
    Sd K W (rV K) (L2.tCallSD (spF K n F) dvs W ta) (fCall ms dds F fa) := fun C fp Hd H σ ρ I Q p =>
  ha.run I p fun rs vs fp0 Hd0 H0 ρ0 s0 I0 h p => callR_ok I0 hn (h.append (rvs_vals (hd Hd0))) p
end
end O

/-! Own4: statements, loops, comprehensions, a def's promise by its body -/
namespace O
open PySem
open L2 (V Hp HO Rd SqL SqT upd upd_same upd_ne ne_of ne_of_none TE TT TA TS TG TGs TI It VK XK Ends St PE PT PW PA PS PSs PG PGs PI Cx OpR UnR CallR R2 tOp tUn tVar tC tCons tNil tTup tLst tTest tB tAnd tOr tNot tAndV tOrV tNotV tIf tCB Sp FnOk)
/-! ### statements -/
inductive SR where
  | nx (ρ : Env) | rt (r : RV) (ρ : Env) | bk (ρ : Env) | ct (ρ : Env) | ex (e : Exc) (ρ : Env) | no
def PostS (K : PySem.W.Frag) (W : St → XK) (C : Cn) (fp : Fp) (Hd H : Hp) (x : SR) (D : Ends) : Prop :=
  match x with
  | .nx ρ' => ∀ σ' fp' Hd' H', Stp fp Hd H fp' Hd' H' → Inv K C fp' Hd' H' σ' ρ' → D.nx σ' H'
  | .bk ρ' => ∀ σ' fp' Hd' H', Stp fp Hd H fp' Hd' H' → Inv K C fp' Hd' H' σ' ρ' → D.bk σ' H'
  | .ct ρ' => ∀ σ' fp' Hd' H', Stp fp Hd H fp' Hd' H' → Inv K C fp' Hd' H' σ' ρ' → D.ct σ' H'
  | .rt r ρ' => ∀ v σ' fp' Hd' H', Stp fp Hd H fp' Hd' H' → Inv K C fp' Hd' H' σ' ρ' → RVal K C fp' Hd' H' σ' r v → D.rt v H'
  | .ex c ρ' => ∀ d σ' fp' Hd' H', Stp fp Hd H fp' Hd' H' → Inv K C fp' Hd' H' σ' ρ' → ExAt K Hd' H' c d → W σ' c.cls d H'
  | .no => False
def Ss (K : PySem.W.Frag) (W : St → XK) (t : TS) (g : Env → SR) : Prop :=
  ∀ (C : Cn) (fp : Fp) (Hd H : Hp) (σ : St) (ρ : Env), Inv K C fp Hd H σ ρ → ∀ D : Ends, PostS K W C fp Hd H (g ρ) D → t D σ H
structure JS (X : Cx) (W : St → XK) (s : Stmt) (t : TS) (g : Env → SR) : Prop where
  ps : PS X s t
  ss : Ss X.K W t g
structure JB (X : Cx) (W : St → XK) (s : List Stmt) (t : TS) (g : Env → SR) : Prop where
  pss : PSs X s t
  ss : Ss X.K W t g
theorem PostS.stp {K : PySem.W.Frag} {W : St → XK} {C : Cn} {fp fp' : Fp} {Hd H Hd' H' : Hp} {x : SR} {D : Ends} (s : Stp fp Hd H fp' Hd' H') (h : PostS K W C fp Hd H x D) : PostS K W C fp' Hd' H' x D := by
  cases x with
  | nx ρ' => exact fun σ' fp2 Hd2 H2 s2 => h σ' fp2 Hd2 H2 (s.trans s2)
  | bk ρ' => exact fun σ' fp2 Hd2 H2 s2 => h σ' fp2 Hd2 H2 (s.trans s2)
  | ct ρ' => exact fun σ' fp2 Hd2 H2 s2 => h σ' fp2 Hd2 H2 (s.trans s2)
  | rt r ρ' => exact fun v σ' fp2 Hd2 H2 s2 => h v σ' fp2 Hd2 H2 (s.trans s2)
  | ex c ρ' => exact fun d σ' fp2 Hd2 H2 s2 => h d σ' fp2 Hd2 H2 (s.trans s2)
  | no => exact h
/-- an answer, then a statement's end -/
def Res.thn {α : Type} (x : Res α) (f : α → Env → SR) : SR :=
  match x with
  | .ok a ρ => f a ρ
  | .ex e ρ => .ex e ρ
  | .no => .no
def SR.seq (x : SR) (f : Env → SR) : SR :=
  match x with
  | .nx ρ => f ρ
  | x => x
theorem Sd.runS {α β : Type} {K : PySem.W.Frag} {W : St → XK} {rel : Rel α β} {t : St → Hp → (β → Hp → Prop) → Prop} {f : Env → Res α} {g : α → Env → SR} (h : Sd K W rel t f)
    {C : Cn} {fp : Fp} {Hd H : Hp} {σ : St} {ρ : Env} (I : Inv K C fp Hd H σ ρ) {D : Ends} {Q' : β → Hp → Prop} (p : PostS K W C fp Hd H ((f ρ).thn g) D)
    (k : ∀ (r : α) (v : β) (fp1 : Fp) (Hd1 H1 : Hp) (ρ1 : Env), Stp fp Hd H fp1 Hd1 H1 → Inv K C fp1 Hd1 H1 σ ρ1 → rel.r C H fp1 Hd1 H1 σ r v → PostS K W C fp1 Hd1 H1 (g r ρ1) D → Q' v H1) : t σ H Q' := by
  refine h C fp Hd H σ ρ I _ ?_
  cases e : f ρ with
  | ok r ρ1 =>
    simp only [e, Res.thn] at p
    exact fun v fp1 Hd1 H1 s1 I1 r1 => k r v fp1 Hd1 H1 ρ1 s1 I1 r1 (p.stp s1)
  | ex c ρ1 =>
    simp only [e, Res.thn] at p
    exact fun d fp1 Hd1 H1 s1 I1 hx => p d σ fp1 Hd1 H1 s1 I1 hx
  | no =>
    simp only [e, Res.thn] at p
    exact p
section
variable {K : PySem.W.Frag} {W : St → XK}
theorem PostS.now {C : Cn} {fp : Fp} {Hd H : Hp} {σ : St} {ρ : Env} {D : Ends} (p : PostS K W C fp Hd H (.nx ρ) D) (I : Inv K C fp Hd H σ ρ) : D.nx σ H := p σ fp Hd H (.refl _ _ _) I
def gNext : Env → SR := fun ρ => .nx ρ
theorem ss_next : Ss K W L2.tNext gNext := fun C fp Hd H σ ρ I D p => p.now I
def gBrk : Env → SR := fun ρ => .bk ρ
theorem ss_brk : Ss K W L2.tBreak gBrk := fun C fp Hd H σ ρ I D p => p σ fp Hd H (.refl _ _ _) I
def gCont : Env → SR := fun ρ => .ct ρ
theorem ss_cont : Ss K W L2.tCont gCont := fun C fp Hd H σ ρ I D p => p σ fp Hd H (.refl _ _ _) I
def gNever : Env → SR := fun _ => .no
theorem ss_never : Ss K W L2.tNever gNever := fun C fp Hd H σ ρ I D p => p
def gSeq (g1 g2 : Env → SR) : Env → SR := fun ρ => (g1 ρ).seq g2
theorem ss_seq {t1 t2 : TS} {g1 g2 : Env → SR} (h1 : Ss K W t1 g1) (h2 : Ss K W t2 g2) : Ss K W (L2.tSeq t1 t2) (gSeq g1 g2) := fun C fp Hd H σ ρ I D p => by
  refine h1 C fp Hd H σ ρ I { D with nx := t2 D } ?_
  have p : PostS K W C fp Hd H ((g1 ρ).seq g2) D := p
  cases e : g1 ρ with
  | nx ρ1 =>
    rw [e] at p
    exact fun σ' fp' Hd' H' s' I' => h2 C fp' Hd' H' σ' ρ1 I' D (PostS.stp s' p)
  | rt r ρ1 => rw [e] at p; exact p
  | bk ρ1 => rw [e] at p; exact p
  | ct ρ1 => rw [e] at p; exact p
  | ex c ρ1 => rw [e] at p; exact p
  | no => rw [e] at p; exact p
def gIf (ft : Env → Res Bool) (g1 g2 : Env → SR) : Env → SR := fun ρ => (ft ρ).thn fun b ρ1 => if b = true then g1 ρ1 else g2 ρ1
theorem ss_if {tt : TT} {t1 t2 : TS} {ft : Env → Res Bool} {g1 g2 : Env → SR} (ht : Sd K W rB tt ft) (h1 : Ss K W t1 g1) (h2 : Ss K W t2 g2) : Ss K W (L2.tIfS tt t1 t2) (gIf ft g1 g2) := fun C fp Hd H σ ρ I D p =>
  ht.runS I p fun b b' fp1 Hd1 H1 ρ1 s1 I1 e p => by
    have e : b' = b := e
    subst e
    cases b' with
    | true => exact h1 C fp1 Hd1 H1 σ ρ1 I1 D p
    | false => exact h2 C fp1 Hd1 H1 σ ρ1 I1 D p
def gDrop (fa : Env → Res RV) : Env → SR := fun ρ => (fa ρ).thn fun _ ρ1 => .nx ρ1
theorem ss_drop {ta : TE} {fa : Env → Res RV} (h : Sd K W (rV K) ta fa) : Ss K W (L2.tDrop ta) (gDrop fa) := fun C fp Hd H σ ρ I D p =>
  h.runS I p fun r v fp1 Hd1 H1 ρ1 s1 I1 _ p => p.now I1
/-- a value moved out -/
def mv (r : RV) (ρ : Env) : Res RV :=
  match r with
  | .val d => .ok (.val d) ρ
  | .own o => .ok (.own o) ρ
  | .bor i => match ρ[i]? with
    | some (.sh d) => .ok (.val d) ρ
    | some (.br d) => if d.still then .ok (.val d) ρ else .no
    | some (.ow o) => .ok (.own o) (ρ.set i .un)
    | _ => .no
theorem mv_ok {C : Cn} {fp : Fp} {Hd H : Hp} {σ : St} {ρ ρ' : Env} {r z : RV} {v : V} (I : Inv K C fp Hd H σ ρ) (h : RVal K C fp Hd H σ r v) (e : mv r ρ = .ok z ρ') : ∃ fp', Stp fp Hd H fp' Hd H ∧ Inv K C fp' Hd H σ ρ' ∧ RVal K C fp' Hd H σ z v ∧ ∀ i, z ≠ .bor i := by
  cases r with
  | val d => cases e; exact ⟨fp, .refl _ _ _, I, h, fun _ z => nomatch z⟩
  | own o => cases e; exact ⟨fp, .refl _ _ _, I, h, fun _ z => nomatch z⟩
  | bor i =>
    simp only [mv] at e
    have h : σ[i]? = some (some v) := h
    cases es : ρ[i]? with
    | none => simp only [es] at e; cases e
    | some s =>
      have q := I.slot i s es
      rw [h] at q
      have hi : i < ρ.length := (List.getElem?_eq_some_iff.mp es).1
      cases s with
      | un => simp only [es] at e; cases e
      | io o => simp only [es] at e; cases e
      | sh d =>
        simp only [es] at e
        cases e
        obtain ⟨_, w, ew, r⟩ := q
        cases ew
        exact ⟨fp, .refl _ _ _, I, r, fun _ z => nomatch z⟩
      | br d =>
        simp only [es] at e
        obtain ⟨_, w, ew, t, n⟩ := q
        cases ew
        cases hs : d.still with
        | false => rw [hs] at e; cases e
        | true =>
          rw [hs] at e
          cases e
          exact ⟨fp, .refl _ _ _, I, (I.brTop t n).still hs, fun _ z => nomatch z⟩
      | ow o =>
        simp only [es] at e
        cases e
        obtain ⟨w, ew, ow, nd, f⟩ := q
        cases ew
        refine ⟨setF fp i [], stp_setF (fun _ h => by cases h), I.drop hi, ⟨fp i, ow, nd, fun a ha => ⟨(f a ha).1, (f a ha).2, fun j hj => ?_⟩⟩, fun _ z => nomatch z⟩
        by_cases ej : j = i
        · subst ej; rw [setF_same] at hj; cases hj
        · rw [setF_ne ej] at hj
          exact ej (I.dis j i a hj ha)
def gRet (fa : Env → Res RV) : Env → SR := fun ρ => (fa ρ).thn fun r ρ1 => (mv r ρ1).thn fun z ρ2 => .rt z ρ2
theorem ss_ret {ta : TE} {fa : Env → Res RV} (h : Sd K W (rV K) ta fa) : Ss K W (L2.tRet ta) (gRet fa) := fun C fp Hd H σ ρ I D p =>
  h.runS I p fun r v fp1 Hd1 H1 ρ1 s1 I1 hr p => by
    have hr := rV_loose hr
    cases em : mv r ρ1 with
    | no => rw [em] at p; exact p.elim
    | ex c ρ2 =>
      exfalso
      cases r with
      | val d => cases em
      | own o => cases em
      | bor i => simp only [mv] at em; split at em <;> first | cases em | (split at em <;> cases em)
    | ok z ρ2 =>
      rw [em] at p
      obtain ⟨fp2, s2, I2, hz, _⟩ := mv_ok I1 hr em
      exact p v σ fp2 Hd1 H1 s2 I2 hz
def gRetN : Env → SR := fun ρ => .rt (.val .non) ρ
theorem ss_retN : Ss K W L2.tRetN gRetN := fun C fp Hd H σ ρ I D p => p .non σ fp Hd H (.refl _ _ _) I Rep.non
/-! ### a name is stored -/
/-- what a slot gets -/
def slotOf (i : Nat) (r : RV) (ρ : Env) : Option Sl :=
  match r with
  | .val d => some (.sh d)
  | .own (.fz d) => some (.sh d)
  | .own o => some (.ow o)
  | .bor j => match ρ[j]? with
    | some (.sh d) => some (.sh d)
    | some (.br d) => some (.br d)
    | _ => none
/-- a slot that may be stored to -/
def free (i : Nat) (ρ : Env) : Bool := match ρ[i]? with
  | some (.io _) => false
  | some _ => true
  | none => false
def putSlot (i : Nat) (r : RV) (ρ : Env) : Option Env :=
  if free i ρ then (slotOf i r ρ).map fun s => ρ.set i s else none
theorem put_ok {C : Cn} {fp : Fp} {Hs Hd H : Hp} {fps : Fp} {Hds : Hp} {σ : St} {ρ ρ' : Env} {r : RV} {v : V} {i : Nat} (s : Stp fps Hds Hs fp Hd H) (I : Inv K C fp Hd H σ ρ) (h : (rV K).r C Hs fp Hd H σ r v) (e : putSlot i r ρ = some ρ') :
    ∃ fp', Stp fps Hds Hs fp' Hd H ∧ Inv K C fp' Hd H (σ.set i (some v)) ρ' := by
  unfold putSlot at e
  cases hf : free i ρ with
  | false => rw [hf] at e; cases e
  | true =>
    rw [hf] at e
    unfold free at hf
    cases es : ρ[i]? with
    | none => rw [es] at hf; cases hf
    | some s0 =>
      have hi : i < ρ.length := (List.getElem?_eq_some_iff.mp es).1
      have hσ : (σ.set i (some v))[i]? = some (some v) := List.getElem?_set_self (by rw [I.len]; exact hi)
      have fin : ∀ {s' : Sl} {A' : List Addr}, ρ' = ρ.set i s' → SlotOk K C Hd H i s' (σ.set i (some v))[i]? A' → (∀ a ∈ A', Hs a = none ∧ ∀ j, a ∉ fp j) → ∃ fp', Stp fps Hds Hs fp' Hd H ∧ Inv K C fp' Hd H (σ.set i (some v)) ρ' := fun {s' A'} e' hs hA => by
        subst e'
        exact ⟨_, stp_loose s fun a ha => (hA a ha).1, I.set_slot hi hs (fun a ha j _ => (hA a ha).2 j) (by simp) fun j hj => List.getElem?_set_ne (Ne.symm hj)⟩
      cases r with
      | val d => cases e; exact fin rfl ⟨rfl, v, hσ, h⟩ fun _ h => by cases h
      | own o =>
        obtain ⟨A, ow, nd, f⟩ := h
        have go : ∀ o', o' = o → ρ' = ρ.set i (.ow o') → ∃ fp', Stp fps Hds Hs fp' Hd H ∧ Inv K C fp' Hd H (σ.set i (some v)) ρ' := fun o' eo e' => by
          subst eo
          exact fin e' ⟨v, hσ, ow, nd, fun a ha => ⟨(f a ha).1, (f a ha).2.1⟩⟩ fun a ha => ⟨(f a ha).2.2.2, (f a ha).2.2.1⟩
        cases o with
        | fz d => cases e; cases ow; rename_i r; exact fin rfl ⟨rfl, v, hσ, r⟩ fun _ h => by cases h
        | lst ds => cases e; exact go _ rfl rfl
        | dic ds => cases e; exact go _ rfl rfl
        | ins c fs => cases e; exact go _ rfl rfl
      | bor j =>
        have h : σ[j]? = some (some v) := h
        simp only [slotOf] at e
        cases ej : ρ[j]? with
        | none => rw [ej] at e; cases e
        | some s1 =>
          have q := I.slot j s1 ej
          rw [h] at q
          rw [ej] at e
          cases s1 with
          | un => cases e
          | ow o => cases e
          | io o => cases e
          | sh d =>
            cases e
            obtain ⟨_, w, ew, r⟩ := q
            cases ew
            exact fin rfl ⟨rfl, v, hσ, r⟩ fun _ h => by cases h
          | br d =>
            cases e
            obtain ⟨_, w, ew, t⟩ := q
            cases ew
            exact fin rfl ⟨rfl, v, hσ, t⟩ fun _ h => by cases h
def gSet (i : Nat) (fa : Env → Res RV) : Env → SR := fun ρ => (fa ρ).thn fun r ρ1 => match putSlot i r ρ1 with
  | some ρ2 => .nx ρ2
  | none => .no
theorem ss_set {i : Nat} {ta : TE} {fa : Env → Res RV} (h : Sd K W (rV K) ta fa) : Ss K W (L2.tAsg ta (L2.gName i)) (gSet i fa) := fun C fp Hd H σ ρ I D p =>
  -- the heap ahead is asked for: the run's own
  h C fp Hd H σ ρ I _ (by
    have p : PostS K W C fp Hd H ((fa ρ).thn fun r ρ1 => match putSlot i r ρ1 with | some ρ2 => .nx ρ2 | none => .no) D := p
    cases e : fa ρ with
    | no => rw [e] at p; exact p
    | ex c ρ1 => rw [e] at p; exact fun d fp1 Hd1 H1 s1 I1 hx => p d σ fp1 Hd1 H1 s1 I1 hx
    | ok r ρ1 =>
      rw [e] at p
      intro v fp1 Hd1 H1 s1 I1 hr
      simp only [Res.thn] at p
      cases ep : putSlot i r ρ1 with
      | none => rw [ep] at p; exact p.elim
      | some ρ2 =>
        rw [ep] at p
        obtain ⟨fp2, s2, I2⟩ := put_ok s1 I1 hr ep
        exact p _ fp2 Hd1 H1 s2 I2)
/-- several targets of a value -/
inductive Tg where
  | name (i : Nat) | tup (ts : List Tg)
def takeN (i : Nat) (d : D) (ρ : Env) : Option Env := putSlot i (.val d) ρ
mutual
def takeT : Tg → D → Env → Option Env
  | .name i, d, ρ => putSlot i (.val d) ρ
  | .tup ts, .tup ds, ρ => takeTs ts ds ρ
  | .tup _, _, _ => none
def takeTs : List Tg → List D → Env → Option Env
  | [], [], ρ => some ρ
  | t :: ts, d :: ds, ρ => match takeT t d ρ with
    | some ρ1 => takeTs ts ds ρ1
    | none => none
  | _, _, _ => none
end
mutual
def slotsT : Tg → List Nat
  | .name i => [i]
  | .tup ts => slotsTs ts
def slotsTs : List Tg → List Nat
  | [] => []
  | t :: ts => slotsT t ++ slotsTs ts
end
/-- but for some slots the frame is as it was -/
def SameS (us : List Nat) (σ σ' : St) : Prop := ∀ vs : List Nat, (∀ u ∈ us, u ∈ vs) → L2.wipe σ' vs = L2.wipe σ vs
theorem setC {α : Type} : ∀ (l : List α) {i j : Nat} {a b : α}, i ≠ j → (l.set i a).set j b = (l.set j b).set i a
  | [], _, _, _, _, _ => rfl
  | _ :: _, 0, 0, _, _, h => absurd rfl h
  | _ :: _, 0, _ + 1, _, _, _ => rfl
  | _ :: _, _ + 1, 0, _, _, _ => rfl
  | x :: l, i + 1, j + 1, a, b, h => by
    show x :: (l.set i a).set j b = x :: (l.set j b).set i a
    rw [setC l (fun e => h (by rw [e]))]
theorem wipe_set {σ : St} {j : Nat} {x : Option V} : ∀ {vs : List Nat}, j ∈ vs → L2.wipe (σ.set j x) vs = L2.wipe σ vs
  | [], h => by cases h
  | v :: vs, h => by
    unfold L2.wipe
    by_cases e : j ∈ vs
    · rw [wipe_set e]
    · have e' : j = v := (List.mem_cons.mp h).elim id fun z => absurd z e
      subst e'
      have out : ∀ (σ : St) (vs : List Nat), j ∉ vs → ∀ x y, (L2.wipe (σ.set j x) vs).set j y = (L2.wipe σ vs).set j y := by
        intro σ vs
        induction vs with
        | nil => intro _ x y; unfold L2.wipe; rw [List.set_set]
        | cons w vs ih =>
          intro hn x y
          have h1 : j ≠ w := fun z => hn (by simp [z])
          have h2 : j ∉ vs := fun z => hn (by simp [z])
          unfold L2.wipe
          rw [setC _ h1.symm, setC _ h1.symm, ih h2 x y]
      exact out σ vs e x none
theorem SameS.refl {us : List Nat} {σ : St} : SameS us σ σ := fun _ _ => rfl
theorem SameS.trans {us us' : List Nat} {σ σ1 σ2 : St} (a : SameS us σ σ1) (b : SameS us' σ1 σ2) : SameS (us ++ us') σ σ2 := fun vs h =>
  (b vs fun u hu => h u (by simp [hu])).trans (a vs fun u hu => h u (by simp [hu]))
theorem SameS.set {j : Nat} {σ : St} {x : Option V} : SameS [j] σ (σ.set j x) := fun vs h => wipe_set (h j (by simp))
/-- what a target's reading does with frozen data -/
def Gt (K : PySem.W.Frag) (g : TG) (t : Tg) : Prop :=
  ∀ (C : Cn) (fp : Fp) (Hd H : Hp) (σ : St) (ρ ρ' : Env) (d : D) (v : V), Inv K C fp Hd H σ ρ → Rep K Hd d v → takeT t d ρ = some ρ' → ∀ Q : St → Hp → Prop, (∀ σ' fp', SameS (slotsT t) σ σ' → Stp fp Hd H fp' Hd H → Inv K C fp' Hd H σ' ρ' → Q σ' H) → g v σ H Q
def Gts (K : PySem.W.Frag) (g : TGs) (ts : List Tg) : Prop :=
  ∀ (C : Cn) (fp : Fp) (Hd H : Hp) (σ : St) (ρ ρ' : Env) (ds : List D) (vs : List V), Inv K C fp Hd H σ ρ → Reps K Hd ds vs → takeTs ts ds ρ = some ρ' → ∀ Q : St → Hp → Prop, (∀ σ' fp', SameS (slotsTs ts) σ σ' → Stp fp Hd H fp' Hd H → Inv K C fp' Hd H σ' ρ' → Q σ' H) → g vs σ H Q
theorem gt_name {i : Nat} : Gt K (L2.gName i) (.name i) := fun C fp Hd H σ ρ ρ' d v I h e Q q => by
  obtain ⟨fp', s, I'⟩ := put_ok (r := .val d) (.refl fp Hd H) I h (by simpa [takeT] using e)
  exact q _ fp' .set s I'
theorem gts_nil : Gts K L2.gNil [] := fun C fp Hd H σ ρ ρ' ds vs I r e Q q => by
  cases r with
  | nil => simp [takeTs] at e; subst e; exact ⟨rfl, q σ fp .refl (.refl _ _ _) I⟩
  | cons _ _ => simp [takeTs] at e
theorem gts_cons {g : TG} {gs : TGs} {t : Tg} {ts : List Tg} (h : Gt K g t) (hs : Gts K gs ts) : Gts K (L2.gCons g gs) (t :: ts) := fun C fp Hd H σ ρ ρ' ds vs I r e Q q => by
  cases r with
  | nil => simp [takeTs] at e
  | cons h1 r =>
    rename_i d v ds vs
    simp only [takeTs] at e
    cases e1 : takeT t d ρ with
    | none => rw [e1] at e; cases e
    | some ρ1 =>
      rw [e1] at e
      exact ⟨v, vs, rfl, h C fp Hd H σ ρ ρ1 d v I h1 e1 _ fun σ1 fp1 m1 s1 I1 => hs C fp1 Hd H σ1 ρ1 ρ' ds vs I1 r e Q fun σ2 fp2 m2 s2 I2 => q σ2 fp2 (by rw [slotsTs]; exact m1.trans m2) (s1.trans s2) I2⟩
theorem takeTs_len : ∀ {ts : List Tg} {ds : List D} {ρ ρ' : Env}, takeTs ts ds ρ = some ρ' → ds.length = ts.length
  | [], [], _, _, _ => rfl
  | [], _ :: _, _, _, e => by simp [takeTs] at e
  | _ :: _, [], _, _, e => by simp [takeTs] at e
  | t :: ts, d :: ds, ρ, ρ', e => by
    simp only [takeTs] at e
    cases e1 : takeT t d ρ with
    | none => rw [e1] at e; cases e
    | some ρ1 => rw [e1] at e; simp [takeTs_len e]
theorem gt_tup {gs : TGs} {ts : List Tg} {n : Nat} (hn : ts.length = n) (h : Gts K gs ts) : Gt K (L2.gTup K n gs) (.tup ts) := fun C fp Hd H σ ρ ρ' d v I hr e Q q => by
  cases d with
  | tup ds =>
    simp only [takeT] at e
    cases hr with
    | tup ht r => exact ⟨_, _, rfl, I.le.sqT ht, by rw [r.length, takeTs_len e]; exact hn, h C fp Hd H σ ρ ρ' ds _ I r e Q (by rw [slotsT] at q; exact q)⟩
  | _ => simp [takeT] at e
/-- target = value, the value frozen -/
def gAsg (t : Tg) (fa : Env → Res RV) : Env → SR := fun ρ => ((fa ρ).bind fz).thn fun d ρ1 => match takeT t d ρ1 with
  | some ρ2 => .nx ρ2
  | none => .no
theorem ss_asg {g : TG} {t : Tg} {ta : TE} {fa : Env → Res RV} (h : Sd K W (rV K) ta fa) (hg : Gt K g t) : Ss K W (L2.tAsg ta g) (gAsg t fa) := fun C fp Hd H σ ρ I D p =>
  h.fz.runS I p fun d v fp1 Hd1 H1 ρ1 s1 I1 hr p => by
    cases e : takeT t d ρ1 with
    | none => rw [e] at p; exact p.elim
    | some ρ2 => rw [e] at p; exact hg C fp1 Hd1 H1 σ ρ1 ρ2 d v I1 hr e _ fun σ' fp' _ s' I' => p σ' fp' Hd1 H1 s' I'
/-- an answer with what it was before -/
theorem rV_stp {C : Cn} {Hs : Hp} {fp fp' : Fp} {Hd H Hd' H' : Hp} {σ : St} {r : RV} {v : V} (s : Stp fp Hd H fp' Hd' H') (h : (rV K).r C Hs fp Hd H σ r v) : (rV K).r C Hs fp' Hd' H' σ r v := by
  cases r with
  | val d => exact Rep.mono s.hd h
  | bor i => exact h
  | own o =>
    obtain ⟨A, ow, nd, f⟩ := h
    refine ⟨A, ow.frame s.hd fun a ha u e => s.keep a u e (f a ha).2.2.1, nd, fun a ha => ⟨?_, (f a ha).2.1, fun i hi => ?_, (f a ha).2.2.2⟩⟩
    · cases e : Hd' a with
      | none => rfl
      | some u =>
        rcases s.fr a (by rw [e]; intro z; cases z) with q | q | ⟨i, q⟩
        · exact absurd (f a ha).1 q
        · exact absurd q (ow.there a ha)
        · exact absurd q ((f a ha).2.2.1 i)
    · rcases s.fpx i a hi with ⟨j, hj⟩ | q
      · exact (f a ha).2.2.1 j hj
      · exact ow.there a ha q
/-- borrowed things are taken along as what they are -/
def hold (r : RV) (ρ : Env) : Option RV :=
  match r with
  | .bor j => match ρ[j]? with
    | some (.sh d) => some (.val d)
    | some (.br d) => if d.still then some (.val d) else none
    | _ => none
  | r => some r
theorem hold_ok {C : Cn} {Hs : Hp} {fp : Fp} {Hd H : Hp} {σ : St} {ρ : Env} {r z : RV} {v : V} (I : Inv K C fp Hd H σ ρ) (h : (rV K).r C Hs fp Hd H σ r v) (e : hold r ρ = some z) : (rV K).r C Hs fp Hd H σ z v ∧ ∀ i, z ≠ .bor i := by
  cases r with
  | val d => cases e; exact ⟨h, fun _ z => nomatch z⟩
  | own o => cases e; exact ⟨h, fun _ z => nomatch z⟩
  | bor j =>
    have h : σ[j]? = some (some v) := h
    simp only [hold] at e
    cases es : ρ[j]? with
    | none => rw [es] at e; cases e
    | some s =>
      have q := I.slot j s es
      rw [h] at q
      rw [es] at e
      cases s with
      | un => cases e
      | ow _ => cases e
      | io _ => cases e
      | sh d => cases e; obtain ⟨_, w, ew, r⟩ := q; cases ew; exact ⟨r, fun _ z => nomatch z⟩
      | br d =>
        obtain ⟨_, w, ew, t, n⟩ := q
        cases ew
        simp only at e
        cases hs : d.still with
        | false => rw [hs] at e; cases e
        | true => rw [hs] at e; cases e; exact ⟨(I.brTop t n).still hs, fun _ z => nomatch z⟩
/-- a value by itself, made between Hs and He -/
def rW (K : PySem.W.Frag) (C : Cn) (Hs He : Hp) (fp : Fp) (Hd H : Hp) (r : RV) (v : V) : Prop :=
  match r with
  | .val d => Rep K Hd d v
  | .own o => ∃ A, Own K Hd H o v A ∧ A.Nodup ∧ ∀ a ∈ A, Hd a = none ∧ C.H0 a = none ∧ (∀ i, a ∉ fp i) ∧ Hs a = none ∧ He a ≠ none
  | .bor _ => False
theorem rW_of {C : Cn} {Hs : Hp} {fp : Fp} {Hd H : Hp} {σ : St} {r : RV} {v : V} (hn : ∀ j, r ≠ .bor j) (h : (rV K).r C Hs fp Hd H σ r v) : rW K C Hs H fp Hd H r v := by
  cases r with
  | val d => exact h
  | bor j => exact absurd rfl (hn j)
  | own o =>
    obtain ⟨A, ow, nd, f⟩ := h
    exact ⟨A, ow, nd, fun a ha => ⟨(f a ha).1, (f a ha).2.1, (f a ha).2.2.1, (f a ha).2.2.2, ow.there a ha⟩⟩
theorem rW_back {C : Cn} {Hs Hs' He : Hp} {fp : Fp} {Hd H : Hp} {r : RV} {v : V} (d : ∀ x, Hs x ≠ none → Hs' x ≠ none) (h : rW K C Hs' He fp Hd H r v) : rW K C Hs He fp Hd H r v := by
  cases r with
  | val d => exact h
  | bor j => exact h
  | own o =>
    obtain ⟨A, ow, nd, f⟩ := h
    exact ⟨A, ow, nd, fun a ha => ⟨(f a ha).1, (f a ha).2.1, (f a ha).2.2.1, none_back d (f a ha).2.2.2.1, (f a ha).2.2.2.2⟩⟩
theorem rW_stp {C : Cn} {Hs He : Hp} {fp fp' : Fp} {Hd H Hd' H' : Hp} {r : RV} {v : V} (s : Stp fp Hd H fp' Hd' H') (h : rW K C Hs He fp Hd H r v) : rW K C Hs He fp' Hd' H' r v := by
  cases r with
  | val d => exact Rep.mono s.hd h
  | bor i => exact h
  | own o =>
    obtain ⟨A, ow, nd, f⟩ := h
    refine ⟨A, ow.frame s.hd fun a ha u e => s.keep a u e (f a ha).2.2.1, nd, fun a ha => ⟨?_, (f a ha).2.1, fun i hi => ?_, (f a ha).2.2.2⟩⟩
    · cases e : Hd' a with
      | none => rfl
      | some u =>
        rcases s.fr a (by rw [e]; intro z; cases z) with q | q | ⟨i, q⟩
        · exact absurd (f a ha).1 q
        · exact absurd q (ow.there a ha)
        · exact absurd q ((f a ha).2.2.1 i)
    · rcases s.fpx i a hi with ⟨j, hj⟩ | q
      · exact (f a ha).2.2.1 j hj
      · exact ow.there a ha q
/-- values one after the other, each made behind the one before it -/
def Chain (K : PySem.W.Frag) (C : Cn) (fp : Fp) (Hd H : Hp) : Hp → List RV → List V → Prop
  | _, [], [] => True
  | Hs, r :: rs, v :: vs => ∃ He, rW K C Hs He fp Hd H r v ∧ (∀ x, Hs x ≠ none → He x ≠ none) ∧ Chain K C fp Hd H He rs vs
  | _, _, _ => False
theorem Chain.back {C : Cn} {Hs Hs' : Hp} {fp : Fp} {Hd H : Hp} {rs : List RV} {vs : List V} (d : ∀ x, Hs x ≠ none → Hs' x ≠ none) (h : Chain K C fp Hd H Hs' rs vs) : Chain K C fp Hd H Hs rs vs := by
  cases rs with
  | nil => cases vs with
    | nil => trivial
    | cons _ _ => exact h
  | cons r rs => cases vs with
    | nil => exact h
    | cons v vs =>
      obtain ⟨He, h1, d1, h2⟩ := h
      exact ⟨He, rW_back d h1, fun x q => d1 x (d x q), h2⟩
theorem Chain.imp {C : Cn} {fp fp' : Fp} {Hd H Hd' H' H0 : Hp} (hw : ∀ {Hs He : Hp} {r : RV} {v : V}, (∀ x, H0 x ≠ none → Hs x ≠ none) → rW K C Hs He fp Hd H r v → rW K C Hs He fp' Hd' H' r v) :
    ∀ {rs : List RV} {vs : List V} {Hs : Hp}, (∀ x, H0 x ≠ none → Hs x ≠ none) → Chain K C fp Hd H Hs rs vs → Chain K C fp' Hd' H' Hs rs vs
  | [], [], _, _, _ => trivial
  | [], _ :: _, _, _, h => h
  | _ :: _, [], _, _, h => h
  | r :: rs, v :: vs, Hs, d, h => by
    obtain ⟨He, h1, d1, h2⟩ := h
    exact ⟨He, hw d h1, d1, Chain.imp hw (fun x q => d1 x (d x q)) h2⟩
/-- a value stored; what was made behind it stays as it is -/
theorem put_W {C : Cn} {fps fp : Fp} {Hds Hs He Hd H : Hp} {σ : St} {ρ ρ' : Env} {r : RV} {v : V} {i : Nat} {Hb : Hp} (s : Stp fps Hds Hb fp Hd H) (db : ∀ x, Hb x ≠ none → Hs x ≠ none) (I : Inv K C fp Hd H σ ρ) (h : rW K C Hs He fp Hd H r v) (e : putSlot i r ρ = some ρ') :
    ∃ fp', Stp fps Hds Hb fp' Hd H ∧ Inv K C fp' Hd H (σ.set i (some v)) ρ' ∧ ∀ {rs : List RV} {vs : List V}, Chain K C fp Hd H He rs vs → Chain K C fp' Hd H He rs vs := by
  have keep : ∀ {A : List Addr}, (∀ a ∈ A, He a ≠ none) → ∀ {rs : List RV} {vs : List V}, Chain K C fp Hd H He rs vs → Chain K C (setF fp i A) Hd H He rs vs := fun {A} hA {rs vs} h =>
    Chain.imp (fun {Hq Hr r v} d h => by
      cases r with
      | val x => exact h
      | bor j => exact h
      | own o =>
        obtain ⟨B, ow, nd, f⟩ := h
        refine ⟨B, ow, nd, fun a ha => ⟨(f a ha).1, (f a ha).2.1, fun j hj => ?_, (f a ha).2.2.2⟩⟩
        by_cases ej : j = i
        · subst ej
          rw [setF_same] at hj
          exact d a (hA a hj) (f a ha).2.2.2.1
        · rw [setF_ne ej] at hj
          exact (f a ha).2.2.1 j hj) (fun _ h => h) h
  unfold putSlot at e
  cases hf : free i ρ with
  | false => rw [hf] at e; cases e
  | true =>
    rw [hf] at e
    have hi : i < ρ.length := by
      unfold free at hf
      cases es : ρ[i]? with
      | none => rw [es] at hf; cases hf
      | some _ => exact (List.getElem?_eq_some_iff.mp es).1
    have hσ : (σ.set i (some v))[i]? = some (some v) := List.getElem?_set_self (by rw [I.len]; exact hi)
    cases r with
    | bor j => exact h.elim
    | val d =>
      cases e
      exact ⟨_, stp_loose s (fun _ h => by cases h), I.set_slot hi ⟨rfl, v, hσ, h⟩ (fun _ h => by cases h) (by simp) fun j hj => List.getElem?_set_ne (Ne.symm hj), keep (fun _ h => by cases h)⟩
    | own o =>
      obtain ⟨A, ow, nd, f⟩ := h
      have go : ∀ {s' : Sl} {A' : List Addr}, ρ' = ρ.set i s' → (∀ a ∈ A', a ∈ A) → SlotOk K C Hd H i s' (σ.set i (some v))[i]? A' → ∃ fp', Stp fps Hds Hb fp' Hd H ∧ Inv K C fp' Hd H (σ.set i (some v)) ρ' ∧ ∀ {rs : List RV} {vs : List V}, Chain K C fp Hd H He rs vs → Chain K C fp' Hd H He rs vs := fun {s' A'} e' hA hs => by
        subst e'
        exact ⟨_, stp_loose s (fun a ha => none_back db (f a (hA a ha)).2.2.2.1), I.set_slot hi hs (fun a ha j _ => (f a (hA a ha)).2.2.1 j) (by simp) fun j hj => List.getElem?_set_ne (Ne.symm hj), keep fun a ha => (f a (hA a ha)).2.2.2.2⟩
      have slot : ∀ {o' : OD}, o' = o → SlotOk K C Hd H i (.ow o') (σ.set i (some v))[i]? A := fun {o'} e => by
        subst e
        exact ⟨v, hσ, ow, nd, fun a ha => ⟨(f a ha).1, (f a ha).2.1⟩⟩
      cases o with
      | fz d => cases e; cases ow; rename_i r; exact go (A' := []) rfl (fun _ h => by cases h) ⟨rfl, v, hσ, r⟩
      | lst ds => cases e; exact go (A' := A) rfl (fun _ h => h) (slot rfl)
      | dic ds => cases e; exact go (A' := A) rfl (fun _ h => h) (slot rfl)
      | ins c fs => cases e; exact go (A' := A) rfl (fun _ h => h) (slot rfl)
/-- what several places take -/
def putMany : List Nat → List RV → Env → Option Env
  | [], [], ρ => some ρ
  | i :: is, r :: rs, ρ => match putSlot i r ρ with
    | some ρ1 => putMany is rs ρ1
    | none => none
  | _, _, _ => none
def setMany : List Nat → List V → St → St
  | i :: is, v :: vs, σ => setMany is vs (σ.set i (some v))
  | _, _, σ => σ
theorem putMany_ok : ∀ {is : List Nat} {rs : List RV} {vs : List V} {C : Cn} {Hs Hb : Hp} {fp : Fp} {Hd H : Hp} {fps : Fp} {Hds : Hp} {σ : St} {ρ ρ' : Env}, Stp fps Hds Hb fp Hd H → (∀ x, Hb x ≠ none → Hs x ≠ none) → Inv K C fp Hd H σ ρ → Chain K C fp Hd H Hs rs vs → putMany is rs ρ = some ρ' →
    vs.length = is.length ∧ ∃ fp', Stp fps Hds Hb fp' Hd H ∧ Inv K C fp' Hd H (setMany is vs σ) ρ' := by
  intro is
  induction is with
  | nil =>
    intro rs vs C Hs Hb fp Hd H fps Hds σ ρ ρ' s d I m e
    cases rs with
    | cons _ _ => cases e
    | nil => cases vs with
      | nil => cases e; exact ⟨rfl, fp, s, I⟩
      | cons _ _ => exact False.elim m
  | cons i is ih =>
    intro rs vs C Hs Hb fp Hd H fps Hds σ ρ ρ' s d I m e
    cases rs with
    | nil => cases e
    | cons r rs => cases vs with
      | nil => exact False.elim m
      | cons v vs =>
        simp only [putMany] at e
        cases e1 : putSlot i r ρ with
        | none => rw [e1] at e; cases e
        | some ρ1 =>
          rw [e1] at e
          obtain ⟨He, h1, d1, h2⟩ := m
          obtain ⟨fp1, s1, I1, k1⟩ := put_W s d I h1 e1
          obtain ⟨q, fp2, s2, I2⟩ := ih s1 (fun x h => d1 x (d x h)) I1 (k1 h2) e
          exact ⟨by simp [q], fp2, s2, I2⟩
/-- several values in a row, held -/
def hNil : Env → Res (List RV) := fun ρ => .ok [] ρ
def hCons (fa : Env → Res RV) (fr : Env → Res (List RV)) : Env → Res (List RV) := fun ρ => (fa ρ).bind fun r ρ1 => match hold r ρ1 with
  | some z => (fr ρ1).bind fun rs ρ2 => .ok (z :: rs) ρ2
  | none => .no
def rM (K : PySem.W.Frag) : Rel (List RV) (List V) := ⟨fun C Hs fp Hd H _ rs vs => Chain K C fp Hd H Hs rs vs, fun d m => Chain.back d m⟩
theorem sm_nil : Sd K W (rM K) tNil hNil := fun C fp Hd H σ ρ I Q p => p.now I trivial
theorem sm_cons {ta : TE} {fa : Env → Res RV} {tr : TA} {fr : Env → Res (List RV)} (ha : Sd K W (rV K) ta fa) (hr : Sd K W (rM K) tr fr) : Sd K W (rM K) (tCons ta tr) (hCons fa fr) := fun C fp Hd H σ ρ I Q p => by
  refine ha C fp Hd H σ ρ I _ ?_
  have p : Post K W C (rM K) fp Hd H σ (hCons fa fr ρ) Q := p
  unfold hCons at p
  cases e : fa ρ with
  | no => rw [e] at p; exact p
  | ex c ρ1 => rw [e] at p; exact p
  | ok r ρ1 =>
    simp only [e, Res.bind] at p
    intro v fp1 Hd1 H1 s1 I1 h1
    cases eh : hold r ρ1 with
    | none => simp only [eh] at p; exact p.elim
    | some z =>
      simp only [eh] at p
      obtain ⟨h1, hz⟩ := hold_ok I1 h1 eh
      refine hr C fp1 Hd1 H1 σ ρ1 I1 _ ?_
      cases e2 : fr ρ1 with
      | no => simp only [e2] at p; exact p
      | ex c ρ2 => simp only [e2] at p; exact fun d fp2 Hd2 H2 s2 => p d fp2 Hd2 H2 (s1.trans s2)
      | ok rs ρ2 =>
        simp only [e2] at p
        intro vs fp2 Hd2 H2 s2 I2 m
        exact p (v :: vs) fp2 Hd2 H2 (s1.trans s2) I2 ⟨H1, rW_stp s2 (rW_of hz h1), s1.dom, m⟩
def gParN (is : List Nat) (fa : Env → Res (List RV)) : Env → SR := fun ρ => (fa ρ).thn fun rs ρ1 => match putMany is rs ρ1 with
  | some ρ2 => .nx ρ2
  | none => .no
theorem parN {is : List Nat} {ta : TA} {fa : Env → Res (List RV)} (ha : Sd K W (rM K) ta fa) {C : Cn} {fp : Fp} {Hd H : Hp} {σ : St} {ρ : Env} (I : Inv K C fp Hd H σ ρ) {D : Ends} (p : PostS K W C fp Hd H (gParN is fa ρ) D) {Q : List V → Hp → Prop}
    (q : ∀ vs H', vs.length = is.length → D.nx (setMany is vs σ) H' → Q vs H') : ta σ H Q := by
  refine ha C fp Hd H σ ρ I _ ?_
  unfold gParN at p
  cases e : fa ρ with
  | no => rw [e] at p; exact p
  | ex c ρ1 => rw [e] at p; exact fun d fp1 Hd1 H1 s1 I1 hx => p d σ fp1 Hd1 H1 s1 I1 hx
  | ok rs ρ1 =>
    simp only [e, Res.thn] at p
    intro vs fp1 Hd1 H1 s1 I1 m
    cases e1 : putMany is rs ρ1 with
    | none => simp only [e1] at p; exact p.elim
    | some ρ2 =>
      simp only [e1] at p
      obtain ⟨hl, fp2, s2, I2⟩ := putMany_ok s1 (fun _ h => h) I1 m e1
      exact q vs H1 hl (p _ fp2 Hd1 H1 s2 I2)
theorem ss_par {i j : Nat} {ta : TA} {fa : Env → Res (List RV)} (ha : Sd K W (rM K) ta fa) : Ss K W (L2.tPar i j ta) (gParN [i, j] fa) := fun C fp Hd H σ ρ I D p =>
  parN ha I p fun vs H' hl q => match vs, hl with
    | [v, w], _ => ⟨v, w, rfl, q⟩
theorem ss_par3 {i j l : Nat} {ta : TA} {fa : Env → Res (List RV)} (ha : Sd K W (rM K) ta fa) : Ss K W (L2.tPar3 i j l ta) (gParN [i, j, l] fa) := fun C fp Hd H σ ρ I D p =>
  parN ha I p fun vs H' hl q => match vs, hl with
    | [u, v, w], _ => ⟨u, v, w, rfl, q⟩
end
end O

/-! Own5: what is walked, for, while, comprehensions, things changed in place, a def's promise by its body -/
namespace O
open PySem
open L2 (V Hp HO Rd SqL SqT upd upd_same upd_ne ne_of ne_of_none TE TT TA TS TG TGs TI It VK XK Ends St PE PT PW PA PS PSs PG PGs PI Cx OpR UnR CallR R2 tOp tUn tVar tC tCons tNil tTup tLst tTest tB tAnd tOr tNot tAndV tOrV tNotV tIf tCB Sp FnOk)
section
variable {K : PySem.W.Frag} {W : St → XK}
/-! ### what is walked -/
def WalkD (K : PySem.W.Frag) (C : Cn) (Hd0 : Hp) (J : It) (ds : List D) : Prop :=
  L2.Walk J ds.length (fun H => ∃ fp Hd σ ρ, Inv K C fp Hd H σ ρ ∧ Le Hd0 Hd) fun i H x H' => ∃ d, ds[i]? = some d ∧ ∀ fp Hd σ ρ, Inv K C fp Hd H σ ρ → Le Hd0 Hd → NewR K Hd H (.val d) x H'
def PostI (K : PySem.W.Frag) (W : St → XK) (C : Cn) (fp : Fp) (Hd H : Hp) (σ : St) (x : Res (List D)) (R : It → Hp → Prop) : Prop :=
  match x with
  | .ok ds ρ' => ∀ J fp' Hd' H', Stp fp Hd H fp' Hd' H' → Inv K C fp' Hd' H' σ ρ' → WalkD K C Hd' J ds → R J H'
  | .ex c ρ' => ∀ d fp' Hd' H', Stp fp Hd H fp' Hd' H' → Inv K C fp' Hd' H' σ ρ' → ExAt K Hd' H' c d → W σ c.cls d H'
  | .no => False
def Si (K : PySem.W.Frag) (W : St → XK) (wi : TI) (fi : Env → Res (List D)) : Prop :=
  ∀ (C : Cn) (fp : Fp) (Hd H : Hp) (σ : St) (ρ : Env), Inv K C fp Hd H σ ρ → ∀ R : It → Hp → Prop, PostI K W C fp Hd H σ (fi ρ) R → wi σ H R
structure JI (X : Cx) (W : St → XK) (tg iter : Expr) (wi : TI) (fi : Env → Res (List D)) : Prop where
  pi : PI X tg iter wi
  si : Si X.K W wi fi
/-! ### for -/
def forD (k : D → Env → Option Env) (g : Env → SR) : List D → Env → SR
  | [], ρ => .nx ρ
  | d :: ds, ρ => match k d ρ with
    | none => .no
    | some ρ1 => match g ρ1 with
      | .nx ρ2 => forD k g ds ρ2
      | .ct ρ2 => forD k g ds ρ2
      | .bk ρ2 => .nx ρ2
      | .rt r ρ2 => .rt r ρ2
      | .ex e ρ2 => .ex e ρ2
      | .no => .no
def gFor (fi : Env → Res (List D)) (t : Tg) (g : Env → SR) : Env → SR := fun ρ => (fi ρ).thn fun ds ρ1 => forD (takeT t) g ds ρ1
theorem Inv.newD {C : Cn} {fp : Fp} {Hd H : Hp} {σ : St} {ρ : Env} {d : D} {x : V} {H' : Hp} (I : Inv K C fp Hd H σ ρ) (n : NewR K Hd H (.val d) x H') : ∃ Hd', Stp fp Hd H fp Hd' H' ∧ Inv K C fp Hd' H' σ ρ ∧ Rep K Hd' d x := by
  obtain ⟨Hd', s, I', h⟩ := n.at I
  exact ⟨Hd', s, I', h⟩
theorem ss_for {wi : TI} {fi : Env → Res (List D)} {gt : TG} {t : Tg} {tb : TS} {g : Env → SR} (hi : Si K W wi fi) (hg : Gt K gt t) (hb : Ss K W tb g) : Ss K W (L2.tFor wi gt tb) (gFor fi t g) := fun C fp Hd H σ ρ I D p => by
  refine hi C fp Hd H σ ρ I _ ?_
  have p : PostS K W C fp Hd H ((fi ρ).thn fun ds ρ1 => forD (takeT t) g ds ρ1) D := p
  cases e : fi ρ with
  | no => rw [e] at p; exact p
  | ex c ρ1 => rw [e] at p; exact fun d fp1 Hd1 H1 s1 I1 hx => p d σ fp1 Hd1 H1 s1 I1 hx
  | ok ds ρ1 =>
    rw [e] at p
    simp only [Res.thn] at p
    intro J fp1 Hd1 H1 s1 I1 w
    refine L2.for_it w (fun i σ' H' => ∃ fp' Hd' ρ', Inv K C fp' Hd' H' σ' ρ' ∧ Le Hd1 Hd' ∧ PostS K W C fp' Hd' H' (forD (takeT t) g (ds.drop i) ρ') D) ⟨fp1, Hd1, ρ1, I1, .refl _, PostS.stp s1 p⟩ (fun i σ' H' _ ⟨fp', Hd', ρ', I', l, _⟩ => ⟨fp', Hd', σ', ρ', I', l⟩) ?_ ?_
    · rintro i x σ' H' H'' hi ⟨fp', Hd', ρ', I', l, p'⟩ ⟨d, hd, hy⟩
      obtain ⟨Hd2, s2, I2, r2⟩ := I'.newD (hy fp' Hd' σ' ρ' I' l)
      have p2 := PostS.stp s2 p'
      have e1 : ds.drop i = d :: ds.drop (i + 1) := by
        obtain ⟨hl, e⟩ := List.getElem?_eq_some_iff.mp hd
        rw [← e]; exact (List.drop_eq_getElem_cons hl)
      rw [e1] at p2
      simp only [forD] at p2
      cases ek : takeT t d ρ' with
      | none => simp only [ek] at p2; exact p2.elim
      | some ρ3 =>
        simp only [ek] at p2
        refine hg C fp' Hd2 H'' σ' ρ' ρ3 d x I2 r2 ek _ fun σ3 fp3 _ s3 I3 => ?_
        have p3 := PostS.stp s3 p2
        refine hb C fp3 Hd2 H'' σ3 ρ3 I3 _ ?_
        have l3 : Le Hd1 Hd2 := l.trans s2.hd
        cases eg : g ρ3 with
        | nx ρ4 => simp only [eg] at p3; exact fun σ4 fp4 Hd4 H4 s4 I4 => ⟨fp4, Hd4, ρ4, I4, l3.trans s4.hd, PostS.stp s4 p3⟩
        | ct ρ4 => simp only [eg] at p3; exact fun σ4 fp4 Hd4 H4 s4 I4 => ⟨fp4, Hd4, ρ4, I4, l3.trans s4.hd, PostS.stp s4 p3⟩
        | bk ρ4 => simp only [eg] at p3; exact p3
        | rt r ρ4 => simp only [eg] at p3; exact p3
        | ex c ρ4 => simp only [eg] at p3; exact p3
        | no => simp only [eg] at p3; exact p3
    · rintro σ' H' ⟨fp', Hd', ρ', I', l, p'⟩
      rw [List.drop_length] at p'
      exact p'.now I'
/-! ### while -/
def whileF (c : Env → Res Bool) (g : Env → SR) : Nat → Env → SR
  | 0, _ => .no
  | n + 1, ρ => (c ρ).thn fun b ρ1 => if b = true then
      match g ρ1 with
      | .nx ρ2 => whileF c g n ρ2
      | .ct ρ2 => whileF c g n ρ2
      | .bk ρ2 => .nx ρ2
      | .rt r ρ2 => .rt r ρ2
      | .ex e ρ2 => .ex e ρ2
      | .no => .no
    else .nx ρ1
@[irreducible] def FU : Nat := 1000000000
def gWhile (c : Env → Res Bool) (g : Env → SR) : Env → SR := whileF c g FU
theorem ss_while {tc : TT} {tb : TS} {c : Env → Res Bool} {g : Env → SR} (hc : Sd K W rB tc c) (hb : Ss K W tb g) : Ss K W (L2.tWhile tc tb) (gWhile c g) := fun C fp Hd H σ ρ I D p => by
  refine ⟨fun n σ' H' => ∃ fp' Hd' ρ', Inv K C fp' Hd' H' σ' ρ' ∧ PostS K W C fp' Hd' H' (whileF c g n ρ') D, ⟨FU, fp, Hd, ρ, I, p⟩, ?_⟩
  rintro n σ' H' ⟨fp', Hd', ρ', I', p'⟩
  cases n with
  | zero => exact p'.elim
  | succ n =>
    refine hc.runS I' p' fun b b' fp1 Hd1 H1 ρ1 s1 I1 e p1 => ?_
    have e : b' = b := e
    subst e
    cases b' with
    | false => exact p1.now I1
    | true =>
      refine ⟨fun σ2 H2 => ∃ fp2 Hd2 ρ2, Inv K C fp2 Hd2 H2 σ2 ρ2 ∧ PostS K W C fp2 Hd2 H2 (whileF c g n ρ2) D, fun σ2 H2 h => ⟨n, by omega, h⟩, ?_⟩
      refine hb C fp1 Hd1 H1 σ' ρ1 I1 _ ?_
      simp only [if_true] at p1
      cases eg : g ρ1 with
      | nx ρ4 => simp only [eg] at p1; exact fun σ4 fp4 Hd4 H4 s4 I4 => ⟨fp4, Hd4, ρ4, I4, PostS.stp s4 p1⟩
      | ct ρ4 => simp only [eg] at p1; exact fun σ4 fp4 Hd4 H4 s4 I4 => ⟨fp4, Hd4, ρ4, I4, PostS.stp s4 p1⟩
      | bk ρ4 => simp only [eg] at p1; exact p1
      | rt r ρ4 => simp only [eg] at p1; exact p1
      | ex c ρ4 => simp only [eg] at p1; exact p1
      | no => simp only [eg] at p1; exact p1
end
/-! ### things changed in place -/
section
variable {K : PySem.W.Frag} {C : Cn} {fp : Fp} {Hd H : Hp} {σ : St} {ρ : Env}
def ownAt (i : Nat) (ρ : Env) : Option OD := match ρ[i]? with
  | some (.ow o) => some o
  | some (.io o) => some o
  | _ => none
def setOw (i : Nat) (o : OD) (ρ : Env) : Env := match ρ[i]? with
  | some (.ow _) => ρ.set i (.ow o)
  | some (.io _) => ρ.set i (.io o)
  | _ => ρ
/-- the owned thing of a name -/
theorem ownAt_ok {i : Nat} {o : OD} (I : Inv K C fp Hd H σ ρ) (e : ownAt i ρ = some o) : ∃ v, σ[i]? = some (some v) ∧ Own K Hd H o v (fp i) ∧ (fp i).Nodup ∧ ∀ a ∈ fp i, Hd a = none := by
  unfold ownAt at e
  cases es : ρ[i]? with
  | none => rw [es] at e; cases e
  | some s =>
    have q := I.slot i s es
    rw [es] at e
    cases s with
    | un => cases e
    | sh _ => cases e
    | br _ => cases e
    | ow o' => cases e; obtain ⟨v, ev, ow, nd, f⟩ := q; exact ⟨v, ev, ow, nd, fun a ha => (f a ha).1⟩
    | io o' => cases e; obtain ⟨v, ev, ow, nd, f, _⟩ := q; exact ⟨v, ev, ow, nd, fun a ha => (f a ha).1⟩
/-- its top object changed -/
theorem Inv.mutate {i : Nat} {o o' : OD} {v : V} {a : Addr} {u : HO} (I : Inv K C fp Hd H σ ρ) (e : ownAt i ρ = some o) (hv : σ[i]? = some (some v)) (ha : a ∈ fp i) (hn : Own K Hd (upd H a u) o' v (fp i)) :
    Stp fp Hd H fp Hd (upd H a u) ∧ Inv K C fp Hd (upd H a u) σ (setOw i o' ρ) := by
  have hHd : Hd a = none := (I.fpOk ha).2.1
  have st : Stp fp Hd H fp Hd (upd H a u) := ⟨.refl _, fun _ h => .inl h, fun b o h n => by
    rw [upd_ne (fun z => n i (by rw [z]; exact ha))]; exact h, fun b h => by
    by_cases z : b = a
    · rw [z, upd_same]; intro w; cases w
    · rw [upd_ne z]; exact h, fun j b h => .inl ⟨j, h⟩⟩
  have le' : Le Hd (upd H a u) := ⟨fun b w r => by
    have nb : b ≠ a := fun z => by
      rw [z] at r
      rcases r with r | ⟨_, r⟩ <;> rw [hHd] at r <;> cases r
    rcases I.le b w r with q | ⟨x, q⟩
    · exact .inl (by rw [upd_ne nb]; exact q)
    · exact .inr ⟨x, by rw [upd_ne nb]; exact q⟩, fun b x w r => by
    have nb : b ≠ a := fun z => by rw [z, hHd] at r; cases r
    rw [upd_ne nb]; exact I.le.fr b x w r⟩
  refine ⟨st, ?_⟩
  have hC : a ∈ C.M i ∨ C.H0 a = none := (I.fpOk ha).2.2
  have slots : ∀ j s, j ≠ i → ρ[j]? = some s → SlotOk K C Hd (upd H a u) j s σ[j]? (fp j) := fun j s hj es => (I.slot j s es).ext (.refl _) (fun _ _ h => h) fun b hb w h => by
    rw [upd_ne (fun z => hj (I.dis j i b hb (by rw [z]; exact ha)))]; exact h
  have fin : ∀ s', (∃ s0, ρ[i]? = some s0) → SlotOk K C Hd (upd H a u) i s' σ[i]? (fp i) → Inv K C fp Hd (upd H a u) σ (ρ.set i s') := fun s' ⟨s0, es⟩ hs => by
    have hi : i < ρ.length := (List.getElem?_eq_some_iff.mp es).1
    refine ⟨le', I.hd0, fun b o h n => ?_, fun b h => st.dom b (I.dom b h), I.fresh, by rw [List.length_set]; exact I.len, fun j s es' => ?_, fun j hj => I.out j (by rw [List.length_set] at hj; exact hj), I.dis⟩
    · have nb : b ≠ a := fun z => by
        subst z
        rcases hC with q | q
        · exact n i q
        · rw [q] at h; cases h
      rw [upd_ne nb]; exact I.keep b o h n
    · by_cases hj : j = i
      · subst hj
        rw [List.getElem?_set_self hi] at es'
        cases es'
        exact hs
      · rw [List.getElem?_set_ne (Ne.symm hj)] at es'
        exact slots j s hj es'
  unfold setOw
  unfold ownAt at e
  cases es : ρ[i]? with
  | none => rw [es] at e; cases e
  | some s =>
    have q := I.slot i s es
    rw [es] at e
    cases s with
    | un => cases e
    | sh _ => cases e
    | br _ => cases e
    | ow x =>
      cases e
      obtain ⟨w, ew, ow, nd, f⟩ := q
      rw [hv] at ew; cases ew
      exact fin _ ⟨_, es⟩ ⟨v, hv, hn, nd, f⟩
    | io x =>
      cases e
      obtain ⟨w, ew, ow, nd, f, m⟩ := q
      rw [hv] at ew; cases ew
      exact fin _ ⟨_, es⟩ ⟨v, hv, hn, nd, f, m⟩
end
section
variable {K : PySem.W.Frag} {W : St → XK}
/-- a method that changes the list of a name; its arguments are frozen -/
def rGMut (K : PySem.W.Frag) (g : List D → List D → Option (List D × D)) : V → List V → Hp → VK → Prop := fun x vs H Q => ∃ (l : Addr) (xs : List V) (Hd : Hp) (ds es : List D) (ds' : List D) (z : D), x = .ref l ∧ H l = some (.lst xs) ∧ Reps K Hd ds xs ∧ Reps K Hd es vs ∧ g ds es = some (ds', z) ∧
  ∀ xs' v, Reps K Hd ds' xs' → Rep K Hd z v → Q v (upd H l (.lst xs'))
def fMut (i : Nat) (fa : Env → Res (List RV)) (g : List D → List D → Option (List D × D)) : Env → Res RV := fun ρ => (fa ρ).bind fun rs ρ1 => match vals rs, ownAt i ρ1 with
  | some es, some (.lst ds) => match g ds es with
    | some (ds', z) => .ok (.val z) (setOw i (.lst ds') ρ1)
    | none => .no
  | _, _ => .no
theorem tyV_list {H : Hp} {a : Addr} {xs : List V} (h : H a = some (.lst xs)) : L2.tyV K "list" (.ref a) H := .inl ⟨rfl, xs, .of h⟩
/-- ahead of the arguments the name must hold a list, too -/
theorem sd_mut {i : Nat} {ta : TA} {fa : Env → Res (List RV)} {g : List D → List D → Option (List D × D)} (ha : Sd K W (rA K) ta fa) : Sd K W (rV K) (L2.tBM K "list" (rGMut K g) (tVar i) ta) (fun ρ => match ownAt i ρ with
    | some (.lst _) => fMut i fa g ρ
    | _ => .no) := fun C fp Hd H σ ρ I Q p => by
  have p : Post K W C (rV K) fp Hd H σ (match ownAt i ρ with | some (.lst _) => fMut i fa g ρ | _ => .no) Q := p
  cases eo : ownAt i ρ with
  | none => rw [eo] at p; exact p.elim
  | some o =>
    cases o with
    | fz d => rw [eo] at p; exact p.elim
    | dic d => rw [eo] at p; exact p.elim
    | ins c d => rw [eo] at p; exact p.elim
    | lst ds0 =>
      rw [eo] at p
      obtain ⟨v, hv, ow, nd, hn⟩ := ownAt_ok I eo
      generalize hA : fp i = A at ow nd hn
      cases ow with
      | lst h r =>
        refine ⟨_, hv, tyV_list h, ?_⟩
        refine ha.run I p fun rs vs fp1 Hd1 H1 ρ1 s1 I1 hr p1 => ?_
        cases ev : vals rs with
        | none => simp only [ev] at p1; exact p1.elim
        | some es =>
          cases eo1 : ownAt i ρ1 with
          | none => simp only [ev, eo1] at p1; exact p1.elim
          | some o1 =>
            cases o1 with
            | fz d => simp only [ev, eo1] at p1; exact p1.elim
            | dic d => simp only [ev, eo1] at p1; exact p1.elim
            | ins c d => simp only [ev, eo1] at p1; exact p1.elim
            | lst ds =>
              simp only [ev, eo1] at p1
              cases eg : g ds es with
              | none => simp only [eg] at p1; exact p1.elim
              | some q =>
                obtain ⟨ds', z⟩ := q
                simp only [eg] at p1
                obtain ⟨v1, hv1, ow1, nd1, hn1⟩ := ownAt_ok I1 eo1
                rw [hv] at hv1
                cases hv1
                generalize hA1 : fp1 i = A1 at ow1
                cases ow1 with
                | lst h1 r1 =>
                  refine ⟨_, _, Hd1, ds, es, ds', z, rfl, h1, r1, reps_of hr ev, eg, fun xs' v' r' rz => ?_⟩
                  obtain ⟨s2, I2⟩ := I1.mutate (o' := .lst ds') (u := .lst xs') eo1 hv (by rw [hA1]; exact List.mem_singleton.mpr rfl) (by rw [hA1]; exact .lst upd_same r')
                  exact p1 v' fp1 Hd1 _ s2 I2 rz
/-- xs[i] = e, of an owned list -/
def gSetI (i : Nat) (fi fe : Env → Res RV) : Env → SR := fun ρ => ((fe ρ).bind fz).thn fun d ρ1 => match ownAt i ρ1 with
  | some (.lst _) => (fi ρ1).thn fun r ρ2 => match rd r ρ2, ownAt i ρ2 with
    | some (.int k), some (.lst ds) => match L2.ixN ds.length k with
      | some j => .nx (setOw i (.lst (ds.set j d)) ρ2)
      | none => .no
    | _, _ => .no
  | _ => .no
theorem ss_setI {i : Nat} {ti te : TE} {fi fe : Env → Res RV} (hi : Sd K W (rV K) ti fi) (he : Sd K W (rV K) te fe) : Ss K W (L2.tAsg te (L2.gSub (tVar i) ti L2.rSetL)) (gSetI i fi fe) := fun C fp Hd H σ ρ I D p =>
  he.fz.runS I p fun d v fp1 Hd1 H1 ρ1 s1 I1 hd p1 => by
    cases eo : ownAt i ρ1 with
    | none => simp only [eo] at p1; exact p1.elim
    | some o =>
      obtain ⟨w, hw, ow, nd, hn⟩ := ownAt_ok I1 eo
      cases o with
      | fz d => simp only [eo] at p1; exact p1.elim
      | dic d => simp only [eo] at p1; exact p1.elim
      | ins c d => simp only [eo] at p1; exact p1.elim
      | lst ds0 =>
        simp only [eo] at p1
        refine ⟨w, hw, ?_⟩
        refine hi.runS I1 p1 fun r x fp2 Hd2 H2 ρ2 s2 I2 hr p2 => ?_
        cases er : rd r ρ2 with
        | none => simp only [er] at p2; exact p2.elim
        | some dk =>
          cases dk with
          | int k =>
            cases eo2 : ownAt i ρ2 with
            | none => simp only [er, eo2] at p2; exact p2.elim
            | some o2 =>
              cases o2 with
              | fz d => simp only [er, eo2] at p2; exact p2.elim
              | dic d => simp only [er, eo2] at p2; exact p2.elim
              | ins c d => simp only [er, eo2] at p2; exact p2.elim
              | lst ds =>
                simp only [er, eo2] at p2
                cases ej : L2.ixN ds.length k with
                | none => simp only [ej] at p2; exact p2.elim
                | some j =>
                  simp only [ej] at p2
                  obtain ⟨v2, hv2, ow2, nd2, hn2⟩ := ownAt_ok I2 eo2
                  rw [hw] at hv2
                  cases hv2
                  generalize hA2 : fp2 i = A2 at ow2
                  cases ow2 with
                  | lst h2 r2 =>
                    obtain ⟨s3, I3⟩ := I2.mutate (o' := .lst (ds.set j d)) (u := .lst (List.set _ j v)) eo2 hw (by rw [hA2]; exact List.mem_singleton.mpr rfl) (by rw [hA2]; exact .lst upd_same (r2.set j (hd.mono s2.hd)))
                    exact ⟨_, _, k, j, rfl, (I2.rdTop (rV_loose hr) er).intD, h2, by rw [r2.length]; exact ej, p2 σ fp2 Hd2 _ s3 I3⟩
          | _ => simp only [er] at p2; exact p2.elim
/-! dicts -/
def keyD : D → Option L2.Key
  | .int i => some (.inl i)
  | .str x => some (.inr x)
  | _ => none
theorem key_v {Hd H : Hp} {d : D} {v : V} {k : L2.Key} (t : Top K Hd H d v) (e : keyD d = some k) : v = L2.kV k := by
  cases d with
  | int i => cases e; exact t.intD
  | str x => cases e; exact t.strD
  | _ => cases e
def getD (kvs : List (L2.Key × D)) (k : L2.Key) : Option D := (kvs.find? fun kv => decide (kv.1 = k)).map (·.2)
def putD (kvs : List (L2.Key × D)) (k : L2.Key) (d : D) : List (L2.Key × D) :=
  if (kvs.any fun kv => decide (kv.1 = k)) = true then kvs.map (fun kv => if kv.1 = k then (kv.1, d) else kv) else kvs ++ [(k, d)]
theorem Repk.any {H : Hp} {k : L2.Key} : ∀ {kvs : List (L2.Key × D)} {kws : List (L2.Key × V)}, Repk K H kvs kws → (kws.any fun kv => decide (kv.1 = k)) = (kvs.any fun kv => decide (kv.1 = k))
  | _, _, .nil => rfl
  | _, _, .cons _ r => by simp [Repk.any r]
theorem Repk.get {H : Hp} {k : L2.Key} : ∀ {kvs : List (L2.Key × D)} {kws : List (L2.Key × V)}, Repk K H kvs kws → (getD kvs k = none ∧ L2.valV kws k = none) ∨ ∃ d v, getD kvs k = some d ∧ L2.valV kws k = some v ∧ Rep K H d v
  | _, _, .nil => .inl ⟨rfl, rfl⟩
  | _, _, .cons (k := k') (d := d) (v := v) h r => by
    by_cases e : k' = k
    · exact .inr ⟨d, v, by simp [getD, List.find?_cons, e], by simp [L2.valV, List.find?_cons, e], h⟩
    · rcases Repk.get (k := k) r with ⟨q1, q2⟩ | ⟨d', v', q1, q2, q3⟩
      · exact .inl ⟨by simpa [getD, List.find?_cons, e] using q1, by simpa [L2.valV, List.find?_cons, e] using q2⟩
      · exact .inr ⟨d', v', by simpa [getD, List.find?_cons, e] using q1, by simpa [L2.valV, List.find?_cons, e] using q2, q3⟩
theorem Repk.append {H : Hp} : ∀ {a b : List (L2.Key × D)} {a' b' : List (L2.Key × V)}, Repk K H a a' → Repk K H b b' → Repk K H (a ++ b) (a' ++ b')
  | _, _, _, _, .nil, s => s
  | _, _, _, _, .cons h r, s => .cons h (Repk.append r s)
theorem Repk.mapPut {H : Hp} {k : L2.Key} {d : D} {v : V} (h : Rep K H d v) : ∀ {a : List (L2.Key × D)} {a' : List (L2.Key × V)}, Repk K H a a' → Repk K H (a.map fun kv => if kv.1 = k then (kv.1, d) else kv) (a'.map fun kv => if kv.1 = k then (kv.1, v) else kv)
  | _, _, .nil => .nil
  | _, _, .cons (k := k') q r => by
    by_cases e : k' = k
    · simp only [List.map_cons, e, if_true]; exact .cons h (Repk.mapPut h r)
    · simp only [List.map_cons, e, if_false]; exact .cons q (Repk.mapPut h r)
theorem Repk.put {H : Hp} {k : L2.Key} {d : D} {v : V} {a : List (L2.Key × D)} {a' : List (L2.Key × V)} (r : Repk K H a a') (h : Rep K H d v) : Repk K H (putD a k d) (L2.putK a' k v) := by
  unfold putD L2.putK
  rw [r.any]
  split
  · exact r.mapPut h
  · exact r.append (.cons h .nil)
/-- d[k] = e, of an owned dict -/
def gPutI (i : Nat) (fi fe : Env → Res RV) : Env → SR := fun ρ => ((fe ρ).bind fz).thn fun d ρ1 => match ownAt i ρ1 with
  | some _ => (fi ρ1).thn fun r ρ2 => match (rd r ρ2).bind keyD, ownAt i ρ2 with
    | some k, some (.dic kvs) => if kvs.length < sizeLine then .nx (setOw i (.dic (putD kvs k d)) ρ2) else .no
    | _, _ => .no
  | none => .no
theorem ss_putI {i : Nat} {ti te : TE} {fi fe : Env → Res RV} (hi : Sd K W (rV K) ti fi) (he : Sd K W (rV K) te fe) : Ss K W (L2.sDPut (tVar i) ti te) (gPutI i fi fe) := fun C fp Hd H σ ρ I D p =>
  he.fz.runS I p fun d v fp1 Hd1 H1 ρ1 s1 I1 hd p1 => by
    cases eo : ownAt i ρ1 with
    | none => simp only [eo] at p1; exact p1.elim
    | some o =>
      simp only [eo] at p1
      obtain ⟨w, hw, ow, nd, hn⟩ := ownAt_ok I1 eo
      refine ⟨w, hw, ?_⟩
      refine hi.runS I1 p1 fun r x fp2 Hd2 H2 ρ2 s2 I2 hr p2 => ?_
      cases er : rd r ρ2 with
      | none => simp only [er, Option.bind] at p2; exact p2.elim
      | some dk =>
        cases ek : keyD dk with
        | none => simp only [er, Option.bind, ek] at p2; exact p2.elim
        | some k =>
          cases eo2 : ownAt i ρ2 with
          | none => simp only [er, Option.bind, ek, eo2] at p2; exact p2.elim
          | some o2 =>
            cases o2 with
            | fz d => simp only [er, Option.bind, ek, eo2] at p2; exact p2.elim
            | lst d => simp only [er, Option.bind, ek, eo2] at p2; exact p2.elim
            | ins c d => simp only [er, Option.bind, ek, eo2] at p2; exact p2.elim
            | dic kvs =>
              simp only [er, Option.bind, ek, eo2] at p2
              by_cases hz : kvs.length < sizeLine
              · rw [if_pos hz] at p2
                obtain ⟨v2, hv2, ow2, nd2, hn2⟩ := ownAt_ok I2 eo2
                rw [hw] at hv2
                cases hv2
                generalize hA2 : fp2 i = A2 at ow2
                cases ow2 with
                | dic h2 r2 =>
                  rename_i a kws
                  obtain ⟨s3, I3⟩ := I2.mutate (o' := .dic (putD kvs k d)) (u := .dK (L2.putK kws k v)) eo2 hw (by rw [hA2]; exact List.mem_singleton.mpr rfl) (by rw [hA2]; exact .dic upd_same (r2.put (hd.mono s2.hd)))
                  have := key_v (I2.rdTop (rV_loose hr) er) ek
                  subst this
                  exact ⟨a, _, rfl, L2.DPut.k h2 (by rw [r2.length]; exact hz), p2 σ fp2 Hd2 _ s3 I3⟩
              · rw [if_neg hz] at p2; exact p2.elim
end
/-! ### a def's promise by its body -/
section
variable {K : PySem.W.Frag}
def slotA : Ar → Sl
  | .sh d => .sh d
  | .br d => .br d
  | .io o => .io o
def startE (n : Nat) (as : List Ar) : Env := as.map slotA ++ List.replicate (n - as.length) .un
/-- what became of the arguments that are changed -/
def outsOf : List Ar → Env → Option (List (Option OD))
  | [], _ => some []
  | .io _ :: as, .io o :: ρ => (outsOf as ρ).map (some o :: ·)
  | .io _ :: _, _ => none
  | _ :: as, _ :: ρ => (outsOf as ρ).map (none :: ·)
  | _ :: _, [] => none
def runF (n : Nat) (g : Env → SR) (as : List Ar) : FO :=
  match g (startE n as) with
  | .nx ρ => match outsOf as ρ with
    | some os => .ret (.val .non) os
    | none => .no
  | .rt r ρ => match outsOf as ρ with
    | some os => match r with
      | .bor _ => .no
      | r => .ret r os
    | none => .no
  | .ex e ρ => match outsOf as ρ with
    | some os => .exc e os
    | none => .no
  | _ => .no
theorem outsOf_io : ∀ {as : List Ar} {ρ : Env} {os : List (Option OD)}, outsOf as ρ = some os → ∀ (j : Nat) (o : OD), os[j]? = some (some o) → ρ[j]? = some (Sl.io o) ∧ ∃ o0, as[j]? = some (Ar.io o0)
  | [], _, _, h, j, o, e => by cases h; simp at e
  | .io o0 :: as, .io o1 :: ρ, os, h, j, o, e => by
    simp only [outsOf] at h
    cases h1 : outsOf as ρ with
    | none => rw [h1] at h; cases h
    | some os' =>
      rw [h1] at h; cases h
      cases j with
      | zero => simp at e; subst e; exact ⟨rfl, o0, rfl⟩
      | succ j => exact outsOf_io (as := as) (ρ := ρ) (os := os') h1 j o (by simpa using e)
  | .io _ :: _, .un :: _, _, h, _, _, _ => by cases h
  | .io _ :: _, .sh _ :: _, _, h, _, _, _ => by cases h
  | .io _ :: _, .br _ :: _, _, h, _, _, _ => by cases h
  | .io _ :: _, .ow _ :: _, _, h, _, _, _ => by cases h
  | .io _ :: _, [], _, h, _, _, _ => by cases h
  | .sh _ :: as, s :: ρ, os, h, j, o, e => by
    simp only [outsOf] at h
    cases h1 : outsOf as ρ with
    | none => rw [h1] at h; cases h
    | some os' =>
      rw [h1] at h; cases h
      cases j with
      | zero => simp at e
      | succ j => exact outsOf_io (as := as) (ρ := ρ) (os := os') h1 j o (by simpa using e)
  | .br _ :: as, s :: ρ, os, h, j, o, e => by
    simp only [outsOf] at h
    cases h1 : outsOf as ρ with
    | none => rw [h1] at h; cases h
    | some os' =>
      rw [h1] at h; cases h
      cases j with
      | zero => simp at e
      | succ j => exact outsOf_io (as := as) (ρ := ρ) (os := os') h1 j o (by simpa using e)
  | .sh _ :: _, [], _, h, _, _, _ => by cases h
  | .br _ :: _, [], _, h, _, _, _ => by cases h
theorem body_ok {n m : Nat} {N : List Str} {g : Env → SR} {t : TS} {vs : List V} {H : Hp} {Q : VK} {E : XK} (hN : N.length = n) (hm : m ≤ n) (hb : Ss K (fun _ => E) t g) (h : spF K m (runF n g) vs H Q E) :
    t { nx := fun _ H' => Q .non H', rt := Q } (L2.start N vs) H := by
  obtain ⟨Hd, as, fp, l, hl, A, p⟩ := h
  have hv : vs.length = m := by rw [← A.len]; exact hl
  let C : Cn := { H0 := H, Hd0 := Hd, M := fp, io := fun i v => vs[i]? = some v }
  have σ0 : ∀ i v, vs[i]? = some v → (L2.start N vs)[i]? = some (some v) := fun i v e => by
    unfold L2.start
    have hi : i < vs.length := (List.getElem?_eq_some_iff.mp e).1
    rw [List.getElem?_append_left (by simpa using hi), List.getElem?_map, e]; rfl
  have I : Inv K C fp Hd H (L2.start N vs) (startE n as) := by
    refine ⟨l, .refl _, fun b o e _ => e, fun b h => h, fun b h => .inl h, ?_, fun i s e => ?_, fun i hi => ?_, A.dis⟩
    · unfold L2.start startE
      simp only [List.length_append, List.length_map, List.length_replicate]
      omega
    · by_cases hi : i < as.length
      · unfold startE at e
        rw [List.getElem?_append_left (by simpa using hi), List.getElem?_map] at e
        cases ea : as[i]? with
        | none => rw [ea] at e; cases e
        | some a =>
          rw [ea] at e
          cases e
          have hiv : i < vs.length := by rw [← A.len]; exact hi
          have ev : vs[i]? = some vs[i] := by simp [hiv]
          have q := A.ok i a _ ea ev
          have eσ := σ0 i _ ev
          cases a with
          | sh d => exact ⟨q.1, _, eσ, q.2⟩
          | br d => exact ⟨q.1, _, eσ, q.2.1, q.2.2⟩
          | io o => exact ⟨_, eσ, q.1, q.2.1, fun a ha => ⟨q.2.2 a ha, .inl ha⟩, ev⟩
      · have : s = .un := by
          unfold startE at e
          rw [List.getElem?_append_right (by simpa using Nat.le_of_not_lt hi), List.getElem?_replicate] at e
          split at e
          · cases e; rfl
          · cases e
        subst this
        exact A.out i (Nat.le_of_not_lt hi)
    · refine A.out i ?_
      have : as.length ≤ (startE n as).length := by unfold startE; simp
      omega
  have fin : ∀ {σ' : St} {fp' : Fp} {Hd' H' : Hp} {ρ' : Env} {os : List (Option OD)}, Stp fp Hd H fp' Hd' H' → Inv K C fp' Hd' H' σ' ρ' → outsOf as ρ' = some os → FinOk K Hd H fp vs os Hd' H' fp' := fun {σ' fp' Hd' H' ρ' os} s I' eo => by
    refine ⟨I'.hd0, I'.le, I'.fresh, I'.keep, I'.dom, fun j o v e1 e2 => ?_, I'.dis⟩
    obtain ⟨e3, o0, e4⟩ := outsOf_io eo j o e1
    have q := I'.slot j _ e3
    obtain ⟨w, ew, ow, nd, f, m⟩ := q
    have m : vs[j]? = some w := m
    rw [e2] at m
    cases m
    exact ⟨ow, nd, f⟩
  refine hb C fp Hd H _ _ I _ ?_
  unfold runF at p
  cases eg : g (startE n as) with
  | nx ρ' =>
    rw [eg] at p
    simp only at p
    cases eo : outsOf as ρ' with
    | none => rw [eo] at p; exact p.elim
    | some os => rw [eo] at p; exact fun σ' fp' Hd' H' s I' => p .non Hd' H' fp' (fin s I' eo) Rep.non
  | rt r ρ' =>
    rw [eg] at p
    simp only at p
    cases eo : outsOf as ρ' with
    | none => rw [eo] at p; exact p.elim
    | some os =>
      rw [eo] at p
      intro v σ' fp' Hd' H' s I' hr
      cases r with
      | bor i => exact p.elim
      | val d => exact p v Hd' H' fp' (fin s I' eo) hr
      | own o =>
        obtain ⟨B, ow, nd, f⟩ := hr
        exact p v Hd' H' fp' (fin s I' eo) ⟨B, ow, nd, f⟩
  | ex c ρ' =>
    rw [eg] at p
    simp only at p
    cases eo : outsOf as ρ' with
    | none => rw [eo] at p; exact p.elim
    | some os => rw [eo] at p; exact fun d σ' fp' Hd' H' s I' hx => p d Hd' H' fp' (fin s I' eo) hx
  | bk ρ' => rw [eg] at p; exact p.elim
  | ct ρ' => rw [eg] at p; exact p.elim
  | no => rw [eg] at p; exact p.elim
end
end O

/-! Own6: list comprehensions; what lists, tuples, ranges .. give to a walk -/
namespace O
open PySem
open L2 (V Hp HO Rd SqL SqT upd upd_same upd_ne ne_of ne_of_none TE TT TA TS TG TGs TI It VK XK Ends St PE PT PW PA PS PSs PG PGs PI Cx OpR UnR CallR R2 tOp tUn tVar tC tCons tNil tTup tLst tTest tB tAnd tOr tNot tAndV tOrV tNotV tIf tCB Sp FnOk wipe)
section
variable {K : PySem.W.Frag} {C : Cn} {fp : Fp} {Hd H : Hp} {σ : St} {ρ : Env}
def wipeE (ρ : Env) : List Nat → Env
  | [] => ρ
  | v :: vs => (wipeE ρ vs).set v .un
def restE (ρ0 : Env) : List Nat → Env → Env
  | [], ρ => ρ
  | v :: vs, ρ => restE ρ0 vs (ρ.set v ((wipeE ρ0 vs)[v]?.getD .un))
theorem wipeE_len (ρ : Env) : ∀ vs, (wipeE ρ vs).length = ρ.length
  | [] => rfl
  | v :: vs => by unfold wipeE; rw [List.length_set, wipeE_len ρ vs]
theorem set_out {α : Type} {l : List α} {i : Nat} {a : α} (h : l.length ≤ i) : l.set i a = l := List.set_eq_of_length_le h
theorem Inv.drop1 {v : Nat} (I : Inv K C fp Hd H σ ρ) : Inv K C (setF fp v []) Hd H (σ.set v none) (ρ.set v .un) := by
  by_cases hi : v < ρ.length
  · exact I.set_slot hi rfl (fun _ h => by cases h) (by simp) fun j hj => List.getElem?_set_ne (Ne.symm hj)
  · rw [set_out (l := ρ) (by omega), set_out (l := σ) (by rw [I.len]; omega)]
    have e : setF fp v [] = fp := by
      funext j
      unfold setF
      split
      · rename_i e; subst e; rw [I.out j (by omega)]
      · rfl
    rw [e]; exact I
theorem stp_drop1 {v : Nat} : Stp fp Hd H (setF fp v []) Hd H := stp_setF fun _ h => by cases h
theorem Inv.wipe (I : Inv K C fp Hd H σ ρ) : ∀ vs : List Nat, ∃ fp', Inv K C fp' Hd H (L2.wipe σ vs) (wipeE ρ vs) ∧ Stp fp Hd H fp' Hd H
  | [] => ⟨fp, I, .refl _ _ _⟩
  | v :: vs => by
    obtain ⟨fp', I', s'⟩ := Inv.wipe I vs
    exact ⟨setF fp' v [], I'.drop1, s'.trans stp_drop1⟩
/-- the block's names are given back -/
theorem Inv.rest : ∀ (vs : List Nat) {fp0 fpb : Fp} {Hd0 H0 Hd' H' : Hp} {ρ0 ρb : Env}, Inv K C fp0 Hd0 H0 σ ρ0 →
    ∀ {fpw : Fp}, (∀ j, fpw j = if j ∈ vs then [] else fp0 j) → Stp fpw Hd0 H0 fpb Hd' H' → Inv K C fpb Hd' H' (L2.wipe σ vs) ρb → ∃ fp', Inv K C fp' Hd' H' σ (restE ρ0 vs ρb) ∧ Stp fp0 Hd0 H0 fp' Hd' H' ∧ ∀ j a, a ∈ fp' j → a ∈ fpb j ∨ a ∈ fp0 j := by
  intro vs
  induction vs with
  | nil =>
    intro fp0 fpb Hd0 H0 Hd' H' ρ0 ρb I0 fpw hw s I
    have e : fpw = fp0 := by funext j; rw [hw]; simp
    subst e
    exact ⟨fpb, I, s, fun _ _ h => .inl h⟩
  | cons v vs ih =>
    intro fp0 fpb Hd0 H0 Hd' H' ρ0 ρb I0 fpw hw s I
    -- the slot v as it is with the others wiped
    have Iw : ∀ (us : List Nat), Inv K C (fun j => if j ∈ us then [] else fp0 j) Hd0 H0 (L2.wipe σ us) (wipeE ρ0 us) := by
      intro us
      induction us with
      | nil => simpa [L2.wipe, wipeE] using I0
      | cons u us ihu =>
        have := ihu.drop1 (v := u)
        have e : setF (fun j => if j ∈ us then [] else fp0 j) u [] = fun j => if j ∈ u :: us then [] else fp0 j := by
          funext j
          unfold setF
          by_cases h : j = u
          · simp [h]
          · by_cases h2 : j ∈ us <;> simp [h, h2]
        rw [e] at this
        exact this
    have I1 := Iw vs
    unfold restE
    by_cases hv : v < ρ0.length
    · have hvw : v < (wipeE ρ0 vs).length := by rw [wipeE_len]; exact hv
      have es : (wipeE ρ0 vs)[v]? = some (wipeE ρ0 vs)[v] := by simp [hvw]
      have q := I1.slot v _ es
      generalize hA : (if v ∈ vs then [] else fp0 v) = A at q
      have hlen : ρb.length = ρ0.length := by rw [← I.len, L2.wipe_length]; exact I0.len
      have far : ∀ a ∈ A, ∀ j, a ∉ fpw j := fun a ha j hj => by
        rw [hw] at hj
        by_cases h1 : j ∈ v :: vs
        · rw [if_pos h1] at hj; cases hj
        · rw [if_neg h1] at hj
          by_cases h2 : v ∈ vs
          · rw [if_pos h2] at hA; subst hA; cases ha
          · rw [if_neg h2] at hA
            subst hA
            have := I0.dis j v a hj ha
            exact h1 (by simp [this])
      have q2 : SlotOk K C Hd' H' v (wipeE ρ0 vs)[v] (L2.wipe σ vs)[v]? A := q.ext s.hd (fun a ha n => by
        cases e : Hd' a with
        | none => rfl
        | some u =>
          rcases s.fr a (by rw [e]; intro z; cases z) with z | z | ⟨j, z⟩
          · exact absurd n z
          · exact absurd z (q.there a ha)
          · exact absurd z (far a ha j)) fun a ha u h => s.keep a u h (far a ha)
      have dj : ∀ a ∈ A, ∀ j, a ∉ fpb j := fun a ha j hj => by
        rcases s.fpx j a hj with ⟨k, z⟩ | z
        · exact far a ha k z
        · exact q.there a ha z
      have I2 := I.set_slot (i := v) (s' := (wipeE ρ0 vs)[v]) (A' := A) (σ' := L2.wipe σ vs) (by rw [hlen]; exact hv) q2 (fun a ha j _ => dj a ha j) (by rw [L2.wipe_length, L2.wipe_length]) (fun j hj => by
        show (L2.wipe σ vs)[j]? = ((L2.wipe σ vs).set v none)[j]?
        rw [List.getElem?_set_ne (Ne.symm hj)])
      have e3 : (wipeE ρ0 vs)[v]?.getD .un = (wipeE ρ0 vs)[v] := by rw [es]; rfl
      rw [e3]
      have st : Stp (fun j => if j ∈ vs then [] else fp0 j) Hd0 H0 (setF fpb v A) Hd' H' := ?st
      · obtain ⟨fp', J1, J2, J3⟩ := ih I0 (fpw := fun j => if j ∈ vs then [] else fp0 j) (fun _ => rfl) st I2
        refine ⟨fp', J1, J2, fun j a h => ?_⟩
        rcases J3 j a h with z | z
        · by_cases e : j = v
          · subst e
            rw [setF_same] at z
            by_cases h2 : j ∈ vs
            · rw [if_pos h2] at hA; subst hA; cases z
            · rw [if_neg h2] at hA; subst hA; exact .inr z
          · rw [setF_ne e] at z; exact .inl z
        · exact .inr z
      refine ⟨s.hd, fun b h => ?_, fun b o h n => s.keep b o h fun j hj => ?_, s.dom, fun j b h => ?_⟩
      · rcases s.fr b h with z | z | ⟨j, z⟩
        · exact .inl z
        · exact .inr (.inl z)
        · refine .inr (.inr ⟨j, ?_⟩)
          rw [hw] at z
          by_cases h1 : j ∈ v :: vs
          · rw [if_pos h1] at z; cases z
          · rw [if_neg h1] at z
            show b ∈ (if j ∈ vs then [] else fp0 j)
            rw [if_neg fun h2 => h1 (List.mem_cons_of_mem _ h2)]; exact z
      · rw [hw] at hj
        by_cases h1 : j ∈ v :: vs
        · rw [if_pos h1] at hj; cases hj
        · rw [if_neg h1] at hj
          refine n j ?_
          show b ∈ (if j ∈ vs then [] else fp0 j)
          rw [if_neg fun h2 => h1 (List.mem_cons_of_mem _ h2)]; exact hj
      · by_cases e : j = v
        · subst e
          rw [setF_same] at h
          refine .inl ⟨j, ?_⟩
          show b ∈ (if j ∈ vs then [] else fp0 j)
          rw [hA]; exact h
        · rw [setF_ne e] at h
          rcases s.fpx j b h with ⟨k, z⟩ | z
          · refine .inl ⟨k, ?_⟩
            rw [hw] at z
            by_cases h1 : k ∈ v :: vs
            · rw [if_pos h1] at z; cases z
            · rw [if_neg h1] at z
              show b ∈ (if k ∈ vs then [] else fp0 k)
              rw [if_neg fun h2 => h1 (List.mem_cons_of_mem _ h2)]; exact z
          · exact .inr z
    · have hlen : ρb.length = ρ0.length := by rw [← I.len, L2.wipe_length]; exact I0.len
      have e1 : ρb.set v ((wipeE ρ0 vs)[v]?.getD .un) = ρb := set_out (by omega)
      have e2 : L2.wipe σ (v :: vs) = L2.wipe σ vs := set_out (by rw [L2.wipe_length, I0.len]; omega)
      rw [e1]
      rw [e2] at I
      have e3 : ∀ j, fpw j = if j ∈ vs then [] else fp0 j := fun j => by
        rw [hw]
        by_cases h : j = v
        · subst h
          rw [if_pos (by simp), I0.out j (by omega)]
          split <;> rfl
        · by_cases h2 : j ∈ vs <;> simp [h, h2]
      exact ih I0 e3 s I
/-- a thing that no slot owns is changed -/
theorem Inv.loose {p : Addr} {u : HO} (I : Inv K C fp Hd H σ ρ) (h1 : Hd p = none) (h2 : C.H0 p = none) (h3 : ∀ i, p ∉ fp i) : Inv K C fp Hd (upd H p u) σ ρ := by
  refine ⟨⟨fun b w r => ?_, fun b x w r => ?_⟩, I.hd0, fun b o h n => ?_, fun b h => ?_, I.fresh, I.len, fun i s e => (I.slot i s e).ext (.refl _) (fun _ _ h => h) fun a ha w h => ?_, I.out, I.dis⟩
  · have nb : b ≠ p := fun z => by
      rw [z] at r
      rcases r with r | ⟨_, r⟩ <;> rw [h1] at r <;> cases r
    rcases I.le b w r with q | ⟨x, q⟩
    · exact .inl (by rw [upd_ne nb]; exact q)
    · exact .inr ⟨x, by rw [upd_ne nb]; exact q⟩
  · have nb : b ≠ p := fun z => by rw [z, h1] at r; cases r
    rw [upd_ne nb]; exact I.le.fr b x w r
  · rw [upd_ne (fun z => by rw [z, h2] at h; cases h)]; exact I.keep b o h n
  · by_cases z : b = p
    · rw [z, upd_same]; intro w; cases w
    · rw [upd_ne z]; exact I.dom b h
  · rw [upd_ne (fun z => h3 i (by rw [← z]; exact ha))]; exact h
end
section
variable {K : PySem.W.Frag} {W : St → XK}
/-- no exception is wished for -/
abbrev W0 : St → XK := fun _ _ _ _ => False
def lcD (vs : List Nat) (t : Tg) (ft : Env → Res Bool) (fe : Env → Res RV) : Nat → List D → Env → Res (List D)
  | _, [], ρ => .ok [] ρ
  | n, d :: ds, ρ => match takeT t d ρ with
    | none => .no
    | some ρ1 => match ft ρ1 with
      | .ok true ρ2 => match (fe ρ2).bind fz with
        | .ok y ρ3 => if n < sizeLine then match lcD vs t ft fe (n + 1) ds (wipeE ρ3 vs) with
            | .ok ys ρ4 => .ok (y :: ys) ρ4
            | _ => .no
          else .no
        | _ => .no
      | .ok false ρ2 => lcD vs t ft fe n ds (wipeE ρ2 vs)
      | _ => .no
def fLc (fi : Env → Res (List D)) (vs : List Nat) (t : Tg) (ft : Env → Res Bool) (fe : Env → Res RV) : Env → Res RV := fun ρ => (fi ρ).bind fun ds ρ1 => match lcD vs t ft fe 0 ds (wipeE ρ1 vs) with
  | .ok ys ρ2 => .ok (.own (.lst ys)) (restE ρ1 vs ρ2)
  | _ => .no
theorem wipe_wipe {σ : St} {vs : List Nat} : L2.wipe (L2.wipe σ vs) vs = L2.wipe σ vs := by
  have : ∀ us : List Nat, (∀ u ∈ us, u ∈ vs) → ∀ τ : St, L2.wipe (L2.wipe τ us) vs = L2.wipe τ vs := by
    intro us
    induction us with
    | nil => intro _ τ; rfl
    | cons u us ih =>
      intro h τ
      show L2.wipe ((L2.wipe τ us).set u none) vs = _
      rw [wipe_set (h u (by simp)), ih (fun x hx => h x (by simp [hx]))]
  exact this vs (fun _ h => h) σ
theorem sd_lc {wi : TI} {fi : Env → Res (List D)} {g : TG} {t : Tg} {tt : TT} {ft : Env → Res Bool} {te : TE} {fe : Env → Res RV} {vs : List Nat} (hi : Si K W wi fi) (hg : Gt K g t) (hv : ∀ u ∈ slotsT t, u ∈ vs) (ht : Sd K W0 rB tt ft) (he : Sd K W0 (rV K) te fe) :
    Sd K W (rV K) (L2.tLc wi g tt te vs) (fLc fi vs t ft fe) := fun C fp Hd H σ ρ I Q p => by
  refine hi C fp Hd H σ ρ I _ ?_
  have p : Post K W C (rV K) fp Hd H σ ((fi ρ).bind fun ds ρ1 => match lcD vs t ft fe 0 ds (wipeE ρ1 vs) with | .ok ys ρ2 => .ok (.own (.lst ys)) (restE ρ1 vs ρ2) | _ => .no) Q := p
  cases e : fi ρ with
  | no => rw [e] at p; exact p
  | ex c ρ1 => rw [e] at p; exact p
  | ok ds ρ1 =>
    simp only [e, Res.bind] at p
    intro J fp1 Hd1 H1 s1 I1 w Dl hD
    cases el : lcD vs t ft fe 0 ds (wipeE ρ1 vs) with
    | no => simp only [el] at p; exact p.elim
    | ex c ρ2 => simp only [el] at p; exact p.elim
    | ok ys0 ρ2 =>
      simp only [el] at p
      have hd1 : Hd1 Dl = none := I1.le.noneB hD
      have hc : C.H0 Dl = none := none_back I1.dom hD
      -- the block's start
      have Iw : ∃ fpw, (∀ j, fpw j = if j ∈ vs then [] else fp1 j) ∧ Inv K C fpw Hd1 H1 (L2.wipe σ vs) (wipeE ρ1 vs) := by
        refine ⟨_, fun _ => rfl, ?_⟩
        have : ∀ us : List Nat, Inv K C (fun j => if j ∈ us then [] else fp1 j) Hd1 H1 (L2.wipe σ us) (wipeE ρ1 us) := by
          intro us
          induction us with
          | nil => simpa [L2.wipe, wipeE] using I1
          | cons u us ihu =>
            have := ihu.drop1 (v := u)
            have e : setF (fun j => if j ∈ us then [] else fp1 j) u [] = fun j => if j ∈ u :: us then [] else fp1 j := by
              funext j
              unfold setF
              by_cases h : j = u
              · simp [h]
              · by_cases h2 : j ∈ us <;> simp [h, h2]
            rw [e] at this
            exact this
        exact this vs
      obtain ⟨fpw, hw, Iw⟩ := Iw
      have nfw : ∀ j, Dl ∉ fpw j := fun j hj => (Iw.fpOk hj).1 hD
      refine L2.lc_it w (fun i H' => ∃ fpb Hdb ρb acc accd ys, Inv K C fpb Hdb H' (L2.wipe σ vs) ρb ∧ Stp fpw Hd1 H1 fpb Hdb H' ∧ H' Dl = some (.lst acc) ∧ Reps K Hdb accd acc ∧ Hdb Dl = none ∧ (∀ j, Dl ∉ fpb j) ∧ lcD vs t ft fe acc.length (ds.drop i) ρb = .ok ys ρ2 ∧ accd ++ ys = ys0) ?_ ?_ ?_ ?_
      · refine ⟨fpw, Hd1, wipeE ρ1 vs, [], [], ys0, Iw.loose hd1 hc nfw, ⟨.refl _, fun _ h => .inl h, fun b o h _ => ?_, fun b h => ?_, fun j _ h => .inl ⟨j, h⟩⟩, upd_same, .nil, hd1, nfw, el, rfl⟩
        · rw [upd_ne (ne_of_none h hD)]; exact h
        · by_cases z : b = Dl
          · rw [z, upd_same]; intro w; cases w
          · rw [upd_ne z]; exact h
      · rintro i H' _ ⟨fpb, Hdb, ρb, _, _, _, Ib, sb, _⟩
        exact ⟨fpb, Hdb, _, ρb, Ib, sb.hd⟩
      · rintro i x H' H'' hi ⟨fpb, Hdb, ρb, acc, accd, ys, Ib, sb, hl, ra, hdn, nf, el2, ey⟩ ⟨d, hd, hy⟩
        obtain ⟨Hd2, s2, I2, r2⟩ := Ib.newD (hy fpb Hdb _ ρb Ib sb.hd)
        have e1 : ds.drop i = d :: ds.drop (i + 1) := by
          obtain ⟨hl, e⟩ := List.getElem?_eq_some_iff.mp hd
          rw [← e]; exact (List.drop_eq_getElem_cons hl)
        rw [e1] at el2
        simp only [lcD] at el2
        cases ek : takeT t d ρb with
        | none => simp only [ek] at el2; cases el2
        | some ρ3 =>
          simp only [ek] at el2
          refine hg C fpb Hd2 H'' _ ρb ρ3 d x I2 r2 ek _ fun σ3 fp3 m3 s3 I3 => ?_
          have w3 : L2.wipe σ3 vs = L2.wipe σ vs := (m3 vs hv).trans wipe_wipe
          refine ⟨w3, ?_⟩
          have s23 := s2.trans s3
          -- the new list through a step
          have thru : ∀ {fp' : Fp} {Hd' H3 : Hp}, Stp fpb Hdb H' fp' Hd' H3 → H3 Dl = some (.lst acc) ∧ Hd' Dl = none ∧ (∀ j, Dl ∉ fp' j) ∧ Reps K Hd' accd acc := fun {fp' Hd' H3} s => by
            refine ⟨s.keep _ _ hl nf, ?_, fun j hj => ?_, ra.mono s.hd⟩
            · cases e : Hd' Dl with
              | none => rfl
              | some u =>
                rcases s.fr Dl (by rw [e]; intro z; cases z) with z | z | ⟨j, z⟩
                · exact absurd hdn z
                · rw [hl] at z; cases z
                · exact absurd z (nf j)
            · rcases s.fpx j Dl hj with ⟨k, z⟩ | z
              · exact nf k z
              · rw [hl] at z; cases z
          refine ht C fp3 Hd2 H'' σ3 ρ3 I3 _ ?_
          cases et : ft ρ3 with
          | no => simp only [et] at el2; cases el2
          | ex c ρ4 => simp only [et] at el2; cases el2
          | ok b ρ4 =>
            simp only [et] at el2
            intro b' fp4 Hd4 H4 s4 I4 eb
            have eb : b' = b := eb
            subst eb
            have s24 := s23.trans s4
            cases b' with
            | false =>
              simp only at el2
              obtain ⟨fp5, I5, s5⟩ := I4.wipe vs
              have s25 := s24.trans s5
              obtain ⟨q1, q2, q3, q4⟩ := thru s25
              rw [w3] at I5
              exact ⟨fp5, Hd4, _, acc, accd, ys, I5, sb.trans s25, q1, q4, q2, q3, el2, ey⟩
            | true =>
              simp only at el2
              have hef := he.fz
              refine hef C fp4 Hd4 H4 σ3 ρ4 I4 _ ?_
              show Post K W0 C (rD K) fp4 Hd4 H4 σ3 ((fe ρ4).bind O.fz) _
              cases ee : (fe ρ4).bind fz with
              | no => simp only [ee] at el2; cases el2
              | ex c ρ5 => simp only [ee] at el2; cases el2
              | ok y ρ5 =>
                simp only [ee] at el2
                by_cases hz : acc.length < sizeLine
                · rw [if_pos hz] at el2
                  cases er : lcD vs t ft fe (acc.length + 1) (ds.drop (i + 1)) (wipeE ρ5 vs) with
                  | no => simp only [er] at el2; cases el2
                  | ex c ρ6 => simp only [er] at el2; cases el2
                  | ok ys' ρ6 =>
                    simp only [er] at el2
                    cases el2
                    intro yv fp5 Hd5 H5 s5 I5 ry
                    have s25 := s24.trans s5
                    obtain ⟨q1, q2, q3, q4⟩ := thru s25
                    refine ⟨acc, q1, hz, ?_⟩
                    obtain ⟨fp6, I6, s6⟩ := I5.wipe vs
                    rw [w3] at I6
                    have s26 := s25.trans s6
                    obtain ⟨_, _, q3', _⟩ := thru s26
                    have su : Stp fp6 Hd5 H5 fp6 Hd5 (upd H5 Dl (.lst (acc ++ [yv]))) ∨ True := .inr trivial
                    refine ⟨fp6, Hd5, _, acc ++ [yv], accd ++ [y], ys', I6.loose q2 hc q3', ?_, upd_same, q4.append (.cons ry .nil), q2, q3', by rw [List.length_append]; exact er, by rw [List.append_assoc]; exact ey⟩
                    have s16 := sb.trans s26
                    refine ⟨s16.hd, s16.fr, fun b o h n => ?_, fun b h => ?_, s16.fpx⟩
                    · rw [upd_ne (ne_of_none h hD)]; exact s16.keep b o h n
                    · by_cases z : b = Dl
                      · rw [z, upd_same]; intro w; cases w
                      · rw [upd_ne z]; exact s16.dom b h
                · rw [if_neg hz] at el2; cases el2
      · rintro H' ⟨fpb, Hdb, ρb, acc, accd, ys, Ib, sb, hl, ra, hdn, nf, el2, ey⟩
        rw [List.drop_length] at el2
        simp only [lcD] at el2
        cases el2
        rw [List.append_nil] at ey
        subst ey
        obtain ⟨fp', I', s', f'⟩ := Inv.rest vs I1 hw sb Ib
        refine p _ fp' Hdb H' (s1.trans s') I' ⟨[Dl], .lst hl ra, by simp, fun a ha => ?_⟩
        have e : a = Dl := by simpa using ha
        subst e
        refine ⟨hdn, hc, fun j hj => ?_, none_back s1.dom hD⟩
        rcases f' j _ hj with z | z
        · exact nf j z
        · exact (I1.fpOk z).1 hD
end
end O

/-! Own7: operators on data: arithmetic, comparison, equality, membership, subscripts, slices -/
namespace O
open PySem
open L2 (V Hp HO Rd SqL SqT upd upd_same upd_ne ne_of ne_of_none TE TT TA TS TG TGs TI TO It VK XK Ends St PE PT PW PA PS PSs PG PGs PI PO Cx OpR UnR CallR IxR SlR R2 tOp tUn tVar tC tCons tNil tTup tLst tTest tB tAnd tOr tNot tAndV tOrV tNotV tIf tCB Sp FnOk)
section
variable {X : Cx} {f : Value → Value → Sem Value}
theorem op_imp {r r' : R2} (h : OpR X f r) (k : ∀ x y H Q, r' x y H Q → r x y H Q) : OpR X f r' := fun pins s σ H x y v u Q I rx ry q => h pins s σ H x y v u Q I rx ry (k x y H Q q)
theorem cb_imp {f : Value} {r r' : List V → Hp → VK → Prop} (h : CallR X f r) (k : ∀ xs H Q, r' xs H Q → r xs H Q) : CallR X f r' := fun pins s σ H xs us Q I rx q => h pins s σ H xs us Q I rx (k xs H Q q)
theorem ix_imp {r r' : R2} (h : IxR X r) (k : ∀ x y H Q, r' x y H Q → r x y H Q) : IxR X r' := fun va sl pins s σ H x y v u Q I rx ry q => h va sl pins s σ H x y v u Q I rx ry (k x y H Q q)
/-- of two ints -/
def gII (c : Int → Int → Bool) (g : Int → Int → D) : D → D → Option RV
  | .int i, .int j => if c i j = true then some (.val (g i j)) else none
  | _, _ => none
theorem op_gII {C : Int → Int → Prop} {c : Int → Int → Bool} {g : Int → Int → D} {gv : Int → Int → V} (h : OpR X f (L2.rI C gv)) (hc : ∀ i j, c i j = true → C i j) (hg : ∀ K H i j, Rep K H (g i j) (gv i j)) : OpR X f (rG X.K (gII c g)) :=
  op_imp h fun x y H Q ⟨Hd, d1, d2, z, l, t1, t2, eg, q⟩ => by
    cases d1 with
    | int i => cases d2 with
      | int j =>
        simp only [gII] at eg
        by_cases hh : c i j = true
        · rw [if_pos hh] at eg
          cases eg
          exact ⟨i, j, t1.intD, t2.intD, hc i j hh, q _ _ (newR_here l (hg _ _ i j))⟩
        · rw [if_neg hh] at eg; cases eg
      | _ => cases eg
    | _ => cases eg
theorem op_r0 {g : Int → Int → V} (h : OpR X f (L2.rI0 g)) : OpR X f (L2.rI (fun _ _ => True) g) := op_imp h fun x y H Q ⟨i, j, a, b, _, q⟩ => ⟨i, j, a, b, q⟩
def gLt : D → D → Option RV := gII (fun _ _ => true) fun i j => .bl (decide (i < j))
def gLe : D → D → Option RV := gII (fun _ _ => true) fun i j => .bl (decide (i ≤ j))
def gGt : D → D → Option RV := gII (fun _ _ => true) fun i j => .bl (decide (j < i))
def gGe : D → D → Option RV := gII (fun _ _ => true) fun i j => .bl (decide (j ≤ i))
theorem op_gLt : OpR X (compareOp .Lt) (rG X.K gLt) := op_gII (op_r0 L2.op_lt) (fun _ _ _ => trivial) fun _ _ _ _ => .bl _
theorem op_gLe : OpR X (compareOp .LtE) (rG X.K gLe) := op_gII (op_r0 L2.op_le) (fun _ _ _ => trivial) fun _ _ _ _ => .bl _
theorem op_gGt : OpR X (compareOp .Gt) (rG X.K gGt) := op_gII (op_r0 L2.op_gt) (fun _ _ _ => trivial) fun _ _ _ _ => .bl _
theorem op_gGe : OpR X (compareOp .GtE) (rG X.K gGe) := op_gII (op_r0 L2.op_ge) (fun _ _ _ => trivial) fun _ _ _ _ => .bl _
def gSub : D → D → Option RV := gII (fun _ _ => true) fun i j => .int (i - j)
theorem op_gSub : OpR X (binaryOp .Sub) (rG X.K gSub) := op_gII (op_r0 L2.op_sub) (fun _ _ _ => trivial) fun _ _ _ _ => .int _
def gMod : D → D → Option RV := gII (fun _ j => decide (0 < j)) fun i j => .int (i % j)
theorem op_gMod : OpR X (binaryOp .Mod) (rG X.K gMod) := op_gII L2.op_mod (fun _ _ h => of_decide_eq_true h) fun _ _ _ _ => .int _
def gFdiv : D → D → Option RV := gII (fun _ j => decide (0 < j ∧ j < 1073741824)) fun i j => .int (i / j)
theorem op_gFdiv : OpR X (binaryOp .FloorDiv) (rG X.K gFdiv) := op_imp L2.op_fdivN fun x y H Q ⟨Hd, d1, d2, z, l, t1, t2, eg, q⟩ => by
  cases d1 with
  | int i => cases d2 with
    | int j =>
      simp only [gFdiv, gII] at eg
      by_cases hh : decide (0 < j ∧ j < 1073741824) = true
      · rw [if_pos hh] at eg
        cases eg
        have hj := of_decide_eq_true hh
        refine ⟨i, j, t1.intD, t2.intD, ⟨by omega, by omega⟩, ?_⟩
        show Q (.int (i.fdiv j)) H
        rw [Int.fdiv_eq_ediv_of_nonneg i (by omega)]
        exact q _ _ (newR_here l (.int _))
      · rw [if_neg hh] at eg; cases eg
    | _ => cases eg
  | _ => cases eg
def gMulI : D → D → Option RV := gII (fun i j => decide ((Builtin.Int.intBits i : Int) + (Builtin.Int.intBits j : Int) ≤ 134217728)) fun i j => .int (i * j)
theorem op_gMulI : OpR X (binaryOp .Mult) (rG X.K gMulI) := op_gII L2.op_mulX (fun i j h => of_decide_eq_true (p := (Builtin.Int.intBits i : Int) + (Builtin.Int.intBits j : Int) ≤ 134217728) h) fun _ _ _ _ => .int _
def gPow : D → D → Option RV := gII (fun i j => decide (0 ≤ j ∧ (Builtin.Int.intBits i : Int) * j ≤ 2 ^ 27)) fun i j => .int (i ^ j.toNat)
theorem op_powX : OpR X (binaryOp .Pow) (L2.rI (fun i j => 0 ≤ j ∧ (Builtin.Int.intBits i : Int) * j ≤ 2 ^ 27) fun i j => .int (i ^ j.toNat)) :=
  L2.opI fun _ _ _ _ _ _ _ hc q => PyProof.Rows.pow_int hc.1 hc.2 q
theorem op_gPow : OpR X (binaryOp .Pow) (rG X.K gPow) := op_gII op_powX (fun _ _ h => of_decide_eq_true h) fun _ _ _ _ => .int _
/-- + of ints, lists, tuples -/
def gAdd : D → D → Option RV
  | .int i, .int j => some (.val (.int (i + j)))
  | .lst xs, .lst ys => if xs.length + ys.length ≤ sizeLine then some (.own (.lst (xs ++ ys))) else none
  | .tup xs, .tup ys => if xs.length + ys.length ≤ sizeLine then some (.val (.tup (xs ++ ys))) else none
  | _, _ => none
theorem op_gAdd : OpR X (binaryOp .Add) (rG X.K gAdd) := by
  intro pins s σ H x y v u Q I rx ry ⟨Hd, d1, d2, z, l, t1, t2, eg, q⟩
  cases d1 with
  | int i => cases d2 with
    | int j =>
      cases eg
      exact L2.op_add pins s σ H _ _ v u Q I rx ry ⟨i, j, t1.intD, t2.intD, q _ _ (newR_here l (.int _))⟩
    | _ => cases eg
  | lst ds => cases d2 with
    | lst es =>
      simp only [gAdd] at eg
      by_cases hz : ds.length + es.length ≤ sizeLine
      · rw [if_pos hz] at eg
        cases eg
        obtain ⟨a, xs, rfl, h1, r1⟩ := t1.lstD l
        obtain ⟨b, ys, rfl, h2, r2⟩ := t2.lstD l
        cases rx
        cases ry
        obtain ⟨z1, its, n, v1, e1⟩ := h1.ok I.hok
        obtain ⟨z2, its2, n2, v2, e2⟩ := h2.ok I.hok
        have hl : (xs ++ ys).length ≤ sizeLine := by rw [List.length_append, r1.length, r2.length]; exact hz
        refine PySem.P.add_list e1 e2 ?_ (by rw [List.size_toArray, List.size_toArray, ← v1.length, ← v2.length, r1.length, r2.length]; exact hz)
        have ea : its.toArray ++ its2.toArray = (its ++ its2).toArray := by simp
        rw [ea]
        exact ⟨.ref _, _, I.lnew (t' := s.toks) (v1.append v2) hl, rfl, q _ _ (newR_lst l I.fresh (r1.append r2))⟩
      · rw [if_neg hz] at eg; cases eg
    | _ => cases eg
  | tup ds => cases d2 with
    | tup es =>
      simp only [gAdd] at eg
      by_cases hz : ds.length + es.length ≤ sizeLine
      · rw [if_pos hz] at eg
        cases eg
        obtain ⟨a, xs, rfl, h1, r1⟩ := t1.tupD l
        obtain ⟨b, ys, rfl, h2, r2⟩ := t2.tupD l
        refine L2.op_catA pins s σ H _ _ v u Q I rx ry ⟨a, b, xs, ys, rfl, rfl, h1, h2, by rw [r1.length, r2.length]; exact hz, fun e => ?_, fun _ e => ?_, fun _ _ p hp => q _ _ (newR_tup l hp (r1.append r2))⟩
        · subst e
          cases r1
          cases t2 with
          | rep r => exact q _ _ (newR_here l r)
        · subst e
          cases r2
          cases t1 with
          | rep r => rw [List.append_nil] at q; exact q _ _ (newR_here l r)
      · rw [if_neg hz] at eg; cases eg
    | _ => cases eg
  | _ => cases eg
/-- list * int, int * int -/
def gMul : D → D → Option RV
  | .lst xs, .int k => if 0 ≤ k ∧ k < 2 ^ 63 ∧ xs.length * k.toNat ≤ sizeLine then some (.own (.lst (List.replicate k.toNat xs).flatten)) else none
  | d, e => gMulI d e

/-! ### equality -/
mutual
def toPy : D → Option PyData
  | .non => some .none
  | .bl b => some (.bool b)
  | .int i => some (.int i)
  | .str x => some (.str x)
  | .tup ds => (toPys ds).map .tuple
  | .lst ds => (toPys ds).map .list
  | .scr ns => some (.list (ns.map .int))
  | .dic _ => none
  | .set _ => none
  | .dlk _ => none
def toPys : List D → Option (List PyData)
  | [] => some []
  | d :: ds => match toPy d, toPys ds with
    | some p, some ps => some (p :: ps)
    | _, _ => none
end
theorem dp_ints {K : PySem.W.Frag} {H : Hp} : ∀ ns : List Int, L2.DpAll K H (ns.map V.int) (ns.map PyData.int)
  | [] => .nil
  | n :: ns => .cons (.int n) (dp_ints ns)
mutual
theorem Rep.dp {K : PySem.W.Frag} {H : Hp} : ∀ {d : D} {v : V} {p : PyData}, Rep K H d v → toPy d = some p → L2.Dp K H v p
  | _, _, _, .non, e => by simp only [toPy, Option.some.injEq] at e; subst e; exact .non
  | _, _, _, .bl b, e => by simp only [toPy, Option.some.injEq] at e; subst e; exact .bl b
  | _, _, _, .int b, e => by simp only [toPy, Option.some.injEq] at e; subst e; exact .int b
  | _, _, _, .str b, e => by simp only [toPy, Option.some.injEq] at e; subst e; exact .str b
  | _, _, _, .scr (ns := ns) h, e => by simp only [toPy, Option.some.injEq] at e; subst e; exact .lst h (dp_ints ns)
  | _, _, _, .tup (ds := ds) h r, e => by
    simp only [toPy] at e
    cases e1 : toPys ds with
    | none => rw [e1] at e; cases e
    | some ps => rw [e1] at e; cases e; exact .tup h (Reps.dp r e1)
  | _, _, _, .lst (ds := ds) h r, e => by
    simp only [toPy] at e
    cases e1 : toPys ds with
    | none => rw [e1] at e; cases e
    | some ps => rw [e1] at e; cases e; exact .lst (.inl h) (Reps.dp r e1)
  | _, _, _, .dic _ _, e => by simp [toPy] at e
  | _, _, _, .set _ _, e => by simp [toPy] at e
  | _, _, _, .dlk _ _, e => by simp [toPy] at e
theorem Reps.dp {K : PySem.W.Frag} {H : Hp} : ∀ {d : List D} {v : List V} {p : List PyData}, Reps K H d v → toPys d = some p → L2.DpAll K H v p
  | _, _, _, .nil, e => by simp only [toPys, Option.some.injEq] at e; subst e; exact .nil
  | _, _, _, .cons (d := d) (ds := ds) h r, e => by
    simp only [toPys] at e
    cases e1 : toPy d with
    | none => rw [e1] at e; cases e
    | some p =>
      cases e2 : toPys ds with
      | none => rw [e1, e2] at e; cases e
      | some ps => rw [e1, e2] at e; cases e; exact .cons (Rep.dp h e1) (Reps.dp r e2)
end
/-- are they equal -/
def eqB (d e : D) : Option Bool := match toPy d, toPy e with
  | some p, some q => if (SeqAt.shaped p && SeqAt.shaped q) = true then some (PyData.eqv p q) else none
  | _, _ => none
def gEq (d e : D) : Option RV := (eqB d e).map fun b => .val (.bl b)
def gNe (d e : D) : Option RV := (eqB d e).map fun b => .val (.bl (!b))
theorem eqB_dp {K : PySem.W.Frag} {Hd H : Hp} {d e : D} {x y : V} {b : Bool} (l : Le Hd H) (t1 : Top K Hd H d x) (t2 : Top K Hd H e y) (h : eqB d e = some b) :
    ∃ p q, L2.Dp K H x p ∧ L2.Dp K H y q ∧ SeqAt.shaped p = true ∧ SeqAt.shaped q = true ∧ PyData.eqv p q = b := by
  unfold eqB at h
  cases e1 : toPy d with
  | none => rw [e1] at h; cases h
  | some p =>
    cases e2 : toPy e with
    | none => rw [e1, e2] at h; cases h
    | some q =>
      rw [e1, e2] at h
      simp only at h
      by_cases hs : (SeqAt.shaped p && SeqAt.shaped q) = true
      · rw [if_pos hs] at h
        rw [Bool.and_eq_true] at hs
        exact ⟨p, q, (t1.all l).dp e1, (t2.all l).dp e2, hs.1, hs.2, Option.some.inj h⟩
      · rw [if_neg hs] at h; cases h
theorem op_gEq (hu : X.A.units + 64 < cLine) : OpR X (compareOp .Eq) (rG X.K gEq) := op_imp (L2.op_eqD hu) fun x y H Q ⟨Hd, d1, d2, z, l, t1, t2, eg, q⟩ => by
  unfold gEq at eg
  cases e : eqB d1 d2 with
  | none => rw [e] at eg; cases eg
  | some b =>
    rw [e] at eg
    cases eg
    obtain ⟨p, p', h1, h2, h3, h4, h5⟩ := eqB_dp l t1 t2 e
    subst h5
    exact ⟨p, p', h1, h2, h3, h4, q _ _ (newR_here l (.bl _))⟩
theorem op_gNe (hu : X.A.units + 64 < cLine) : OpR X (compareOp .NotEq) (rG X.K gNe) := op_imp (L2.op_neD hu) fun x y H Q ⟨Hd, d1, d2, z, l, t1, t2, eg, q⟩ => by
  unfold gNe at eg
  cases e : eqB d1 d2 with
  | none => rw [e] at eg; cases eg
  | some b =>
    rw [e] at eg
    cases eg
    obtain ⟨p, p', h1, h2, h3, h4, h5⟩ := eqB_dp l t1 t2 e
    subst h5
    exact ⟨p, p', h1, h2, h3, h4, q _ _ (newR_here l (.bl _))⟩
/-! ### membership: flat things in lists and tuples of flat things -/
def fv : D → Option V
  | .non => some .non
  | .bl b => some (.bl b)
  | .int i => some (.int i)
  | .str x => some (.str x)
  | _ => none
def fvs : List D → Option (List V)
  | [] => some []
  | d :: ds => match fv d, fvs ds with
    | some v, some vs => some (v :: vs)
    | _, _ => none
theorem fv_ok {K : PySem.W.Frag} {H : Hp} {d : D} {v w : V} (r : Rep K H d v) (e : fv d = some w) : v = w ∧ L2.flatV v = true := by
  cases r <;> first | (cases e; exact ⟨rfl, rfl⟩) | cases e
theorem fvs_ok {K : PySem.W.Frag} {H : Hp} : ∀ {ds : List D} {vs ws : List V}, Reps K H ds vs → fvs ds = some ws → vs = ws ∧ vs.all L2.flatV = true
  | _, _, _, .nil, e => by cases e; exact ⟨rfl, rfl⟩
  | _, _, _, .cons (d := d) (ds := ds) h r, e => by
    simp only [fvs] at e
    cases e1 : fv d with
    | none => rw [e1] at e; cases e
    | some p =>
      cases e2 : fvs ds with
      | none => rw [e1, e2] at e; cases e
      | some ps =>
        rw [e1, e2] at e
        cases e
        obtain ⟨a, b⟩ := fv_ok h e1
        obtain ⟨c, d⟩ := fvs_ok r e2
        exact ⟨by rw [a, c], by rw [List.all_cons, b, d]; rfl⟩
def inB (d e : D) : Option Bool := match fv d, e with
  | some x, .lst ds => (fvs ds).map fun vs => L2.inV x vs
  | some x, .tup ds => (fvs ds).map fun vs => L2.inV x vs
  | _, _ => none
def gIn (d e : D) : Option RV := (inB d e).map fun b => .val (.bl b)
def gNotIn (d e : D) : Option RV := (inB d e).map fun b => .val (.bl (!b))
theorem inB_ok {K : PySem.W.Frag} {Hd H : Hp} {d e : D} {x y : V} {b : Bool} (l : Le Hd H) (t1 : Top K Hd H d x) (t2 : Top K Hd H e y) (h : inB d e = some b) :
    ∃ p xs, y = .ref p ∧ (SqL K H p xs ∨ SqT K H p xs) ∧ L2.flatV x = true ∧ xs.all L2.flatV = true ∧ L2.inV x xs = b := by
  unfold inB at h
  cases e1 : fv d with
  | none => rw [e1] at h; cases h
  | some w =>
    rw [e1] at h
    obtain ⟨a, b1⟩ := fv_ok (t1.all l) e1
    subst a
    cases e with
    | lst ds =>
      simp only at h
      cases e2 : fvs ds with
      | none => rw [e2] at h; cases h
      | some vs =>
        rw [e2] at h
        cases h
        obtain ⟨p, xs, rfl, hp, r⟩ := t2.lstD l
        obtain ⟨c, d⟩ := fvs_ok r e2
        subst c
        exact ⟨p, xs, rfl, .inl (.inl hp), b1, d, rfl⟩
    | tup ds =>
      simp only at h
      cases e2 : fvs ds with
      | none => rw [e2] at h; cases h
      | some vs =>
        rw [e2] at h
        cases h
        obtain ⟨p, xs, rfl, hp, r⟩ := t2.tupD l
        obtain ⟨c, d⟩ := fvs_ok r e2
        subst c
        exact ⟨p, xs, rfl, .inr hp, b1, d, rfl⟩
    | _ => cases h
theorem op_gIn : OpR X (compareOp .In) (rG X.K gIn) := op_imp L2.op_in_seq fun x y H Q ⟨Hd, d1, d2, z, l, t1, t2, eg, q⟩ => by
  unfold gIn at eg
  cases e : inB d1 d2 with
  | none => rw [e] at eg; cases eg
  | some b =>
    rw [e] at eg
    cases eg
    obtain ⟨p, xs, h0, h1, h2, h3, h4⟩ := inB_ok l t1 t2 e
    exact ⟨p, xs, h0, h1, h2, h3, by rw [h4]; exact q _ _ (newR_here l (.bl _))⟩
theorem op_gNotIn : OpR X (compareOp .NotIn) (rG X.K gNotIn) := op_imp L2.op_notIn_seq fun x y H Q ⟨Hd, d1, d2, z, l, t1, t2, eg, q⟩ => by
  unfold gNotIn at eg
  cases e : inB d1 d2 with
  | none => rw [e] at eg; cases eg
  | some b =>
    rw [e] at eg
    cases eg
    obtain ⟨p, xs, h0, h1, h2, h3, h4⟩ := inB_ok l t1 t2 e
    exact ⟨p, xs, h0, h1, h2, h3, by rw [h4]; exact q _ _ (newR_here l (.bl _))⟩
/-! ### subscripts -/
def gIx : D → D → Option RV
  | .lst ds, .int i => (L2.atI ds i).map .val
  | .tup ds, .int i => (L2.atI ds i).map .val
  | .scr ns, .int i => (L2.atI ns i).map fun n => .val (.int n)
  | _, _ => none
theorem Reps.atI {K : PySem.W.Frag} {H : Hp} {ds : List D} {vs : List V} {i : Int} {d : D} (r : Reps K H ds vs) (e : L2.atI ds i = some d) : ∃ v, L2.atI vs i = some v ∧ Rep K H d v := by
  unfold L2.atI at e ⊢
  rw [r.length]
  cases ej : L2.ixN ds.length i with
  | none => rw [ej] at e; cases e
  | some j => rw [ej] at e; exact r.get e
theorem atI_map {α β : Type} {f : α → β} {xs : List α} {i : Int} : L2.atI (xs.map f) i = (L2.atI xs i).map f := by
  unfold L2.atI
  rw [List.length_map]
  cases L2.ixN xs.length i with
  | none => rfl
  | some j => simp
theorem ix_gIx : IxR X (rG X.K gIx) := ix_imp (L2.ix_list.or L2.ix_tup) fun x y H Q ⟨Hd, d1, d2, z, l, t1, t2, eg, q⟩ => by
  cases d2 with
  | int i =>
    have hy := t2.intD
    cases d1 with
    | lst ds =>
      simp only [gIx] at eg
      cases e : L2.atI ds i with
      | none => rw [e] at eg; cases eg
      | some d =>
        rw [e] at eg
        cases eg
        obtain ⟨a, xs, rfl, h1, r1⟩ := t1.lstD l
        obtain ⟨v, ev, rv⟩ := r1.atI e
        exact .inl ⟨a, xs, i, v, rfl, hy, .inl h1, ev, q _ _ (newR_here l rv)⟩
    | tup ds =>
      simp only [gIx] at eg
      cases e : L2.atI ds i with
      | none => rw [e] at eg; cases eg
      | some d =>
        rw [e] at eg
        cases eg
        obtain ⟨a, xs, rfl, h1, r1⟩ := t1.tupD l
        obtain ⟨v, ev, rv⟩ := r1.atI e
        exact .inr ⟨a, xs, i, v, rfl, hy, h1, ev, q _ _ (newR_here l rv)⟩
    | scr ns =>
      simp only [gIx] at eg
      cases e : L2.atI ns i with
      | none => rw [e] at eg; cases eg
      | some d =>
        rw [e] at eg
        cases eg
        obtain ⟨a, rfl, h1⟩ := t1.scrD l
        exact .inl ⟨a, _, i, .int d, rfl, hy, h1, by rw [atI_map, e]; rfl, q _ _ (newR_here l (.int d))⟩
    | _ => cases eg
  | _ => cases d1 <;> cases eg
/-- d[k] of a dict -/
def keyO : D → Option L2.Key
  | .int i => some (.inl i)
  | .str x => some (.inr x)
  | _ => none
end
end O

/-! Own8: slices, dict subscripts, built-ins, what is walked -/
namespace O
open PySem
open L2 (V Hp HO Rd SqL SqT upd upd_same upd_ne ne_of ne_of_none TE TT TA TS TG TGs TI TO It VK XK Ends St PE PT PW PA PS PSs PG PGs PI PO Cx OpR UnR CallR IxR SlR R2 tOp tUn tVar tC tCons tNil tTup tLst tTest tB tAnd tOr tNot tAndV tOrV tNotV tIf tCB Sp FnOk)
section
variable {K : PySem.W.Frag} {W : St → XK}
/-- sd_op2, for a reading that the general one gives -/
theorem sd_op2' {r : R2} {g : D → D → Option RV} (hr : ∀ x y H Q, rG K g x y H Q → r x y H Q) {ta tb : TE} {fa fb : Env → Res RV} (ha : Sd K W (rV K) ta fa) (hb : Sd K W (rV K) tb fb) : Sd K W (rV K) (tOp r ta tb) (f2 fa fb g) := fun C fp Hd H σ ρ I Q p =>
  ha.run I p fun r1 v1 fp0 Hd0 H0 ρ0 s0 I0 h1 p => hb.run I0 p fun r2 v2 fp1 Hd1 H1 ρ1 s1 I1 h2 p => by
    have h1 := (rV_loose h1).stp s1
    have h2 := rV_loose h2
    refine hr _ _ _ _ ?_
    cases e1 : rd r1 ρ1 with
    | none => simp only [e1] at p; exact p.elim
    | some d1 =>
      cases e2 : rd r2 ρ1 with
      | none => simp only [e1, e2] at p; exact p.elim
      | some d2 =>
        simp only [e1, e2] at p
        cases eg : g d1 d2 with
        | none => simp only [eg] at p; exact p.elim
        | some z =>
          simp only [eg] at p
          exact ⟨Hd1, d1, d2, z, I1.le, I1.rdTop h1 e1, I1.rdTop h2 e2, eg, fun v H' n => p.new I1 n⟩
theorem sd_cb' {r : List V → Hp → VK → Prop} {g : List D → Option RV} (hr : ∀ xs H Q, rGC K g xs H Q → r xs H Q) {ta : TA} {fa : Env → Res (List RV)} (ha : Sd K W (rA K) ta fa) : Sd K W (rV K) (tCB r ta) (fCB fa g) := fun C fp Hd H σ ρ I Q p =>
  ha.run I p fun rs vs fp0 Hd0 H0 ρ0 s0 I0 h p => by
    refine hr _ _ _ ?_
    cases e1 : rds rs ρ0 with
    | none => simp only [e1] at p; exact p.elim
    | some ds =>
      simp only [e1] at p
      cases eg : g ds with
      | none => simp only [eg] at p; exact p.elim
      | some z =>
        simp only [eg] at p
        exact ⟨Hd0, ds, z, I0.le, tops_of I0 h e1, eg, fun v H' n => p.new I0 n⟩
/-! ### d[k] -/
def rDG : R2 := fun x y H Q => ∃ a v, x = .ref a ∧ L2.DGet H a y (some v) ∧ Q v H
def gDGet : D → D → Option RV
  | .dic kvs, k => match keyD k with
    | some q => (getD kvs q).map .val
    | none => none
  | .dlk kvs, k => match keyD k with
    | some q => (getD kvs q).map .val
    | none => none
  | _, _ => none
theorem rDG_of : ∀ x y H Q, rG K gDGet x y H Q → rDG x y H Q := fun x y H Q ⟨Hd, d1, d2, z, l, t1, t2, eg, q⟩ => by
  have go : ∀ {kvs : List (L2.Key × D)} {a : Addr} {kws : List (L2.Key × V)}, x = .ref a → Rd H a (.dK kws) → Repk K Hd kvs kws → (match keyD d2 with | some q => (getD kvs q).map RV.val | none => none) = some z → rDG x y H Q := fun {kvs a kws} e h1 r1 eg => by
    cases ek : keyD d2 with
    | none => rw [ek] at eg; cases eg
    | some k =>
      rw [ek] at eg
      simp only at eg
      rcases r1.get (k := k) with ⟨q1, _⟩ | ⟨d, v, q1, q2, q3⟩
      · rw [q1] at eg; cases eg
      · rw [q1] at eg
        cases eg
        exact ⟨a, v, e, .inl ⟨kws, k, h1, key_v t2 ek, q2.symm⟩, q _ _ (newR_here l q3)⟩
  cases d1 with
  | dic kvs =>
    obtain ⟨a, kws, e, h1, r1⟩ := t1.dicD l
    exact go e h1 r1 eg
  | dlk kvs =>
    obtain ⟨a, o, kws, e, h1, r1⟩ := t1.dlkD l
    exact go e (.inr ⟨o, h1⟩) r1 eg
  | _ => cases eg
theorem sd_dget {ta tb : TE} {fa fb : Env → Res RV} (ha : Sd K W (rV K) ta fa) (hb : Sd K W (rV K) tb fb) : Sd K W (rV K) (L2.tDGet ta tb) (f2 fa fb gDGet) := sd_op2' rDG_of ha hb
/-! ### slices -/
def rO : Rel (Option Int) (Option Int) := ⟨fun _ _ _ _ _ _ b b' => b' = b, fun _ h => h⟩
def fNoPart : Env → Res (Option Int) := fun ρ => .ok none ρ
def fPart (fa : Env → Res RV) : Env → Res (Option Int) := fun ρ => (fa ρ).bind fun r ρ1 => match rd r ρ1 with
  | some (.int i) => .ok (some i) ρ1
  | _ => .no
theorem so_none : Sd K W rO L2.tNoPart fNoPart := fun C fp Hd H σ ρ I Q p => p.now I rfl
theorem so_some {ta : TE} {fa : Env → Res RV} (ha : Sd K W (rV K) ta fa) : Sd K W rO (L2.tPart ta) (fPart fa) := by
  refine Sd.bind (k := fun x σ H Q => ∃ i, x = .int i ∧ Q (some i) H) ha fun C Hs fp Hd H σ ρ r1 v1 I _ h1 Q p => ?_
  have h1 := rV_loose h1
  cases e1 : rd r1 ρ with
  | none => simp only [e1] at p; exact p.elim
  | some d =>
    cases d with
    | int i =>
      simp only [e1] at p
      exact ⟨i, (I.rdTop h1 e1).intD, p.now I rfl⟩
    | _ => simp only [e1] at p; exact p.elim
def cutD {α : Type} (xs : List α) (lo hi : Option Int) : List α := (xs.drop (HT.sIx xs.length 0 lo)).take (HT.sIx xs.length xs.length hi - HT.sIx xs.length 0 lo)
def gSl : D → Option Int → Option Int → Option RV
  | .lst ds, lo, hi => some (.own (.lst (cutD ds lo hi)))
  | .tup ds, lo, hi => some (.val (.tup (cutD ds lo hi)))
  | _, _, _ => none
def rSG (K : PySem.W.Frag) (g : D → Option Int → Option Int → Option RV) : V → Option Int → Option Int → Hp → VK → Prop := fun x lo hi H Q => ∃ Hd d z, Le Hd H ∧ Top K Hd H d x ∧ g d lo hi = some z ∧ ∀ v H', NewR K Hd H z v H' → Q v H'
def fSl (fe : Env → Res RV) (fl fh : Env → Res (Option Int)) (g : D → Option Int → Option Int → Option RV) : Env → Res RV := fun ρ => (fe ρ).bind fun r ρ1 => (fl ρ1).bind fun lo ρ2 => (fh ρ2).bind fun hi ρ3 => match rd r ρ3 with
  | some d => match g d lo hi with
    | some z => .ok z ρ3
    | none => .no
  | none => .no
theorem sd_sl {g : D → Option Int → Option Int → Option RV} {te : TE} {tl th : TO} {fe : Env → Res RV} {fl fh : Env → Res (Option Int)} (he : Sd K W (rV K) te fe) (hl : Sd K W rO tl fl) (hh : Sd K W rO th fh) : Sd K W (rV K) (L2.tSl (rSG K g) te tl th) (fSl fe fl fh g) := fun C fp Hd H σ ρ I Q p =>
  he.run I p fun r v fp0 Hd0 H0 ρ0 s0 I0 h p => hl.run I0 p fun lo lo' fp1 Hd1 H1 ρ1 s1 I1 h1 p => hh.run I1 p fun hi hi' fp2 Hd2 H2 ρ2 s2 I2 h2 p => by
    have h1 : lo' = lo := h1
    have h2 : hi' = hi := h2
    subst h1 h2
    have h := ((rV_loose h).stp s1).stp s2
    cases e1 : rd r ρ2 with
    | none => simp only [e1] at p; exact p.elim
    | some d =>
      simp only [e1] at p
      cases eg : g d lo' hi' with
      | none => simp only [eg] at p; exact p.elim
      | some z =>
        simp only [eg] at p
        exact ⟨Hd2, d, z, I2.le, I2.rdTop h e1, eg, fun v H' n => p.new I2 n⟩
theorem Reps.cut {H : Hp} {ds : List D} {vs : List V} (r : Reps K H ds vs) (lo hi : Option Int) : Reps K H (cutD ds lo hi) (L2.cutV vs lo hi) := by
  unfold cutD L2.cutV
  rw [r.length]
  exact (r.drop _).take _
theorem Reps.eq_len {H : Hp} {ds es : List D} {vs : List V} (a : Reps K H ds vs) (b : es = ds) : Reps K H es vs := b ▸ a
end
section
variable {X : Cx}
theorem cut_all {α : Type} {xs : List α} {lo hi : Option Int} (h : HT.sIx xs.length 0 lo = 0 ∧ HT.sIx xs.length xs.length hi = xs.length) : cutD xs lo hi = xs := by
  unfold cutD
  rw [h.1, h.2]
  simp
theorem sl_gSl : SlR X (rSG X.K gSl) := by
  intro pins s σ H x v vl vu lo hi sl Q I rx hs pl pu ⟨Hd, d, z, l, t, eg, q⟩
  cases d with
  | lst ds =>
    cases eg
    obtain ⟨a, xs, rfl, h1, r1⟩ := t.lstD l
    exact L2.sl_list pins s σ H _ v vl vu lo hi sl Q I rx hs pl pu ⟨a, xs, rfl, .inl h1, fun p hp => q _ _ (newR_lst l hp (r1.cut lo hi))⟩
  | tup ds =>
    cases eg
    obtain ⟨a, xs, rfl, h1, r1⟩ := t.tupD l
    refine L2.sl_tupA pins s σ H _ v vl vu lo hi sl Q I rx hs pl pu ⟨a, xs, rfl, h1, fun hw => ?_, fun _ p hp => q _ _ (newR_tup l hp (r1.cut lo hi))⟩
    cases t with
    | rep r =>
      have e : cutD ds lo hi = ds := cut_all (by rw [← r1.length]; exact hw)
      exact q _ _ (newR_here l (by rw [e]; exact r))
  | _ => cases eg
/-! ### built-ins -/
theorem tops1 {K : PySem.W.Frag} {Hd H : Hp} {d : D} {xs : List V} (t : Tops K Hd H [d] xs) : ∃ x, xs = [x] ∧ Top K Hd H d x := by
  cases t with | cons h r => cases r; exact ⟨_, rfl, h⟩
theorem tops2 {K : PySem.W.Frag} {Hd H : Hp} {d e : D} {xs : List V} (t : Tops K Hd H [d, e] xs) : ∃ x y, xs = [x, y] ∧ Top K Hd H d x ∧ Top K Hd H e y := by
  cases t with | cons h r => cases r with | cons h2 r => cases r; exact ⟨_, _, rfl, h, h2⟩
def gLen : List D → Option RV
  | [.lst ds] => some (.val (.int (ds.length : Nat)))
  | [.tup ds] => some (.val (.int (ds.length : Nat)))
  | [.scr ns] => some (.val (.int (ns.length : Nat)))
  | _ => none
theorem cb_len : CallR X (.builtin "len") (rGC X.K gLen) := cb_imp L2.call_len_seq fun xs H Q ⟨Hd, ds, z, l, t, eg, q⟩ => by
  match ds, t, eg with
  | [.lst es], t, eg =>
    cases eg
    obtain ⟨x, rfl, w⟩ := tops1 t
    obtain ⟨a, ys, rfl, h1, r1⟩ := w.lstD l
    exact ⟨a, ys, rfl, .inl (.inl h1), by rw [r1.length]; exact q _ _ (newR_here l (.int _))⟩
  | [.tup es], t, eg =>
    cases eg
    obtain ⟨x, rfl, w⟩ := tops1 t
    obtain ⟨a, ys, rfl, h1, r1⟩ := w.tupD l
    exact ⟨a, ys, rfl, .inr h1, by rw [r1.length]; exact q _ _ (newR_here l (.int _))⟩
  | [.scr ns], t, eg =>
    cases eg
    obtain ⟨x, rfl, w⟩ := tops1 t
    obtain ⟨a, rfl, h1⟩ := w.scrD l
    exact ⟨a, _, rfl, .inl h1, by rw [List.length_map]; exact q _ _ (newR_here l (.int _))⟩
def gList : List D → Option RV
  | [.lst ds] => some (.own (.lst ds))
  | [.tup ds] => some (.own (.lst ds))
  | _ => none
theorem cb_list : CallR X (.type "list") (rGC X.K gList) := cb_imp L2.call_list_of fun xs H Q ⟨Hd, ds, z, l, t, eg, q⟩ => by
  match ds, t, eg with
  | [.lst es], t, eg =>
    cases eg
    obtain ⟨x, rfl, w⟩ := tops1 t
    obtain ⟨a, ys, rfl, h1, r1⟩ := w.lstD l
    exact ⟨a, ys, rfl, .inl (.inl h1), fun p hp => q _ _ (newR_lst l hp r1)⟩
  | [.tup es], t, eg =>
    cases eg
    obtain ⟨x, rfl, w⟩ := tops1 t
    obtain ⟨a, ys, rfl, h1, r1⟩ := w.tupD l
    exact ⟨a, ys, rfl, .inr h1, fun p hp => q _ _ (newR_lst l hp r1)⟩
def gTuple : List D → Option RV
  | [.lst ds] => some (.val (.tup ds))
  | [.tup ds] => some (.val (.tup ds))
  | _ => none
theorem cb_tuple : CallR X (.type "tuple") (rGC X.K gTuple) := cb_imp L2.call_tuple_of fun xs H Q ⟨Hd, ds, z, l, t, eg, q⟩ => by
  match ds, t, eg with
  | [.lst es], t, eg =>
    cases eg
    obtain ⟨x, rfl, w⟩ := tops1 t
    obtain ⟨a, ys, rfl, h1, r1⟩ := w.lstD l
    exact ⟨a, ys, rfl, .inl ⟨.inl h1, fun p hp => q _ _ (newR_tup l hp r1)⟩⟩
  | [.tup es], t, eg =>
    cases eg
    obtain ⟨x, rfl, w⟩ := tops1 t
    obtain ⟨a, ys, rfl, h1, r1⟩ := w.tupD l
    refine ⟨a, ys, rfl, .inr ⟨h1, ?_⟩⟩
    cases w with
    | rep r => exact q _ _ (newR_here l r)
def gMM (g : Int → Int → Int) : List D → Option RV
  | [.int i, .int j] => some (.val (.int (g i j)))
  | _ => none
theorem cb_mm {f : Value} {g : Int → Int → Int} (h : CallR X f (fun xs H Q => ∃ i j, xs = [.int i, .int j] ∧ Q (.int (g i j)) H)) : CallR X f (rGC X.K (gMM g)) := cb_imp h fun xs H Q ⟨Hd, ds, z, l, t, eg, q⟩ => by
  match ds, t, eg with
  | [.int i, .int j], t, eg =>
    cases eg
    obtain ⟨x, y, rfl, t1, t2⟩ := tops2 t
    rw [t1.intD, t2.intD]
    exact ⟨i, j, rfl, q _ _ (newR_here l (.int _))⟩
def gMax : List D → Option RV := gMM fun i j => if j > i then j else i
def gMin : List D → Option RV := gMM fun i j => if j < i then j else i
theorem cb_max (hc : X.calm = true) : CallR X (.builtin "max") (rGC X.K gMax) := cb_mm (L2.call_max2 hc)
theorem cb_min (hc : X.calm = true) : CallR X (.builtin "min") (rGC X.K gMin) := cb_mm (L2.call_min2 hc)
/-- ints of a row -/
def intsD : List D → Option (List Int)
  | [] => some []
  | .int i :: ds => (intsD ds).map (i :: ·)
  | _ :: _ => none
theorem intsD_ok {K : PySem.W.Frag} {H : Hp} : ∀ {ds : List D} {vs : List V} {ns : List Int}, Reps K H ds vs → intsD ds = some ns → vs = ns.map V.int
  | _, _, _, .nil, e => by cases e; rfl
  | _, _, _, .cons (d := d) (ds := ds) h r, e => by
    cases d with
    | int i =>
      simp only [intsD] at e
      cases e1 : intsD ds with
      | none => rw [e1] at e; cases e
      | some ms => rw [e1] at e; cases e; cases h; rw [intsD_ok r e1]; rfl
    | _ => cases e
theorem ints_reps {K : PySem.W.Frag} {H : Hp} : ∀ ns : List Int, Reps K H (ns.map D.int) (ns.map V.int)
  | [] => .nil
  | n :: ns => .cons (.int n) (ints_reps ns)
theorem intsD_map : ∀ ns : List Int, intsD (ns.map D.int) = some ns
  | [] => rfl
  | n :: ns => by simp [intsD, intsD_map ns]
def leB (i j : Int) : Bool := decide (i ≤ j)
def sortI (ns : List Int) : List Int := ns.mergeSort leB
theorem sortI_perm (ns : List Int) : (sortI ns).Perm ns := List.mergeSort_perm ns _
theorem sortI_sorted (ns : List Int) : (sortI ns).Pairwise (· ≤ ·) := by
  have h := List.pairwise_mergeSort (le := leB) (fun a b c h1 h2 => by
    have h1 := of_decide_eq_true (p := a ≤ b) h1
    have h2 := of_decide_eq_true (p := b ≤ c) h2
    exact decide_eq_true (p := a ≤ c) (by omega)) (fun a b => by
    unfold leB
    rw [Bool.or_eq_true, decide_eq_true_eq, decide_eq_true_eq]
    omega) ns
  exact h.imp fun h => of_decide_eq_true h
theorem sorted_uniq {a b : List Int} (p : a.Perm b) (ha : a.Pairwise (· ≤ ·)) (hb : b.Pairwise (· ≤ ·)) : a = b :=
  p.eq_of_pairwise (fun x y _ _ h1 h2 => Int.le_antisymm h1 h2) ha hb
def gSorted : List D → Option RV
  | [.lst ds] => (intsD ds).map fun ns => .own (.lst ((sortI ns).map .int))
  | _ => none
theorem cb_sorted : CallR X (.builtin "sorted") (rGC X.K gSorted) := cb_imp L2.cr_sortedI fun xs H Q ⟨Hd, ds, z, l, t, eg, q⟩ => by
  match ds, t, eg with
  | [.lst es], t, eg =>
    simp only [gSorted] at eg
    cases e1 : intsD es with
    | none => rw [e1] at eg; cases eg
    | some ns =>
      rw [e1] at eg
      cases eg
      obtain ⟨x, rfl, w⟩ := tops1 t
      obtain ⟨a, ys, rfl, h1, r1⟩ := w.lstD l
      have ey := intsD_ok r1 e1
      subst ey
      refine ⟨a, ns, rfl, .inl h1, fun ns' p hp hs hn => ?_⟩
      have e : ns' = sortI ns := sorted_uniq (hp.trans (sortI_perm ns).symm) hs (sortI_sorted ns)
      subst e
      exact q _ _ (newR_lst l hn (ints_reps _))
/-- bools of a row -/
def blsD : List D → Option (List Bool)
  | [] => some []
  | .bl i :: ds => (blsD ds).map (i :: ·)
  | _ :: _ => none
theorem blsD_ok {K : PySem.W.Frag} {H : Hp} : ∀ {ds : List D} {vs : List V} {ns : List Bool}, Reps K H ds vs → blsD ds = some ns → vs = ns.map V.bl
  | _, _, _, .nil, e => by cases e; rfl
  | _, _, _, .cons (d := d) (ds := ds) h r, e => by
    cases d with
    | bl i =>
      simp only [blsD] at e
      cases e1 : blsD ds with
      | none => rw [e1] at e; cases e
      | some ms => rw [e1] at e; cases e; cases h; rw [blsD_ok r e1]; rfl
    | _ => cases e
def gAll : List D → Option RV
  | [.lst ds] => (blsD ds).map fun bs => .val (.bl (bs.all id))
  | _ => none
theorem cb_all (hc : X.calm = true) : CallR X (.builtin "all") (rGC X.K gAll) := cb_imp (L2.cr_all hc) fun xs H Q ⟨Hd, ds, z, l, t, eg, q⟩ => by
  match ds, t, eg with
  | [.lst es], t, eg =>
    simp only [gAll] at eg
    cases e1 : blsD es with
    | none => rw [e1] at eg; cases eg
    | some ns =>
      rw [e1] at eg
      cases eg
      obtain ⟨x, rfl, w⟩ := tops1 t
      obtain ⟨a, ys, rfl, h1, r1⟩ := w.lstD l
      have ey := blsD_ok r1 e1
      subst ey
      exact ⟨a, ns, rfl, .inl h1, q _ _ (newR_here l (.bl _))⟩
/-- isinstance(x, T) -/
def tyN : D → Option String
  | .non => some "NoneType"
  | .bl _ => some "bool"
  | .int _ => some "int"
  | .str _ => some "str"
  | .tup _ => some "tuple"
  | .lst _ => some "list"
  | .dic _ => some "dict"
  | .dlk _ => some "dict"
  | _ => none
def isT (T t : String) : Bool := t == T || (t == "bool" && T == "int")
def IsiK (K : PySem.W.Frag) (T : String) : Prop := ∀ t ∈ (["NoneType", "bool", "int", "str", "tuple", "list", "dict"] : List String), PySem.W.kitOne K (.type t) (.type T) = some (isT T t)
def gIsi (T : String) (d : D) : Option RV := (tyN d).map fun t => .val (.bl (isT T t))
theorem tyX_of {K : PySem.W.Frag} {Hd H : Hp} {d : D} {x : V} {t : String} (l : Le Hd H) (h : Top K Hd H d x) (e : tyN d = some t) : L2.TyX K H x (.type t) := by
  cases d with
  | non => cases e; rw [h.nonD]; exact .base .non
  | bl b => cases e; rw [h.blD]; exact .base (.bl _)
  | int b => cases e; rw [h.intD]; exact .base (.int _)
  | str b => cases e; rw [h.strD]; exact .base (.str _)
  | tup ds =>
    cases e
    obtain ⟨a, ys, rfl, h1, _⟩ := h.tupD l
    rcases h1 with (h1 | ⟨o, h1⟩) | ⟨o, its, n, h1, h2, _⟩
    · exact .base (.tup h1)
    · exact .fTuple h1
    · exact .kTuple h1 h2
  | lst ds =>
    cases e
    obtain ⟨a, ys, rfl, h1, _⟩ := h.lstD l
    rcases h1 with h1 | ⟨o, h1⟩
    · exact .base (.lst h1)
    · exact .base (.frz h1)
  | dic ds =>
    cases e
    obtain ⟨a, ys, rfl, h1, _⟩ := h.dicD l
    rcases h1 with h1 | ⟨o, h1⟩
    · exact .base (.dK h1)
    · exact .fDict h1
  | dlk ds =>
    cases e
    obtain ⟨a, o, ys, rfl, h1, _⟩ := h.dlkD l
    exact .fDict h1
  | set _ => cases e
  | scr _ => cases e
end
section
variable {K : PySem.W.Frag} {W : St → XK}
theorem sd_isi {T : String} (hk : IsiK K T) {ta : TE} {fa : Env → Res RV} (ha : Sd K W (rV K) ta fa) : Sd K W (rV K) (tCB (L2.rIsi K) (tCons ta (tCons (tC (.ty T)) tNil))) (f1 fa (gIsi T)) := fun C fp Hd H σ ρ I Q p =>
  ha.run I p fun r1 v1 fp0 Hd0 H0 ρ0 s0 I0 h1 p => by
    have h1 := rV_loose h1
    cases e1 : rd r1 ρ0 with
    | none => simp only [e1] at p; exact p.elim
    | some d1 =>
      simp only [e1] at p
      unfold gIsi at p
      cases et : tyN d1 with
      | none => simp only [et, Option.map] at p; exact p.elim
      | some t =>
        simp only [et, Option.map] at p
        have hm : t ∈ (["NoneType", "bool", "int", "str", "tuple", "list", "dict"] : List String) := by
          cases d1 <;> first | (cases et; simp) | cases et
        exact ⟨v1, .ty T, .type t, .type T, _, rfl, .ty T, tyX_of I0.le (I0.rdTop h1 e1) et, hk t hm, p.new I0 (newR_here I0.le (.bl _))⟩
/-! ### what is walked -/
/-- what stays as it is while things are done -/
def rWk (K : PySem.W.Frag) : Rel D V := ⟨fun C _ _ Hd _ _ d v => Rep K Hd d v ∨ (Top K C.Hd0 C.H0 d v ∧ (Rep K C.Hd0 d v ∨ ∀ a, v = .ref a → ∀ i, a ∉ C.M i)), fun _ h => h⟩
def fk (r : RV) (ρ : Env) : Res D :=
  match r with
  | .bor i => match ρ[i]? with
    | some (.br d) => .ok d ρ
    | _ => fz r ρ
  | r => fz r ρ
theorem Post.imp_rel {α β : Type} {C : Cn} {rel rel' : Rel α β} {fp : Fp} {Hd H : Hp} {σ : St} {x : Res α} {Q : β → Hp → Prop} (h : ∀ {Hs fp Hd H a b}, rel.r C Hs fp Hd H σ a b → rel'.r C Hs fp Hd H σ a b)
    (p : Post K W C rel' fp Hd H σ x Q) : Post K W C rel fp Hd H σ x Q := by
  cases x with
  | ok a ρ => exact fun v fp' Hd' H' s I r => p v fp' Hd' H' s I (h r)
  | ex c ρ => exact p
  | no => exact p
theorem Sd.fk {t : TE} {f : Env → Res RV} (h : Sd K W (rV K) t f) : Sd K W (rWk K) t (fun ρ => (f ρ).bind O.fk) := by
  intro C fp Hd H σ ρ I Q p
  refine h C fp Hd H σ ρ I Q ?_
  cases e : f ρ with
  | no => simp only [e, Res.bind] at p; exact p
  | ex c ρ1 => simp only [e, Res.bind] at p; exact p
  | ok r ρ1 =>
    simp only [e, Res.bind] at p
    intro v fp1 Hd1 H1 s1 I1 hr
    have go : O.fk r ρ1 = O.fz r ρ1 → Q v H1 := fun ef => by
      rw [ef] at p
      exact fz_at s1 I1 hr (Post.imp_rel (rel' := rWk K) (fun h => Or.inl h) p)
    cases r with
    | val d => exact go rfl
    | own o => exact go rfl
    | bor i =>
      cases es : ρ1[i]? with
      | none => exact go (by simp only [O.fk, es])
      | some s =>
        cases s with
        | br d =>
          simp only [O.fk, es] at p
          have q := I1.slot i _ es
          have hr : σ[i]? = some (some v) := hr
          rw [hr] at q
          obtain ⟨_, w, ew, t, n⟩ := q
          cases ew
          exact p v fp1 Hd1 H1 s1 I1 (.inr ⟨t, n⟩)
        | _ => exact go (by simp only [O.fk, es])
theorem rWk_rd {C : Cn} {Hs : Hp} {fp : Fp} {Hd1 H1 : Hp} {σ : St} {ds : List D} {v : V} (h : (rWk K).r C Hs fp Hd1 H1 σ (.lst ds) v) :
    ∃ a xs, v = .ref a ∧ xs.length = ds.length ∧ ∀ fp Hd H σ ρ, Inv K C fp Hd H σ ρ → Le Hd1 Hd → Rd H a (.lst xs) ∧ Reps K Hd ds xs := by
  have ofR : ∀ {H0 : Hp}, Rep K H0 (.lst ds) v → (∀ fp Hd H σ ρ, Inv K C fp Hd H σ ρ → Le Hd1 Hd → Le H0 Hd) → ∃ a xs, v = .ref a ∧ xs.length = ds.length ∧ ∀ fp Hd H σ ρ, Inv K C fp Hd H σ ρ → Le Hd1 Hd → Rd H a (.lst xs) ∧ Reps K Hd ds xs := fun {H0} h k => by
    cases h with
    | lst hr r => exact ⟨_, _, rfl, r.length, fun fp Hd H σ ρ I l => ⟨I.le _ _ (k fp Hd H σ ρ I l _ _ hr), r.mono (k fp Hd H σ ρ I l)⟩⟩
  rcases h with h | ⟨t, n⟩
  · exact ofR h fun _ _ _ _ _ _ l => l
  · rcases n with n | n
    · exact ofR n fun _ _ _ _ _ I _ => I.hd0
    · cases t with
      | rep r => exact ofR r fun _ _ _ _ _ I _ => I.hd0
      | lst hr r =>
        refine ⟨_, _, rfl, r.length, fun fp Hd H σ ρ I l => ⟨?_, r.mono I.hd0⟩⟩
        rcases hr with hr | ⟨o, hr⟩
        · exact .inl (I.keep _ _ hr (n _ rfl))
        · exact .inr ⟨o, I.keep _ _ hr (n _ rfl)⟩
theorem rWk_rep {C : Cn} {Hs : Hp} {fp : Fp} {Hd1 H1 : Hp} {σ : St} {d : D} {v : V} (hd : d.still = true) (h : (rWk K).r C Hs fp Hd1 H1 σ d v) : ∀ fp Hd H σ ρ, Inv K C fp Hd H σ ρ → Le Hd1 Hd → Rep K Hd d v := fun fp Hd H σ ρ I l => by
  rcases h with h | ⟨t, n⟩
  · exact h.mono l
  · exact (I.brTop t n).still hd
def fWalk (fe : Env → Res RV) (g : D → Option (List D)) : Env → Res (List D) := fun ρ => ((fe ρ).bind fk).bind fun d ρ1 => match g d with
  | some ds => .ok ds ρ1
  | none => .no
def gItL : D → Option (List D)
  | .lst ds => some ds
  | .scr ns => some (ns.map .int)
  | _ => none
def gItT : D → Option (List D)
  | .tup ds => some ds
  | _ => none
theorem si_of {te : TE} {fe : Env → Res RV} (he : Sd K W (rV K) te fe) {g : D → Option (List D)} {ti : TI} {k : V → Hp → (It → Hp → Prop) → Prop} (ht : ti = fun σ H R => te σ H fun x H1 => k x H1 R)
    (hk : ∀ (C : Cn) (Hs : Hp) (fp : Fp) (Hd H : Hp) (σ : St) (ρ : Env) (d : D) (ds : List D) (v : V), Inv K C fp Hd H σ ρ → (rWk K).r C Hs fp Hd H σ d v → g d = some ds → ∀ R : It → Hp → Prop, (∀ J, WalkD K C Hd J ds → R J H) → k v H R) : Si K W ti (fWalk fe g) := fun C fp Hd H σ ρ I R p => by
  rw [ht]
  refine he.fk C fp Hd H σ ρ I _ ?_
  unfold fWalk at p
  show Post K W C (rWk K) fp Hd H σ ((fe ρ).bind O.fk) _
  cases e : (fe ρ).bind O.fk with
  | no => rw [e] at p; exact p
  | ex c ρ1 => rw [e] at p; exact p
  | ok d ρ1 =>
    rw [e] at p
    have p : PostI K W C fp Hd H σ (match g d with | some ds => Res.ok ds ρ1 | none => .no) R := p
    cases eg : g d with
    | none => rw [eg] at p; exact p.elim
    | some ds =>
      rw [eg] at p
      exact fun v fp1 Hd1 H1 s1 I1 hr => hk C H fp1 Hd1 H1 σ ρ1 d ds v I1 hr eg R fun J w => p J fp1 Hd1 H1 s1 I1 w
theorem si_list {te : TE} {fe : Env → Res RV} (he : Sd K W (rV K) te fe) : Si K W (L2.iList K te) (fWalk fe gItL) :=
  si_of (k := fun x H1 R => ∃ a, x = .ref a ∧ (∃ xs, SqL K H1 a xs) ∧ R (L2.Itl K a) H1) he rfl fun C Hs fp Hd H σ ρ d ds v I hr eg R p => by
    cases d with
    | lst es =>
      cases eg
      obtain ⟨a, xs, rfl, hl, h⟩ := rWk_rd hr
      refine ⟨a, rfl, ⟨xs, .inl (h _ _ _ _ _ I (.refl _)).1⟩, p _ ?_⟩
      unfold WalkD
      rw [← hl]
      exact L2.walk_list.mono (fun H' ⟨fp', Hd', σ', ρ', I', l'⟩ => .inl (h _ _ _ _ _ I' l').1) fun i H' x H'' hi ⟨fp', Hd', σ', ρ', I', l'⟩ ⟨e1, e2⟩ => by
        subst e1
        obtain ⟨d, hd, _⟩ := (h _ _ _ _ _ I' l').2.get' e2
        refine ⟨d, hd, fun fp3 Hd3 σ3 ρ3 I3 l3 => ?_⟩
        obtain ⟨d', hd', r'⟩ := (h _ _ _ _ _ I3 l3).2.get' e2
        rw [hd] at hd'
        cases hd'
        exact newR_here I3.le r'
    | scr ns =>
      cases eg
      have h := rWk_rep rfl hr
      have h0 := h _ _ _ _ _ I (.refl _)
      have ht : ∀ {Hx : Hp}, Rep K Hx (.scr ns) v → ∃ a, v = .ref a ∧ SqL K Hx a (ns.map V.int) := fun r => by cases r with | scr q => exact ⟨_, rfl, q⟩
      obtain ⟨a, rfl, _⟩ := ht h0
      have hs : ∀ fp Hd' H σ ρ, Inv K C fp Hd' H σ ρ → Le Hd Hd' → SqL K H a (ns.map V.int) := fun fp Hd' H σ ρ I l => by
        obtain ⟨a', e, q⟩ := ht (h fp Hd' H σ ρ I l)
        cases e
        exact I.le.sqL q
      refine ⟨a, rfl, ⟨_, hs _ _ _ _ _ I (.refl _)⟩, p _ ?_⟩
      unfold WalkD
      have hl : (ns.map D.int).length = (ns.map V.int).length := by simp
      rw [hl]
      exact L2.walk_list.mono (fun H' ⟨fp', Hd', σ', ρ', I', l'⟩ => hs _ _ _ _ _ I' l') fun i H' x H'' hi ⟨fp', Hd', σ', ρ', I', l'⟩ ⟨e1, e2⟩ => by
        subst e1
        rw [List.getElem?_map] at e2
        cases en : ns[i]? with
        | none => rw [en] at e2; cases e2
        | some n =>
          rw [en] at e2
          cases e2
          exact ⟨.int n, by rw [List.getElem?_map, en]; rfl, fun fp3 Hd3 σ3 ρ3 I3 l3 => newR_here I3.le (.int n)⟩
    | _ => cases eg
theorem si_tup {te : TE} {fe : Env → Res RV} (he : Sd K W (rV K) te fe) : Si K W (L2.iTup K te) (fWalk fe gItT) :=
  si_of (k := fun x H1 R => ∃ a, x = .ref a ∧ (∃ xs, SqT K H1 a xs) ∧ R (L2.Itt K a) H1) he rfl fun C Hs fp Hd H σ ρ d ds v I hr eg R p => by
    cases d with
    | tup es =>
      cases eg
      have h := rWk_rep rfl hr
      have h0 := h _ _ _ _ _ I (.refl _)
      cases h0 with
      | tup hq r0 =>
        rename_i a xs
        refine ⟨a, rfl, ⟨xs, I.le.sqT hq⟩, p _ ?_⟩
        unfold WalkD
        rw [← r0.length]
        exact L2.walk_tup.mono (fun H' ⟨fp', Hd', σ', ρ', I', l'⟩ => I'.le.sqT (l'.sqT hq)) fun i H' x H'' hi ⟨fp', Hd', σ', ρ', I', l'⟩ ⟨e1, e2⟩ => by
          subst e1
          obtain ⟨d, hd, rd⟩ := r0.get' e2
          exact ⟨d, hd, fun fp3 Hd3 σ3 ρ3 I3 l3 => newR_here I3.le (rd.mono l3)⟩
    | _ => cases eg
/-! ranges -/
def rngD (lo : Int) (n : Nat) : List D := (List.range n).map fun i => .int (lo + (i : Nat))
def fRng1 (fa : Env → Res (List RV)) : Env → Res (List D) := fun ρ => (fa ρ).bind fun rs ρ1 => match rds rs ρ1 with
  | some [.int j] => if -(2 ^ 62) ≤ j ∧ j < 2 ^ 62 then .ok (rngD 0 j.toNat) ρ1 else .no
  | _ => .no
def fRng2 (fa : Env → Res (List RV)) : Env → Res (List D) := fun ρ => (fa ρ).bind fun rs ρ1 => match rds rs ρ1 with
  | some [.int i, .int j] => if -(2 ^ 62) ≤ i ∧ i < 2 ^ 62 ∧ -(2 ^ 62) ≤ j ∧ j < 2 ^ 62 then .ok (rngD i (j - i).toNat) ρ1 else .no
  | _ => .no
theorem walkD_rng {C : Cn} {Hd0 : Hp} {lo : Int} {n : Nat} : WalkD K C Hd0 (L2.Itr lo n) (rngD lo n) := by
  unfold WalkD
  have hl : (rngD lo n).length = n := by simp [rngD]
  rw [hl]
  exact L2.walk_range.mono (fun _ _ => trivial) fun i H x H' hi _ ⟨e1, e2⟩ => by
    subst e1
    subst e2
    exact ⟨.int (lo + i), by simp [rngD, hi], fun _ _ _ _ I _ => newR_here I.le (.int _)⟩
theorem si_rng1 {ta : TA} {fa : Env → Res (List RV)} (ha : Sd K W (rA K) ta fa) : Si K W (L2.iRng1 ta) (fRng1 fa) := fun C fp Hd H σ ρ I R p => by
  refine ha C fp Hd H σ ρ I _ ?_
  unfold fRng1 at p
  cases e : fa ρ with
  | no => rw [e] at p; exact p
  | ex c ρ1 => rw [e] at p; exact p
  | ok rs ρ1 =>
    simp only [e, Res.bind] at p
    intro vs fp1 Hd1 H1 s1 I1 hr
    split at p
    · rename_i j ed
      by_cases hj : -(2 ^ 62) ≤ j ∧ j < 2 ^ 62
      · rw [if_pos hj] at p
        obtain ⟨x, rfl, t⟩ := tops1 (tops_of I1 hr ed)
        rw [t.intD]
        exact ⟨j, rfl, hj.1, hj.2, p _ fp1 Hd1 H1 s1 I1 walkD_rng⟩
      · rw [if_neg hj] at p; exact p.elim
    · exact p.elim
theorem si_rng2 {ta : TA} {fa : Env → Res (List RV)} (ha : Sd K W (rA K) ta fa) : Si K W (L2.iRng2 ta) (fRng2 fa) := fun C fp Hd H σ ρ I R p => by
  refine ha C fp Hd H σ ρ I _ ?_
  unfold fRng2 at p
  cases e : fa ρ with
  | no => rw [e] at p; exact p
  | ex c ρ1 => rw [e] at p; exact p
  | ok rs ρ1 =>
    simp only [e, Res.bind] at p
    intro vs fp1 Hd1 H1 s1 I1 hr
    split at p
    · rename_i i j ed
      by_cases hj : -(2 ^ 62) ≤ i ∧ i < 2 ^ 62 ∧ -(2 ^ 62) ≤ j ∧ j < 2 ^ 62
      · rw [if_pos hj] at p
        obtain ⟨x, y, rfl, t, u⟩ := tops2 (tops_of I1 hr ed)
        rw [t.intD, u.intD]
        exact ⟨i, j, rfl, hj, p _ fp1 Hd1 H1 s1 I1 walkD_rng⟩
      · rw [if_neg hj] at p; exact p.elim
    · exact p.elim
end
end O

/-! Own9: the joined rules: what runs and what it computes, by one term -/
namespace O
open PySem
open L2 (V Hp HO Rd SqL SqT upd upd_same upd_ne ne_of ne_of_none TE TT TA TS TG TGs TI TO It VK XK Ends St PE PT PW PA PS PSs PG PGs PI PO PTs Cx OpR UnR CallR IxR SlR MtR R2 tOp tUn tVar tC tCons tNil tTup tLst tTest tB tAnd tOr tNot tAndV tOrV tNotV tIf tCB Sp FnOk Gl Vis Loc Room)
section
variable {K : PySem.W.Frag} {W : St → XK}
/-! ### a chain of two comparisons -/
def fChain (fa fb fc : Env → Res RV) (g g' : D → D → Option RV) : Env → Res RV := fun ρ => (fa ρ).bind fun r1 ρ1 => (fb ρ1).bind fun r2 ρ2 => match rd r1 ρ2, rd r2 ρ2 with
  | some d1, some d2 => match g d1 d2 with
    | some (.val (.bl true)) => (fc ρ2).bind fun r3 ρ3 => match rd r2 ρ3, rd r3 ρ3 with
      | some d2, some d3 => match g' d2 d3 with
        | some z => .ok z ρ3
        | none => .no
      | _, _ => .no
    | some (.val (.bl false)) => .ok (.val (.bl false)) ρ2
    | _ => .no
  | _, _ => .no
theorem sd_chain {ta tb tc : TE} {fa fb fc : Env → Res RV} {g g' : D → D → Option RV} (ha : Sd K W (rV K) ta fa) (hb : Sd K W (rV K) tb fb) (hc : Sd K W (rV K) tc fc) : Sd K W (rV K) (L2.tChain (rG K g) (rG K g') ta tb tc) (fChain fa fb fc g g') := fun C fp Hd H σ ρ I Q p =>
  ha.run I p fun r1 v1 fp0 Hd0 H0 ρ0 s0 I0 h1 p => hb.run I0 p fun r2 v2 fp1 Hd1 H1 ρ1 s1 I1 h2 p => by
    have h1 := (rV_loose h1).stp s1
    have h2 := rV_loose h2
    cases e1 : rd r1 ρ1 with
    | none => simp only [e1] at p; exact p.elim
    | some d1 =>
      cases e2 : rd r2 ρ1 with
      | none => simp only [e1, e2] at p; exact p.elim
      | some d2 =>
        simp only [e1, e2] at p
        split at p
        · rename_i eg
          refine ⟨Hd1, d1, d2, _, I1.le, I1.rdTop h1 e1, I1.rdTop h2 e2, eg, fun v H' n => ?_⟩
          obtain ⟨Hd2, s2, I2, hv⟩ := n.at I1
          have hv : Rep K Hd2 (.bl true) v := hv
          refine ⟨true, by cases hv; rfl, ?_⟩
          rw [if_pos rfl]
          refine hc.run I2 (p.stp s2) fun r3 v3 fp3 Hd3 H3 ρ3 s3 I3 h3 p3 => ?_
          have h2 := (h2.stp s2).stp s3
          have h3 := rV_loose h3
          cases e3 : rd r2 ρ3 with
          | none => simp only [e3] at p3; exact p3.elim
          | some d2' =>
            cases e4 : rd r3 ρ3 with
            | none => simp only [e3, e4] at p3; exact p3.elim
            | some d3 =>
              simp only [e3, e4] at p3
              cases eg' : g' d2' d3 with
              | none => simp only [eg'] at p3; exact p3.elim
              | some z =>
                simp only [eg'] at p3
                exact ⟨Hd3, d2', d3, z, I3.le, I3.rdTop h2 e3, I3.rdTop h3 e4, eg', fun v H' n => p3.new I3 n⟩
        · rename_i eg
          refine ⟨Hd1, d1, d2, _, I1.le, I1.rdTop h1 e1, I1.rdTop h2 e2, eg, fun v H' n => ?_⟩
          obtain ⟨Hd2, s2, I2, hv⟩ := n.at I1
          have hv : Rep K Hd2 (.bl false) v := hv
          refine ⟨false, by cases hv; rfl, ?_⟩
          rw [if_neg (by simp)]
          exact (p.stp s2).now I2 (Rep.bl false)
        · exact p.elim
/-! ### a method that reads -/
def rGB (K : PySem.W.Frag) (g : D → List D → Option RV) : V → List V → Hp → VK → Prop := fun x vs H Q => ∃ Hd d ds z, Le Hd H ∧ Top K Hd H d x ∧ Tops K Hd H ds vs ∧ g d ds = some z ∧ ∀ v H', NewR K Hd H z v H' → Q v H'
def fBM (fo : Env → Res RV) (fa : Env → Res (List RV)) (g : D → List D → Option RV) : Env → Res RV := fun ρ => (fo ρ).bind fun r ρ1 => match rd r ρ1 with
  | some (.lst _) => (fa ρ1).bind fun rs ρ2 => match rd r ρ2, rds rs ρ2 with
    | some d, some ds => match g d ds with
      | some z => .ok z ρ2
      | none => .no
    | _, _ => .no
  | _ => .no
theorem sd_bm {g : D → List D → Option RV} {to : TE} {fo : Env → Res RV} {ta : TA} {fa : Env → Res (List RV)} (ho : Sd K W (rV K) to fo) (ha : Sd K W (rA K) ta fa) : Sd K W (rV K) (L2.tBM K "list" (rGB K g) to ta) (fBM fo fa g) := fun C fp Hd H σ ρ I Q p =>
  ho.run I p fun r v fp0 Hd0 H0 ρ0 s0 I0 h p => by
    have h := rV_loose h
    split at p
    · rename_i ds0 e0
      obtain ⟨a, xs, rfl, hr, _⟩ := (I0.rdTop h e0).lstD I0.le
      refine ⟨.inl ⟨rfl, xs, .inl hr⟩, ?_⟩
      refine ha.run I0 p fun rs vs fp1 Hd1 H1 ρ1 s1 I1 hs p => ?_
      have h := h.stp s1
      cases e1 : rd r ρ1 with
      | none => simp only [e1] at p; exact p.elim
      | some d =>
        cases e2 : rds rs ρ1 with
        | none => simp only [e1, e2] at p; exact p.elim
        | some ds =>
          simp only [e1, e2] at p
          cases eg : g d ds with
          | none => simp only [eg] at p; exact p.elim
          | some z =>
            simp only [eg] at p
            exact ⟨Hd1, d, ds, z, I1.le, I1.rdTop h e1, tops_of I1 hs e2, eg, fun v H' n => p.new I1 n⟩
    · exact p.elim
end
section
variable {X : Cx}
theorem mt_imp {id : String} {r r' : V → List V → Hp → VK → Prop} (h : MtR X id r) (k : ∀ x xs H Q, r' x xs H Q → r x xs H Q) : MtR X id r' := fun pins s σ H x xs v us Q I rx rs q => h pins s σ H x xs v us Q I rx rs (k x xs H Q q)
def gAppend : List D → List D → Option (List D × D)
  | ds, [y] => if ds.length < sizeLine then some (ds ++ [y], .non) else none
  | _, _ => none
theorem mt_gAppend : MtR X "list.append" (rGMut X.K gAppend) := mt_imp L2.mt_append fun x vs H Q ⟨l, xs, Hd, ds, es, ds', z, ex, hl, r, re, eg, q⟩ => by
  match es, re, eg with
  | [y], .cons hy .nil, eg =>
    simp only [gAppend] at eg
    by_cases hz : ds.length < sizeLine
    · rw [if_pos hz] at eg
      cases eg
      exact ⟨l, xs, _, ex, rfl, hl, by rw [r.length]; exact hz, q _ _ (r.append (.cons hy .nil)) .non⟩
    · rw [if_neg hz] at eg; cases eg
/-- the place of a thing -/
def gIndex : D → List D → Option RV
  | .lst ds, [y] => match fv y, fvs ds with
    | some v, some vs => (vs.findIdx? fun z => L2.eqV z v).map fun j => .val (.int (j : Nat))
    | _, _ => none
  | _, _ => none
theorem mt_gIndex : MtR X "list.index" (rGB X.K gIndex) := mt_imp L2.mt_index fun x xs H Q ⟨Hd, d, es, z, l, t, ts, eg, q⟩ => by
  match d, es, ts, eg with
  | .lst ds, [y], ts, eg =>
    obtain ⟨w, rfl, ty⟩ := tops1 ts
    obtain ⟨a, ys, rfl, hr, r⟩ := t.lstD l
    simp only [gIndex] at eg
    cases e1 : fv y with
    | none => rw [e1] at eg; cases eg
    | some v =>
      cases e2 : fvs ds with
      | none => rw [e1, e2] at eg; cases eg
      | some vs =>
        rw [e1, e2] at eg
        simp only at eg
        obtain ⟨k1, k2⟩ := fv_ok (ty.all l) e1
        obtain ⟨k3, k4⟩ := fvs_ok r e2
        subst k1 k3
        cases e3 : ys.findIdx? (fun z => L2.eqV z w) with
        | none => rw [e3] at eg; cases eg
        | some j =>
          rw [e3] at eg
          cases eg
          obtain ⟨hj, hp, hn⟩ := List.findIdx?_eq_some_iff_getElem.mp e3
          refine ⟨a, ys, w, j, ys[j], rfl, rfl, .inl hr, k2, k4, List.getElem?_eq_getElem hj, hp, fun m z' hm hz => ?_, q _ _ (newR_here l (.int _))⟩
          obtain ⟨hm', e⟩ := List.getElem?_eq_some_iff.mp hz
          have := hn m hm
          rw [e] at this
          exact Bool.eq_false_iff.mpr this
  | .lst _, [], _, eg => cases eg
  | .lst _, _ :: _ :: _, _, eg => cases eg
  | .non, _, _, eg => cases eg
  | .bl _, _, _, eg => cases eg
  | .int _, _, _, eg => cases eg
  | .str _, _, _, eg => cases eg
  | .tup _, _, _, eg => cases eg
  | .dic _, _, _, eg => cases eg
  | .set _, _, _, eg => cases eg
  | .scr _, _, _, eg => cases eg
  | .dlk _, _, _, eg => cases eg
end
/-! ### joined: expressions -/
section
variable {X : Cx} {W : St → XK} {a b c e i o : Expr} {es : List Expr} {pos : Pos} {ta tb tc te ti : TE} {fa fb fc fe fi : Env → Res RV} {t : TA} {f : Env → Res (List RV)} {tt tu : TT} {ft fu : Env → Res Bool}
theorem jv (n : Nat) {x : Str} (hN : X.N[n]? = some x := by rfl) (hv : Vis X.env.scope x := by first | exact Or.inl (by rfl) | exact Or.inr (Or.inl (by rfl)) | exact Or.inr (Or.inr (by rfl))) (hd : (x == ("__debug__" : Str)) = false := by decide)
    (hc : (x == ("__classdict__" : Str)) = false := by decide) : JE X W (.Name x pos) (tVar n) (fVar n) := ⟨L2.pe_var hN hv hd hc, sd_var⟩
theorem ji {n : Int} {j : Nat} : JE X W (.Constant (.int n) j pos) (tC (.int n)) (fC (.int n)) := ⟨L2.pe_int, sd_c fun _ => .int n⟩
theorem jbl {n : Bool} {j : Nat} : JE X W (.Constant (.bool n) j pos) (tC (.bl n)) (fC (.bl n)) := ⟨L2.pe_bl, sd_c fun _ => .bl n⟩
theorem jnon {j : Nat} : JE X W (.Constant .none j pos) (tC .non) (fC .non) := ⟨L2.pe_non, sd_c fun _ => .non⟩
theorem jstr {x : Str} {j : Nat} : JE X W (.Constant (.str x) j pos) (tC (.str x)) (fC (.str x)) := ⟨L2.pe_str, sd_c fun _ => .str x⟩
theorem jglob {x : Str} {n : Int} {u : Value} (hm : X.mg x = some u) (r : L2.RelV (.int n) u) (hg : Gl X x := by rfl) (hd : (x == ("__debug__" : Str)) = false := by decide) : JE X W (.Name x pos) (tC (.int n)) (fC (.int n)) := ⟨L2.pe_glob hg hm r hd, sd_c fun _ => .int n⟩
theorem jop {K : PySem.W.Frag} {op : Operator} {g : D → D → Option RV} (ho : OpR X (binaryOp op) (rG K g)) (ha : JE X W a ta fa) (hb : JE X W b tb fb) (hK : X.K = K := by rfl) : JE X W (.BinOp a op b pos) (tOp (rG K g) ta tb) (f2 fa fb g) := by
  subst hK
  exact ⟨L2.pe_op ho ha.pe hb.pe, sd_op2 ha.se hb.se⟩
theorem jcmp {K : PySem.W.Frag} {op : CmpOp} {g : D → D → Option RV} (ho : OpR X (compareOp op) (rG K g)) (ha : JE X W a ta fa) (hb : JE X W b tb fb) (hm : behindInMarks op b = false := by first | exact L2.nomark _ | rfl) (hK : X.K = K := by rfl) : JE X W (.Compare a [op] [b] pos) (tOp (rG K g) ta tb) (f2 fa fb g) := by
  subst hK
  exact ⟨L2.pe_cmpR ho ha.pe hb.pe hm, sd_op2 ha.se hb.se⟩
theorem jcmpT {K : PySem.W.Frag} {op : CmpOp} {g : D → D → Option RV} (ho : OpR X (compareOp op) (rG K g)) (ha : JE X W a ta fa) (hb : JE X W b tb fb) (hm : behindInMarks op b = false := by first | exact L2.nomark _ | rfl) (hK : X.K = K := by rfl) : JT X W (.Compare a [op] [b] pos) (tTest (tOp (rG K g) ta tb)) (fB (f2 fa fb g)) := by
  subst hK
  exact ⟨L2.pt_cmpR ho ha.pe hb.pe hm, sd_tTest (sd_op2 ha.se hb.se)⟩
theorem jchain {K : PySem.W.Frag} {op op' : CmpOp} {g g' : D → D → Option RV} (ho : OpR X (compareOp op) (rG K g)) (ho' : OpR X (compareOp op') (rG K g')) (ha : JE X W a ta fa) (hb : JE X W b tb fb) (hc : JE X W c tc fc) (hm : lastMarks [op, op'] [b, c] = false := by with_unfolding_all rfl) (hK : X.K = K := by rfl) :
    JE X W (.Compare a [op, op'] [b, c] pos) (L2.tChain (rG K g) (rG K g') ta tb tc) (fChain fa fb fc g g') := by
  subst hK
  exact ⟨L2.pe_chain ho ho' ha.pe hb.pe hc.pe hm, sd_chain ha.se hb.se hc.se⟩
theorem jandV {rest : List Expr} (ha : JE X W a ta fa) (hb : JE X W (.BoolOp .And (b :: rest) pos) tb fb) : JE X W (.BoolOp .And (a :: b :: rest) pos) (tAndV ta tb) (fAndV fa fb) := ⟨L2.pe_and ha.pe hb.pe, sd_andV ha.se hb.se⟩
theorem jorV {rest : List Expr} (ha : JE X W a ta fa) (hb : JE X W (.BoolOp .Or (b :: rest) pos) tb fb) : JE X W (.BoolOp .Or (a :: b :: rest) pos) (tOrV ta tb) (fOrV fa fb) := ⟨L2.pe_or ha.pe hb.pe, sd_orV ha.se hb.se⟩
theorem joneV {op : BoolOp} (ha : JE X W a ta fa) : JE X W (.BoolOp op [a] pos) ta fa := ⟨L2.pe_one ha.pe, ha.se⟩
theorem jand {rest : List Expr} (ha : JT X W a tt ft) (hb : JW X W (.BoolOp .And (b :: rest) pos) tu fu) : JW X W (.BoolOp .And (a :: b :: rest) pos) (tAnd tt tu) (fAnd ft fu) := ⟨L2.pw_and ha.pt hb.pw, sd_and ha.st hb.st⟩
theorem jor {rest : List Expr} (ha : JT X W a tt ft) (hb : JW X W (.BoolOp .Or (b :: rest) pos) tu fu) : JW X W (.BoolOp .Or (a :: b :: rest) pos) (tOr tt tu) (fOr ft fu) := ⟨L2.pw_or ha.pt hb.pw, sd_or ha.st hb.st⟩
theorem jand1 (ha : JT X W a tt ft) : JW X W (.BoolOp .And [a] pos) tt ft := ⟨L2.pw_and1 ha.pt, ha.st⟩
theorem jor1 (ha : JT X W a tt ft) : JW X W (.BoolOp .Or [a] pos) tt ft := ⟨L2.pw_or1 ha.pt, ha.st⟩
theorem JW.jt (h : JW X W e tt ft) : JT X W e tt ft := ⟨h.pw.pt, h.st⟩
theorem jnot (ha : JT X W a tt ft) : JT X W (.UnaryOp .Not a pos) (tNot tt) (fNot ft) := ⟨L2.pt_not ha.pt, sd_not ha.st⟩
/-- any value that is a bool, tested -/
theorem jval (ha : JE X W e te fe) (he : ∀ whole, isTrue e X.env whole = (do let v ← whole; standAt e.pos; holding [v] (truthy v)) := by intro _; rfl) : JT X W e (tB te) (fB fe) := ⟨L2.pt_val ha.pe he, sd_tB ha.se⟩
theorem jif (hc : JT X W c tt ft) (ha : JE X W a ta fa) (hb : JE X W b tb fb) : JE X W (.IfExp c a b pos) (tIf tt ta tb) (fIf ft fa fb) := ⟨L2.pe_ifExp hc.pt ha.pe hb.pe, sd_if hc.st ha.se hb.se⟩
theorem janil : JA X W [] tNil aNil := ⟨L2.pa_nil, sa_nil⟩
theorem jacons (ha : JE X W e te fe) (hr : JA X W es t f) (hs : starEach (e :: es) X.env = (false, eval e X.env) :: starEach es X.env := by rfl) : JA X W (e :: es) (tCons te t) (aCons fe f) := ⟨L2.pa_cons ha.pe hr.pa hs, sa_cons ha.se hr.sa⟩
theorem jitem (ha : JE X W e te fe) (hr : JA X W es t f) (hs : starEach (e :: es) X.env = (false, eval e X.env) :: starEach es X.env := by rfl) : JA X W (e :: es) (tCons te t) (iCons fe f) := ⟨L2.pa_cons ha.pe hr.pa hs, sa_item ha.se hr.sa⟩
theorem jtup {x1} (h : JA X W es t f) : JE X W (.Tuple es x1 pos) (tTup t) (fTup f) := ⟨L2.pe_tup h.pa, sd_tup h.sa⟩
theorem jlst (h : JA X W es t f) : JE X W (.List es pos) (tLst t) (fLst f) := ⟨L2.pe_lst h.pa, sd_lst h.sa⟩
theorem jix {K : PySem.W.Frag} (ha : JE X W a ta fa) (hb : JE X W b tb fb) (hs : L2.PlainIx b := by intro _ _; rfl) (hK : X.K = K := by rfl) : JE X W (.Subscript a b pos) (tOp (rG K gIx) ta tb) (f2 fa fb gIx) := by
  subst hK
  exact ⟨L2.pe_ix ix_gIx ha.pe hb.pe hs, sd_op2 ha.se hb.se⟩
theorem jdget (hu : X.A.units + 64 < cLine) (ha : JE X W a ta fa) (hb : JE X W b tb fb) (hs : L2.NoSl b := by intro _ _; rfl) : JE X W (.Subscript a b pos) (L2.tDGet ta tb) (f2 fa fb gDGet) := ⟨L2.pe_dget (by omega) ha.pe hb.pe hs, sd_dget ha.se hb.se⟩
structure JO (X : Cx) (W : St → XK) (e : Option Expr) (t : TO) (f : Env → Res (Option Int)) : Prop where
  po : PO X e t
  so : Sd X.K W rO t f
theorem jno : JO X W none L2.tNoPart fNoPart := ⟨L2.po_none, so_none⟩
theorem jpart (h : JE X W e te fe) : JO X W (some e) (L2.tPart te) (fPart fe) := ⟨L2.po_some h.pe, so_some h.se⟩
theorem jsl {K : PySem.W.Frag} {lo hi : Option Expr} {p2 : Pos} {tl th : TO} {fl fh : Env → Res (Option Int)} (he : JE X W e te fe) (hl : JO X W lo tl fl) (hh : JO X W hi th fh) (hK : X.K = K := by rfl) : JE X W (.Subscript e (.Slice lo hi none p2) pos) (L2.tSl (rSG K gSl) te tl th) (fSl fe fl fh gSl) := by
  subst hK
  exact ⟨L2.pe_slice sl_gSl he.pe hl.po hh.po, sd_sl he.se hl.so hh.so⟩
/-- a built-in function, a built-in type -/
theorem jcb {K : PySem.W.Frag} {x : Str} {id : String} {p : Pos} {g : List D → Option RV} (hc : CallR X (.builtin id) (rGC K g)) (hm : X.mg x = none) (ha : JA X W (e :: es) t f) (hg : Gl X x := by rfl) (hv : bootBuiltins x = some (.builtin id) := by decide +kernel) (hn : x ≠ "__name__" := by decide)
    (hdb : (x == ("__debug__" : Str)) = false := by decide) (he : starEach (e :: es) X.env = (false, eval e X.env) :: starEach es X.env := by rfl) (hpl : (backTo pos (starEach es X.env)).any (·.1) = false := by rfl) (hK : X.K = K := by rfl) : JE X W (.Call (.Name x p) (e :: es) [] pos) (tCB (rGC K g) t) (fCB f g) := by
  subst hK
  exact ⟨L2.pe_callB hc hg hm hv ha.pa hn hdb he hpl, sd_cb ha.sa⟩
theorem jcty {K : PySem.W.Frag} {x : Str} {T : String} {p : Pos} {g : List D → Option RV} (hc : CallR X (.type T) (rGC K g)) (hm : X.mg x = none) (ha : JA X W (e :: es) t f) (hg : Gl X x := by rfl) (hv : bootBuiltins x = some (.type T) := by decide +kernel) (hn : x ≠ "__name__" := by decide)
    (hdb : (x == ("__debug__" : Str)) = false := by decide) (he : starEach (e :: es) X.env = (false, eval e X.env) :: starEach es X.env := by rfl) (hpl : (backTo pos (starEach es X.env)).any (·.1) = false := by rfl) (hK : X.K = K := by rfl) : JE X W (.Call (.Name x p) (e :: es) [] pos) (tCB (rGC K g) t) (fCB f g) := by
  subst hK
  exact ⟨L2.pe_callTy hc hg hm hv ha.pa hn hdb he hpl, sd_cb ha.sa⟩
end
end O

/-! Own10: joined rules: calls, comprehensions, statements, the def -/
namespace O
open PySem
open L2 (V Hp HO Rd SqL SqT upd upd_same upd_ne ne_of ne_of_none TE TT TA TS TG TGs TI TO It VK XK Ends St PE PT PW PA PS PSs PG PGs PI PO PTs Cx OpR UnR CallR IxR SlR MtR R2 tOp tUn tVar tC tCons tNil tTup tLst tTest tB tAnd tOr tNot tAndV tOrV tNotV tIf tCB Sp FnOk Gl Vis Loc Room)
section
variable {X : Cx} {a : Expr} {ta : TE} {pos p p2 q : Pos}
open PySem.Spec PyProof.Rows L2 in
/-- len(set(t)), t a tuple of different ints -/
def tLsT (K : PySem.W.Frag) (ta : TE) : TE := fun σ H Q => ta σ H fun x H1 => ∃ (l : Addr) (ns : List Int), x = V.ref l ∧ L2.SqT K H1 l (ns.map V.int) ∧ ns.length < 4000 ∧ ns.Nodup ∧ Q (.int (ns.length : Nat)) H1
theorem pe_lsT (hc : X.calm = true) (hm : X.mg "len" = none) (hm2 : X.mg "set" = none) (ha : PE X a ta) (hg : Gl X "len" := by rfl) (hg2 : Gl X "set" := by rfl)
    (na : starEach [a] X.env = (false, eval a X.env) :: starEach [] X.env := by rfl) : PE X (.Call (.Name "len" p) [.Call (.Name "set" p2) [a] [] q] [] pos) (tLsT X.K ta) := by
  refine ⟨fun pins s σ H Q I hw => ?_⟩
  refine PyProof.Rows.Call_ (L2.ld_blt I hg hm PySem.boot_len ?_)
  refine PyProof.Rows.callWith_builtin1 (PyProof.Rows.args_cons (?_) rfl) rfl rfl
  refine PyProof.Rows.Call_ (L2.ld_blt I hg2 hm2 PyProof.Rows.boot_set ?_)
  refine PyProof.Rows.callWith_type1 (PyProof.Rows.args_cons (L2.thn (ha.run pins s σ H _ I hw) fun v s1 ⟨x, H1, I1, r1, q1⟩ => (PyProof.Rows.args_nil ?_)) na) na rfl
  obtain ⟨l, ns, rfl, hq, hlen, hnd, q1⟩ := q1
  cases r1
  obtain ⟨its, r, pt, hz⟩ := I1.tuple hq
  have hi : PyProof.Rows.IntsAre its.toArray.toList ns := by simpa using L2.ints_of_vals r
  have hd := I1.ok.hd hc
  refine L2.call_set_tupI ns hd (show s1.heap.IsTuple l its.toArray from pt) hi (by unfold scanBound; omega) fun h' tk c R1 hcn k => (?_)
  obtain ⟨o, es, ep, t, ho, hex, hdt, g, nd, hm3, hb, hf, hn, _⟩ := R1
  refine PyProof.Rows.args_nil (?_)
  have I2 : L2.Inv X pins σ H1 { s1 with heap := h', toks := tk } := I1.kept fun b o e => k b o e
  have hp : (es.toList.map L2.keyOf).Perm ns := by
    refine (List.perm_ext_iff_of_nodup nd hnd).mpr fun z => ?_
    have := hm3 z
    simp only [decide_eq_true_eq] at this
    exact this.symm
  have he : es.size = ns.length := by
    have := hp.length_eq
    rw [List.length_map, Array.length_toList] at this
    exact this
  exact PySem.call_len_set ho hex hdt hf (by rw [he]; omega) ⟨.int ns.length, H1, I2.tok _, ⟨_, by rw [he]⟩, q1⟩
end
section
variable {K : PySem.W.Frag} {W : St → XK}
/-- in a row: all different -/
def nodupB : List Int → Bool
  | [] => true
  | n :: ns => !ns.contains n && nodupB ns
theorem nodupB_iff : ∀ {ns : List Int}, nodupB ns = true ↔ ns.Nodup
  | [] => by simp [nodupB]
  | n :: ns => by
    rw [nodupB, Bool.and_eq_true, List.nodup_cons, nodupB_iff (ns := ns)]
    simp
def gLenSet : D → Option RV
  | .tup ds => match intsD ds with
    | some ns => if (nodupB ns = true) ∧ ns.length < 4000 then some (.val (.int (ns.length : Nat))) else none
    | none => none
  | _ => none
theorem sd_lsT {ta : TE} {fa : Env → Res RV} (ha : Sd K W (rV K) ta fa) : Sd K W (rV K) (tLsT K ta) (f1 fa gLenSet) := fun C fp Hd H σ ρ I Q p =>
  ha.run I p fun r1 v1 fp0 Hd0 H0 ρ0 s0 I0 h1 p => by
    have h1 := rV_loose h1
    cases e1 : rd r1 ρ0 with
    | none => simp only [e1] at p; exact p.elim
    | some d1 =>
      simp only [e1] at p
      have t := I0.rdTop h1 e1
      cases d1 with
      | tup ds =>
        simp only [gLenSet] at p
        cases e2 : intsD ds with
        | none => simp only [e2] at p; exact p.elim
        | some ns =>
          simp only [e2] at p
          by_cases hh : (nodupB ns = true) ∧ ns.length < 4000
          · rw [if_pos hh] at p
            obtain ⟨b, xs, rfl, hq, r⟩ := t.tupD I0.le
            have ey := intsD_ok r e2
            subst ey
            exact ⟨b, ns, rfl, hq, hh.2, nodupB_iff.mp hh.1, p.new I0 (newR_here I0.le (.int _))⟩
          · rw [if_neg hh] at p; exact p.elim
      | _ => exact p.elim
def fYes : Env → Res Bool := fun ρ => .ok true ρ
theorem sd_yes : Sd K W rB L2.tYes fYes := fun C fp Hd H σ ρ I Q p => p.now I rfl
end
section
variable {X : Cx} {W : St → XK} {a b c e i o tg iter elt cond : Expr} {es : List Expr} {pos p p2 : Pos} {ta tb tc te ti : TE} {fa fb fc fe fi : Env → Res RV} {t : TA} {f : Env → Res (List RV)} {tt tu : TT} {ft fu : Env → Res Bool}
theorem jlsT {K : PySem.W.Frag} {q : Pos} (hc : X.calm = true) (hm : X.mg "len" = none) (hm2 : X.mg "set" = none) (ha : JE X W a ta fa) (hg : Gl X "len" := by rfl) (hg2 : Gl X "set" := by rfl)
    (na : starEach [a] X.env = (false, eval a X.env) :: starEach [] X.env := by rfl) (hK : X.K = K := by rfl) : JE X W (.Call (.Name "len" p) [.Call (.Name "set" p2) [a] [] q] [] pos) (tLsT K ta) (f1 fa gLenSet) := by
  subst hK
  exact ⟨pe_lsT hc hm hm2 ha.pe hg hg2 na, sd_lsT ha.se⟩
/-- isinstance(x, T), T a built-in type -/
theorem jisi {K : PySem.W.Frag} {T : Str} {Tn : String} (hk : IsiK K Tn) (hm : X.mg "isinstance" = none) (hmT : X.mg T = none) (ha : JE X W a ta fa) (hv : bootBuiltins T = some (.type Tn) := by decide +kernel) (hg : Gl X "isinstance" := by rfl) (hgT : Gl X T := by rfl) (hn : T ≠ "__name__" := by decide) (hdT : (T == ("__debug__" : Str)) = false := by decide)
    (he : starEach [a, .Name T p2] X.env = (false, eval a X.env) :: starEach [.Name T p2] X.env := by rfl) (he2 : starEach [.Name T p2] X.env = (false, eval (.Name T p2) X.env) :: starEach [] X.env := by rfl) (hpl : (backTo pos (starEach [.Name T p2] X.env)).any (·.1) = false := by rfl) (hK : X.K = K := by rfl) :
    JE X W (.Call (.Name "isinstance" p) [a, .Name T p2] [] pos) (tCB (L2.rIsi K) (tCons ta (tCons (tC (.ty Tn)) tNil))) (f1 fa (gIsi Tn)) := by
  subst hK
  exact ⟨L2.pe_callB L2.call_isi hg hm PyProof.Rows.boot_isinstance (L2.pa_cons ha.pe (L2.pa_cons (L2.pe_bltn hgT hmT hv rfl hn hdT) L2.pa_nil he2) he) (he := he) (hpl := hpl), sd_isi hk ha.se⟩
/-- a call of a def -/
theorem jcall {K : PySem.W.Frag} {x : Str} {k j n : Nat} {fd : FuncData} {ps : List Str} {F : List Ar → FO} {dds : List D} {dvs : List V} {ds : List Value} {fA : Addr} (ms : List Md) (FO' : FnOk X.prog X.w X.K X.mg X.base (L2.CX X.prog X.w) k fA fd ps (spF K n F)) (hr : Room j X.A) (hj : k ≤ j) (hm : X.mg x = some (.ref fA))
    (hk : PySem.W.keepIn X.K (.ref fA) = true) (hb : L2.Binds X.K fd ps ds) (hd : L2.Vals dvs ds) (hdd : ∀ Hd : Hp, Reps X.K Hd dds dvs) (tk : ∀ σ, L2.PassesAt (L2.CX X.prog X.w) X σ (W σ)) (ha : JA X W (e :: es) t f) (hl : ms.length = n := by rfl) (hg : Gl X x := by rfl) (hdb : (x == ("__debug__" : Str)) = false := by decide)
    (he : starEach (e :: es) X.env = (false, eval e X.env) :: starEach es X.env := by rfl) (hpl : (backTo pos (starEach es X.env)).any (·.1) = false := by rfl) (hK : X.K = K := by rfl) : JE X W (.Call (.Name x p) (e :: es) [] pos) (L2.tCallSD (spF K n F) dvs W t) (fCall ms dds F f) := by
  subst hK
  exact ⟨L2.pe_callSD FO' (hr.mono hj) hg hm hk hb hd tk ha.pa hdb he hpl, sd_call hl hdd ha.sa⟩
/-- list methods on a name -/
def fMutL (n : Nat) (f : Env → Res (List RV)) (g : List D → List D → Option (List D × D)) : Env → Res RV := fun ρ => match ownAt n ρ with
  | some (.lst _) => fMut n f g ρ
  | _ => .no
theorem jappend {K : PySem.W.Frag} {n : Nat} {apos : Pos} {x : Str} (ho : JE X W (.Name x p) (tVar n) (fVar n)) (ha : JA X W [a] t f) (hbase : attributeBase (.Name x p) "append" X.env (eval (.Name x p) X.env) = eval (.Name x p) X.env := by rfl)
    (hfew : ((backTo pos (starEach [a] X.env)).all (fun z => !z.1) && (backToKw pos (keywordEach [] X.env)).all (fun z => z.1.isSome) && decide ([a].length + ([] : List Keyword).length + (if ([] : List Keyword).isEmpty then 0 else 1) < 30)) = true := by rfl)
    (hline : (apos.endLine == pos.line) = true := by rfl) (hs : starEach [a] X.env = (false, eval a X.env) :: starEach [] X.env := by rfl) (hplain : (backTo pos (starEach [] X.env)).any (·.1) = false := by rfl) (hK : X.K = K := by rfl) :
    JE X W (.Call (.Attribute (.Name x p) "append" apos) [a] [] pos) (L2.tBM K "list" (rGMut K gAppend) (tVar n) t) (fMutL n f gAppend) := by
  subst hK
  exact ⟨L2.pe_bm PySem.F.plainAttrs_list PySem.F.slot_list_append PySem.F.type_list_append mt_gAppend ho.pe ha.pa hbase hfew hline hs hplain, sd_mut ha.sa⟩
theorem jindex {K : PySem.W.Frag} {apos : Pos} (ho : JE X W o te fe) (ha : JA X W [a] t f) (hbase : attributeBase o "index" X.env (eval o X.env) = eval o X.env := by rfl)
    (hfew : ((backTo pos (starEach [a] X.env)).all (fun z => !z.1) && (backToKw pos (keywordEach [] X.env)).all (fun z => z.1.isSome) && decide ([a].length + ([] : List Keyword).length + (if ([] : List Keyword).isEmpty then 0 else 1) < 30)) = true := by rfl)
    (hline : (apos.endLine == pos.line) = true := by rfl) (hs : starEach [a] X.env = (false, eval a X.env) :: starEach [] X.env := by rfl) (hplain : (backTo pos (starEach [] X.env)).any (·.1) = false := by rfl) (hK : X.K = K := by rfl) :
    JE X W (.Call (.Attribute o "index" apos) [a] [] pos) (L2.tBM K "list" (rGB K gIndex) te t) (fBM fe f gIndex) := by
  subst hK
  exact ⟨L2.pe_bm PySem.F.plainAttrs_list PySem.F.slot_list_index PySem.F.type_list_index mt_gIndex ho.pe ha.pa hbase hfew hline hs hplain, sd_bm ho.se ha.sa⟩
/-! targets, walks -/
structure JG (X : Cx) (e : Expr) (g : TG) (t : Tg) : Prop where
  pg : PG X e g
  gt : Gt X.K g t
structure JGs (X : Cx) (es : List Expr) (g : TGs) (t : List Tg) : Prop where
  pgs : PGs X es g
  gts : Gts X.K g t
theorem jgn (n : Nat) {x : Str} (hN : X.N.Nodup) (hi : X.N[n]? = some x := by rfl) (hx : Loc X.env.scope x := by first | exact Or.inl (by rfl) | exact Or.inr (by rfl)) (hf : X.fn x = true ∨ X.env.scope.names.lookup x = some .local := by first | exact Or.inl (by rfl) | exact Or.inr (by rfl)) : JG X (.Name x pos) (L2.gName n) (.name n) :=
  ⟨L2.pg_name hN hi hx hf, gt_name⟩
theorem jgnil : JGs X [] L2.gNil [] := ⟨L2.pgs_nil, gts_nil⟩
theorem jgcons {g : TG} {gs : TGs} {t : Tg} {ts : List Tg} (h : JG X e g t) (hr : JGs X es gs ts) (hs : (assignEach (e :: es) X.env).map (·.2) = assign e X.env :: (assignEach es X.env).map (·.2) := by rfl) : JGs X (e :: es) (L2.gCons g gs) (t :: ts) := ⟨L2.pgs_cons h.pg hr.pgs hs, gts_cons h.gt hr.gts⟩
theorem jgt {K : PySem.W.Frag} {k n : Nat} {gs : TGs} {ts : List Tg} (hc : X.calm = true) (h : JGs X es gs ts) (hn : (assignEach es X.env).length = n := by rfl) (hl : ts.length = n := by rfl) (hst : (assignEach es X.env).findIdx? (·.1) = none := by rfl) (hK : X.K = K := by rfl) : JG X (.Tuple es k pos) (L2.gTup K n gs) (.tup ts) := by
  subst hK
  exact ⟨L2.pg_tup hc h.pgs hn hst, gt_tup hl h.gts⟩
theorem jil {K : PySem.W.Frag} (h : JE X W e te fe) (hK : X.K = K := by rfl) : JI X W tg e (L2.iList K te) (fWalk fe gItL) := by
  subst hK
  exact ⟨L2.pi_list h.pe, si_list h.se⟩
theorem jit {K : PySem.W.Frag} (h : JE X W e te fe) (hK : X.K = K := by rfl) : JI X W tg e (L2.iTup K te) (fWalk fe gItT) := by
  subst hK
  exact ⟨L2.pi_tup h.pe, si_tup h.se⟩
theorem jr1 (hm : X.mg "range" = none) (ha : JA X W [a] t f) (hg : Gl X "range" := by rfl) (hs : starEach [a] X.env = [(false, eval a X.env)] := by rfl) : JI X W tg (.Call (.Name "range" p) [a] [] pos) (L2.iRng1 t) (fRng1 f) := ⟨L2.pi_range1 hg hm ha.pa hs, si_rng1 ha.sa⟩
theorem jr2 (hm : X.mg "range" = none) (ha : JA X W [a, b] t f) (hg : Gl X "range" := by rfl) (hs : starEach [a, b] X.env = [(false, eval a X.env), (false, eval b X.env)] := by rfl) (hs2 : starEach [b] X.env = [(false, eval b X.env)] := by rfl) :
    JI X W tg (.Call (.Name "range" p) [a, b] [] pos) (L2.iRng2 t) (fRng2 f) := ⟨L2.pi_range2 hg hm ha.pa hs hs2, si_rng2 ha.sa⟩
structure JTs (X : Cx) (W : St → XK) (ifs : List Expr) (t : TT) (f : Env → Res Bool) : Prop where
  pts : PTs X ifs t
  st : Sd X.K W rB t f
theorem jts0 : JTs X W [] L2.tYes fYes := ⟨L2.pts_nil, sd_yes⟩
theorem jts1 (h : JT X W c tt ft) : JTs X W [c] tt ft := ⟨L2.pts_one h.pt, h.st⟩
/-- a list comprehension -/
theorem jlc {ifs : List Expr} {scope : Scope} {wi : TI} {fw : Env → Res (List D)} {g : TG} {tgt : Tg} (own : List (Str × Nat)) (hc : X.calm = true) (hN : X.N.Nodup) (hi : JI X W tg iter wi fw) (ok : L2.blkC X.N X.env.scope scope own = true)
    (hg : ∀ (s : Shared) (H : Hp) (C : Addr) (cl : List (Str × Addr)) (fp : List Addr), JG (X.blk s H scope (PySem.compEnvC scope cl C X.env) fp) tg g tgt) (ht : ∀ (s : Shared) (H : Hp) (C : Addr) (cl : List (Str × Addr)) (fp : List Addr), JTs (X.blk s H scope (PySem.compEnvC scope cl C X.env) fp) W0 ifs tt ft)
    (he : ∀ (s : Shared) (H : Hp) (C : Addr) (cl : List (Str × Addr)) (fp : List Addr), JE (X.blk s H scope (PySem.compEnvC scope cl C X.env) fp) W0 elt te fe) (hv : ∀ u ∈ slotsT tgt, u ∈ own.map (·.2) := by decide) (hs : ∀ x, foldedSetIterable iter X.env x = pure x := by intro _; rfl) :
    JE X W (.ListComp elt [⟨tg, iter, ifs, 0⟩] scope pos) (L2.tLc wi g tt te (own.map (·.2))) (fLc fw (own.map (·.2)) tgt ft fe) :=
  ⟨L2.pe_lc hc hN hi.pi (L2.blkOk_by ok) (fun s H C cl fp => (hg s H C cl fp).pg) (fun s H C cl fp => (ht s H C cl fp).pts) (fun s H C cl fp => (he s H C cl fp).pe) hs, sd_lc hi.si (hg {} (fun _ => none) 0 [] []).gt hv (ht {} (fun _ => none) 0 [] []).st (he {} (fun _ => none) 0 [] []).se⟩
/-- names = comprehension, its cell the name -/
theorem jsetLc {n : Nat} {y : Str} {py spos : Pos} {ifs : List Expr} {scope : Scope} {wi : TI} {fw : Env → Res (List D)} {g : TG} {tgt : Tg} (own : List (Str × Nat)) (hc : X.calm = true) (hN : X.N.Nodup) (hi : JI X W tg iter wi fw) (ok : L2.blkC X.N X.env.scope scope own = true)
    (hg : ∀ (s : Shared) (H : Hp) (C : Addr) (cl : List (Str × Addr)) (fp : List Addr), JG (X.blk s H scope (PySem.compEnvC scope cl C X.env) fp) tg g tgt) (ht : ∀ (s : Shared) (H : Hp) (C : Addr) (cl : List (Str × Addr)) (fp : List Addr), JTs (X.blk s H scope (PySem.compEnvC scope cl C X.env) fp) W0 ifs tt ft)
    (he : ∀ (s : Shared) (H : Hp) (C : Addr) (cl : List (Str × Addr)) (fp : List Addr), JE (X.blk s H scope (PySem.compEnvC scope cl C X.env) fp) W0 elt te fe) (hy : X.N[n]? = some y := by rfl) (hyl : X.env.scope.names.lookup y = some .local := by rfl) (hv : ∀ u ∈ slotsT tgt, u ∈ own.map (·.2) := by decide) (hs : ∀ x, foldedSetIterable iter X.env x = pure x := by intro _; rfl)
    (hsw : swapsWith (.ListComp elt [⟨tg, iter, ifs, 0⟩] scope pos) (some (.Name y py)) spos.line X.env = pure true := by rfl) :
    JS X W (.Assign [.Name y py] (.ListComp elt [⟨tg, iter, ifs, 0⟩] scope pos) spos) (L2.tAsg (L2.tLc wi g tt te (own.map (·.2))) (L2.gName n)) (gSet n (fLc fw (own.map (·.2)) tgt ft fe)) :=
  ⟨L2.ps_setLc hc hN hy hyl hsw hi.pi (L2.blkOk_by ok) (fun s H C cl fp => (hg s H C cl fp).pg) (fun s H C cl fp => (ht s H C cl fp).pts) (fun s H C cl fp => (he s H C cl fp).pe) hs, ss_set (sd_lc hi.si (hg {} (fun _ => none) 0 [] []).gt hv (ht {} (fun _ => none) 0 [] []).st (he {} (fun _ => none) 0 [] []).se)⟩
/-! ### joined: statements -/
theorem jset (n : Nat) {x : Str} {pos' : Pos} (hN : X.N.Nodup) (he : JE X W e te fe) (hi : X.N[n]? = some x := by rfl) (hx : Loc X.env.scope x := by first | exact Or.inl (by rfl) | exact Or.inr (by rfl)) (hs : swapsWith e (some (.Name x pos')) pos.line X.env = pure false := by rfl) (hf : X.fn x = true ∨ X.env.scope.names.lookup x = some .local := by first | exact Or.inl (by rfl) | exact Or.inr (by rfl)) :
    JS X W (.Assign [.Name x pos'] e pos) (L2.tAsg te (L2.gName n)) (gSet n fe) := ⟨L2.ps_set hN hi hx he.pe hs hf, ss_set he.se⟩
theorem jasg {g : TG} {tgt : Tg} (hg : JG X tg g tgt) (he : JE X W e te fe) (hs : swapsWithSole [tg] e pos.line X.env = pure false := by rfl) (hw : swappedStores [tg] e X.env = pure none := by rfl) (h1 : (assignEach [tg] X.env).map (·.2) = [assign tg X.env] := by rfl) :
    JS X W (.Assign [tg] e pos) (L2.tAsg te g) (gAsg tgt fe) := ⟨L2.ps_asg he.pe hg.pg hs hw h1, ss_asg he.se hg.gt⟩
structure JM (X : Cx) (W : St → XK) (es : List Expr) (t : TA) (f : Env → Res (List RV)) : Prop where
  pa : PA X es t
  sm : Sd X.K W (rM X.K) t f
theorem jmnil : JM X W [] tNil hNil := ⟨L2.pa_nil, sm_nil⟩
theorem jmcons (ha : JE X W e te fe) (hr : JM X W es t f) (hs : starEach (e :: es) X.env = (false, eval e X.env) :: starEach es X.env := by rfl) : JM X W (e :: es) (tCons te t) (hCons fe f) := ⟨L2.pa_cons ha.pe hr.pa hs, sm_cons ha.se hr.sm⟩
theorem jpar (n m : Nat) {x y : Str} {px py pt : Pos} {kt k2 pt2} (hc : X.calm = true) (hN : X.N.Nodup) (ha : JM X W [a, b] t f) (hi : X.N[n]? = some x := by rfl) (hj : X.N[m]? = some y := by rfl) (hij : n ≠ m := by decide) (hx : X.env.scope.names.lookup x = some .local := by rfl) (hy : X.env.scope.names.lookup y = some .local := by rfl)
    (hw : swappedStores [.Tuple [.Name x px, .Name y py] kt pt] (.Tuple [a, b] k2 pt2) X.env = pure (some [x, y]) := by rfl) (hs : swapsWithSole [.Tuple [.Name x px, .Name y py] kt pt] (.Tuple [a, b] k2 pt2) pos.line X.env = pure false := by rfl) :
    JS X W (.Assign [.Tuple [.Name x px, .Name y py] kt pt] (.Tuple [a, b] k2 pt2) pos) (L2.tPar n m t) (gParN [n, m] f) := ⟨L2.ps_par hc hN hi hj hij hx hy ha.pa hw hs, ss_par ha.sm⟩
theorem jput (n : Nat) {x : Str} {pos' : Pos} (hu : X.A.units + 64 < cLine) (ho : JE X W (.Name x p) (tVar n) (fVar n)) (hi : JE X W i ti fi) (he : JE X W e te fe) (hs : swapsWith e (some (.Subscript (.Name x p) i pos')) pos.line X.env = pure false := by rfl) :
    JS X W (.Assign [.Subscript (.Name x p) i pos'] e pos) (L2.sDPut (tVar n) ti te) (gPutI n fi fe) := ⟨L2.ps_dput (by omega) ho.pe hi.pe he.pe hs, ss_putI hi.se he.se⟩
theorem jdrop (he : JE X W e te fe) (hs : swapsWith e none pos.line X.env = pure false := by rfl) : JS X W (.Expr e pos) (L2.tDrop te) (gDrop fe) := ⟨L2.ps_expr he.pe hs, ss_drop he.se⟩
theorem jret (he : JE X W e te fe) : JS X W (.Return (some e) pos) (L2.tRet te) (gRet fe) := ⟨L2.ps_ret he.pe, ss_ret he.se⟩
theorem jnever {st : Stmt} : JS X W st L2.tNever gNever := ⟨L2.ps_never, ss_never⟩
variable {s : Stmt} {sb sc : List Stmt} {t1 t2 : TS} {g1 g2 : Env → SR}
theorem jifS (hc : JT X W c tt ft) (ha : JB X W sb t1 g1) (hb : JB X W sc t2 g2) : JS X W (.If c sb sc pos) (L2.tIfS tt t1 t2) (gIf ft g1 g2) := ⟨L2.ps_if hc.pt ha.pss hb.pss, ss_if hc.st ha.ss hb.ss⟩
theorem jfor {wi : TI} {fw : Env → Res (List D)} {g : TG} {tgt : Tg} (hp : PassesOwn (model X.prog X.w) X.A X.env X.xe) (hc : X.calm = true) (hi : JI X W tg iter wi fw) (hg : JG X tg g tgt) (hb : JB X W sb t1 g1) (hs : ∀ x, foldedSetIterable iter X.env x = pure x := by intro _; rfl) :
    JS X W (.For tg iter sb [] pos) (L2.tFor wi g t1) (gFor fw tgt g1) := ⟨L2.ps_for hp hc hi.pi hg.pg hb.pss hs, ss_for hi.si hg.gt hb.ss⟩
theorem jwhile (hp : PassesOwn (model X.prog X.w) X.A X.env X.xe) (hc : JT X W c tt ft) (hb : JB X W sb t1 g1) : JS X W (.While c sb [] pos) (L2.tWhile tt t1) (gWhile ft g1) := ⟨L2.ps_while hp hc.pt hb.pss, ss_while hc.st hb.ss⟩
theorem jbnil : JB X W [] L2.tNext gNext := ⟨L2.pss_nil, ss_next⟩
theorem jb1 (h : JS X W s t1 g1) : JB X W [s] t1 g1 := ⟨L2.pss_one h.ps, h.ss⟩
theorem jbcons (h : JS X W s t1 g1) (hr : JB X W sb t2 g2) : JB X W (s :: sb) (L2.tSeq t1 t2) (gSeq g1 g2) := ⟨L2.pss_cons h.ps hr.pss, ss_seq h.ss hr.ss⟩
end
/-! ### the def -/
section
variable {P : Program} {w : World} {K : PySem.W.Frag} {mg : Str → Option Value} {base : Heap}
/-- the body's world -/
abbrev bx (P : Program) (w : World) (K : PySem.W.Frag) (mg : Str → Option Value) (base : Heap) (N : List Str) (qual : Str) (st : Stmt) (f : Addr) (cdv : Value) (A : Around) (outer : List PySem.Env) (s : Shared) (H : Hp) (E : XK) : Cx :=
  L2.cxOf (L2.CX P w) P w K mg base N qual (L2.defScope st) f cdv A outer s H E
theorem def_ok {x qual : Str} {st : Stmt} {f : Addr} {fd : FuncData} {N ps : List Str} {k n m : Nat} {g : Env → SR} (F : L2.Fun K x qual st f fd) (S : L2.FnScope N ps (L2.defScope st)) (hN : N.length = n) (hp : ps.length = m) (hmn : m ≤ n)
    (hb : ∀ (cdv : Value) (A : Around) (outer : List PySem.Env) (s : Shared) (H : Hp) (E : XK), Room k (A.deeper (PyProof.Rows.envOfC qual (L2.defScope st) s.heap.objs.size f cdv)) → ∃ t, JB (bx P w K mg base N qual st f cdv A outer s H E) (fun _ => E) (L2.defBody st) t g) :
    FnOk P w K mg base (L2.CX P w) (k + 1) f fd ps (spF K m (runF n g)) :=
  F.okX S (fun vs H Q E h => by rw [spF_len h, hp]) fun cdv A outer s H vs Q E hr h => by
    obtain ⟨t, jb⟩ := hb cdv A outer s H E hr
    exact ⟨t, jb.pss, body_ok hN hmn jb.ss h⟩
end
end O

/-! Own11: a dict written down -/
namespace O
open PySem
open L2 (V Hp HO Rd SqL SqT upd upd_same upd_ne ne_of ne_of_none TE TT TA TS TG TGs TI TO It VK XK Ends St PE PT PW PA PS PSs PG PGs PI PO PTs Cx OpR UnR CallR IxR SlR MtR R2 tOp tUn tVar tC tCons tNil tTup tLst tTest tB tAnd tOr tNot tAndV tOrV tNotV tIf tCB Sp FnOk Gl Vis Loc Room)
section
variable {K : PySem.W.Frag} {W : St → XK}
def rP (K : PySem.W.Frag) : Rel (List (L2.Key × D)) (List (V × V)) := ⟨fun _ _ _ Hd _ _ kvs ps => ∃ kws : List (L2.Key × V), ps = kws.map (fun kw => (L2.kV kw.1, kw.2)) ∧ Repk K Hd kvs kws, fun _ h => h⟩
def pNil : Env → Res (List (L2.Key × D)) := fun ρ => .ok [] ρ
def pCons (fk fv : Env → Res RV) (fr : Env → Res (List (L2.Key × D))) : Env → Res (List (L2.Key × D)) := fun ρ => ((fk ρ).bind fz).bind fun k ρ1 => ((fv ρ1).bind fz).bind fun d ρ2 => (fr ρ2).bind fun r ρ3 => match keyD k with
  | some q => .ok ((q, d) :: r) ρ3
  | none => .no
theorem sp_nil : Sd K W (rP K) (L2.tPairs []) pNil := fun C fp Hd H σ ρ I Q p => p.now I ⟨[], rfl, .nil⟩
theorem sp_cons {tk tv : TE} {fk fv : Env → Res RV} {trs : List (TE × TE)} {fr : Env → Res (List (L2.Key × D))} (hk : Sd K W (rV K) tk fk) (hv : Sd K W (rV K) tv fv) (hr : Sd K W (rP K) (L2.tPairs trs) fr) : Sd K W (rP K) (L2.tPairs ((tk, tv) :: trs)) (pCons fk fv fr) := fun C fp Hd H σ ρ I Q p =>
  hk.fz.run I p fun k x fp0 Hd0 H0 ρ0 s0 I0 rk p => hv.fz.run I0 p fun d y fp1 Hd1 H1 ρ1 s1 I1 rd p => hr.run I1 p fun r ps fp2 Hd2 H2 ρ2 s2 I2 rr p => by
    cases e : keyD k with
    | none => simp only [e] at p; exact p.elim
    | some q =>
      simp only [e] at p
      obtain ⟨kws, e1, r1⟩ := rr
      subst e1
      have rk : Rep K Hd0 k x := rk
      have rd : Rep K Hd1 d y := rd
      exact p.now I2 ⟨(q, y) :: kws, by rw [key_v (.rep (H := H0) rk) e]; rfl, .cons (rd.mono s2.hd) r1⟩
def mergeD (kvs more : List (L2.Key × D)) : List (L2.Key × D) := more.foldl (fun acc kv => putD acc kv.1 kv.2) kvs
theorem Repk.merge {H : Hp} {b : List (L2.Key × D)} {b' : List (L2.Key × V)} {a : List (L2.Key × D)} {a' : List (L2.Key × V)} (r : Repk K H a a') (s : Repk K H b b') : Repk K H (mergeD a b) (L2.mergeK a' b') := by
  induction b generalizing b' a a' with
  | nil => cases s; exact r
  | cons x b ih =>
    cases s with
    | cons h s =>
      rename_i k d v kws
      have q := ih (r.put (k := k) h) s
      exact q
def fDisp (fp : Env → Res (List (L2.Key × D))) : Env → Res RV := fun ρ => (fp ρ).bind fun kvs ρ1 => if kvs.length ≤ 15 then .ok (.own (.dic (mergeD [] kvs))) ρ1 else .no
theorem sd_disp {trs : List (TE × TE)} {f : Env → Res (List (L2.Key × D))} (h : Sd K W (rP K) (L2.tPairs trs) f) : Sd K W (rV K) (L2.tDisp trs) (fDisp f) := fun C fp Hd H σ ρ I Q p q hq => by
  have x0 := ext_new (o := .dK []) I.le hq
  have I0 := I.ext x0
  have s0 := I.stp x0
  have hd0 : Hd q = none := I.le.noneB hq
  have nf0 : ∀ j, q ∉ fp j := fun j hj => (I.fpOk hj).1 hq
  have hc : C.H0 q = none := none_back I.dom hq
  refine h C fp Hd (upd H q (.dK [])) σ ρ I0 _ ?_
  unfold fDisp at p
  cases e : f ρ with
  | no => rw [e] at p; exact p
  | ex c ρ1 =>
    rw [e] at p
    exact fun d fp1 Hd1 H1 s1 I1 hx => p d fp1 Hd1 H1 (s0.trans s1) I1 hx
  | ok kvs ρ1 =>
    simp only [e, Res.bind] at p
    by_cases hl : kvs.length ≤ 15
    · rw [if_pos hl] at p
      rintro ps fp1 Hd1 H1 s1 I1 ⟨kws, e1, r1⟩
      have hq1 : H1 q = some (.dK []) := s1.keep _ _ upd_same nf0
      have hd1 : Hd1 q = none := by
        cases e : Hd1 q with
        | none => rfl
        | some u =>
          rcases s1.fr q (by rw [e]; intro z; cases z) with z | z | ⟨j, z⟩
          · exact absurd hd0 z
          · rw [upd_same] at z; cases z
          · exact absurd z (nf0 j)
      have nf1 : ∀ j, q ∉ fp1 j := fun j hj => by
        rcases s1.fpx j q hj with ⟨m, z⟩ | z
        · exact nf0 m z
        · rw [upd_same] at z; cases z
      refine ⟨hq1, kws, e1, by rw [r1.length]; exact hl, ?_⟩
      have s := s0.trans s1
      refine p (.ref q) fp1 Hd1 _ ⟨s.hd, s.fr, fun b o hb n => ?_, fun b hb => ?_, s.fpx⟩ (I1.loose hd1 hc nf1) ⟨[q], .dic upd_same (Repk.merge .nil r1), by simp, fun b hb => ?_⟩
      · rw [upd_ne (ne_of_none hb hq)]; exact s.keep b o hb n
      · by_cases z : b = q
        · rw [z, upd_same]; intro w; cases w
        · rw [upd_ne z]; exact s.dom b hb
      · have e : b = q := by simpa using hb
        subst e
        exact ⟨hd1, hc, nf1, hq⟩
    · rw [if_neg hl] at p; exact p.elim
end
section
variable {X : Cx} {W : St → XK} {k v : Expr} {tk tv : TE} {fk fv : Env → Res RV} {pos : Pos}
structure JP (X : Cx) (W : St → XK) (pos : Pos) (ks : List (Option Expr)) (vs : List Expr) (trs : List (TE × TE)) (f : Env → Res (List (L2.Key × D))) : Prop where
  pps : L2.PPs X pos ks vs trs
  sp : Sd X.K W (rP X.K) (L2.tPairs trs) f
theorem jpnil : JP X W pos [] [] [] pNil := ⟨L2.pps_nil, sp_nil⟩
theorem jpcons {ks : List (Option Expr)} {vs : List Expr} {trs : List (TE × TE)} {fr : Env → Res (List (L2.Key × D))} (hk : JE X W k tk fk) (hv : JE X W v tv fv) (hr : JP X W pos ks vs trs fr) : JP X W pos (some k :: ks) (v :: vs) ((tk, tv) :: trs) (pCons fk fv fr) :=
  ⟨L2.pps_cons hk.pe hv.pe hr.pps, sp_cons hk.se hv.se hr.sp⟩
theorem jdisp {ks : List (Option Expr)} {vs : List Expr} {trs : List (TE × TE)} {f : Env → Res (List (L2.Key × D))} (h : JP X W pos ks vs trs f) (hall : ks.all (·.isSome) = true := by rfl) (hl : ks.length = vs.length := by rfl) (h0 : ks ≠ [] := by intro z; cases z) (h15 : ks.length ≤ 15 := by decide) : JE X W (.Dict ks vs pos) (L2.tDisp trs) (fDisp f) :=
  ⟨L2.pe_disp h.pps hall hl h0 h15, sd_disp h.sp⟩
end
end O

/-! Own12: defs by name, the law's end -/
namespace O
open PySem
open L2 (V Hp HO Rd SqL SqT upd upd_same upd_ne ne_of ne_of_none TE TT TA TS TG TGs TI TO It VK XK Ends St PE PT PW PA PS PSs PG PGs PI PO PTs Cx OpR UnR CallR IxR SlR MtR R2 tOp tUn tVar tC tCons tNil tTup tLst tTest tB tAnd tOr tNot tAndV tOrV tNotV tIf tCB Sp FnOk Gl Vis Loc Room)
/-- a def that is there, by its name -/
structure Cal (P : Program) (w : World) (K : PySem.W.Frag) (mg : Str → Option Value) (base : Heap) (x : Str) (k n : Nat) (ps : List Str) (F : List Ar → FO) : Prop where
  ex : ∃ (fA : Addr) (fd : FuncData), FnOk P w K mg base (L2.CX P w) k fA fd ps (spF K n F) ∧ mg x = some (.ref fA) ∧ PySem.W.keepIn K (.ref fA) = true ∧ L2.Binds K fd ps []
section
variable {X : Cx} {W : St → XK} {e : Expr} {es : List Expr} {pos p : Pos} {te : TE} {fe : Env → Res RV} {t : TA} {f : Env → Res (List RV)} {tt : TT} {ft : Env → Res Bool}
theorem jcal {K : PySem.W.Frag} {x : Str} {k j n : Nat} {ps : List Str} {F : List Ar → FO} (ms : List Md) (c : Cal X.prog X.w X.K X.mg X.base x k n ps F) (hr : Room j X.A) (tk : ∀ σ, L2.PassesAt (L2.CX X.prog X.w) X σ (W σ)) (ha : JA X W (e :: es) t f) (hj : k ≤ j := by decide) (hl : ms.length = n := by rfl) (hg : Gl X x := by rfl)
    (hdb : (x == ("__debug__" : Str)) = false := by decide) (he : starEach (e :: es) X.env = (false, eval e X.env) :: starEach es X.env := by rfl) (hpl : (backTo pos (starEach es X.env)).any (·.1) = false := by rfl) (hK : X.K = K := by rfl) :
    JE X W (.Call (.Name x p) (e :: es) [] pos) (L2.tCallSD (spF K n F) [] W t) (fCall ms [] F f) := by
  subst hK
  obtain ⟨fA, fd, h1, h2, h3, h4⟩ := c.ex
  exact jcall ms h1 hr hj h2 h3 h4 .nil (fun _ => .nil) tk ha hl hg hdb he hpl
theorem tk0 : ∀ σ, L2.PassesAt (L2.CX X.prog X.w) X σ (W0 σ) := fun σ => L2.passAt L2.takes0 σ
theorem jnotV (ha : JE X W e te fe) : JE X W (.UnaryOp .Not e pos) (tNotV te) (fNotV fe) := ⟨L2.pe_not ha.pe, sd_notV ha.se⟩
end
section
variable {P : Program} {w : World} {K : PySem.W.Frag} {mg : Str → Option Value} {base : Heap} {N : List Str} {qual : Str} {st : Stmt} {f : Addr} {cdv : Value} {A : Around} {outer : List PySem.Env} {s : Shared} {H : Hp} {E : XK}
theorem tkB : ∀ σ, L2.PassesAt (L2.CX (bx P w K mg base N qual st f cdv A outer s H E).prog (bx P w K mg base N qual st f cdv A outer s H E).w) (bx P w K mg base N qual st f cdv A outer s H E) σ ((fun _ => E) σ) := fun σ => L2.passAt (L2.takes_of rfl rfl rfl rfl) σ
theorem psB : PassesOwn (model (bx P w K mg base N qual st f cdv A outer s H E).prog (bx P w K mg base N qual st f cdv A outer s H E).w) (bx P w K mg base N qual st f cdv A outer s H E).A (bx P w K mg base N qual st f cdv A outer s H E).env (bx P w K mg base N qual st f cdv A outer s H E).xe := L2.passes_of rfl
theorem cal_of {x : Str} {fA : Addr} {fd : FuncData} {ps : List Str} {k n m : Nat} {g : Env → SR} (F : L2.Fun K x x st fA fd) (S : L2.FnScope N ps (L2.defScope st)) (gm : mg x = some (.ref fA)) (hN : N.length = n) (hp : ps.length = m) (hmn : m ≤ n) (hb : L2.Binds K fd ps [])
    (hB : ∀ (cdv : Value) (A : Around) (outer : List PySem.Env) (s : Shared) (H : Hp) (E : XK), Room k (A.deeper (PyProof.Rows.envOfC x (L2.defScope st) s.heap.objs.size fA cdv)) → ∃ t, JB (bx P w K mg base N x st fA cdv A outer s H E) (fun _ => E) (L2.defBody st) t g) :
    Cal P w K mg base x (k + 1) m ps (runF n g) := ⟨⟨fA, fd, def_ok F S hN hp hmn hB, gm, F.kp, hb⟩⟩
/-- the law's own promise -/
theorem law_end {F : List Ar → FO} {a : Addr} {ns : List Int} (hS : SqL K H a (ns.map V.int)) (h : ∃ os, F [.sh (.scr ns)] = .ret (.val (.bl true)) os) : spF K 1 F [.ref a] H (fun v _ => v = .bl true) fun _ _ _ => False := by
  obtain ⟨os, h⟩ := h
  refine ⟨H, [.sh (.scr ns)], fun _ => [], .refl _, rfl, ⟨rfl, fun j b v e1 e2 => ?_, fun _ _ _ h => (by cases h), fun _ _ => rfl⟩, ?_⟩
  · cases j with
    | zero =>
      cases e1
      cases e2
      exact ⟨rfl, .scr hS⟩
    | succ j => cases e1
  · rw [h]
    intro v Hd' H' fp' _ hr
    have hr : Rep K Hd' (.bl true) v := hr
    cases hr
    rfl
end
end O

/-! Own13: the evaluators, step by step, for simp -/
namespace O
open PySem
section
variable {α β : Type} {ρ : O.Env}
@[simp] theorem bind_ok {a : α} {f : α → O.Env → Res β} : (Res.ok a ρ).bind f = f a ρ := id rfl
@[simp] theorem thn_ok {a : α} {f : α → O.Env → SR} : (Res.ok a ρ).thn f = f a ρ := id rfl
@[simp] theorem seq_nx {f : O.Env → SR} : (SR.nx ρ).seq f = f ρ := id rfl
@[simp] theorem seq_rt {r : RV} {f : O.Env → SR} : (SR.rt r ρ).seq f = .rt r ρ := id rfl
@[simp] theorem rd_val {d : D} : rd (.val d) ρ = some d := id rfl
@[simp] theorem rd_lst {d : List D} : rd (.own (.lst d)) ρ = some (.lst d) := id rfl
@[simp] theorem rd_dic {d : List (L2.Key × D)} : rd (.own (.dic d)) ρ = some (.dic d) := id rfl
def rdo : Option Sl → Option D
  | some s => rdS s
  | none => none
@[simp] theorem rd_bor {i : Nat} : rd (.bor i) ρ = rdo ρ[i]? := by unfold rd rdo; rfl
@[simp] theorem rdo_sh {d : D} : rdo (some (.sh d)) = some d := id rfl
@[simp] theorem rdo_br {d : D} : rdo (some (.br d)) = some d := id rfl
@[simp] theorem rdo_owl {d : List D} : rdo (some (.ow (.lst d))) = some (.lst d) := id rfl
@[simp] theorem rdo_owd {d : List (L2.Key × D)} : rdo (some (.ow (.dic d))) = some (.dic d) := id rfl
@[simp] theorem rdo_iol {d : List D} : rdo (some (.io (.lst d))) = some (.lst d) := id rfl
@[simp] theorem rdo_iod {d : List (L2.Key × D)} : rdo (some (.io (.dic d))) = some (.dic d) := id rfl
variable {i n : Nat} {d : D} {fa fb fc fe fk fv : O.Env → Res RV} {as ar : O.Env → Res (List RV)} {g : D → D → Option RV} {g1 : D → Option RV} {gl : List D → Option RV} {gb : D → List D → Option RV} {ft fu : O.Env → Res Bool} {s1 s2 : O.Env → SR} {fl fh : O.Env → Res (Option Int)} {fi : O.Env → Res (List D)} {t : Tg} {fp : O.Env → Res (List (L2.Key × D))}
def kVar (i : Nat) (ρ : O.Env) : Option Sl → Res RV
  | some .un => .no
  | some _ => .ok (.bor i) ρ
  | none => .no
@[simp] theorem u_fVar : fVar i ρ = kVar i ρ ρ[i]? := by unfold fVar kVar; rfl
@[simp] theorem kVar_sh : kVar i ρ (some (.sh d)) = .ok (.bor i) ρ := id rfl
@[simp] theorem kVar_br : kVar i ρ (some (.br d)) = .ok (.bor i) ρ := id rfl
@[simp] theorem kVar_ow {o : OD} : kVar i ρ (some (.ow o)) = .ok (.bor i) ρ := id rfl
@[simp] theorem kVar_io {o : OD} : kVar i ρ (some (.io o)) = .ok (.bor i) ρ := id rfl
@[simp] theorem u_fC : fC d ρ = .ok (.val d) ρ := id rfl
/-- an answer -/
def az (ρ : O.Env) : Option RV → Res RV
  | some z => .ok z ρ
  | none => .no
@[simp] theorem az_some {z : RV} : az ρ (some z) = .ok z ρ := id rfl
def a1 (g : D → Option RV) (ρ : O.Env) : Option D → Res RV
  | some d => az ρ (g d)
  | none => .no
@[simp] theorem a1_some {d : D} : a1 g1 ρ (some d) = az ρ (g1 d) := id rfl
def k1 (g : D → Option RV) (r : RV) (ρ : O.Env) : Res RV := a1 g ρ (rd r ρ)
@[simp] theorem u_k1 {r : RV} : k1 g1 r ρ = a1 g1 ρ (rd r ρ) := id rfl
@[simp] theorem u_f1 : f1 fa g1 ρ = (fa ρ).bind (k1 g1) := by unfold f1; congr 1
def a2 (g : D → D → Option RV) (ρ : O.Env) : Option D → Option D → Res RV
  | some d, some e => az ρ (g d e)
  | _, _ => .no
@[simp] theorem a2_some {d e : D} : a2 g ρ (some d) (some e) = az ρ (g d e) := id rfl
def k2 (g : D → D → Option RV) (r1 r2 : RV) (ρ : O.Env) : Res RV := a2 g ρ (rd r1 ρ) (rd r2 ρ)
def k2' (fb : O.Env → Res RV) (g : D → D → Option RV) (r1 : RV) (ρ : O.Env) : Res RV := (fb ρ).bind (k2 g r1)
@[simp] theorem u_k2 {r1 r2 : RV} : k2 g r1 r2 ρ = a2 g ρ (rd r1 ρ) (rd r2 ρ) := id rfl
@[simp] theorem u_k2' {r1 : RV} : k2' fb g r1 ρ = (fb ρ).bind (k2 g r1) := id rfl
@[simp] theorem u_f2 : f2 fa fb g ρ = (fa ρ).bind (k2' fb g) := by
  unfold f2; congr 1
def aB (ρ : O.Env) : Option D → Res Bool
  | some (.bl b) => .ok b ρ
  | _ => .no
@[simp] theorem aB_some {b : Bool} : aB ρ (some (.bl b)) = .ok b ρ := id rfl
def kB (r : RV) (ρ : O.Env) : Res Bool := aB ρ (rd r ρ)
@[simp] theorem u_kB {r : RV} : kB r ρ = aB ρ (rd r ρ) := id rfl
@[simp] theorem u_fB : fB fa ρ = (fa ρ).bind kB := by unfold fB; rfl
def kAnd (fu : O.Env → Res Bool) (b : Bool) (ρ : O.Env) : Res Bool := if b = true then fu ρ else .ok false ρ
def kOr (fu : O.Env → Res Bool) (b : Bool) (ρ : O.Env) : Res Bool := if b = true then .ok true ρ else fu ρ
def kNot (b : Bool) (ρ : O.Env) : Res Bool := .ok (!b) ρ
def kAndV (fu : O.Env → Res RV) (b : Bool) (ρ : O.Env) : Res RV := if b = true then fu ρ else .ok (.val (.bl false)) ρ
def kOrV (fu : O.Env → Res RV) (b : Bool) (ρ : O.Env) : Res RV := if b = true then .ok (.val (.bl true)) ρ else fu ρ
def kNotV (b : Bool) (ρ : O.Env) : Res RV := .ok (.val (.bl (!b))) ρ
def kIf (fa fb : O.Env → Res RV) (b : Bool) (ρ : O.Env) : Res RV := if b = true then fa ρ else fb ρ
@[simp] theorem kAnd_t : kAnd fu true ρ = fu ρ := id rfl
@[simp] theorem kAnd_f : kAnd fu false ρ = .ok false ρ := id rfl
@[simp] theorem kOr_t : kOr fu true ρ = .ok true ρ := id rfl
@[simp] theorem kOr_f : kOr fu false ρ = fu ρ := id rfl
@[simp] theorem kNot_b {b : Bool} : kNot b ρ = .ok (!b) ρ := id rfl
@[simp] theorem kAndV_t : kAndV fa true ρ = fa ρ := id rfl
@[simp] theorem kAndV_f : kAndV fa false ρ = .ok (.val (.bl false)) ρ := id rfl
@[simp] theorem kOrV_t : kOrV fa true ρ = .ok (.val (.bl true)) ρ := id rfl
@[simp] theorem kOrV_f : kOrV fa false ρ = fa ρ := id rfl
@[simp] theorem kNotV_b {b : Bool} : kNotV b ρ = .ok (.val (.bl (!b))) ρ := id rfl
@[simp] theorem kIf_t : kIf fa fb true ρ = fa ρ := id rfl
@[simp] theorem kIf_f : kIf fa fb false ρ = fb ρ := id rfl
@[simp] theorem u_fAnd : fAnd ft fu ρ = (ft ρ).bind (kAnd fu) := id rfl
@[simp] theorem u_fOr : fOr ft fu ρ = (ft ρ).bind (kOr fu) := id rfl
@[simp] theorem u_fNot : fNot ft ρ = (ft ρ).bind kNot := id rfl
@[simp] theorem u_fAndV : fAndV fa fb ρ = (fB fa ρ).bind (kAndV fb) := id rfl
@[simp] theorem u_fOrV : fOrV fa fb ρ = (fB fa ρ).bind (kOrV fb) := id rfl
@[simp] theorem u_fNotV : fNotV fa ρ = (fB fa ρ).bind kNotV := id rfl
@[simp] theorem u_fIf : fIf ft fa fb ρ = (ft ρ).bind (kIf fa fb) := id rfl
/-! frozen -/
@[simp] theorem fz_val : fz (.val d) ρ = .ok d ρ := id rfl
@[simp] theorem fz_lst {d : List D} : fz (.own (.lst d)) ρ = .ok (.lst d) ρ := id rfl
@[simp] theorem fz_dic {d : List (L2.Key × D)} : fz (.own (.dic d)) ρ = .ok (.dic d) ρ := id rfl
def kz (i : Nat) (ρ : O.Env) : Option Sl → Res D
  | some (.sh d) => .ok d ρ
  | some (.br d) => if d.still then .ok d ρ else .no
  | some (.ow o) => match o.top with
    | some d => .ok d (ρ.set i (.sh d))
    | none => .no
  | _ => .no
@[simp] theorem fz_bor : fz (.bor i) ρ = kz i ρ ρ[i]? := by
  first
  | (simp only [fz, kz]; done)
  | (simp only [fz, kz]; split <;> first | rfl | (split <;> simp_all) | simp_all)
@[simp] theorem kz_sh : kz i ρ (some (.sh d)) = .ok d ρ := id rfl
@[simp] theorem kz_bri {n : Int} : kz i ρ (some (.br (.int n))) = .ok (.int n) ρ := id rfl
@[simp] theorem kz_brb {n : Bool} : kz i ρ (some (.br (.bl n))) = .ok (.bl n) ρ := id rfl
@[simp] theorem kz_brt {n : List D} : kz i ρ (some (.br (.tup n))) = .ok (.tup n) ρ := id rfl
@[simp] theorem kz_owl {d : List D} : kz i ρ (some (.ow (.lst d))) = .ok (.lst d) (ρ.set i (.sh (.lst d))) := id rfl
@[simp] theorem kz_owd {d : List (L2.Key × D)} : kz i ρ (some (.ow (.dic d))) = .ok (.dic d) (ρ.set i (.sh (.dic d))) := id rfl
@[simp] theorem fzo_val : fzo (.val d) ρ = .ok (.val d) ρ := id rfl
@[simp] theorem fzo_lst {d : List D} : fzo (.own (.lst d)) ρ = .ok (.val (.lst d)) ρ := id rfl
@[simp] theorem fzo_dic {d : List (L2.Key × D)} : fzo (.own (.dic d)) ρ = .ok (.val (.dic d)) ρ := id rfl
@[simp] theorem fzo_bor : fzo (.bor i) ρ = .ok (.bor i) ρ := id rfl
@[simp] theorem fk_val : O.fk (.val d) ρ = .ok d ρ := id rfl
@[simp] theorem fk_lst {d : List D} : O.fk (.own (.lst d)) ρ = .ok (.lst d) ρ := id rfl
def kk (i : Nat) (ρ : O.Env) : Option Sl → Res D
  | some (.br d) => .ok d ρ
  | s => kz i ρ s
@[simp] theorem fk_bor : O.fk (.bor i) ρ = kk i ρ ρ[i]? := by
  simp only [O.fk]
  split
  · rename_i e; rw [e]; rfl
  · rename_i h
    rw [fz_bor]
    cases e : ρ[i]? with
    | none => rfl
    | some s => cases s <;> first | rfl | exact absurd e (h _)
@[simp] theorem kk_br : kk i ρ (some (.br d)) = .ok d ρ := id rfl
@[simp] theorem kk_sh : kk i ρ (some (.sh d)) = .ok d ρ := id rfl
@[simp] theorem kk_owl {d : List D} : kk i ρ (some (.ow (.lst d))) = .ok (.lst d) (ρ.set i (.sh (.lst d))) := id rfl
/-! rows of arguments -/
def kc (rs : List RV) (r : RV) : List RV := r :: rs
def kA2 (r : RV) (rs : List RV) (ρ : O.Env) : Res (List RV) := .ok (r :: rs) ρ
def kA (as : O.Env → Res (List RV)) (r : RV) (ρ : O.Env) : Res (List RV) := (as ρ).bind (kA2 r)
def kI (as : O.Env → Res (List RV)) (d : D) (ρ : O.Env) : Res (List RV) := (as ρ).bind (kA2 (.val d))
@[simp] theorem u_kA2 {r : RV} {rs : List RV} : kA2 r rs ρ = .ok (r :: rs) ρ := id rfl
@[simp] theorem u_kA {r : RV} : kA as r ρ = (as ρ).bind (kA2 r) := id rfl
@[simp] theorem u_kI : kI as d ρ = (as ρ).bind (kA2 (.val d)) := id rfl
@[simp] theorem u_aNil : aNil ρ = .ok [] ρ := id rfl
@[simp] theorem u_aCons : aCons fa as ρ = ((fa ρ).bind fzo).bind (kA as) := id rfl
@[simp] theorem u_iCons : iCons fa as ρ = ((fa ρ).bind fz).bind (kI as) := id rfl
def kH2 (as : O.Env → Res (List RV)) (ρ : O.Env) : Option RV → Res (List RV)
  | some z => (as ρ).bind (kA2 z)
  | none => .no
def kH (as : O.Env → Res (List RV)) (r : RV) (ρ : O.Env) : Res (List RV) := kH2 as ρ (hold r ρ)
@[simp] theorem u_kH2 {z : RV} : kH2 as ρ (some z) = (as ρ).bind (kA2 z) := id rfl
@[simp] theorem u_kH {r : RV} : kH as r ρ = kH2 as ρ (hold r ρ) := id rfl
@[simp] theorem u_hNil : hNil ρ = .ok [] ρ := id rfl
@[simp] theorem u_hCons : hCons fa as ρ = (fa ρ).bind (kH as) := by unfold hCons; congr 1
def aC (gl : List D → Option RV) (ρ : O.Env) : Option (List D) → Res RV
  | some ds => az ρ (gl ds)
  | none => .no
@[simp] theorem aC_some {ds : List D} : aC gl ρ (some ds) = az ρ (gl ds) := id rfl
def kC (gl : List D → Option RV) (rs : List RV) (ρ : O.Env) : Res RV := aC gl ρ (rds rs ρ)
@[simp] theorem u_kC {rs : List RV} : kC gl rs ρ = aC gl ρ (rds rs ρ) := id rfl
@[simp] theorem u_fCB : fCB as gl ρ = (as ρ).bind (kC gl) := by unfold fCB; congr 1
@[simp] theorem rds_nil : rds [] ρ = some [] := id rfl
def cO : Option D → Option (List D) → Option (List D)
  | some d, some ds => some (d :: ds)
  | _, _ => none
@[simp] theorem cO_some {ds : List D} : cO (some d) (some ds) = some (d :: ds) := id rfl
@[simp] theorem rds_cons {r : RV} {rs : List RV} : rds (r :: rs) ρ = cO (rd r ρ) (rds rs ρ) := by simp only [rds]; cases rd r ρ <;> cases rds rs ρ <;> rfl
@[simp] theorem vals_nil : vals [] = some [] := id rfl
@[simp] theorem vals_cons {rs : List RV} : vals (.val d :: rs) = cO (some d) (vals rs) := by simp only [vals]; cases vals rs <;> rfl
def aT (h : List D → RV) (ρ : O.Env) : Option (List D) → Res RV
  | some ds => if ds.length ≤ sizeLine then .ok (h ds) ρ else .no
  | none => .no
@[simp] theorem aT_some {h : List D → RV} {ds : List D} : aT h ρ (some ds) = if ds.length ≤ sizeLine then .ok (h ds) ρ else .no := id rfl
def hT (ds : List D) : RV := .val (.tup ds)
def hL (ds : List D) : RV := .own (.lst ds)
@[simp] theorem hT_is {ds : List D} : hT ds = .val (.tup ds) := id rfl
@[simp] theorem hL_is {ds : List D} : hL ds = .own (.lst ds) := id rfl
def kT (h : List D → RV) (rs : List RV) (ρ : O.Env) : Res RV := aT h ρ (vals rs)
@[simp] theorem u_kT {h : List D → RV} {rs : List RV} : kT h rs ρ = aT h ρ (vals rs) := id rfl
@[simp] theorem u_fTup : fTup as ρ = (as ρ).bind (kT hT) := by unfold fTup; congr 1
@[simp] theorem u_fLst : fLst as ρ = (as ρ).bind (kT hL) := by unfold fLst; congr 1
@[simp] theorem u_fCall {ms : List Md} {F : List Ar → FO} : fCall ms [] F as ρ = (as ρ).bind (callR ms F) := by simp [fCall]
/-! chains -/
def aCh2 (g' : D → D → Option RV) (r2 r3 : RV) (ρ : O.Env) : Res RV := a2 g' ρ (rd r2 ρ) (rd r3 ρ)
@[simp] theorem u_aCh2 {r2 r3 : RV} : aCh2 g r2 r3 ρ = a2 g ρ (rd r2 ρ) (rd r3 ρ) := id rfl
def aCh (fc : O.Env → Res RV) (g' : D → D → Option RV) (r2 : RV) (ρ : O.Env) : Option RV → Res RV
  | some (.val (.bl true)) => (fc ρ).bind (aCh2 g' r2)
  | some (.val (.bl false)) => .ok (.val (.bl false)) ρ
  | _ => .no
@[simp] theorem aCh_t {r2 : RV} : aCh fc g r2 ρ (some (.val (.bl true))) = (fc ρ).bind (aCh2 g r2) := id rfl
@[simp] theorem aCh_f {r2 : RV} : aCh fc g r2 ρ (some (.val (.bl false))) = .ok (.val (.bl false)) ρ := id rfl
def bCh (fc : O.Env → Res RV) (g g' : D → D → Option RV) (r2 : RV) (ρ : O.Env) : Option D → Option D → Res RV
  | some d, some e => aCh fc g' r2 ρ (g d e)
  | _, _ => .no
@[simp] theorem bCh_some {g' : D → D → Option RV} {r2 : RV} {e : D} : bCh fc g g' r2 ρ (some d) (some e) = aCh fc g' r2 ρ (g d e) := id rfl
def kCh (fc : O.Env → Res RV) (g g' : D → D → Option RV) (r1 r2 : RV) (ρ : O.Env) : Res RV := bCh fc g g' r2 ρ (rd r1 ρ) (rd r2 ρ)
@[simp] theorem u_kCh {g' : D → D → Option RV} {r1 r2 : RV} : kCh fc g g' r1 r2 ρ = bCh fc g g' r2 ρ (rd r1 ρ) (rd r2 ρ) := id rfl
def kCh' (fb fc : O.Env → Res RV) (g g' : D → D → Option RV) (r1 : RV) (ρ : O.Env) : Res RV := (fb ρ).bind (kCh fc g g' r1)
@[simp] theorem u_kCh' {g' : D → D → Option RV} {r1 : RV} : kCh' fb fc g g' r1 ρ = (fb ρ).bind (kCh fc g g' r1) := id rfl
@[simp] theorem u_fChain {g' : D → D → Option RV} : fChain fa fb fc g g' ρ = (fa ρ).bind (kCh' fb fc g g') := by
  unfold fChain; congr 1
/-! methods, slices, walks -/
def aBM (gb : D → List D → Option RV) (ρ : O.Env) : Option D → Option (List D) → Res RV
  | some d, some ds => az ρ (gb d ds)
  | _, _ => .no
@[simp] theorem aBM_some {ds : List D} : aBM gb ρ (some d) (some ds) = az ρ (gb d ds) := id rfl
def kBM2 (gb : D → List D → Option RV) (r : RV) (rs : List RV) (ρ : O.Env) : Res RV := aBM gb ρ (rd r ρ) (rds rs ρ)
@[simp] theorem u_kBM2 {r : RV} {rs : List RV} : kBM2 gb r rs ρ = aBM gb ρ (rd r ρ) (rds rs ρ) := id rfl
def bBM (as : O.Env → Res (List RV)) (gb : D → List D → Option RV) (r : RV) (ρ : O.Env) : Option D → Res RV
  | some (.lst _) => (as ρ).bind (kBM2 gb r)
  | _ => .no
@[simp] theorem bBM_some {r : RV} {ds : List D} : bBM as gb r ρ (some (.lst ds)) = (as ρ).bind (kBM2 gb r) := id rfl
def kBM (as : O.Env → Res (List RV)) (gb : D → List D → Option RV) (r : RV) (ρ : O.Env) : Res RV := bBM as gb r ρ (rd r ρ)
@[simp] theorem u_kBM {r : RV} : kBM as gb r ρ = bBM as gb r ρ (rd r ρ) := id rfl
@[simp] theorem u_fBM : fBM fa as gb ρ = (fa ρ).bind (kBM as gb) := by
  unfold fBM; congr 1
@[simp] theorem u_fNoPart : fNoPart ρ = .ok none ρ := id rfl
def aP (ρ : O.Env) : Option D → Res (Option Int)
  | some (.int i) => .ok (some i) ρ
  | _ => .no
@[simp] theorem aP_some {z : Int} : aP ρ (some (.int z)) = .ok (some z) ρ := id rfl
def kP (r : RV) (ρ : O.Env) : Res (Option Int) := aP ρ (rd r ρ)
@[simp] theorem u_kP {r : RV} : kP r ρ = aP ρ (rd r ρ) := id rfl
@[simp] theorem u_fPart : fPart fa ρ = (fa ρ).bind kP := by unfold fPart; rfl
def aS (gs : D → Option Int → Option Int → Option RV) (lo hi : Option Int) (ρ : O.Env) : Option D → Res RV
  | some d => az ρ (gs d lo hi)
  | none => .no
@[simp] theorem aS_some {gs : D → Option Int → Option Int → Option RV} {lo hi : Option Int} : aS gs lo hi ρ (some d) = az ρ (gs d lo hi) := id rfl
def kS3 (gs : D → Option Int → Option Int → Option RV) (r : RV) (lo hi : Option Int) (ρ : O.Env) : Res RV := aS gs lo hi ρ (rd r ρ)
def kS2 (fh : O.Env → Res (Option Int)) (gs : D → Option Int → Option Int → Option RV) (r : RV) (lo : Option Int) (ρ : O.Env) : Res RV := (fh ρ).bind (kS3 gs r lo)
def kS (fl fh : O.Env → Res (Option Int)) (gs : D → Option Int → Option Int → Option RV) (r : RV) (ρ : O.Env) : Res RV := (fl ρ).bind (kS2 fh gs r)
@[simp] theorem u_kS3 {gs : D → Option Int → Option Int → Option RV} {r : RV} {lo hi : Option Int} : kS3 gs r lo hi ρ = aS gs lo hi ρ (rd r ρ) := id rfl
@[simp] theorem u_kS2 {gs : D → Option Int → Option Int → Option RV} {r : RV} {lo : Option Int} : kS2 fh gs r lo ρ = (fh ρ).bind (kS3 gs r lo) := id rfl
@[simp] theorem u_kS {gs : D → Option Int → Option Int → Option RV} {r : RV} : kS fl fh gs r ρ = (fl ρ).bind (kS2 fh gs r) := id rfl
@[simp] theorem u_fSl {gs : D → Option Int → Option Int → Option RV} : fSl fe fl fh gs ρ = (fe ρ).bind (kS fl fh gs) := by
  unfold fSl; congr 1
def aW (ρ : O.Env) : Option (List D) → Res (List D)
  | some ds => .ok ds ρ
  | none => .no
@[simp] theorem aW_some {ds : List D} : aW ρ (some ds) = .ok ds ρ := id rfl
def kW (gi : D → Option (List D)) (d : D) (ρ : O.Env) : Res (List D) := aW ρ (gi d)
@[simp] theorem u_kW {gi : D → Option (List D)} : kW gi d ρ = aW ρ (gi d) := id rfl
@[simp] theorem u_fWalk {gi : D → Option (List D)} : fWalk fe gi ρ = ((fe ρ).bind O.fk).bind (kW gi) := by unfold fWalk; rfl
def aR (ρ : O.Env) : Option (List D) → Res (List D)
  | some [.int j] => if -(2 ^ 62) ≤ j ∧ j < 2 ^ 62 then .ok (rngD 0 j.toNat) ρ else .no
  | _ => .no
@[simp] theorem aR_some {j : Int} : aR ρ (some [.int j]) = if -(2 ^ 62) ≤ j ∧ j < 2 ^ 62 then .ok (rngD 0 j.toNat) ρ else .no := id rfl
def kR (rs : List RV) (ρ : O.Env) : Res (List D) := aR ρ (rds rs ρ)
@[simp] theorem u_kR {rs : List RV} : kR rs ρ = aR ρ (rds rs ρ) := id rfl
@[simp] theorem u_fRng1 : fRng1 as ρ = (as ρ).bind kR := by unfold fRng1; rfl
@[simp] theorem u_fYes : fYes ρ = .ok true ρ := id rfl
def aLc (ρ1 : O.Env) (vs : List Nat) : Res (List D) → Res RV
  | .ok ys ρ2 => .ok (.own (.lst ys)) (restE ρ1 vs ρ2)
  | _ => .no
@[simp] theorem aLc_ok {ρ1 ρ2 : O.Env} {vs : List Nat} {ys : List D} : aLc ρ1 vs (.ok ys ρ2) = .ok (.own (.lst ys)) (restE ρ1 vs ρ2) := id rfl
def kLc (vs : List Nat) (t : Tg) (ft : O.Env → Res Bool) (fe : O.Env → Res RV) (ds : List D) (ρ1 : O.Env) : Res RV := aLc ρ1 vs (lcD vs t ft fe 0 ds (wipeE ρ1 vs))
@[simp] theorem u_kLc {vs : List Nat} {ds : List D} : kLc vs t ft fe ds ρ = aLc ρ vs (lcD vs t ft fe 0 ds (wipeE ρ vs)) := id rfl
@[simp] theorem u_fLc {vs : List Nat} : fLc fi vs t ft fe ρ = (fi ρ).bind (kLc vs t ft fe) := by
  unfold fLc; congr 1
/-! changes in place -/
def aM2 (i : Nat) (ρ : O.Env) : Option (List D × D) → Res RV
  | some (ds, z) => .ok (.val z) (setOw i (.lst ds) ρ)
  | none => .no
@[simp] theorem aM2_some {ds : List D} {z : D} : aM2 i ρ (some (ds, z)) = .ok (.val z) (setOw i (.lst ds) ρ) := id rfl
def aM (i : Nat) (gm : List D → List D → Option (List D × D)) (ρ : O.Env) : Option (List D) → Option OD → Res RV
  | some es, some (.lst ds) => aM2 i ρ (gm ds es)
  | _, _ => .no
@[simp] theorem aM_some {gm : List D → List D → Option (List D × D)} {es ds : List D} : aM i gm ρ (some es) (some (.lst ds)) = aM2 i ρ (gm ds es) := id rfl
def kM (i : Nat) (gm : List D → List D → Option (List D × D)) (rs : List RV) (ρ : O.Env) : Res RV := aM i gm ρ (vals rs) (ownAt i ρ)
@[simp] theorem u_kM {gm : List D → List D → Option (List D × D)} {rs : List RV} : kM i gm rs ρ = aM i gm ρ (vals rs) (ownAt i ρ) := id rfl
theorem u_fMut {gm : List D → List D → Option (List D × D)} : fMut i as gm ρ = (as ρ).bind (kM i gm) := by
  unfold fMut; congr 1
def aML (i : Nat) (as : O.Env → Res (List RV)) (gm : List D → List D → Option (List D × D)) (ρ : O.Env) : Option OD → Res RV
  | some (.lst _) => (as ρ).bind (kM i gm)
  | _ => .no
@[simp] theorem aML_some {gm : List D → List D → Option (List D × D)} {ds : List D} : aML i as gm ρ (some (.lst ds)) = (as ρ).bind (kM i gm) := id rfl
@[simp] theorem u_fMutL {gm : List D → List D → Option (List D × D)} : fMutL i as gm ρ = aML i as gm ρ (ownAt i ρ) := by
  unfold fMutL
  cases ownAt i ρ with
  | none => rfl
  | some o => cases o <;> first | rfl | exact u_fMut
def owo : Option Sl → Option OD
  | some (.ow o) => some o
  | some (.io o) => some o
  | _ => none
@[simp] theorem u_ownAt : ownAt i ρ = owo ρ[i]? := by unfold ownAt owo; rfl
@[simp] theorem owo_ow {o : OD} : owo (some (.ow o)) = some o := id rfl
@[simp] theorem owo_io {o : OD} : owo (some (.io o)) = some o := id rfl
def sw (i : Nat) (o : OD) (ρ : O.Env) : Option Sl → O.Env
  | some (.ow _) => ρ.set i (.ow o)
  | some (.io _) => ρ.set i (.io o)
  | _ => ρ
@[simp] theorem u_setOw {o : OD} : setOw i o ρ = sw i o ρ ρ[i]? := by unfold setOw sw; rfl
@[simp] theorem sw_ow {o o' : OD} : sw i o ρ (some (.ow o')) = ρ.set i (.ow o) := id rfl
@[simp] theorem sw_io {o o' : OD} : sw i o ρ (some (.io o')) = ρ.set i (.io o) := id rfl
/-! dicts -/
def aPp (d : D) (r : List (L2.Key × D)) (ρ : O.Env) : Option L2.Key → Res (List (L2.Key × D))
  | some q => .ok ((q, d) :: r) ρ
  | none => .no
@[simp] theorem aPp_some {r : List (L2.Key × D)} {q : L2.Key} : aPp d r ρ (some q) = .ok ((q, d) :: r) ρ := id rfl
def kP3 (k d : D) (r : List (L2.Key × D)) (ρ : O.Env) : Res (List (L2.Key × D)) := aPp d r ρ (keyD k)
def kP2 (fp : O.Env → Res (List (L2.Key × D))) (k d : D) (ρ : O.Env) : Res (List (L2.Key × D)) := (fp ρ).bind (kP3 k d)
def kP1 (fv : O.Env → Res RV) (fp : O.Env → Res (List (L2.Key × D))) (k : D) (ρ : O.Env) : Res (List (L2.Key × D)) := ((fv ρ).bind fz).bind (kP2 fp k)
@[simp] theorem u_kP3 {k : D} {r : List (L2.Key × D)} : kP3 k d r ρ = aPp d r ρ (keyD k) := id rfl
@[simp] theorem u_kP2 {k : D} : kP2 fp k d ρ = (fp ρ).bind (kP3 k d) := id rfl
@[simp] theorem u_kP1 {k : D} : kP1 fv fp k ρ = ((fv ρ).bind fz).bind (kP2 fp k) := id rfl
@[simp] theorem u_pNil : pNil ρ = .ok [] ρ := id rfl
@[simp] theorem u_pCons : pCons fk fv fp ρ = ((fk ρ).bind fz).bind (kP1 fv fp) := by
  unfold pCons; congr 1
def kDp (kvs : List (L2.Key × D)) (ρ : O.Env) : Res RV := if kvs.length ≤ 15 then .ok (.own (.dic (mergeD [] kvs))) ρ else .no
@[simp] theorem u_kDp {kvs : List (L2.Key × D)} : kDp kvs ρ = if kvs.length ≤ 15 then .ok (.own (.dic (mergeD [] kvs))) ρ else .no := id rfl
@[simp] theorem u_fDisp : fDisp fp ρ = (fp ρ).bind kDp := id rfl
/-! statements -/
@[simp] theorem u_gNext : gNext ρ = .nx ρ := id rfl
@[simp] theorem u_gSeq : gSeq s1 s2 ρ = (s1 ρ).seq s2 := id rfl
def kIfS (s1 s2 : O.Env → SR) (b : Bool) (ρ : O.Env) : SR := if b = true then s1 ρ else s2 ρ
@[simp] theorem kIfS_t : kIfS s1 s2 true ρ = s1 ρ := id rfl
@[simp] theorem kIfS_f : kIfS s1 s2 false ρ = s2 ρ := id rfl
@[simp] theorem u_gIf : gIf ft s1 s2 ρ = (ft ρ).thn (kIfS s1 s2) := id rfl
def kDr (_ : RV) (ρ : O.Env) : SR := .nx ρ
@[simp] theorem u_kDr {r : RV} : kDr r ρ = .nx ρ := id rfl
@[simp] theorem u_gDrop : gDrop fa ρ = (fa ρ).thn kDr := id rfl
def kRt2 (r : RV) (ρ : O.Env) : SR := .rt r ρ
def kRt (r : RV) (ρ : O.Env) : SR := (mv r ρ).thn kRt2
@[simp] theorem u_kRt2 {r : RV} : kRt2 r ρ = .rt r ρ := id rfl
@[simp] theorem u_kRt {r : RV} : kRt r ρ = (mv r ρ).thn kRt2 := id rfl
@[simp] theorem u_gRet : gRet fa ρ = (fa ρ).thn kRt := id rfl
def aN : Option O.Env → SR
  | some ρ => .nx ρ
  | none => .no
@[simp] theorem aN_some : aN (some ρ) = .nx ρ := id rfl
def kSt (i : Nat) (r : RV) (ρ : O.Env) : SR := aN (putSlot i r ρ)
@[simp] theorem u_kSt {r : RV} : kSt i r ρ = aN (putSlot i r ρ) := id rfl
@[simp] theorem u_gSet : gSet i fa ρ = (fa ρ).thn (kSt i) := by unfold gSet; congr 1
def kAs (t : Tg) (d : D) (ρ : O.Env) : SR := aN (takeT t d ρ)
@[simp] theorem u_kAs : kAs t d ρ = aN (takeT t d ρ) := id rfl
@[simp] theorem u_gAsg : gAsg t fa ρ = ((fa ρ).bind fz).thn (kAs t) := by unfold gAsg; congr 1
def kPn (is : List Nat) (rs : List RV) (ρ : O.Env) : SR := aN (putMany is rs ρ)
@[simp] theorem u_kPn {is : List Nat} {rs : List RV} : kPn is rs ρ = aN (putMany is rs ρ) := id rfl
@[simp] theorem u_gParN {is : List Nat} : gParN is as ρ = (as ρ).thn (kPn is) := by unfold gParN; congr 1
def aPu (i : Nat) (d : D) (ρ : O.Env) : Option L2.Key → Option OD → SR
  | some k, some (.dic kvs) => if kvs.length < sizeLine then .nx (setOw i (.dic (putD kvs k d)) ρ) else .no
  | _, _ => .no
@[simp] theorem aPu_some {k : L2.Key} {kvs : List (L2.Key × D)} : aPu i d ρ (some k) (some (.dic kvs)) = if kvs.length < sizeLine then .nx (setOw i (.dic (putD kvs k d)) ρ) else .no := id rfl
def kPu2 (i : Nat) (d : D) (r : RV) (ρ : O.Env) : SR := aPu i d ρ ((rd r ρ).bind keyD) (ownAt i ρ)
@[simp] theorem u_kPu2 {r : RV} : kPu2 i d r ρ = aPu i d ρ ((rd r ρ).bind keyD) (ownAt i ρ) := id rfl
def bPu (i : Nat) (fa : O.Env → Res RV) (d : D) (ρ : O.Env) : Option OD → SR
  | some _ => (fa ρ).thn (kPu2 i d)
  | none => .no
@[simp] theorem bPu_some {o : OD} : bPu i fa d ρ (some o) = (fa ρ).thn (kPu2 i d) := id rfl
def kPu (i : Nat) (fa : O.Env → Res RV) (d : D) (ρ : O.Env) : SR := bPu i fa d ρ (ownAt i ρ)
@[simp] theorem u_kPu : kPu i fa d ρ = bPu i fa d ρ (ownAt i ρ) := id rfl
@[simp] theorem u_gPutI : gPutI i fa fe ρ = ((fe ρ).bind fz).thn (kPu i fa) := by
  unfold gPutI; congr 1
def kFr (t : Tg) (s1 : O.Env → SR) (ds : List D) (ρ : O.Env) : SR := forD (takeT t) s1 ds ρ
@[simp] theorem u_kFr {ds : List D} : kFr t s1 ds ρ = forD (takeT t) s1 ds ρ := id rfl
@[simp] theorem u_gFor : gFor fi t s1 ρ = (fi ρ).thn (kFr t s1) := id rfl
/-! places -/
@[simp] theorem mv_val : mv (.val d) ρ = .ok (.val d) ρ := id rfl
@[simp] theorem mv_own {o : OD} : mv (.own o) ρ = .ok (.own o) ρ := id rfl
def kmv (i : Nat) (ρ : O.Env) : Option Sl → Res RV
  | some (.sh d) => .ok (.val d) ρ
  | some (.br d) => if d.still then .ok (.val d) ρ else .no
  | some (.ow o) => .ok (.own o) (ρ.set i .un)
  | _ => .no
@[simp] theorem mv_bor : mv (.bor i) ρ = kmv i ρ ρ[i]? := by unfold mv kmv; rfl
@[simp] theorem kmv_sh : kmv i ρ (some (.sh d)) = .ok (.val d) ρ := id rfl
@[simp] theorem kmv_ow {o : OD} : kmv i ρ (some (.ow o)) = .ok (.own o) (ρ.set i .un) := id rfl
def fre (ρ' : O.Env) : Option Sl → Option O.Env
  | some (.io _) => none
  | some _ => some ρ'
  | none => none
@[simp] theorem fre_un {ρ' : O.Env} : fre ρ' (some .un) = some ρ' := id rfl
@[simp] theorem fre_sh {ρ' : O.Env} : fre ρ' (some (.sh d)) = some ρ' := id rfl
@[simp] theorem fre_br {ρ' : O.Env} : fre ρ' (some (.br d)) = some ρ' := id rfl
@[simp] theorem fre_ow {ρ' : O.Env} {o : OD} : fre ρ' (some (.ow o)) = some ρ' := id rfl
theorem put_fre {r : RV} {s : Sl} (h : slotOf i r ρ = some s) : putSlot i r ρ = fre (ρ.set i s) ρ[i]? := by
  unfold putSlot free
  rw [h]
  cases e : ρ[i]? with
  | none => rfl
  | some q => cases q <;> rfl
@[simp] theorem put_val : putSlot i (.val d) ρ = fre (ρ.set i (.sh d)) ρ[i]? := put_fre rfl
@[simp] theorem put_lst {ds : List D} : putSlot i (.own (.lst ds)) ρ = fre (ρ.set i (.ow (.lst ds))) ρ[i]? := put_fre rfl
@[simp] theorem put_dic {ds : List (L2.Key × D)} : putSlot i (.own (.dic ds)) ρ = fre (ρ.set i (.ow (.dic ds))) ρ[i]? := put_fre rfl
def pub (i : Nat) (ρ : O.Env) : Option Sl → Option O.Env
  | some (.sh d) => fre (ρ.set i (.sh d)) ρ[i]?
  | some (.br d) => fre (ρ.set i (.br d)) ρ[i]?
  | _ => none
theorem put_bor {j : Nat} {s : Sl} (h : ρ[j]? = some (.sh d)) : putSlot i (.bor j) ρ = fre (ρ.set i (.sh d)) ρ[i]? := put_fre (by simp [slotOf, h])
@[simp] theorem take_name : takeT (.name i) d ρ = putSlot i (.val d) ρ := by simp [takeT]
def kts (ts : List Tg) (ds : List D) : Option O.Env → Option O.Env
  | some ρ1 => takeTs ts ds ρ1
  | none => none
@[simp] theorem kts_some {ts : List Tg} {ds : List D} : kts ts ds (some ρ) = takeTs ts ds ρ := id rfl
@[simp] theorem take_tup {ts : List Tg} {ds : List D} : takeT (.tup ts) (.tup ds) ρ = takeTs ts ds ρ := by simp [takeT]
@[simp] theorem takes_nil : takeTs [] [] ρ = some ρ := by simp [takeTs]
@[simp] theorem takes_cons {ts : List Tg} {ds : List D} : takeTs (t :: ts) (d :: ds) ρ = kts ts ds (takeT t d ρ) := by simp only [takeTs]; cases takeT t d ρ <;> rfl
def khd (i : Nat) : Option Sl → Option RV
  | some (.sh d) => some (.val d)
  | some (.br d) => if d.still then some (.val d) else none
  | _ => none
@[simp] theorem hold_bor : hold (.bor i) ρ = khd i ρ[i]? := by unfold hold khd; rfl
@[simp] theorem khd_sh : khd i (some (.sh d)) = some (.val d) := id rfl
@[simp] theorem hold_val : hold (.val d) ρ = some (.val d) := id rfl
@[simp] theorem hold_own {o : OD} : hold (.own o) ρ = some (.own o) := id rfl
def kpm (is : List Nat) (rs : List RV) : Option O.Env → Option O.Env
  | some ρ1 => putMany is rs ρ1
  | none => none
@[simp] theorem kpm_some {is : List Nat} {rs : List RV} : kpm is rs (some ρ) = putMany is rs ρ := id rfl
@[simp] theorem many_nil : putMany [] [] ρ = some ρ := id rfl
@[simp] theorem many_cons {is : List Nat} {r : RV} {rs : List RV} : putMany (i :: is) (r :: rs) ρ = kpm is rs (putSlot i r ρ) := by simp only [putMany]; cases putSlot i r ρ <;> rfl
/-! calls -/
def cR2 (r : RV) (ρ' : Option O.Env) : Res RV := match ρ' with
  | some ρ' => match r with
    | .bor _ => .no
    | r => .ok r ρ'
  | none => .no
@[simp] theorem cR2_val {ρ' : O.Env} : cR2 (.val d) (some ρ') = .ok (.val d) ρ' := id rfl
@[simp] theorem cR2_own {ρ' : O.Env} {o : OD} : cR2 (.own o) (some ρ') = .ok (.own o) ρ' := id rfl
def cR1 (ms : List Md) (rs : List RV) (ρ : O.Env) : FO → Res RV
  | .ret r outs => cR2 r (outE ρ ms rs outs (drops ms rs ρ))
  | .exc e outs => match outE ρ ms rs outs (drops ms rs ρ) with
    | some ρ' => .ex e ρ'
    | none => .no
  | .no => .no
@[simp] theorem cR1_ret {ms : List Md} {rs : List RV} {r : RV} {outs : List (Option OD)} : cR1 ms rs ρ (.ret r outs) = cR2 r (outE ρ ms rs outs (drops ms rs ρ)) := id rfl
def cR (ms : List Md) (F : List Ar → FO) (rs : List RV) (ρ : O.Env) : Option (List Ar) → Res RV
  | some as => cR1 ms rs ρ (F as)
  | none => .no
@[simp] theorem cR_some {ms : List Md} {F : List Ar → FO} {rs : List RV} {as : List Ar} : cR ms F rs ρ (some as) = cR1 ms rs ρ (F as) := id rfl
@[simp] theorem u_callR {ms : List Md} {F : List Ar → FO} {rs : List RV} : callR ms F rs ρ = if (ioIx ms rs).Nodup then cR ms F rs ρ (mkArs (ioIx ms rs) ms rs ρ) else .no := by
  unfold callR
  split
  · cases mkArs (ioIx ms rs) ms rs ρ with
    | none => rfl
    | some as =>
      simp only [cR]
      cases F as with
      | no => rfl
      | exc e outs => rfl
      | ret r outs => rfl
  · rfl
@[simp] theorem ioIx_nil : ioIx [] [] = [] := id rfl
@[simp] theorem ioIx_io {ms : List Md} {rs : List RV} : ioIx (.io :: ms) (.bor i :: rs) = i :: ioIx ms rs := id rfl
@[simp] theorem ioIx_br {ms : List Md} {r : RV} {rs : List RV} : ioIx (.br :: ms) (r :: rs) = ioIx ms rs := by cases r <;> rfl
@[simp] theorem drops_nil : drops [] [] ρ = ρ := id rfl
@[simp] theorem drops_io {ms : List Md} {rs : List RV} : drops (.io :: ms) (.bor i :: rs) ρ = drops ms rs (ρ.set i .un) := id rfl
@[simp] theorem drops_br {ms : List Md} {r : RV} {rs : List RV} : drops (.br :: ms) (r :: rs) ρ = drops ms rs ρ := by cases r <;> rfl
@[simp] theorem mk_nil {l : List Nat} : mkArs l [] [] ρ = some [] := id rfl
def mkb (l : List Nat) (ms : List Md) (rs : List RV) (ρ : O.Env) : Option D → Option (List Ar)
  | some d => (mkArs l ms rs ρ).map (.br d :: ·)
  | none => none
@[simp] theorem mkb_some {l : List Nat} {ms : List Md} {rs : List RV} : mkb l ms rs ρ (some d) = (mkArs l ms rs ρ).map (.br d :: ·) := id rfl
@[simp] theorem mk_bv {l : List Nat} {ms : List Md} {rs : List RV} : mkArs l (.br :: ms) (.val d :: rs) ρ = (mkArs l ms rs ρ).map (.br d :: ·) := id rfl
@[simp] theorem mk_bb {l : List Nat} {ms : List Md} {rs : List RV} : mkArs l (.br :: ms) (.bor i :: rs) ρ = if i ∈ l then none else mkb l ms rs ρ (rd (.bor i) ρ) := by first | (simp only [mkArs, mkb]; done) | (simp only [mkArs, mkb]; split <;> first | rfl | (cases rd (.bor i) ρ <;> rfl))
def mki (l : List Nat) (ms : List Md) (rs : List RV) (ρ : O.Env) : Option OD → Option (List Ar)
  | some o => (mkArs l ms rs ρ).map (.io o :: ·)
  | none => none
@[simp] theorem mki_some {l : List Nat} {ms : List Md} {rs : List RV} {o : OD} : mki l ms rs ρ (some o) = (mkArs l ms rs ρ).map (.io o :: ·) := id rfl
@[simp] theorem mk_io {l : List Nat} {ms : List Md} {rs : List RV} : mkArs l (.io :: ms) (.bor i :: rs) ρ = mki l ms rs ρ (owo ρ[i]?) := by
  first
  | (simp only [mkArs, mki]; done)
  | (simp only [mkArs, mki]; cases ρ[i]? with
    | none => rfl
    | some s => cases s <;> rfl)
@[simp] theorem outE_nil {a : O.Env} : outE ρ [] [] [] a = some a := id rfl
@[simp] theorem outE_br {ms : List Md} {r : RV} {rs : List RV} {os : List (Option OD)} {a : O.Env} : outE ρ (.br :: ms) (r :: rs) (none :: os) a = outE ρ ms rs os a := id rfl
def oei (ms : List Md) (rs : List RV) (os : List (Option OD)) (i : Nat) (o : OD) (ρ a : O.Env) : Option Sl → Option O.Env
  | some (.ow _) => outE ρ ms rs os (a.set i (.ow o))
  | some (.io _) => outE ρ ms rs os (a.set i (.io o))
  | _ => none
@[simp] theorem oei_ow {ms : List Md} {rs : List RV} {os : List (Option OD)} {o o' : OD} {a : O.Env} : oei ms rs os i o ρ a (some (.ow o')) = outE ρ ms rs os (a.set i (.ow o)) := id rfl
@[simp] theorem oei_io {ms : List Md} {rs : List RV} {os : List (Option OD)} {o o' : OD} {a : O.Env} : oei ms rs os i o ρ a (some (.io o')) = outE ρ ms rs os (a.set i (.io o)) := id rfl
@[simp] theorem outE_io {ms : List Md} {rs : List RV} {os : List (Option OD)} {o : OD} {a : O.Env} : outE ρ (.io :: ms) (.bor i :: rs) (some o :: os) a = oei ms rs os i o ρ a ρ[i]? := by
  first
  | (simp only [outE, oei]; done)
  | (simp only [outE, oei]; cases ρ[i]? with
    | none => rfl
    | some s => cases s <;> rfl)
/-! the def -/
def run2 (r : RV) : Option (List (Option OD)) → FO
  | some os => match r with
    | .bor _ => .no
    | r => .ret r os
  | none => .no
@[simp] theorem run2_val {os : List (Option OD)} : run2 (.val d) (some os) = .ret (.val d) os := id rfl
@[simp] theorem run2_own {os : List (Option OD)} {o : OD} : run2 (.own o) (some os) = .ret (.own o) os := id rfl
def run1 (as : List Ar) : SR → FO
  | .nx ρ => match outsOf as ρ with
    | some os => .ret (.val .non) os
    | none => .no
  | .rt r ρ => run2 r (outsOf as ρ)
  | .ex e ρ => match outsOf as ρ with
    | some os => .exc e os
    | none => .no
  | _ => .no
@[simp] theorem run1_rt {as : List Ar} {r : RV} : run1 as (.rt r ρ) = run2 r (outsOf as ρ) := id rfl
theorem u_runF {n : Nat} {g : O.Env → SR} {as : List Ar} : runF n g as = run1 as (g (startE n as)) := by
  unfold runF
  cases g (startE n as) with
  | rt r ρ =>
    simp only [run1]
    cases outsOf as ρ with
    | none => rfl
    | some os => cases r <;> rfl
  | nx ρ => rfl
  | ex e ρ => rfl
  | bk ρ => rfl
  | ct ρ => rfl
  | no => rfl
@[simp] theorem outs_nil : outsOf [] ρ = some [] := id rfl
@[simp] theorem outs_br {as : List Ar} {s : Sl} : outsOf (.br d :: as) (s :: ρ) = (outsOf as ρ).map (none :: ·) := id rfl
@[simp] theorem outs_sh {as : List Ar} {s : Sl} : outsOf (.sh d :: as) (s :: ρ) = (outsOf as ρ).map (none :: ·) := id rfl
@[simp] theorem outs_io {as : List Ar} {o o' : OD} : outsOf (.io o :: as) (.io o' :: ρ) = (outsOf as ρ).map (some o' :: ·) := id rfl
end
end O

/-! Own14: loops and comprehensions that go through -/
namespace O
open PySem
theorem lcD_ok {vs : List Nat} {t : Tg} {ft : O.Env → Res Bool} {fe : O.Env → Res RV} {ρ0 : O.Env} (p : D → Bool) (y : D → D) : ∀ (ds : List D), (∀ d ∈ ds, ∃ ρ1 ρ2, takeT t d ρ0 = some ρ1 ∧ ft ρ1 = .ok (p d) ρ2 ∧ (p d = false → wipeE ρ2 vs = ρ0) ∧ (p d = true → ∃ ρ3, (fe ρ2).bind fz = .ok (y d) ρ3 ∧ wipeE ρ3 vs = ρ0)) →
    ∀ n, n + ds.length ≤ sizeLine → lcD vs t ft fe n ds ρ0 = .ok ((ds.filter p).map y) ρ0
  | [], _, _, _ => rfl
  | d :: ds, h, n, hn => by
    obtain ⟨ρ1, ρ2, e1, e2, e3, e4⟩ := h d (by simp)
    have ih := lcD_ok p y ds fun x hx => h x (by simp [hx])
    rw [List.length_cons] at hn
    cases hp : p d with
    | false =>
      rw [hp] at e2
      simp only [lcD, e1, e2, e3 hp, List.filter_cons, hp]
      exact ih n (by omega)
    | true =>
      rw [hp] at e2
      obtain ⟨ρ3, e5, e6⟩ := e4 hp
      have hz : n < sizeLine := by omega
      simp only [lcD, e1, e2, e5, e6, if_pos hz, List.filter_cons, hp, ih (n + 1) (by omega)]
      rfl
theorem forD_ok {k : D → O.Env → Option O.Env} {g : O.Env → SR} (Iv : List D → O.Env → Prop) (step : ∀ d ds ρ, Iv (d :: ds) ρ → ∃ ρ1 ρ2, k d ρ = some ρ1 ∧ g ρ1 = .nx ρ2 ∧ Iv ds ρ2) : ∀ (ds : List D) (ρ : O.Env), Iv ds ρ → ∃ ρ', forD k g ds ρ = .nx ρ' ∧ Iv [] ρ'
  | [], ρ, h => ⟨ρ, rfl, h⟩
  | d :: ds, ρ, h => by
    obtain ⟨ρ1, ρ2, e1, e2, h2⟩ := step d ds ρ h
    obtain ⟨ρ', e3, h3⟩ := forD_ok Iv step ds ρ2 h2
    exact ⟨ρ', by simp only [forD, e1, e2]; exact e3, h3⟩
theorem whileF_ok {c : O.Env → Res Bool} {g : O.Env → SR} (Iv : Nat → O.Env → Prop) (Po : O.Env → Prop) (step : ∀ m ρ, Iv m ρ → ∃ b ρ1, c ρ = .ok b ρ1 ∧ (b = true → ∃ ρ2 m', g ρ1 = .nx ρ2 ∧ m' < m ∧ Iv m' ρ2) ∧ (b = false → Po ρ1)) :
    ∀ (n m : Nat) (ρ : O.Env), m < n → Iv m ρ → ∃ ρ', whileF c g n ρ = .nx ρ' ∧ Po ρ'
  | 0, m, ρ, h, _ => by omega
  | n + 1, m, ρ, h, hI => by
    obtain ⟨b, ρ1, e1, e2, e3⟩ := step m ρ hI
    cases b with
    | false => exact ⟨ρ1, by simp [whileF, e1], e3 rfl⟩
    | true =>
      obtain ⟨ρ2, m', e4, h4, h5⟩ := e2 rfl
      obtain ⟨ρ', e6, e7⟩ := whileF_ok Iv Po step n m' ρ2 (by omega) h5
      exact ⟨ρ', by simp only [whileF, e1, thn_ok, if_true, e4]; exact e6, e7⟩
theorem FU_is : FU = 1000000000 := by unfold FU; rfl
theorem while_ok {c : O.Env → Res Bool} {g : O.Env → SR} (Iv : Nat → O.Env → Prop) (Po : O.Env → Prop) (step : ∀ m ρ, Iv m ρ → ∃ b ρ1, c ρ = .ok b ρ1 ∧ (b = true → ∃ ρ2 m', g ρ1 = .nx ρ2 ∧ m' < m ∧ Iv m' ρ2) ∧ (b = false → Po ρ1))
    {m : Nat} {ρ : O.Env} (hm : m < 1000000000) (hI : Iv m ρ) : ∃ ρ', gWhile c g ρ = .nx ρ' ∧ Po ρ' := whileF_ok Iv Po step FU m ρ (by rw [FU_is]; exact hm) hI
/-! bits -/
theorem bits_le {a : Int} {k : Nat} (h0 : 0 ≤ a) (h : a < 2 ^ k) : Builtin.Int.intBits a ≤ k := PyProof.Rows.intBits_le (by
  have : (a.natAbs : Int) < ((2 ^ k : Nat) : Int) := by rw [Int.natAbs_of_nonneg h0]; exact_mod_cast h
  exact_mod_cast this)
/-! ints and other rows -/
theorem fv_int (n : Int) : fv (.int n) = some (.int n) := id rfl
theorem fvs_ints : ∀ ns : List Int, fvs (ns.map D.int) = some (ns.map L2.V.int)
  | [] => rfl
  | n :: ns => by simp [fvs, fv, fvs_ints ns]
theorem inV_ints (n : Int) (ns : List Int) : L2.inV (.int n) (ns.map L2.V.int) = decide (n ∈ ns) := by
  induction ns with
  | nil => rfl
  | cons m ns ih =>
    unfold L2.inV at ih ⊢
    rw [List.map_cons, List.any_cons, ih]
    show ((m == n) || decide (n ∈ ns)) = _
    by_cases h : m = n
    · subst h; simp
    · have h' : ¬ n = m := fun e => h e.symm
      simp [h, h']
@[simp] theorem inB_lst (n : Int) (ns : List Int) : inB (.int n) (.lst (ns.map D.int)) = some (decide (n ∈ ns)) := by
  simp only [inB, fv, fvs_ints, Option.map_some, inV_ints]
@[simp] theorem inB_tup (n : Int) (ns : List Int) : inB (.int n) (.tup (ns.map D.int)) = some (decide (n ∈ ns)) := by
  simp only [inB, fv, fvs_ints, Option.map_some, inV_ints]
theorem toPys_ints : ∀ ns : List Int, toPys (ns.map D.int) = some (ns.map PyData.int)
  | [] => rfl
  | n :: ns => by simp [toPys, toPy, toPys_ints ns]
theorem canLay_ints : ∀ ns : List Int, PyData.canLayAll0 (ns.map PyData.int) = true
  | [] => rfl
  | n :: ns => by simp [PyData.canLayAll0, PyData.canLay0, canLay_ints ns]
theorem depth_ints : ∀ ns : List Int, PyData.depthAll (ns.map PyData.int) = 0
  | [] => rfl
  | n :: ns => by simp [PyData.depthAll, PyData.depth, depth_ints ns]
theorem eqvAll_ints : ∀ xs ys : List Int, PyData.eqvAll (xs.map PyData.int) (ys.map PyData.int) = decide (xs = ys)
  | [], [] => rfl
  | [], _ :: _ => by simp [PyData.eqvAll]
  | _ :: _, [] => by simp [PyData.eqvAll]
  | x :: xs, y :: ys => by
    simp only [List.map_cons, PyData.eqvAll, PyData.eqv, eqvAll_ints xs ys]
    by_cases h : x = y
    · subst h; simp
    · simp [h]
theorem shaped_lst (ns : List Int) : SeqAt.shaped (.list (ns.map PyData.int)) = true := by
  simp [SeqAt.shaped, PyData.canLay0, canLay_ints, PyData.depth, depth_ints]
theorem shaped_tup (ns : List Int) : SeqAt.shaped (.tuple (ns.map PyData.int)) = true := by
  simp [SeqAt.shaped, PyData.canLay0, canLay_ints, PyData.depth, depth_ints]
theorem shaped_int (n : Int) : SeqAt.shaped (.int n) = true := by simp [SeqAt.shaped, PyData.canLay0, PyData.depth]
@[simp] theorem eqB_int (i j : Int) : eqB (.int i) (.int j) = some (decide (i = j)) := by
  simp only [eqB, toPy, shaped_int, Bool.and_self, if_true, PyData.eqv]
  by_cases h : i = j <;> simp [h]
@[simp] theorem eqB_lst (xs ys : List Int) : eqB (.lst (xs.map D.int)) (.lst (ys.map D.int)) = some (decide (xs = ys)) := by
  simp only [eqB, toPy, toPys_ints, Option.map_some, shaped_lst, Bool.and_self, if_true, PyData.eqv, eqvAll_ints]
@[simp] theorem eqB_tup (xs ys : List Int) : eqB (.tup (xs.map D.int)) (.tup (ys.map D.int)) = some (decide (xs = ys)) := by
  simp only [eqB, toPy, toPys_ints, Option.map_some, shaped_tup, Bool.and_self, if_true, PyData.eqv, eqvAll_ints]
@[simp] theorem eqB_tup0 (xs : List Int) : eqB (.tup (xs.map D.int)) (.tup []) = some (decide (xs = [])) := eqB_tup xs []
@[simp] theorem intsD_ints (ns : List Int) : intsD (ns.map D.int) = some ns := intsD_map ns
@[simp] theorem blsD_bls : ∀ bs : List Bool, blsD (bs.map D.bl) = some bs
  | [] => rfl
  | b :: bs => by simp [blsD, blsD_bls bs]
theorem blsD_f {α : Type} (f : α → Bool) : ∀ l : List α, blsD (l.map fun x => .bl (f x)) = some (l.map f)
  | [] => rfl
  | x :: l => by simp [blsD, blsD_f f l]
@[simp] theorem blsD_t {α : Type} (l : List α) : blsD (l.map fun _ => D.bl true) = some (l.map fun _ => true) := blsD_f (fun _ => true) l
/-! operators of ints -/
section
variable {i j : Int}
@[simp] theorem gAdd_ii : gAdd (.int i) (.int j) = some (.val (.int (i + j))) := id rfl
@[simp] theorem gSub_ii : gSub (.int i) (.int j) = some (.val (.int (i - j))) := id rfl
@[simp] theorem gLt_ii : gLt (.int i) (.int j) = some (.val (.bl (decide (i < j)))) := id rfl
@[simp] theorem gLe_ii : gLe (.int i) (.int j) = some (.val (.bl (decide (i ≤ j)))) := id rfl
@[simp] theorem gGt_ii : gGt (.int i) (.int j) = some (.val (.bl (decide (j < i)))) := id rfl
@[simp] theorem gGe_ii : gGe (.int i) (.int j) = some (.val (.bl (decide (j ≤ i)))) := id rfl
theorem gMod_ii (h : 0 < j) : gMod (.int i) (.int j) = some (.val (.int (i % j))) := by simp [gMod, gII, h]
theorem gFdiv_ii (h : 0 < j) (h2 : j < 1073741824) : gFdiv (.int i) (.int j) = some (.val (.int (i / j))) := by simp [gFdiv, gII, h, h2]
theorem gMulI_ii (h : (Builtin.Int.intBits i : Int) + (Builtin.Int.intBits j : Int) ≤ 134217728) : gMulI (.int i) (.int j) = some (.val (.int (i * j))) := by simp [gMulI, gII, h]
theorem gPow_ii (n : Nat) (h : (Builtin.Int.intBits i : Int) * (n : Int) ≤ 134217728) : gPow (.int i) (.int (n : Int)) = some (.val (.int (i ^ n))) := by
  have h' : (Builtin.Int.intBits i : Int) * (n : Int) ≤ 2 ^ 27 := by have e : (2 : Int) ^ 27 = 134217728 := by decide
                                                                     rw [e]; exact h
  simp only [gPow, gII]
  rw [if_pos (decide_eq_true ⟨Int.natCast_nonneg n, h'⟩), Int.toNat_natCast]
theorem gPow_2 (h : (Builtin.Int.intBits i : Int) * 2 ≤ 134217728) : gPow (.int i) (.int 2) = some (.val (.int (i ^ 2))) := gPow_ii 2 h
theorem gPow_3 (h : (Builtin.Int.intBits i : Int) * 3 ≤ 134217728) : gPow (.int i) (.int 3) = some (.val (.int (i ^ 3))) := gPow_ii 3 h
theorem ten6 : gPow (.int 10) (.int 6) = some (.val (.int 1000000)) := by
  have b : Builtin.Int.intBits 10 ≤ 4 := PyProof.Rows.intBits_le (by decide)
  have := gPow_ii (i := 10) 6 (by omega)
  exact this
theorem ten18 : gPow (.int 10) (.int 18) = some (.val (.int 1000000000000000000)) := by
  have b : Builtin.Int.intBits 10 ≤ 4 := PyProof.Rows.intBits_le (by decide)
  have := gPow_ii (i := 10) 18 (by omega)
  exact this
end
/-! the drawing deck -/
def dk (d m : Int) : OD := .dic [(.inr "digits", .int d), (.inr "mixed", .int m)]
theorem k_dm : (Str.ofString "digits" = Str.ofString "mixed") = False := eq_false (by decide)
theorem k_md : (Str.ofString "mixed" = Str.ofString "digits") = False := eq_false (by decide)
@[simp] theorem sz2 : 2 < sizeLine := by decide
@[simp] theorem sz3 : 3 ≤ sizeLine := by decide
@[simp] theorem sz1 : 1 ≤ sizeLine := by decide
@[simp] theorem sz22 : 2 ≤ sizeLine := by decide
theorem sizeLine_is : 1000000 ≤ sizeLine := by decide
theorem dk_d (a b : D) : getD [(.inr (Str.ofString "digits"), a), (.inr (Str.ofString "mixed"), b)] (.inr (Str.ofString "digits")) = some a := by simp [getD]
theorem dk_m (a b : D) : getD [(.inr (Str.ofString "digits"), a), (.inr (Str.ofString "mixed"), b)] (.inr (Str.ofString "mixed")) = some b := by simp [getD, k_dm]
theorem dk_pd (a b c : D) : putD [(.inr (Str.ofString "digits"), a), (.inr (Str.ofString "mixed"), b)] (.inr (Str.ofString "digits")) c = [(.inr (Str.ofString "digits"), c), (.inr (Str.ofString "mixed"), b)] := by simp [putD, k_md]
theorem dk_pm (a b c : D) : putD [(.inr (Str.ofString "digits"), a), (.inr (Str.ofString "mixed"), b)] (.inr (Str.ofString "mixed")) c = [(.inr (Str.ofString "digits"), a), (.inr (Str.ofString "mixed"), c)] := by simp [putD, k_dm]
end O

/-! Own15: the law's own def, run from the claim's caller: nothing is being shown there (so repr may be called) -/
namespace O
open PySem
open PyProof.Rows (envOfC AllBare)
open L2 (V Hp HO Rd SqL SqT upd upd_same VK XK Ends St PSs Cx Sp FnOk Room Vals RelV Env0)
section
variable {P : Program} {w : World} {K : PySem.W.Frag} {mg : Str → Option Value} {base : Heap} {N : List Str} {st : Stmt} {f : Addr} {fd : FuncData}
theorem caller_free (env : PySem.Env) : (callerA.deeper env).guards = some [] := rfl
/-- one run of the law's def -/
theorem law_run {k n : Nat} {g : O.Env → SR} {s : Shared} {H : Hp} {v : V} {u : Value} {Q : VK} {E : XK} (F : L2.Fun K "law" "law" st f fd) (S : L2.FnScope N ["script"] (L2.defScope st)) (hN : N.length = n) (hn : 1 ≤ n) (room : Room (k + 1) callerA)
    (hB : ∀ (cdv : Value) (s : Shared) (H : Hp) (E : XK), Room k (callerA.deeper (envOfC "law" (L2.defScope st) s.heap.objs.size f cdv)) → ∃ t, JB (bx P w K mg base N "law" st f cdv callerA [] s H E) (fun _ => E) (L2.defBody st) t g)
    (e0 : Env0 P w K mg base callerA [] s H) (bind : BindsTo s fd ⟨[u], []⟩ [("script", u)]) (rel : RelV v u) (prom : spF K 1 (runF n g) [v] H Q E) :
    codeAny (model P w) callerA (.call (.ref f) ⟨[u], []⟩) (L2.CR (L2.CX P w) [] P w H s Q E) s := by
  obtain ⟨oc, od, kV, doc, pm, an, cdv, ct, osl, rfl, look, code⟩ := F.ex
  have inK : K.In s.heap := e0.mod.kin.keeps fun b o h => (e0.bs b o h).1
  have free : s.heap.NoLimit := e0.mod.nolimit.keeps fun b o h => (e0.bs b o h).1
  have kinds : ∀ y ∈ (["script"] : List Str).zip [u], (L2.defScope st).names.lookup y.1 = some .local ∨ ((L2.defScope st).names.lookup y.1 = some .cell ∧ ((cellsFrom (s.heap.objs.size + 1) (L2.defScope st).names []).lookup y.1).isSome = true) := by
    rintro ⟨x, z⟩ hy
    refine (S.par x (List.of_mem_zip hy).1).imp_right fun c => ⟨c, ?_⟩
    exact PySem.W.cellsFrom_some _ _ _ (Or.inl c)
  refine codeAny_call_function room.depth (inK _ _ look) rfl S.co S.gen rfl (PySem.W.codeRec_of inK code) (bind _ _ _ _ (?_))
  refine wpAny_newFunctionEnv_cells S.kind kinds fun env he s1 laid => (?_)
  subst he
  refine ⟨free.keeps laid.toInCall.keep, codeAny_func (?_)⟩
  obtain ⟨t, jb⟩ := hB cdv s H E (room.deeper _)
  have start := L2.inv_start (CX := L2.CX P w) (E := E) S room.hd e0 (vs := [v]) rfl (.cons rel .nil) laid
  have goal := jb.pss.run [] s1 _ H _ start (body_ok hN hn jb.ss prom)
  refine wpAny_mono goal (fun fl s' done => ?_) fun e s' out => out
  cases fl with
  | brk => exact done.elim fun _ q => q.elim fun _ q => q.2.elim
  | cont => exact done.elim fun _ q => q.elim fun _ q => q.2.elim
  | ret z =>
    obtain ⟨y, τ, G, J, rz, hq⟩ := done
    exact ⟨y, G, J.os, J.bare, J.base, J.hok, rz, hq⟩
  | next =>
    obtain ⟨τ, G, J, hq⟩ := done
    exact ⟨.non, G, J.os, J.bare, J.base, J.hok, rfl, hq⟩
/-- from a run to what is asked of the law's call -/
theorem law_whole {mb : Str → Option Value} {s : Shared} {fa a : Addr} {vs : List Value} {ns : List Int} (inK : K.In s.heap) (nsG : s.heap.Ns mainGlobals mg) (nsB : s.heap.Ns builtinsNs mb) (same : ∀ x : Str, x ≠ "__name__" → mb x = bootBuiltins x)
    (lim : s.heap.NoLimit) (nog : s.gens = #[]) (script : s.heap.get? a = some { cls := .type "list", data := .seq vs.toArray }) (nums : PyProof.Rows.IntsAre vs ns) (few : ns.length ≤ sizeLine)
    (run : ∀ (base : Heap) (H : Hp), K.In base → base.Ns mainGlobals mg → Env0 P w K mg base callerA [] s H → SqL K H a (ns.map V.int) →
      codeAny (model P w) callerA (.call (.ref fa) ⟨[.ref a], []⟩) (L2.CR (L2.CX P w) [] P w H s (fun v _ => v = .bl true) fun _ _ _ => False) s) :
    codeAny (model P w) callerA (.call (.ref fa) ⟨[.ref a], []⟩) (fun r s' => r = .ok (.ret (.bool true)) ∧ OldK s.heap s'.heap ∧ s'.os = s.os ∧ AllBare s'.gens) s := by
  have rel := L2.vals_ints nums
  have many := nums.length
  -- the script is watched, unless it is one of the written objects
  let H : Hp := fun b => if b = a ∧ K.lookup a = none then some (.frz { cls := .type "list", data := .seq vs.toArray } (.lst (ns.map V.int))) else none
  have seen : ∀ {b : Addr} {z : HO}, H b = some z → (b = a ∧ K.lookup a = none) ∧ z = .frz { cls := .type "list", data := .seq vs.toArray } (.lst (ns.map V.int)) := fun {b z} e => by
    by_cases h : b = a ∧ K.lookup a = none
    · have e' : H b = some (.frz { cls := .type "list", data := .seq vs.toArray } (.lst (ns.map V.int))) := if_pos h
      rw [e'] at e
      exact ⟨h, (Option.some.inj e).symm⟩
    · have e' : H b = none := if_neg h
      rw [e'] at e
      cases e
  have size : (ns.map V.int).length ≤ sizeLine := by rw [List.length_map]; exact few
  have hS : SqL K H a (ns.map V.int) := by
    cases look : K.lookup a with
    | none => exact .inl (.inr ⟨_, if_pos ⟨rfl, look⟩⟩)
    | some o =>
      have e := inK a o look
      rw [script] at e
      cases e
      exact .inr ⟨_, vs.toArray, _, look, rfl, rfl, rfl, by rw [List.size_toArray, many]; exact few, by simpa using rel⟩
  have hok : L2.HOk P w H s.heap := fun b z e => by
    obtain ⟨⟨rfl, _⟩, rfl⟩ := seen e
    exact ⟨script, size, vs, 0, rel, script⟩
  have hid : ∀ {b : Addr} {o : Obj}, s.heap.get? b = some o → (b = a → ∃ q, K.lookup a = some q) → (L2.hidT s.heap H).get? b = some o := fun {b o} e hq => by
    refine L2.hidT_get e ?_
    cases h : H b with
    | none => rfl
    | some z =>
      obtain ⟨⟨h1, h2⟩, _⟩ := seen h
      obtain ⟨q, h3⟩ := hq h1
      rw [h2] at h3
      cases h3
  have inB : K.In (L2.hidT s.heap H) := fun b o e => hid (inK b o e) fun h => ⟨o, by rw [← h]; exact e⟩
  have space : ∀ {b : Addr} {m : Str → Option Value}, s.heap.Ns b m → (L2.hidT s.heap H).Ns b m := fun {b m} h => by
    obtain ⟨o, es, ep, e, d, r⟩ := h
    refine ⟨o, es, ep, L2.hidT_get e ?_, d, r⟩
    cases hb : H b with
    | none => rfl
    | some z =>
      obtain ⟨⟨h1, _⟩, _⟩ := seen hb
      rw [h1, script] at e
      cases e
      cases (show Data.seq vs.toArray _ = Data.dict es ep from d)
  have room : L2.Mod K mg (L2.hidT s.heap H) := by
    obtain ⟨mc, c1, c2⟩ := lim
    exact ⟨inB, space nsG, ⟨mb, space nsB, same⟩, mc, space c1, c2⟩
  have e0 : Env0 P w K mg (L2.hidT s.heap H) callerA [] s H :=
    { frames := rfl, mod := room, bs := fun b o e => L2.of_hidT e, bsz := Nat.le_of_eq (L2.hidT_size _ _), funs := trivial, frf := fun b hb => absurd (show b ∈ ([] : List Addr) from hb) (by simp), hok := hok, bare := .of_eq nog }
  refine codeAny_mono (run _ H inB (space nsG) e0 hS) fun r s' out => ?_
  cases r with
  | error e =>
    obtain ⟨_, _, _, _, _, _, _, _, _, _, _, _, z⟩ := out
    exact z.elim
  | ok fl =>
    cases fl with
    | brk => exact out.elim
    | cont => exact out.elim
    | next => exact out.elim
    | ret u =>
      obtain ⟨v, H', os, bare, un, hok', ru, hv⟩ := out
      have hv : v = .bl true := hv
      subst hv
      have hu : u = Value.bool true := ru
      subst hu
      refine ⟨rfl, OldK.of_keep fun b o e => ?_, os, bare⟩
      cases h : H b with
      | none => exact un.keep b o e h (fun z => absurd (show b ∈ ([] : List Addr) from z) (by simp)) (by simp)
      | some z =>
        obtain ⟨_, rfl⟩ := seen h
        have h1 := (hok b _ h).1
        have h2 := (hok' b _ (un.frzs b _ _ h)).1
        rw [h1] at e
        cases e
        exact h2
end
end O

/-! Own16: texts compared; repr of lists and tuples, where nothing is being shown; the walk of a law that calls it -/
namespace O
open PySem
open PyProof.Rows (envOfC AllBare)
open L2 (V Hp HO Rd SqL SqT upd upd_same VK XK Ends St TE TA PE PSs Cx Sp FnOk Room Vals RelV Env0 OpR CallR)
/-- equality, texts too -/
def eqS : D → D → Option Bool
  | .str x, .str y => some (decide (x = y))
  | d, e => eqB d e
def gEqS (d e : D) : Option RV := (eqS d e).map fun b => .val (.bl b)
def gNeS (d e : D) : Option RV := (eqS d e).map fun b => .val (.bl (!b))
section
variable {X : Cx}
theorem eqS_cases (d e : D) : (∃ x y, d = .str x ∧ e = .str y) ∨ eqS d e = eqB d e := by
  cases d <;> cases e <;> first | exact .inl ⟨_, _, rfl, rfl⟩ | exact .inr rfl
theorem dec_str (x y : Str) : decide ((V.str x) = V.str y) = decide (x = y) := by
  by_cases h : x = y
  · subst h; simp
  · simp [h]
theorem op_gEqS (hu : X.A.units + 64 < cLine) : OpR X (compareOp .Eq) (rG X.K gEqS) := by
  intro pins s σ H x y v u Q I rx ry ⟨Hd, d1, d2, z, l, t1, t2, eg, q⟩
  rcases eqS_cases d1 d2 with ⟨a, b, rfl, rfl⟩ | h
  · cases eg
    have e1 := t1.strD
    have e2 := t2.strD
    subst e1 e2
    refine L2.op_eq pins s σ H _ _ v u Q I rx ry ⟨rfl, ?_⟩
    rw [dec_str]
    exact q _ _ (newR_here l (.bl _))
  · unfold gEqS at eg
    rw [h] at eg
    exact op_gEq hu pins s σ H x y v u Q I rx ry ⟨Hd, d1, d2, z, l, t1, t2, eg, q⟩
theorem op_gNeS (hu : X.A.units + 64 < cLine) : OpR X (compareOp .NotEq) (rG X.K gNeS) := by
  intro pins s σ H x y v u Q I rx ry ⟨Hd, d1, d2, z, l, t1, t2, eg, q⟩
  rcases eqS_cases d1 d2 with ⟨a, b, rfl, rfl⟩ | h
  · cases eg
    have e1 := t1.strD
    have e2 := t2.strD
    subst e1 e2
    refine L2.op_ne pins s σ H _ _ v u Q I rx ry ⟨rfl, ?_⟩
    rw [dec_str]
    exact q _ _ (newR_here l (.bl _))
  · unfold gNeS at eg
    rw [h] at eg
    exact op_gNe hu pins s σ H x y v u Q I rx ry ⟨Hd, d1, d2, z, l, t1, t2, eg, q⟩
/-- what may be shown -/
def canShow (p : PyData) : Bool := PyData.layable0 p && p.intsShort 13 && p.showable && decide (p.depth ≤ 60)
def gRepr : List D → Option RV
  | [.lst ds] => match toPy (.lst ds) with
    | some p => if canShow p = true then some (.val (.str p.shown)) else none
    | none => none
  | [.tup ds] => match toPy (.tup ds) with
    | some p => if canShow p = true then some (.val (.str p.shown)) else none
    | none => none
  | _ => none
theorem repr_dp (hu : X.A.units + 64 < cLine) (hg : X.A.guards = some []) {pins : List (Addr × Obj)} {s : Shared} {σ : St} {H : Hp} {a : Addr} {p : PyData} {Q : VK} (I : L2.Inv X pins σ H s) (dp : L2.Dp X.K H (.ref a) p) (ok : canShow p = true) (q : Q (.str p.shown) H) :
    wpAny (model X.prog X.w) X.A (call (.builtin "repr") [.ref a]) (L2.EP X pins σ Q) X.xe s := by
  obtain ⟨as, rd⟩ := L2.Dp.reads I p (.ref a) (.ref a) dp rfl
  unfold canShow at ok
  simp only [Bool.and_eq_true, decide_eq_true_eq] at ok
  obtain ⟨⟨⟨k1, k2⟩, k3⟩, k4⟩ := ok
  have can : PyData.canLay0 p = true := by
    have k1' : (PyData.canLay0 p && decide (PyData.depth p ≤ 64) && decide (PyData.weight p ≤ 2 ^ 20)) = true := k1
    simp only [Bool.and_eq_true] at k1'
    exact k1'.1.1
  have len : p.shown.length ≤ sizeLine := Nat.le_trans (PyProof.Rows.shown_le13 k1 k2) (by decide)
  exact repr_of_reads' rd k3 (PyData.noDict_hsm (PyData.hasDict_of_canLay p can)) hg (by omega) (fun _ _ h => h) (fun h' u tk keep => ⟨.str p.shown, H, I.kept keep, ⟨_, rfl⟩, q⟩) len
theorem cb_repr (hu : X.A.units + 64 < cLine) (hg : X.A.guards = some []) : CallR X (.builtin "repr") (rGC X.K gRepr) := by
  intro pins s σ H xs us Q I rx ⟨Hd, ds, z, l, t, eg, q⟩
  have go : ∀ (d : D) (x : V) (p : PyData), xs = [x] → Top X.K Hd H d x → toPy d = some p → (∃ a, x = .ref a) → canShow p = true → z = .val (.str p.shown) → wpAny (model X.prog X.w) X.A (call (.builtin "repr") us) (L2.EP X pins σ Q) X.xe s := fun d x p e1 e2 e3 ⟨a, e4⟩ e5 e6 => by
    subst e1 e4 e6
    obtain ⟨u, rfl, ru⟩ : ∃ u, us = [u] ∧ RelV (.ref a) u := by
      cases rx with | cons r rr => cases rr; exact ⟨_, rfl, r⟩
    have hu' : u = Value.ref a := ru
    subst hu'
    exact repr_dp hu hg I ((e2.all l).dp e3) e5 (q _ _ (newR_here l (.str _)))
  match ds, t, eg with
  | [.lst es], t, eg =>
    simp only [gRepr] at eg
    obtain ⟨x, e, w⟩ := tops1 t
    cases e3 : toPy (.lst es) with
    | none => rw [e3] at eg; cases eg
    | some p =>
      rw [e3] at eg
      by_cases hc : canShow p = true
      · simp only [if_pos hc] at eg
        obtain ⟨a, _, ea, _⟩ := w.lstD l
        exact go _ x p e w e3 ⟨a, ea⟩ hc (Option.some.inj eg).symm
      · simp only [if_neg hc] at eg; cases eg
  | [.tup es], t, eg =>
    simp only [gRepr] at eg
    obtain ⟨x, e, w⟩ := tops1 t
    cases e3 : toPy (.tup es) with
    | none => rw [e3] at eg; cases eg
    | some p =>
      rw [e3] at eg
      by_cases hc : canShow p = true
      · simp only [if_pos hc] at eg
        obtain ⟨a, _, ea, _⟩ := w.tupD l
        exact go _ x p e w e3 ⟨a, ea⟩ hc (Option.some.inj eg).symm
      · simp only [if_neg hc] at eg; cases eg
end
/-! ### the walk -/
theorem walk_law {l : PySem.W.OpenLaw} {n : Nat} {q : Program} {loose : List Str} {XP : (Str → Option Value) → Heap → Prop} {YP : World → Heap → Prop} {d : DefRec} {K : Params → PySem.W.Frag} (hn : l.most = some n) (few : n ≤ sizeLine) (plain : d.params.defaults = []) (hY : ∀ (w : World) (h : Heap), YP w h → (K w.params).In h)
    (run : ∀ (w : World) (mg : Str → Option Value) (fa : Addr) (h : Heap), (K w.params).In h → h.Ns mainGlobals mg → mg d.name = some (.ref fa) → ∀ (s : Shared) (base : Heap) (H : Hp) (a : Addr) (ns : List Int), ns.length ≤ n → (∀ z ∈ ns, Builtin.Int.intBits z ≤ 1048576) → Env0 l.prog w (K w.params) mg base callerA [] s H → SqL (K w.params) H a (ns.map V.int) →
      codeAny (model l.prog w) callerA (.call (.ref fa) ⟨[.ref a], []⟩) (L2.CR (L2.CX l.prog w) [] l.prog w H s (fun v _ => v = .bl true) fun _ _ _ => False) s) : PySem.W.WalkO q loose XP YP l.row.toRowW d [] (fun f vs => PySem.call f vs) := by
  refine Att.attach_callB hn plain fun w s₀ s₁ mg mb fa o pm cd doc a vs ns G Y _ _ _ hmg script nums size bits nog => (?_)
  exact law_whole (hY w _ Y) G.T.g G.T.b G.T.builtins G.T.nolimit nog script nums (Nat.le_trans size few) fun base H _ _ e0 hS => run w mg fa _ (hY w _ Y) G.T.g hmg s₁ base H a ns size bits e0 hS
end O

/-! Own17: more words: minus, abs, pop(i), insert, any, sum, enumerate, k in d -/
namespace O
open PySem
open L2 (V Hp HO Rd SqL SqT upd upd_same upd_ne ne_of ne_of_none TE TT TA TS TG TGs TI TO It VK XK Ends St PE PT PW PA PS PSs PG PGs PI PO PTs Cx OpR UnR CallR IxR SlR MtR R2 tOp tUn tVar tC tCons tNil tTup tLst tTest tB tAnd tOr tNot tAndV tOrV tNotV tIf tCB Sp FnOk Gl Vis Loc Room)
section
variable {X : Cx}
def gNeg : D → Option RV
  | .int i => some (.val (.int (-i)))
  | _ => none
theorem un_gNeg : UnR X (unaryOp .USub) (rG1 X.K gNeg) := fun pins s σ H x v Q I rx ⟨Hd, d, z, l, t, eg, q⟩ => by
  cases d with
  | int i =>
    cases eg
    exact L2.un_neg pins s σ H x v Q I rx ⟨i, t.intD, q _ _ (newR_here l (.int _))⟩
  | _ => cases eg
def gAbs : List D → Option RV
  | [.int i] => some (.val (.int (if i < 0 then -i else i)))
  | _ => none
theorem cb_abs : CallR X (.builtin "abs") (rGC X.K gAbs) := cb_imp L2.call_abs fun xs H Q ⟨Hd, ds, z, l, t, eg, q⟩ => by
  match ds, t, eg with
  | [.int i], t, eg =>
    cases eg
    obtain ⟨x, rfl, w⟩ := tops1 t
    exact ⟨i, by rw [w.intD], q _ _ (newR_here l (.int _))⟩
def gAny : List D → Option RV
  | [.lst ds] => (blsD ds).map fun bs => .val (.bl (bs.any id))
  | _ => none
theorem cb_any (hc : X.calm = true) : CallR X (.builtin "any") (rGC X.K gAny) := cb_imp (L2.cr_any hc) fun xs H Q ⟨Hd, ds, z, l, t, eg, q⟩ => by
  match ds, t, eg with
  | [.lst es], t, eg =>
    simp only [gAny] at eg
    cases e1 : blsD es with
    | none => rw [e1] at eg; cases eg
    | some ns =>
      rw [e1] at eg
      cases eg
      obtain ⟨x, rfl, w⟩ := tops1 t
      obtain ⟨a, ys, rfl, h1, r1⟩ := w.lstD l
      have ey := blsD_ok r1 e1
      subst ey
      exact ⟨a, ns, rfl, .inl h1, q _ _ (newR_here l (.bl _))⟩
def gSum : List D → Option RV
  | [.lst ds] => (intsD ds).map fun ns => .val (.int ns.sum)
  | _ => none
theorem cb_sum (hc : X.calm = true) : CallR X (.builtin "sum") (rGC X.K gSum) := cb_imp (L2.cr_sum hc) fun xs H Q ⟨Hd, ds, z, l, t, eg, q⟩ => by
  match ds, t, eg with
  | [.lst es], t, eg =>
    simp only [gSum] at eg
    cases e1 : intsD es with
    | none => rw [e1] at eg; cases eg
    | some ns =>
      rw [e1] at eg
      cases eg
      obtain ⟨x, rfl, w⟩ := tops1 t
      obtain ⟨a, ys, rfl, h1, r1⟩ := w.lstD l
      have ey := intsD_ok r1 e1
      subst ey
      exact ⟨a, ns, rfl, .inl h1, q _ _ (newR_here l (.int _))⟩
/-- l.pop(i) -/
def gPopAt : List D → List D → Option (List D × D)
  | ds, [.int i] => if -(2 ^ 63) ≤ i ∧ i < 2 ^ 63 then match seqIndex? i ds.length with
      | some k => (ds[k]?).map fun y => (ds.eraseIdx k, y)
      | none => none
    else none
  | _, _ => none
theorem mt_gPopAt : MtR X "list.pop" (rGMut X.K gPopAt) := mt_imp L2.mt_popAt fun x vs H Q ⟨l, xs, Hd, ds, es, ds', z, ex, hl, r, re, eg, q⟩ => by
  match es, re, eg with
  | [.int i], .cons hy .nil, eg =>
    simp only [gPopAt] at eg
    by_cases hi : -(2 ^ 63) ≤ i ∧ i < 2 ^ 63
    · rw [if_pos hi] at eg
      cases ek : seqIndex? i ds.length with
      | none => rw [ek] at eg; cases eg
      | some k =>
        rw [ek] at eg
        simp only at eg
        cases ey : ds[k]? with
        | none => rw [ey] at eg; cases eg
        | some y =>
          rw [ey] at eg
          cases eg
          obtain ⟨w, hw, rw_⟩ := r.get ey
          cases hy
          exact ⟨l, xs, i, k, w, ex, rfl, hl, hi.1, hi.2, by rw [r.length]; exact ek, hw, q _ _ (r.eraseIdx k) rw_⟩
    · rw [if_neg hi] at eg; cases eg
/-- l.insert(i, y), i a place -/
def gInsert : List D → List D → Option (List D × D)
  | ds, [.int i, y] => if ds.length < sizeLine ∧ 0 ≤ i ∧ i < 2 ^ 63 then some (ds.take i.toNat ++ [y] ++ ds.drop i.toNat, .non) else none
  | _, _ => none
theorem mt_gInsert : MtR X "list.insert" (rGMut X.K gInsert) := mt_imp L2.mt_insert fun x vs H Q ⟨l, xs, Hd, ds, es, ds', z, ex, hl, r, re, eg, q⟩ => by
  match es, re, eg with
  | [.int i, y], .cons hi (.cons hy .nil), eg =>
    simp only [gInsert] at eg
    by_cases hz : ds.length < sizeLine ∧ 0 ≤ i ∧ i < 2 ^ 63
    · rw [if_pos hz] at eg
      cases eg
      cases hi
      exact ⟨l, xs, i, _, ex, rfl, hl, by rw [r.length]; exact hz.1, hz.2.1, hz.2.2, q _ _ (((r.take _).append (.cons hy .nil)).append (r.drop _)) .non⟩
    · rw [if_neg hz] at eg; cases eg
end
section
variable {K : PySem.W.Frag} {W : St → XK}
/-! enumerate(l) -/
def enumD : Nat → List D → List D
  | _, [] => []
  | i, d :: ds => .tup [.int (i : Nat), d] :: enumD (i + 1) ds
theorem enumD_len : ∀ (ds : List D) (i : Nat), (enumD i ds).length = ds.length
  | [], _ => rfl
  | d :: ds, i => by simp [enumD, enumD_len ds (i + 1)]
theorem enumD_get : ∀ (ds : List D) (i j : Nat) (d : D), ds[j]? = some d → (enumD i ds)[j]? = some (.tup [.int ((i + j : Nat) : Int), d])
  | [], _, _, _, h => by simp at h
  | x :: ds, i, 0, d, h => by simp at h; subst h; simp [enumD]
  | x :: ds, i, j + 1, d, h => by
    have := enumD_get ds (i + 1) j d (by simpa using h)
    simp only [enumD, List.getElem?_cons_succ, this]
    congr 4
    omega
def gItE : D → Option (List D)
  | .lst ds => some (enumD 0 ds)
  | _ => none
theorem si_enum {te : TE} {fe : O.Env → Res RV} (he : Sd K W (rV K) te fe) : Si K W (L2.iEnum K (tCons te tNil)) (fWalk fe gItE) :=
  si_of (k := fun x H1 R => ∃ a xs, [x] = [V.ref a] ∧ SqL K H1 a xs ∧ R (L2.Ite K a) H1) he rfl fun C Hs fp Hd H σ ρ d ds v I hr eg R p => by
    cases d with
    | lst es =>
      cases eg
      obtain ⟨a, xs, rfl, hl, h⟩ := rWk_rd hr
      refine ⟨a, xs, rfl, .inl (h _ _ _ _ _ I (.refl _)).1, p _ ?_⟩
      unfold WalkD
      rw [enumD_len, ← hl]
      exact L2.walk_enum.mono (fun H' ⟨fp', Hd', σ', ρ', I', l'⟩ => .inl (h _ _ _ _ _ I' l').1) fun i H' x H'' hi ⟨fp', Hd', σ', ρ', I', l'⟩ ⟨T, x1, y1, e0, hT, e1, e2, e3⟩ => by
        subst e0 e1
        cases e2
        obtain ⟨d, hd, _⟩ := (h _ _ _ _ _ I' l').2.get' e3
        have hi0 : (enumD 0 es)[i]? = some (.tup [.int (i : Nat), d]) := by have := enumD_get es 0 i d hd; rw [Nat.zero_add] at this; exact this
        refine ⟨_, hi0, fun fp3 Hd3 σ3 ρ3 I3 l3 => ?_⟩
        obtain ⟨d', hd', r'⟩ := (h _ _ _ _ _ I3 l3).2.get' e3
        rw [hd] at hd'
        cases hd'
        exact newR_tup I3.le hT (.cons (.int _) (.cons r' .nil))
    | _ => cases eg
/-! k in d -/
def gDIn : D → D → Option RV
  | k, .dic kvs => (keyD k).map fun q => .val (.bl (getD kvs q).isSome)
  | k, .dlk kvs => (keyD k).map fun q => .val (.bl (getD kvs q).isSome)
  | _, _ => none
def rDI : R2 := fun y x H Q => ∃ a o, x = .ref a ∧ L2.DGet H a y o ∧ Q (.bl o.isSome) H
theorem rDI_of : ∀ x y H Q, rG K gDIn x y H Q → rDI x y H Q := fun x y H Q ⟨Hd, d1, d2, z, l, t1, t2, eg, q⟩ => by
  have go : ∀ {kvs : List (L2.Key × D)} {a : Addr} {kws : List (L2.Key × V)}, y = .ref a → Rd H a (.dK kws) → Repk K Hd kvs kws → ((keyD d1).map fun q => RV.val (.bl (getD kvs q).isSome)) = some z → rDI x y H Q := fun {kvs a kws} e h1 r1 eg => by
    cases ek : keyD d1 with
    | none => rw [ek] at eg; cases eg
    | some k =>
      rw [ek] at eg
      cases eg
      have q : ∀ (v : V) (H' : Hp), NewR K Hd H (.val (.bl (getD kvs k).isSome)) v H' → Q v H' := q
      rcases r1.get (k := k) with ⟨q1, q2⟩ | ⟨d, v, q1, q2, q3⟩
      · exact ⟨a, none, e, .inl ⟨kws, k, h1, key_v t1 ek, q2.symm⟩, by rw [q1] at q; exact q _ _ (newR_here l (.bl _))⟩
      · exact ⟨a, some v, e, .inl ⟨kws, k, h1, key_v t1 ek, q2.symm⟩, by rw [q1] at q; exact q _ _ (newR_here l (.bl _))⟩
  cases d2 with
  | dic kvs =>
    obtain ⟨a, kws, e, h1, r1⟩ := t2.dicD l
    exact go e h1 r1 (by cases d1 <;> exact eg)
  | dlk kvs =>
    obtain ⟨a, o, kws, e, h1, r1⟩ := t2.dlkD l
    exact go e (.inr ⟨o, h1⟩) r1 (by cases d1 <;> exact eg)
  | _ => cases d1 <;> cases eg
theorem sd_din {ta tb : TE} {fa fb : O.Env → Res RV} (ha : Sd K W (rV K) ta fa) (hb : Sd K W (rV K) tb fb) : Sd K W (rV K) (L2.tDIn ta tb) (f2 fa fb gDIn) := sd_op2' rDI_of ha hb
end
section
variable {X : Cx} {W : St → XK} {a b e o : Expr} {es : List Expr} {pos p tpos : Pos} {ta tb te : TE} {fa fb fe : O.Env → Res RV} {t : TA} {f : O.Env → Res (List RV)}
theorem jneg {K : PySem.W.Frag} (ha : JE X W a ta fa) (hK : X.K = K := by rfl) : JE X W (.UnaryOp .USub a pos) (tUn (rG1 K gNeg) ta) (f1 fa gNeg) := by
  subst hK
  exact ⟨L2.pe_un un_gNeg ha.pe, sd_op1 ha.se⟩
theorem jenum {elts : List Expr} {kk : Nat} {K : PySem.W.Frag} (hm : X.mg "enumerate" = none) (ha : JE X W e te fe) (hg : Gl X "enumerate" := by rfl) (hs : starEach [e] X.env = [(false, eval e X.env)] := by rfl) (hs2 : starEach [e] X.env = (false, eval e X.env) :: starEach [] X.env := by rfl) (hK : X.K = K := by rfl) :
    JI X W (.Tuple elts kk tpos) (.Call (.Name "enumerate" p) [e] [] pos) (L2.iEnum K (tCons te tNil)) (fWalk fe gItE) := by
  subst hK
  exact ⟨L2.pi_enum hg hm (L2.pa_cons ha.pe L2.pa_nil hs2) hs, si_enum ha.se⟩
theorem jdin (hu : X.A.units + 64 < cLine) (ha : JE X W a ta fa) (hb : JE X W b tb fb) (hm : behindInMarks .In b = false := by rfl) : JE X W (.Compare a [.In] [b] pos) (L2.tDIn ta tb) (f2 fa fb gDIn) :=
  ⟨L2.pe_cmp (L2.pc_din (by omega) ha.pe hb.pe) hm, sd_din ha.se hb.se⟩
end
end O

/-! Own18: bools subtracted; tuples of ints compared -/
namespace O
open PySem
open L2 (V Hp HO Rd SqL SqT upd upd_same upd_ne ne_of ne_of_none TE TT TA TS TG TGs TI TO It VK XK Ends St PE PT PW PA PS PSs PG PGs PI PO PTs Cx OpR UnR CallR IxR SlR MtR R2 tOp tUn tVar tC tCons tNil tTup tLst tTest tB tAnd tOr tNot tAndV tOrV tNotV tIf tCB Sp FnOk Gl Vis Loc Room)
section
variable {X : Cx}
def nB (b : Bool) : Int := if b then 1 else 0
/-- - of ints, of bools -/
def gSubX : D → D → Option RV
  | .bl a, .bl b => some (.val (.int (nB a - nB b)))
  | d, e => gSub d e
theorem subX_cases (d e : D) : (∃ a b, d = .bl a ∧ e = .bl b) ∨ gSubX d e = gSub d e := by
  cases d <;> cases e <;> first | exact .inl ⟨_, _, rfl, rfl⟩ | exact .inr rfl
theorem op_gSubX : OpR X (binaryOp .Sub) (rG X.K gSubX) := by
  intro pins s σ H x y v u Q I rx ry ⟨Hd, d1, d2, z, l, t1, t2, eg, q⟩
  rcases subX_cases d1 d2 with ⟨a, b, rfl, rfl⟩ | h
  · cases eg
    have e1 := t1.blD
    have e2 := t2.blD
    subst e1 e2
    have f1 : v = Value.bool a := rx
    have f2 : u = Value.bool b := ry
    subst f1 f2
    refine PyProof.Rows.sub_bool (?_)
    exact ⟨.int (nB a - nB b), H, I.tok _, ⟨_, rfl⟩, q _ _ (newR_here l (.int _))⟩
  · rw [h] at eg
    exact op_gSub pins s σ H x y v u Q I rx ry ⟨Hd, d1, d2, z, l, t1, t2, eg, q⟩
/-! tuples of ints -/
def gLtT : D → D → Option RV
  | .tup ds, .tup es => match intsD ds, intsD es with
    | some ns, some ms => some (.val (.bl (HT.lexLt ns ms)))
    | _, _ => none
  | d, e => gLt d e
theorem intsT {Hd H : Hp} {K : PySem.W.Frag} {ds : List D} {x : V} {ns : List Int} (l : Le Hd H) (t : Top K Hd H (.tup ds) x) (e : intsD ds = some ns) : ∃ a, x = .ref a ∧ SqT K H a (ns.map V.int) := by
  obtain ⟨a, vs, rfl, h, r⟩ := t.tupD l
  rw [intsD_ok r e] at h
  exact ⟨a, rfl, h⟩
theorem op_gLtT (hu : X.A.units + 64 < cLine) : OpR X (compareOp .Lt) (rG X.K gLtT) := by
  intro pins s σ H x y v u Q I rx ry ⟨Hd, d1, d2, z, l, t1, t2, eg, q⟩
  by_cases h : ∃ ds es, d1 = .tup ds ∧ d2 = .tup es
  · obtain ⟨ds, es, rfl, rfl⟩ := h
    simp only [gLtT] at eg
    cases e1 : intsD ds with
    | none => rw [e1] at eg; cases eg
    | some ns =>
      cases e2 : intsD es with
      | none => rw [e1, e2] at eg; cases eg
      | some ms =>
        rw [e1, e2] at eg
        cases eg
        obtain ⟨a, rfl, h1⟩ := intsT l t1 e1
        obtain ⟨b, rfl, h2⟩ := intsT l t2 e2
        exact L2.op_ltT (by omega) pins s σ H _ _ v u Q I rx ry ⟨a, b, ns, ms, rfl, rfl, h1, h2, q _ _ (newR_here l (.bl _))⟩
  · have e : gLtT d1 d2 = gLt d1 d2 := by
      cases d1 <;> first | rfl | (cases d2 <;> first | rfl | exact absurd ⟨_, _, rfl, rfl⟩ h)
    rw [e] at eg
    exact op_gLt pins s σ H x y v u Q I rx ry ⟨Hd, d1, d2, z, l, t1, t2, eg, q⟩
/-- what tuple comparison goes through is the other's lexical order -/
theorem lex_gt : ∀ (ns ms : List Int), Ob.lexAt (fun j => decide (ns.getD j 0 = ms.getD j 0)) (fun j => decide (ms.getD j 0 < ns.getD j 0)) (decide (ns.length > ms.length)) 0 (min ns.length ms.length) = HT.lexLt ms ns := by
  have shift : ∀ (e r : Nat → Bool) (z : Bool) (k i : Nat), Ob.lexAt e r z (i + 1) k = Ob.lexAt (fun j => e (j + 1)) (fun j => r (j + 1)) z i k := by
    intro e r z k
    induction k with
    | zero => intro i; rfl
    | succ k ih =>
      intro i
      rw [Ob.lexAt_succ, Ob.lexAt_succ, ih (i + 1)]
  intro ns
  induction ns with
  | nil =>
    intro ms
    cases ms with
    | nil => rfl
    | cons m ms => rfl
  | cons n ns ih =>
    intro ms
    cases ms with
    | nil => simp [Ob.lexAt_zero, HT.lexLt]
    | cons m ms =>
      have e0 : min (n :: ns).length (m :: ms).length = min ns.length ms.length + 1 := by simp only [List.length_cons]; omega
      rw [e0, Ob.lexAt_succ, shift]
      have h := ih ms
      simp only [List.getD_cons_zero, List.getD_cons_succ, List.length_cons, HT.lexLt_cons]
      have h' : (decide (ns.length + 1 > ms.length + 1)) = decide (ns.length > ms.length) := by
        by_cases q : ns.length > ms.length
        · rw [decide_eq_true q, decide_eq_true (by omega)]
        · rw [decide_eq_false q, decide_eq_false (by omega)]
      rw [h', h]
      by_cases q : n = m
      · subst q; simp
      · have q' : ¬ m = n := fun e => q e.symm
        simp [q, q']
def gGtT : D → D → Option RV
  | .tup ds, .tup es => match intsD ds, intsD es with
    | some ns, some ms => some (.val (.bl (HT.lexLt ms ns)))
    | _, _ => none
  | d, e => gGt d e
theorem op_gGtT (hu : X.A.units + 64 < cLine) : OpR X (compareOp .Gt) (rG X.K gGtT) := by
  intro pins s σ H x y v u Q I rx ry ⟨Hd, d1, d2, z, l, t1, t2, eg, q⟩
  by_cases h : ∃ ds es, d1 = .tup ds ∧ d2 = .tup es
  · obtain ⟨ds, es, rfl, rfl⟩ := h
    simp only [gGtT] at eg
    cases f1 : intsD ds with
    | none => rw [f1] at eg; cases eg
    | some ns =>
      cases f2 : intsD es with
      | none => rw [f1, f2] at eg; cases eg
      | some ms =>
        rw [f1, f2] at eg
        cases eg
        obtain ⟨a, rfl, h1⟩ := intsT l t1 f1
        obtain ⟨b, rfl, h2⟩ := intsT l t2 f2
        have ev : v = Value.ref a := rx
        have eu : u = Value.ref b := ry
        subst ev eu
        obtain ⟨its, r1, p1, _⟩ := I.tuple h1
        obtain ⟨jts, r2, p2, _⟩ := I.tuple h2
        have i1 : PyProof.Rows.IntsAre its ns := L2.Vals.ints r1
        have i2 : PyProof.Rows.IntsAre jts ms := L2.Vals.ints r2
        have n1 : its.toArray.size = ns.length := by rw [List.size_toArray]; exact i1.length
        have n2 : jts.toArray.size = ms.length := by rw [List.size_toArray]; exact i2.length
        have g1 : ∀ j (hj : j < its.toArray.size), ∃ t, its.toArray[j] = .int (ns.getD j 0) t := fun j hj => i1.int_at _ _ (by simpa using hj)
        have g2 : ∀ j (hj : j < jts.toArray.size), ∃ t, jts.toArray[j] = .int (ms.getD j 0) t := fun j hj => i2.int_at _ _ (by simpa using hj)
        have R := Ob.RcOp.tuples_gt (A := X.A) (s := s) (e := fun j => decide (ns.getD j 0 = ms.getD j 0)) (r := fun j => decide (ms.getD j 0 < ns.getD j 0)) p1 p2 (by omega)
          (fun j k1 k2 => by
            obtain ⟨t, w1⟩ := g1 j k1
            obtain ⟨t', w2⟩ := g2 j k2
            rw [w1, w2]
            have same : decide (ns.getD j 0 = ms.getD j 0) = (ns.getD j 0 == ms.getD j 0) := by
              generalize ns.getD j 0 = n0
              generalize ms.getD j 0 = m0
              by_cases c : n0 = m0 <;> simp [c]
            show SeqAt.EqAt _ _ _ _ (decide (ns.getD j 0 = ms.getD j 0))
            rw [same]
            exact SeqAt.EqAt.int_int _ _ _ _)
          (fun j k1 k2 _ => by
            obtain ⟨t, w1⟩ := g1 j k1
            obtain ⟨t', w2⟩ := g2 j k2
            rw [w1, w2]
            exact Ob.RcOp.gt_int _ _ _ _)
        rw [n1, n2, lex_gt] at R
        have done : wpAny (model X.prog X.w) X.A (compareOp .Gt (.ref a) (.ref b)) (L2.EP X pins σ Q) X.xe s := R X.prog X.w X.xe (L2.EP X pins σ Q) ⟨.bl _, H, I, rfl, q _ _ (newR_here l (.bl _))⟩
        exact done
  · have e : gGtT d1 d2 = gGt d1 d2 := by
      cases d1 <;> first | rfl | (cases d2 <;> first | rfl | exact absurd ⟨_, _, rfl, rfl⟩ h)
    rw [e] at eg
    exact op_gGt pins s σ H x y v u Q I rx ry ⟨Hd, d1, d2, z, l, t1, t2, eg, q⟩
end
end O

/-! Own19: or, and of any values; how many different ints; list(range); pop(i), insert on a name -/
namespace O
open PySem
open L2 (V Hp HO Rd SqL SqT upd upd_same upd_ne ne_of ne_of_none TE TT TA TS TG TGs TI TO It VK XK Ends St PE PT PW PA PS PSs PG PGs PI PO PTs Cx OpR UnR CallR IxR SlR MtR R2 tOp tUn tVar tC tCons tNil tTup tLst tTest tB tAnd tOr tNot tAndV tOrV tNotV tIf tCB Sp FnOk Gl Vis Loc Room)
section
variable {K : PySem.W.Frag} {W : St → XK}
def fOrT (fa fb : O.Env → Res RV) : O.Env → Res RV := fun ρ => (fa ρ).bind fun r ρ1 => match (rd r ρ1).bind truD with
  | some true => .ok r ρ1
  | some false => fb ρ1
  | none => .no
def fAndT (fa fb : O.Env → Res RV) : O.Env → Res RV := fun ρ => (fa ρ).bind fun r ρ1 => match (rd r ρ1).bind truD with
  | some true => fb ρ1
  | some false => .ok r ρ1
  | none => .no
theorem tru_of {C : Cn} {Hs : Hp} {fp : Fp} {Hd H : Hp} {σ : St} {ρ : O.Env} {r : RV} {v : V} {b : Bool} (I : Inv K C fp Hd H σ ρ) (h : (rV K).r C Hs fp Hd H σ r v) (e : (rd r ρ).bind truD = some b) : L2.TruV K v H b := by
  cases e1 : rd r ρ with
  | none => rw [e1] at e; cases e
  | some d =>
    rw [e1] at e
    exact truV_of I.le (I.rdTop (rV_loose h) e1) e
theorem sd_orT {ta tb : TE} {fa fb : O.Env → Res RV} (ha : Sd K W (rV K) ta fa) (hb : Sd K W (rV K) tb fb) : Sd K W (rV K) (L2.tOrT K ta tb) (fOrT fa fb) := by
  intro C fp Hd H σ ρ I Q p
  refine ha C fp Hd H σ ρ I _ ?_
  unfold fOrT at p
  cases e : fa ρ with
  | no => rw [e] at p; exact p
  | ex c ρ1 => rw [e] at p; exact p
  | ok r ρ1 =>
    rw [e] at p
    intro v fp1 Hd1 H1 s1 I1 hr
    have p : Post K W C (rV K) fp Hd H σ (match (rd r ρ1).bind truD with | some true => Res.ok r ρ1 | some false => fb ρ1 | none => .no) Q := p
    cases et : (rd r ρ1).bind truD with
    | none => rw [et] at p; exact p.elim
    | some b =>
      rw [et] at p
      refine ⟨b, tru_of I1 hr et, ?_⟩
      cases b with
      | true => exact p v fp1 Hd1 H1 s1 I1 hr
      | false => exact hb C fp1 Hd1 H1 σ ρ1 I1 Q (Post.stp s1 p)
theorem sd_andT {ta tb : TE} {fa fb : O.Env → Res RV} (ha : Sd K W (rV K) ta fa) (hb : Sd K W (rV K) tb fb) : Sd K W (rV K) (L2.tAndT K ta tb) (fAndT fa fb) := by
  intro C fp Hd H σ ρ I Q p
  refine ha C fp Hd H σ ρ I _ ?_
  unfold fAndT at p
  cases e : fa ρ with
  | no => rw [e] at p; exact p
  | ex c ρ1 => rw [e] at p; exact p
  | ok r ρ1 =>
    rw [e] at p
    intro v fp1 Hd1 H1 s1 I1 hr
    have p : Post K W C (rV K) fp Hd H σ (match (rd r ρ1).bind truD with | some true => fb ρ1 | some false => Res.ok r ρ1 | none => .no) Q := p
    cases et : (rd r ρ1).bind truD with
    | none => rw [et] at p; exact p.elim
    | some b =>
      rw [et] at p
      refine ⟨b, tru_of I1 hr et, ?_⟩
      cases b with
      | true => exact hb C fp1 Hd1 H1 σ ρ1 I1 Q (Post.stp s1 p)
      | false => exact p v fp1 Hd1 H1 s1 I1 hr
end
/-! ### how many different ints -/
def nubI : List Int → List Int
  | [] => []
  | n :: ns => if n ∈ nubI ns then nubI ns else n :: nubI ns
theorem nubI_mem {z : Int} : ∀ {ns : List Int}, z ∈ nubI ns ↔ z ∈ ns
  | [] => by simp [nubI]
  | n :: ns => by
    have ih := nubI_mem (z := z) (ns := ns)
    unfold nubI
    by_cases h : n ∈ nubI ns
    · rw [if_pos h, ih, List.mem_cons]
      constructor
      · exact .inr
      · rintro (q | q)
        · subst q; exact ih.mp h
        · exact q
    · rw [if_neg h, List.mem_cons, List.mem_cons, ih]
theorem nubI_nodup : ∀ ns : List Int, (nubI ns).Nodup
  | [] => by simp [nubI]
  | n :: ns => by
    unfold nubI
    by_cases h : n ∈ nubI ns
    · rw [if_pos h]; exact nubI_nodup ns
    · rw [if_neg h]; exact List.nodup_cons.mpr ⟨h, nubI_nodup ns⟩
section
variable {X : Cx} {a : Expr} {ta : TE} {pos p p2 q : Pos}
def tLsU (K : PySem.W.Frag) (ta : TE) : TE := fun σ H Q => ta σ H fun x H1 => ∃ (l : Addr) (ns : List Int), x = V.ref l ∧ L2.SqT K H1 l (ns.map V.int) ∧ ns.length < 4000 ∧ Q (.int ((nubI ns).length : Nat)) H1
theorem pe_lsU (hc : X.calm = true) (hm : X.mg "len" = none) (hm2 : X.mg "set" = none) (ha : PE X a ta) (hg : Gl X "len" := by rfl) (hg2 : Gl X "set" := by rfl)
    (na : starEach [a] X.env = (false, eval a X.env) :: starEach [] X.env := by rfl) : PE X (.Call (.Name "len" p) [.Call (.Name "set" p2) [a] [] q] [] pos) (tLsU X.K ta) := by
  refine ⟨fun pins s σ H Q I hw => ?_⟩
  refine PyProof.Rows.Call_ (L2.ld_blt I hg hm PySem.boot_len ?_)
  refine PyProof.Rows.callWith_builtin1 (PyProof.Rows.args_cons (?_) rfl) rfl rfl
  refine PyProof.Rows.Call_ (L2.ld_blt I hg2 hm2 PyProof.Rows.boot_set ?_)
  refine PyProof.Rows.callWith_type1 (PyProof.Rows.args_cons (L2.thn (ha.run pins s σ H _ I hw) fun v s1 ⟨x, H1, I1, r1, q1⟩ => (PyProof.Rows.args_nil ?_)) na) na rfl
  obtain ⟨l, ns, rfl, hq, hlen, q1⟩ := q1
  cases r1
  obtain ⟨its, r, pt, hz⟩ := I1.tuple hq
  have hi : PyProof.Rows.IntsAre its.toArray.toList ns := by simpa using L2.ints_of_vals r
  have hd := I1.ok.hd hc
  refine L2.call_set_tupI ns hd (show s1.heap.IsTuple l its.toArray from pt) hi (by unfold scanBound; omega) fun h' tk c R1 hcn k => (?_)
  obtain ⟨o, es, ep, t, ho, hex, hdt, g, nd, hm3, hb, hf, hn, _⟩ := R1
  refine PyProof.Rows.args_nil (?_)
  have I2 : L2.Inv X pins σ H1 { s1 with heap := h', toks := tk } := I1.kept fun b o e => k b o e
  have hp : (es.toList.map L2.keyOf).Perm (nubI ns) := by
    refine (List.perm_ext_iff_of_nodup nd (nubI_nodup ns)).mpr fun z => ?_
    have := hm3 z
    simp only [decide_eq_true_eq] at this
    rw [nubI_mem]
    exact this.symm
  have he : es.size = (nubI ns).length := by
    have := hp.length_eq
    rw [List.length_map, Array.length_toList] at this
    exact this
  exact PySem.call_len_set ho hex hdt hf (by omega) ⟨.int (nubI ns).length, H1, I2.tok _, ⟨_, by rw [he]⟩, q1⟩
end
section
variable {K : PySem.W.Frag} {W : St → XK}
def gLenSetU : D → Option RV
  | .tup ds => match intsD ds with
    | some ns => if ns.length < 4000 then some (.val (.int ((nubI ns).length : Nat))) else none
    | none => none
  | _ => none
theorem sd_lsU {ta : TE} {fa : O.Env → Res RV} (ha : Sd K W (rV K) ta fa) : Sd K W (rV K) (tLsU K ta) (f1 fa gLenSetU) := fun C fp Hd H σ ρ I Q p =>
  ha.run I p fun r1 v1 fp0 Hd0 H0 ρ0 s0 I0 h1 p => by
    have h1 := rV_loose h1
    cases e1 : rd r1 ρ0 with
    | none => simp only [e1] at p; exact p.elim
    | some d1 =>
      simp only [e1] at p
      have t := I0.rdTop h1 e1
      cases d1 with
      | tup ds =>
        simp only [gLenSetU] at p
        cases e2 : intsD ds with
        | none => simp only [e2] at p; exact p.elim
        | some ns =>
          simp only [e2] at p
          by_cases hh : ns.length < 4000
          · rw [if_pos hh] at p
            obtain ⟨b, xs, rfl, hq, r⟩ := t.tupD I0.le
            have ey := intsD_ok r e2
            subst ey
            exact ⟨b, ns, rfl, hq, hh, p.new I0 (newR_here I0.le (.int _))⟩
          · rw [if_neg hh] at p; exact p.elim
      | _ => exact p.elim
end
section
variable {X : Cx} {W : St → XK} {a b : Expr} {es : List Expr} {pos p p2 : Pos} {ta tb : TE} {fa fb : O.Env → Res RV} {t : TA} {f : O.Env → Res (List RV)}
theorem jorT {rest : List Expr} {K : PySem.W.Frag} (ha : JE X W a ta fa) (hb : JE X W (.BoolOp .Or (b :: rest) pos) tb fb) (hK : X.K = K := by rfl) : JE X W (.BoolOp .Or (a :: b :: rest) pos) (L2.tOrT K ta tb) (fOrT fa fb) := by
  subst hK
  exact ⟨L2.pe_orT ha.pe hb.pe, sd_orT ha.se hb.se⟩
theorem jandT {rest : List Expr} {K : PySem.W.Frag} (ha : JE X W a ta fa) (hb : JE X W (.BoolOp .And (b :: rest) pos) tb fb) (hK : X.K = K := by rfl) : JE X W (.BoolOp .And (a :: b :: rest) pos) (L2.tAndT K ta tb) (fAndT fa fb) := by
  subst hK
  exact ⟨L2.pe_andT ha.pe hb.pe, sd_andT ha.se hb.se⟩
theorem jlsU {q : Pos} {K : PySem.W.Frag} (hc : X.calm = true) (hm : X.mg "len" = none) (hm2 : X.mg "set" = none) (ha : JE X W a ta fa) (hg : Gl X "len" := by rfl) (hg2 : Gl X "set" := by rfl)
    (na : starEach [a] X.env = (false, eval a X.env) :: starEach [] X.env := by rfl) (hK : X.K = K := by rfl) : JE X W (.Call (.Name "len" p) [.Call (.Name "set" p2) [a] [] q] [] pos) (tLsU K ta) (f1 fa gLenSetU) := by
  subst hK
  exact ⟨pe_lsU hc hm hm2 ha.pe hg hg2 na, sd_lsU ha.se⟩
/-- pop(i), insert(i, y) on a name -/
theorem jpopAt {n : Nat} {apos : Pos} {x : Str} {K : PySem.W.Frag} (ho : JE X W (.Name x p) (tVar n) (fVar n)) (ha : JA X W [a] t f) (hbase : attributeBase (.Name x p) "pop" X.env (eval (.Name x p) X.env) = eval (.Name x p) X.env := by rfl)
    (hfew : ((backTo pos (starEach [a] X.env)).all (fun z => !z.1) && (backToKw pos (keywordEach [] X.env)).all (fun z => z.1.isSome) && decide ([a].length + ([] : List Keyword).length + (if ([] : List Keyword).isEmpty then 0 else 1) < 30)) = true := by rfl)
    (hline : (apos.endLine == pos.line) = true := by rfl) (hs : starEach [a] X.env = (false, eval a X.env) :: starEach [] X.env := by rfl) (hplain : (backTo pos (starEach [] X.env)).any (·.1) = false := by rfl) (hK : X.K = K := by rfl) :
    JE X W (.Call (.Attribute (.Name x p) "pop" apos) [a] [] pos) (L2.tBM K "list" (rGMut K gPopAt) (tVar n) t) (fMutL n f gPopAt) := by
  subst hK
  exact ⟨L2.pe_bm PySem.F.plainAttrs_list PySem.F.slot_list_pop PySem.F.type_list_pop mt_gPopAt ho.pe ha.pa hbase hfew hline hs hplain, sd_mut ha.sa⟩
theorem jinsert {n : Nat} {apos : Pos} {x : Str} {K : PySem.W.Frag} (ho : JE X W (.Name x p) (tVar n) (fVar n)) (ha : JA X W [a, b] t f) (hbase : attributeBase (.Name x p) "insert" X.env (eval (.Name x p) X.env) = eval (.Name x p) X.env := by rfl)
    (hfew : ((backTo pos (starEach [a, b] X.env)).all (fun z => !z.1) && (backToKw pos (keywordEach [] X.env)).all (fun z => z.1.isSome) && decide ([a, b].length + ([] : List Keyword).length + (if ([] : List Keyword).isEmpty then 0 else 1) < 30)) = true := by rfl)
    (hline : (apos.endLine == pos.line) = true := by rfl) (hs : starEach [a, b] X.env = (false, eval a X.env) :: starEach [b] X.env := by rfl) (hplain : (backTo pos (starEach [b] X.env)).any (·.1) = false := by rfl) (hK : X.K = K := by rfl) :
    JE X W (.Call (.Attribute (.Name x p) "insert" apos) [a, b] [] pos) (L2.tBM K "list" (rGMut K gInsert) (tVar n) t) (fMutL n f gInsert) := by
  subst hK
  exact ⟨L2.pe_bm PySem.F.plainAttrs_list PySem.F.slot_list_insert PySem.F.type_list_insert mt_gInsert ho.pe ha.pa hbase hfew hline hs hplain, sd_mut ha.sa⟩
end
end O

/-! Own20: repr of dicts (and of tuples with dicts in them; no list beside a dict) -/
namespace O
open PySem
open L2 (V Hp HO Rd SqL SqT VK XK St TE TA Cx Sp FnOk Room Vals RelV OpR CallR)
def kD : L2.Key → PyData
  | .inl i => .int i
  | .inr x => .str x
mutual
def toPyR : D → Option PyData
  | .non => some .none
  | .bl b => some (.bool b)
  | .int i => some (.int i)
  | .str x => some (.str x)
  | .tup ds => (toPyRs ds).map .tuple
  | .lst ds => (toPyRs ds).map .list
  | .dic kvs => (toPyRk kvs).map .dict
  | .dlk kvs => (toPyRk kvs).map .dict
  | .scr _ => none
  | .set _ => none
def toPyRs : List D → Option (List PyData)
  | [] => some []
  | d :: ds => match toPyR d, toPyRs ds with
    | some p, some ps => some (p :: ps)
    | _, _ => none
def toPyRk : List (L2.Key × D) → Option (List (PyData × PyData))
  | [] => some []
  | (k, d) :: ds => match toPyR d, toPyRk ds with
    | some p, some ps => some ((kD k, p) :: ps)
    | _, _ => none
end
mutual
def noL : PyData → Bool
  | .list _ => false
  | .tuple xs => noLs xs
  | .dict kvs => noLk kvs
  | .none => true
  | .bool _ => true
  | .int _ => true
  | .str _ => true
def noLs : List PyData → Bool
  | [] => true
  | x :: xs => noL x && noLs xs
def noLk : List (PyData × PyData) → Bool
  | [] => true
  | (_, x) :: xs => noL x && noLk xs
end
section
variable {X : Cx} {pins : List (Addr × Obj)} {σ : St} {H : Hp} {s : Shared}
theorem key_reads {h : Heap} {k : L2.Key} {u : Value} (z : L2.keyIs k u = true) : Reads h u (kD k) [] := by
  rcases L2.keyIs_shape z with ⟨i, t, rfl, rfl⟩ | ⟨x, t, rfl, rfl⟩
  · exact .int i t
  · exact .str x t
theorem keys_reads (h : Heap) {P : Program} {w : World} {es : List DictEntry} {kvs : List (L2.Key × Value)} (r : Pairs (L2.mixKind P w) es kvs) : ReadsAll h (es.map (·.key)) (kvs.map fun kv => kD kv.1) [] := by
  induction r with
  | nil => exact .nil
  | cons k _ _ ih =>
    have a := key_reads (h := h) k
    have c := ReadsAll.cons a ih
    exact c
theorem vals_of_pairs {P : Program} {w : World} : ∀ {es : List DictEntry} {kvs : List (L2.Key × Value)}, Pairs (L2.mixKind P w) es kvs → es.map (·.val) = kvs.map (·.2)
  | _, _, .nil => rfl
  | _, _, .cons _ h r => by rw [List.map_cons, List.map_cons, h, vals_of_pairs r]
mutual
theorem Rep.reads (I : L2.Inv X pins σ H s) : ∀ {d : D} {v : V} {u : Value} {p : PyData}, Rep X.K H d v → RelV v u → toPyR d = some p → ∃ as, Reads s.heap u p as ∧ (noL p = true → sysModules ∉ as)
  | _, _, _, _, .non, r, e => by simp only [toPyR, Option.some.injEq] at e; subst e; cases r; exact ⟨[], .none, fun _ => by simp⟩
  | _, _, _, _, .bl b, r, e => by simp only [toPyR, Option.some.injEq] at e; subst e; cases r; exact ⟨[], .bool b, fun _ => by simp⟩
  | _, _, _, _, .int i, r, e => by simp only [toPyR, Option.some.injEq] at e; subst e; obtain ⟨t, rfl⟩ := r; exact ⟨[], .int i t, fun _ => by simp⟩
  | _, _, _, _, .str x, r, e => by simp only [toPyR, Option.some.injEq] at e; subst e; obtain ⟨t, rfl⟩ := r; exact ⟨[], .str x t, fun _ => by simp⟩
  | _, _, _, _, .scr _, _, e => by simp [toPyR] at e
  | _, _, _, _, .set _ _, _, e => by simp [toPyR] at e
  | _, _, _, _, .tup (ds := ds) h q, r, e => by
    simp only [toPyR] at e
    cases e1 : toPyRs ds with
    | none => rw [e1] at e; cases e
    | some ps =>
      rw [e1] at e
      cases e
      cases r
      obtain ⟨its, rv, ⟨o, ho, hc, n, hd⟩, _⟩ := I.tuple h
      obtain ⟨as, ra, no⟩ := Reps.reads I q rv e1
      exact ⟨as, .tuple ho hc hd ra, fun z => no (by simpa [noL] using z)⟩
  | _, _, _, _, .lst (ds := ds) h q, r, e => by
    simp only [toPyR] at e
    cases e1 : toPyRs ds with
    | none => rw [e1] at e; cases e
    | some ps =>
      rw [e1] at e
      cases e
      cases r
      obtain ⟨its, rv, ⟨o, n, ho, hc, _, hd⟩, _⟩ := I.list (.inl h)
      obtain ⟨as, ra, no⟩ := Reps.reads I q rv e1
      exact ⟨_, .list ho hc hd ra, fun z => by simp [noL] at z⟩
  | _, _, _, _, .dic (kvs := kvs) h q, r, e => by
    simp only [toPyR] at e
    cases e1 : toPyRk kvs with
    | none => rw [e1] at e; cases e
    | some ps =>
      rw [e1] at e
      cases e
      cases r
      obtain ⟨hz, hsys, ws, kvw, o, es, ep, ho, hex, hd, _, prs, _⟩ := h.ok I.hok
      obtain ⟨bs, e2, e3, no⟩ := Repk.reads I q kvw e1
      have k1 : ReadsAll s.heap (es.toList.map (·.key)) (ps.map (·.1)) [] := by rw [e2]; exact keys_reads _ prs
      have k2 : ReadsAll s.heap (es.toList.map (·.val)) (ps.map (·.2)) bs := by rw [vals_of_pairs prs]; exact e3
      refine ⟨_, .dict ho hex.1 hd k1 k2, fun z => ?_⟩
      have z : noLk ps = true := by simpa [noL] using z
      have := no z
      intro hm
      simp only [List.append_nil, List.mem_append, List.mem_singleton, List.cons_append, List.nil_append, List.mem_cons] at hm
      rcases hm with q | q
      · rw [← q] at hsys; simp at hsys
      · exact this q
  | _, _, _, _, .dlk (kvs := kvs) h q, r, e => by
    simp only [toPyR] at e
    cases e1 : toPyRk kvs with
    | none => rw [e1] at e; cases e
    | some ps =>
      rw [e1] at e
      cases e
      cases r
      obtain ⟨hz, hsys, ws, kvw, o, es, ep, ho, hex, hd, _, prs, _⟩ := (show Rd H _ _ from .inr ⟨_, h⟩).ok I.hok
      obtain ⟨bs, e2, e3, no⟩ := Repk.reads I q kvw e1
      have k1 : ReadsAll s.heap (es.toList.map (·.key)) (ps.map (·.1)) [] := by rw [e2]; exact keys_reads _ prs
      have k2 : ReadsAll s.heap (es.toList.map (·.val)) (ps.map (·.2)) bs := by rw [vals_of_pairs prs]; exact e3
      refine ⟨_, .dict ho hex.1 hd k1 k2, fun z => ?_⟩
      have z : noLk ps = true := by simpa [noL] using z
      have := no z
      intro hm
      simp only [List.append_nil, List.mem_append, List.mem_singleton, List.cons_append, List.nil_append, List.mem_cons] at hm
      rcases hm with q | q
      · rw [← q] at hsys; simp at hsys
      · exact this q
theorem Reps.reads (I : L2.Inv X pins σ H s) : ∀ {ds : List D} {vs : List V} {us : List Value} {ps : List PyData}, Reps X.K H ds vs → Vals vs us → toPyRs ds = some ps → ∃ as, ReadsAll s.heap us ps as ∧ (noLs ps = true → sysModules ∉ as)
  | _, _, _, _, .nil, r, e => by simp only [toPyRs, Option.some.injEq] at e; subst e; cases r; exact ⟨[], .nil, fun _ => by simp⟩
  | _, _, _, _, .cons (d := d) (ds := ds) h q, r, e => by
    simp only [toPyRs] at e
    cases e1 : toPyR d with
    | none => rw [e1] at e; cases e
    | some p =>
      cases e2 : toPyRs ds with
      | none => rw [e1, e2] at e; cases e
      | some ps =>
        rw [e1, e2] at e
        cases e
        cases r with
        | cons r1 r2 =>
          obtain ⟨as, a1, a2⟩ := Rep.reads I h r1 e1
          obtain ⟨bs, b1, b2⟩ := Reps.reads I q r2 e2
          refine ⟨_, .cons a1 b1, fun z => ?_⟩
          simp only [noLs, Bool.and_eq_true] at z
          simp only [List.mem_append, not_or]
          exact ⟨a2 z.1, b2 z.2⟩
theorem Repk.reads (I : L2.Inv X pins σ H s) : ∀ {kvs : List (L2.Key × D)} {kws : List (L2.Key × V)} {ws : List (L2.Key × Value)} {ps : List (PyData × PyData)}, Repk X.K H kvs kws → L2.KV kws ws → toPyRk kvs = some ps →
    ∃ as, ps.map (·.1) = ws.map (fun kv => kD kv.1) ∧ ReadsAll s.heap (ws.map (·.2)) (ps.map (·.2)) as ∧ (noLk ps = true → sysModules ∉ as)
  | _, _, _, _, .nil, r, e => by simp only [toPyRk, Option.some.injEq] at e; subst e; cases r; exact ⟨[], rfl, .nil, fun _ => by simp⟩
  | _, _, _, _, .cons (k := k) (d := d) (kvs := kvs) h q, r, e => by
    simp only [toPyRk] at e
    cases e1 : toPyR d with
    | none => rw [e1] at e; cases e
    | some p =>
      cases e2 : toPyRk kvs with
      | none => rw [e1, e2] at e; cases e
      | some ps =>
        rw [e1, e2] at e
        cases e
        cases r with
        | cons r1 r2 =>
          obtain ⟨ek, rv⟩ := r1
          obtain ⟨as, a1, a2⟩ := Rep.reads I h rv e1
          obtain ⟨bs, b0, b1, b2⟩ := Repk.reads I q r2 e2
          refine ⟨_, ?_, .cons a1 b1, fun z => ?_⟩
          · rw [List.map_cons, List.map_cons, b0, ← ek]
          · simp only [noLk, Bool.and_eq_true] at z
            simp only [List.mem_append, not_or]
            exact ⟨a2 z.1, b2 z.2⟩
end
/-- what may be shown: short enough, no list beside a dict -/
def canShowR (p : PyData) : Bool := p.showable && (noL p || !p.hasDict) && decide (p.depth ≤ 60) && decide (p.shown.length ≤ sizeLine)
def gReprR : List D → Option RV
  | [d] => match d with
    | .lst _ => (toPyR d).bind fun p => if canShowR p = true then some (.val (.str p.shown)) else none
    | .tup _ => (toPyR d).bind fun p => if canShowR p = true then some (.val (.str p.shown)) else none
    | .dic _ => (toPyR d).bind fun p => if canShowR p = true then some (.val (.str p.shown)) else none
    | .dlk _ => (toPyR d).bind fun p => if canShowR p = true then some (.val (.str p.shown)) else none
    | _ => none
  | _ => none
theorem cb_reprR (hu : X.A.units + 64 < cLine) (hg : X.A.guards = some []) : CallR X (.builtin "repr") (rGC X.K gReprR) := by
  intro pins s σ H xs us Q I rx ⟨Hd, ds, z, l, t, eg, q⟩
  have go : ∀ (d : D), ds = [d] → (∀ {v : V}, Top X.K Hd H d v → ∃ a, v = .ref a) → ((toPyR d).bind fun p => if canShowR p = true then some (.val (.str p.shown)) else none) = some z → wpAny (model X.prog X.w) X.A (call (.builtin "repr") us) (L2.EP X pins σ Q) X.xe s := fun d e0 href eh => by
    subst e0
    obtain ⟨x, e1, w⟩ := tops1 t
    subst e1
    obtain ⟨a, rfl⟩ := href w
    obtain ⟨u, rfl, ru⟩ : ∃ u, us = [u] ∧ RelV (.ref a) u := by
      cases rx with | cons r rr => cases rr; exact ⟨_, rfl, r⟩
    have hu' : u = Value.ref a := ru
    subst hu'
    cases e3 : toPyR d with
    | none => rw [e3] at eh; cases eh
    | some p =>
      rw [e3] at eh
      by_cases hc : canShowR p = true
      · simp only [Option.bind_some, if_pos hc] at eh
        cases eh
        obtain ⟨as, rd, no⟩ := Rep.reads I (w.all l) (u := .ref a) rfl e3
        unfold canShowR at hc
        simp only [Bool.and_eq_true, Bool.or_eq_true, decide_eq_true_eq, Bool.not_eq_true'] at hc
        obtain ⟨⟨⟨k1, k2⟩, k3⟩, k4⟩ := hc
        exact repr_of_reads' rd k1 (fun h => by rcases k2 with k2 | k2; exact no k2; rw [k2] at h; cases h) hg (by omega) (fun _ _ h => h) (fun h' u tk keep => ⟨.str p.shown, H, I.kept keep, ⟨_, rfl⟩, q _ _ (newR_here l (.str _))⟩) k4
      · simp only [Option.bind_some, if_neg hc] at eh; cases eh
  rcases ds with _ | ⟨d, _ | ⟨_, _⟩⟩
  · cases eg
  · cases d with
    | lst es => exact go _ rfl (fun w => by obtain ⟨a, _, e, _⟩ := w.lstD l; exact ⟨a, e⟩) eg
    | tup es => exact go _ rfl (fun w => by obtain ⟨a, _, e, _⟩ := w.tupD l; exact ⟨a, e⟩) eg
    | dic es => exact go _ rfl (fun w => by obtain ⟨a, _, e, _⟩ := w.dicD l; exact ⟨a, e⟩) eg
    | dlk es => exact go _ rfl (fun w => by obtain ⟨a, _, _, e, _⟩ := w.dlkD l; exact ⟨a, e⟩) eg
    | _ => cases eg
  · cases eg
end
end O

/-! Own21: list(range(..)), dict(list of pairs) -/
namespace O
open PySem
open L2 (V Hp HO Rd SqL SqT upd upd_same upd_ne ne_of ne_of_none TE TT TA TS TG TGs TI TO It VK XK Ends St PE PT PW PA PS PSs PG PGs PI PO PTs Cx OpR UnR CallR IxR SlR MtR R2 tOp tUn tVar tC tCons tNil tTup tLst tTest tB tAnd tOr tNot tAndV tOrV tNotV tIf tCB Sp FnOk Gl Vis Loc Room)
section
variable {K : PySem.W.Frag} {W : St → XK}
theorem rg_reps {H : Hp} (a b : Int) : Reps K H (rngD a (b - a).toNat) (L2.rgV a b) := by
  have go : ∀ l : List Nat, Reps K H (l.map fun i => D.int (a + (i : Nat))) (l.map fun i => V.int (a + (i : Nat))) := fun l => by
    induction l with
    | nil => exact .nil
    | cons n l ih => exact .cons (.int _) ih
  exact go _
def rRg2 : R2 := fun x y H Q => ∃ i j, x = .int i ∧ y = .int j ∧ L2.RgOk i j ∧ ∀ q, H q = none → Q (.ref q) (upd H q (.lst (L2.rgV i j)))
def gRg2 : D → D → Option RV
  | .int i, .int j => if -(2 ^ 62) ≤ i ∧ i < 2 ^ 62 ∧ -(2 ^ 62) ≤ j ∧ j < 2 ^ 62 ∧ (j - i).toNat ≤ 2 ^ 24 then some (.own (.lst (rngD i (j - i).toNat))) else none
  | _, _ => none
theorem rRg2_of : ∀ x y H Q, rG K gRg2 x y H Q → rRg2 x y H Q := fun x y H Q ⟨Hd, d1, d2, z, l, t1, t2, eg, q⟩ => by
  cases d1 with
  | int i => cases d2 with
    | int j =>
      simp only [gRg2] at eg
      by_cases h : -(2 ^ 62) ≤ i ∧ i < 2 ^ 62 ∧ -(2 ^ 62) ≤ j ∧ j < 2 ^ 62 ∧ (j - i).toNat ≤ 2 ^ 24
      · rw [if_pos h] at eg
        cases eg
        exact ⟨i, j, t1.intD, t2.intD, h, fun p hp => q _ _ (newR_lst l hp (rg_reps i j))⟩
      · rw [if_neg h] at eg; cases eg
    | _ => cases eg
  | _ => cases eg
theorem sd_listRg2 {ta tb : TE} {fa fb : O.Env → Res RV} (ha : Sd K W (rV K) ta fa) (hb : Sd K W (rV K) tb fb) : Sd K W (rV K) (L2.tLstRg (L2.tRg2 ta tb)) (f2 fa fb gRg2) := fun C fp Hd H σ ρ I Q p => by
  have h : tOp rRg2 ta tb σ H Q := sd_op2' rRg2_of ha hb C fp Hd H σ ρ I Q p
  have e : (L2.tLstRg (L2.tRg2 ta tb) σ H Q) = (ta σ H fun x H1 => tb σ H1 fun y H2 => ∃ i j, x = .int i ∧ y = .int j ∧ (L2.RgOk i j ∧ ∀ q, H2 q = none → Q (.ref q) (upd H2 q (.lst (L2.rgV i j))))) := rfl
  rw [e]
  exact h
/-! dict(pairs) -/
def pairsD : List D → Option (List (L2.Key × D))
  | [] => some []
  | .tup [k, v] :: ds => match keyD k, pairsD ds with
    | some q, some r => some ((q, v) :: r)
    | _, _ => none
  | _ :: _ => none
theorem pairs_ok {H0 : Hp} : ∀ {ds : List D} {vs : List V} {kvs : List (L2.Key × D)}, Reps K H0 ds vs → pairsD ds = some kvs → ∃ (ps : List Addr) (kws : List (L2.Key × V)), vs = ps.map V.ref ∧ Paired (fun p kv => SqT K H0 p [L2.kV kv.1, kv.2]) ps kws ∧ Repk K H0 kvs kws
  | _, _, _, .nil, e => by cases e; exact ⟨[], [], rfl, .nil, .nil⟩
  | _, _, _, .cons (d := d) (ds := ds) h r, e => by
    cases d with
    | tup xs =>
      match xs, h, e with
      | [k, v], h, e =>
        simp only [pairsD] at e
        cases ek : keyD k with
        | none => rw [ek] at e; cases e
        | some q =>
          cases er : pairsD ds with
          | none => rw [ek, er] at e; cases e
          | some rest =>
            rw [ek, er] at e
            cases e
            obtain ⟨ps, kws, e1, e2, e3⟩ := pairs_ok r er
            cases h with
            | tup hq hr =>
              rename_i a vs
              cases hr with
              | cons h1 hr =>
                cases hr with
                | cons h2 hr =>
                  cases hr
                  rename_i w1 w2
                  have ew : w1 = L2.kV q := key_v (.rep (H := H0) h1) ek
                  subst ew
                  exact ⟨a :: ps, (q, w2) :: kws, by rw [e1]; rfl, .cons hq e2, .cons h2 e3⟩
      | [], _, e => cases e
      | [_], _, e => cases e
      | _ :: _ :: _ :: _, _, e => cases e
    | _ => cases e
def gDictP : List D → Option RV
  | [.lst ds] => (pairsD ds).map fun kvs => .own (.dic (mergeD [] kvs))
  | _ => none
end
section
variable {X : Cx}
theorem paired_mono {α β : Type} {F G : α → β → Prop} (h : ∀ a b, F a b → G a b) : ∀ {l : List α} {m : List β}, Paired F l m → Paired G l m
  | _, _, .nil => .nil
  | _, _, .cons a r => .cons (h _ _ a) (paired_mono h r)
theorem cb_dictP (hc : X.calm = true) : CallR X (.type "dict") (rGC X.K gDictP) := cb_imp (L2.call_dictP hc) fun xs H Q ⟨Hd, ds, z, l, t, eg, q⟩ => by
  match ds, t, eg with
  | [.lst es], t, eg =>
    simp only [gDictP] at eg
    cases e1 : pairsD es with
    | none => rw [e1] at eg; cases eg
    | some kvs =>
      rw [e1] at eg
      cases eg
      obtain ⟨x, rfl, w⟩ := tops1 t
      obtain ⟨a, ys, rfl, h1, r1⟩ := w.lstD l
      obtain ⟨ps, kws, rfl, k2, k3⟩ := pairs_ok r1 e1
      exact ⟨a, ps, kws, rfl, .inl h1, paired_mono (fun _ _ s => l.sqT s) k2, fun p hp => q _ _ (newR_dic l hp (Repk.merge .nil k3))⟩
variable {W : St → XK} {a b : Expr} {pos p p2 q : Pos} {ta tb : TE} {fa fb : O.Env → Res RV}
theorem jlistRg (hc : X.calm = true) (hm : X.mg "list" = none) (hm2 : X.mg "range" = none) (ha : JE X W a ta fa) (hb : JE X W b tb fb) (hg : Gl X "list" := by rfl) (hg2 : Gl X "range" := by rfl) (n1 : starEach [a, b] X.env = (false, eval a X.env) :: starEach [b] X.env := by rfl)
    (n2 : starEach [b] X.env = (false, eval b X.env) :: starEach [] X.env := by rfl) (n3 : (backTo q (starEach [b] X.env)).any (·.1) = false := by rfl) (n4 : starEach [.Call (.Name "range" p2) [a, b] [] q] X.env = (false, eval (.Call (.Name "range" p2) [a, b] [] q) X.env) :: starEach [] X.env := by rfl) :
    JE X W (.Call (.Name "list" p) [.Call (.Name "range" p2) [a, b] [] q] [] pos) (L2.tLstRg (L2.tRg2 ta tb)) (f2 fa fb gRg2) := ⟨L2.pe_listRg hc hg hm (L2.prg_2 hg2 hm2 ha.pe hb.pe n1 n2 n3) n4, sd_listRg2 ha.se hb.se⟩
end
end O

/-! Own22: a dict that is locked when it is stored (it is never changed again), walks over its keys -/
namespace O
open PySem
open L2 (V Hp HO Rd SqL SqT upd upd_same upd_ne ne_of ne_of_none TE TT TA TS TG TGs TI TO It VK XK Ends St PE PT PW PA PS PSs PG PGs PI PO PTs Cx OpR UnR CallR IxR SlR MtR R2 tOp tUn tVar tC tCons tNil tTup tLst tTest tB tAnd tOr tNot tAndV tOrV tNotV tIf tCB Sp FnOk Gl Vis Loc Room)
section
variable {X : Cx}
/-- behind the statement a thing is locked -/
def tThenLock (t : TS) : TS := fun D σ H => t { D with nx := fun σ' H' => ∃ d u, H' d = some u ∧ L2.Mut (some u) ∧ ∀ od, D.nx σ' (upd H' d (.frz od u)) } σ H
theorem ps_thenLock {st : Stmt} {t : TS} (h : PS X st t) : PS X st (tThenLock t) := by
  refine ⟨fun pins s σ H D I hw => ?_⟩
  refine wpAny_mono (h.run pins s σ H _ I hw) (fun fl s' done => ?_) fun e s' out => out
  cases fl with
  | next =>
    obtain ⟨σ', H', J, d, u, hd, mu, q⟩ := done
    obtain ⟨od, J'⟩ := J.lock hd mu
    exact ⟨σ', _, J', q od⟩
  | ret u => exact done
  | brk => exact done
  | cont => exact done
end
section
variable {K : PySem.W.Frag} {W : St → XK}
/-- name = a new dict, locked -/
def gSetL (i : Nat) (fa : O.Env → Res RV) : O.Env → SR := fun ρ => (fa ρ).thn fun r ρ1 => match r with
  | .own (.dic kvs) => if free i ρ1 = true then .nx (ρ1.set i (.sh (.dlk kvs))) else .no
  | _ => .no
theorem ss_setL {i : Nat} {ta : TE} {fa : O.Env → Res RV} (h : Sd K W (rV K) ta fa) : Ss K W (tThenLock (L2.tAsg ta (L2.gName i))) (gSetL i fa) := fun C fp Hd H σ ρ I D p => by
  refine h C fp Hd H σ ρ I _ ?_
  unfold gSetL at p
  cases e : fa ρ with
  | no => rw [e] at p; exact p
  | ex c ρ1 => rw [e] at p; exact fun d fp1 Hd1 H1 s1 I1 hx => p d σ fp1 Hd1 H1 s1 I1 hx
  | ok r ρ1 =>
    rw [e] at p
    intro v fp1 Hd1 H1 s1 I1 hr
    cases r with
    | val d => exact p.elim
    | bor j => exact p.elim
    | own o =>
      cases o with
      | fz d => exact p.elim
      | lst d => exact p.elim
      | ins c d => exact p.elim
      | dic kvs =>
        have p : PostS K W C fp Hd H (if free i ρ1 = true then .nx (ρ1.set i (.sh (.dlk kvs))) else .no) D := p
        by_cases hf : free i ρ1 = true
        · rw [if_pos hf] at p
          obtain ⟨A, ow, nd, f⟩ := hr
          cases ow with
          | dic hH rk =>
            rename_i a kws
            obtain ⟨hn, hC, hfp, hs⟩ := f a (by simp)
            refine ⟨a, _, hH, trivial, fun od => ?_⟩
            have hi : i < ρ1.length := by
              unfold free at hf
              cases es : ρ1[i]? with
              | none => rw [es] at hf; cases hf
              | some _ => exact (List.getElem?_eq_some_iff.mp es).1
            have hσ : (σ.set i (some (V.ref a)))[i]? = some (some (V.ref a)) := List.getElem?_set_self (by rw [I1.len]; exact hi)
            -- the dict is laid down as locked
            have l1 : Le Hd1 (upd Hd1 a (.frz od (.dK kws))) := .upd_new hn
            have l2 : Le (upd Hd1 a (.frz od (.dK kws))) (upd H1 a (.frz od (.dK kws))) := ⟨fun b w r => by
              by_cases z : b = a
              · subst z
                rcases r with r | ⟨x, r⟩ <;> rw [upd_same] at r <;> cases r
                · exact .inl upd_same
                · exact .inr ⟨_, upd_same⟩
              · have r' : Rd Hd1 b w := by
                  rcases r with r | ⟨x, r⟩ <;> rw [upd_ne z] at r
                  · exact .inl r
                  · exact .inr ⟨x, r⟩
                rcases I1.le b w r' with q | ⟨x, q⟩
                · exact .inl (by rw [upd_ne z]; exact q)
                · exact .inr ⟨x, by rw [upd_ne z]; exact q⟩, fun b x w r => by
              by_cases z : b = a
              · subst z; rw [upd_same] at r ⊢; exact r
              · rw [upd_ne z] at r ⊢; exact I1.le.fr b x w r⟩
            have I2 : Inv K C fp1 (upd Hd1 a (.frz od (.dK kws))) (upd H1 a (.frz od (.dK kws))) σ ρ1 := by
              refine ⟨l2, I1.hd0.trans l1, fun b o hb n => ?_, fun b hb => ?_, fun b hb => ?_, I1.len, fun j s es => (I1.slot j s es).ext l1 (fun b hb n => ?_) fun b hb w hw => ?_, I1.out, I1.dis⟩
              · rw [upd_ne (fun z => by rw [z, hC] at hb; cases hb)]; exact I1.keep b o hb n
              · by_cases z : b = a
                · rw [z, upd_same]; intro w; cases w
                · rw [upd_ne z]; exact I1.dom b hb
              · by_cases z : b = a
                · subst z; exact .inr hC
                · rw [upd_ne z] at hb; exact I1.fresh b hb
              · rw [upd_ne (fun z => hfp j (by rw [← z]; exact hb))]; exact n
              · rw [upd_ne (fun z => hfp j (by rw [← z]; exact hb))]; exact hw
            have I3 := I2.set_slot (i := i) (s' := .sh (.dlk kvs)) (A' := []) (σ' := σ.set i (some (V.ref a))) hi ⟨rfl, V.ref a, hσ, .dlk upd_same (rk.mono l1)⟩ (fun _ h => by cases h) (by simp) fun j hj => List.getElem?_set_ne (Ne.symm hj)
            refine p _ _ _ _ ⟨s1.hd.trans l1, fun b hb => ?_, fun b o hb n => ?_, fun b hb => ?_, fun j b hb => ?_⟩ I3
            · by_cases z : b = a
              · subst z; exact .inr (.inl hs)
              · rw [upd_ne z] at hb; exact s1.fr b hb
            · rw [upd_ne (fun z => by rw [z, hs] at hb; cases hb)]; exact s1.keep b o hb n
            · by_cases z : b = a
              · rw [z, upd_same]; intro w; cases w
              · rw [upd_ne z]; exact s1.dom b hb
            · by_cases z : j = i
              · subst z; rw [setF_same] at hb; cases hb
              · rw [setF_ne z] at hb; exact s1.fpx j b hb
        · rw [if_neg hf] at p; exact p.elim
/-! the keys -/
def kDD : L2.Key → D
  | .inl i => .int i
  | .inr x => .str x
theorem kDD_rep {H : Hp} (k : L2.Key) : Rep K H (kDD k) (L2.kV k) := by
  cases k with
  | inl i => exact .int i
  | inr x => exact .str x
def gItK : D → Option (List D)
  | .dlk kvs => some (kvs.map fun kv => kDD kv.1)
  | _ => none
theorem Repk.key {H : Hp} : ∀ {kvs : List (L2.Key × D)} {kws : List (L2.Key × V)}, Repk K H kvs kws → kvs.map (·.1) = kws.map (·.1)
  | _, _, .nil => rfl
  | _, _, .cons _ r => by rw [List.map_cons, List.map_cons, Repk.key r]
theorem si_keys {te : TE} {fe : O.Env → Res RV} (he : Sd K W (rV K) te fe) : Si K W (L2.iKeys te) (fWalk fe gItK) :=
  si_of (k := fun x H1 R => ∃ d o, x = V.ref d ∧ ((∃ kvs, H1 d = some (.frz o (.dK kvs)) ∧ R (L2.Itk d o kvs) H1) ∨ ∃ kvs, H1 d = some (.frz o (.dT kvs)) ∧ R (L2.Itkt d o kvs) H1)) he rfl fun C Hs fp Hd H σ ρ d ds v I hr eg R p => by
    cases d with
    | dlk kvs =>
      cases eg
      have h := rWk_rep rfl hr
      have h0 := h _ _ _ _ _ I (.refl _)
      cases h0 with
      | dlk hH rk =>
        rename_i a o kws
        have hk := rk.key
        refine ⟨a, o, rfl, .inl ⟨kws, I.le.fr _ _ _ hH, p _ ?_⟩⟩
        unfold WalkD
        have hl : (kvs.map fun kv => kDD kv.1).length = kws.length := by rw [List.length_map, rk.length]
        rw [hl]
        refine L2.walk_keys.mono (fun H' ⟨fp', Hd', σ', ρ', I', l'⟩ => I'.le.fr _ _ _ (l'.fr _ _ _ hH)) fun i H' x H'' hi ⟨fp', Hd', σ', ρ', I', l'⟩ ⟨e1, k, w, e2, e3⟩ => ?_
        subst e1 e3
        have e4 : (kvs.map (·.1))[i]? = some k := by rw [hk, List.getElem?_map, e2]; rfl
        refine ⟨kDD k, ?_, fun fp3 Hd3 σ3 ρ3 I3 l3 => newR_here I3.le (kDD_rep k)⟩
        have e5 : (kvs.map fun kv => kDD kv.1) = (kvs.map (·.1)).map kDD := by rw [List.map_map]; rfl
        rw [e5, List.getElem?_map, e4]
        rfl
    | _ => cases eg
end
section
variable {X : Cx} {W : St → XK} {e tg : Expr} {pos : Pos} {te : TE} {fe : O.Env → Res RV}
theorem jsetL (n : Nat) {x : Str} {pos' : Pos} (hN : X.N.Nodup) (he : JE X W e te fe) (hi : X.N[n]? = some x := by rfl) (hx : Loc X.env.scope x := by first | exact Or.inl (by rfl) | exact Or.inr (by rfl)) (hs : swapsWith e (some (.Name x pos')) pos.line X.env = pure false := by rfl) (hf : X.fn x = true ∨ X.env.scope.names.lookup x = some .local := by first | exact Or.inl (by rfl) | exact Or.inr (by rfl)) :
    JS X W (.Assign [.Name x pos'] e pos) (tThenLock (L2.tAsg te (L2.gName n))) (gSetL n fe) := ⟨ps_thenLock (L2.ps_set hN hi hx he.pe hs hf), ss_setL he.se⟩
theorem jik (h : JE X W e te fe) : JI X W tg e (L2.iKeys te) (fWalk fe gItK) := ⟨L2.pi_keys h.pe, si_keys h.se⟩
end
end O

/-! Own23: tuples of ints, one or more in each, sorted -/
namespace O
open PySem
open PyProof.Rows (IntsAre)
/-- the lexical order of rows of ints -/
theorem lex_asym : ∀ {a b : List Int}, HT.lexLt a b = true → HT.lexLt b a = false
  | [], [], h => by simp [HT.lexLt] at h
  | [], _ :: _, _ => rfl
  | _ :: _, [], h => by simp [HT.lexLt] at h
  | x :: xs, y :: ys, h => by
    rw [HT.lexLt_cons] at h ⊢
    by_cases e : x = y
    · subst e
      rw [if_pos rfl] at h ⊢
      exact lex_asym h
    · rw [if_neg e] at h
      rw [if_neg (fun z => e z.symm)]
      have := of_decide_eq_true h
      exact decide_eq_false (by omega)
theorem lex_tr : ∀ {a b c : List Int}, HT.lexLt b a = false → HT.lexLt c b = false → HT.lexLt c a = false
  | [], b, [], _, _ => rfl
  | [], b, z :: zs, _, _ => rfl
  | x :: xs, [], _, h, _ => by simp [HT.lexLt] at h
  | x :: xs, y :: ys, [], _, h => by simp [HT.lexLt] at h
  | x :: xs, y :: ys, z :: zs, h1, h2 => by
    rw [HT.lexLt_cons] at h1 h2 ⊢
    by_cases e : y = x
    · subst e
      rw [if_pos rfl] at h1
      by_cases e2 : z = y
      · subst e2
        rw [if_pos rfl] at h2 ⊢
        exact lex_tr h1 h2
      · rw [if_neg e2] at h2 ⊢
        exact h2
    · rw [if_neg e] at h1
      have g1 := of_decide_eq_false h1
      by_cases e2 : z = y
      · subst e2
        rw [if_neg e]
        exact h1
      · rw [if_neg e2] at h2
        have g2 := of_decide_eq_false h2
        rw [if_neg (by omega)]
        exact decide_eq_false (by omega)
/-- a tuple of these ints -/
def TupZ (h : Heap) (v : Value) (ns : List Int) : Prop := ∃ a o its n, v = .ref a ∧ h.get? a = some o ∧ o.cls = .type "tuple" ∧ o.data = .seq its n ∧ IntsAre its.toList ns
def lexC (fin : Bool) : List Int → List Int → Bool
  | x :: xs, y :: ys => if x = y then lexC fin xs ys else decide (x < y)
  | _, _ => fin
theorem lexC_is : ∀ ns ms : List Int, lexC (decide (ns.length < ms.length)) ns ms = HT.lexLt ns ms
  | [], [] => rfl
  | [], _ :: ms => by simp [lexC, HT.lexLt]
  | _ :: ns, [] => by simp [lexC, HT.lexLt]
  | x :: ns, y :: ms => by
    have h := lexC_is ns ms
    have e : decide ((x :: ns).length < (y :: ms).length) = decide (ns.length < ms.length) := by
      by_cases q : ns.length < ms.length
      · rw [decide_eq_true q, decide_eq_true (by simp only [List.length_cons]; omega)]
      · rw [decide_eq_false q, decide_eq_false (by simp only [List.length_cons]; omega)]
    rw [e, HT.lexLt_cons]
    show (if x = y then lexC _ ns ms else _) = _
    rw [h]
section
variable {prog : Program} {w : World} {A : Around} {s : Shared}
theorem kat_ints {fin : Bool} {Q : Bool → Shared → Prop} : ∀ {us vs : List Value} {ns ms : List Int} (i : Nat), IntsAre us ns → IntsAre vs ms → Q (lexC fin ns ms) s → PySem.W.KatLex prog w A true fin Q (us.zip vs) i s
  | _, _, _, _, i, .nil, _, q => q
  | _, _, _, _, i, .cons _ _ _, .nil, q => q
  | _, _, _, _, i, .cons x t r, .cons y u r2, q => by
    rw [List.zip_cons_cons]
    refine PySem.W.kat_cons (SeqAt.EqAt.int_int x t y u prog w _ _ ?_)
    refine PySem.W.kat_go (fun e => ?_) (fun e => ?_)
    · have e' : x = y := by simpa using e
      refine PySem.W.kat_yes (kat_ints (i + 1) r r2 ?_)
      have q' : Q (if x = y then lexC fin _ _ else decide (x < y)) s := q
      rw [if_pos e'] at q'
      exact q'
    · have e' : ¬ x = y := by simpa using e
      have q' : Q (if x = y then lexC fin _ _ else decide (x < y)) s := q
      rw [if_neg e'] at q'
      refine PySem.W.kat_no ?_
      cases i with
      | zero => exact PyProof.Rows.oneLt_int q'
      | succ i => exact PySem.W.kat_one _ _ (PyProof.Rows.lt_int q')
theorem tupZ_cmp {vs : List Value} {k : Value → List Int} (hp : ∀ v ∈ vs, TupZ s.heap v (k v)) : SrtO.Cmp prog w A s (PyProof.Rows.tuples' true) (fun p => p.1 ∈ vs) (SrtO.lt2 fun v u => HT.lexLt (k v) (k u)) := by
  intro p q m1 m2
  obtain ⟨a, o, its, n, e, ho, hc, hd, hi⟩ := hp _ m1
  obtain ⟨b, o2, jts, n2, e2, ho2, hc2, hd2, hj⟩ := hp _ m2
  show wpAny (model prog w) A (PyProof.Rows.keyLt' (PyProof.Rows.tuples' true) p.1 q.1) (fun r s' => s' = s ∧ r = HT.lexLt (k p.1) (k q.1)) (fun _ _ => False) s
  generalize k p.1 = ns at hi ⊢
  generalize k q.1 = ms at hj ⊢
  rw [e, e2]
  refine PySem.W.kat_lt ho hd ho2 hd2 (kat_ints 0 hi hj ⟨rfl, ?_⟩)
  have l1 : its.size = ns.length := by rw [← Array.length_toList]; exact hi.length
  have l2 : jts.size = ms.length := by rw [← Array.length_toList]; exact hj.length
  rw [l1, l2]
  exact lexC_is ns ms
theorem tupZ_firsts {h : Heap} {k : Value → List Int} : ∀ {vs : List Value}, (∀ v ∈ vs, TupZ h v (k v) ∧ k v ≠ []) → ∃ fs, PySem.W.KatTups h vs fs ∧ fs.length = vs.length ∧ ∀ f ∈ fs, ∃ x t, f = Value.int x t
  | [], _ => ⟨[], .nil, rfl, by simp⟩
  | v :: vs, hp => by
    obtain ⟨fs, a1, a2, a3⟩ := tupZ_firsts (vs := vs) fun u hu => hp u (by simp [hu])
    obtain ⟨⟨a, o, its, n, e, ho, hc, hd, hi⟩, hne⟩ := hp v (by simp)
    subst e
    generalize k (Value.ref a) = ns at hi hne
    generalize hl : its.toList = l at hi
    cases hi with
    | nil => exact absurd rfl hne
    | cons x t r =>
      refine ⟨Value.int x t :: fs, PySem.W.KatTups.cons ho hc hd (by rw [← Array.getElem?_toList, hl]; rfl) a1, by simp [a2], fun f hf => ?_⟩
      rcases List.mem_cons.mp hf with rfl | hf
      · exact ⟨x, t, rfl⟩
      · exact a3 f hf
theorem tupZ_sortable {a : Addr} {vs : List Value} {k : Value → List Int} (h0 : 0 < vs.length) (hp : ∀ v ∈ vs, TupZ s.heap v (k v) ∧ k v ≠ []) (ha : ∀ o, s.heap.get? a = some o → o.cls ≠ .type "tuple") : SrtO.SortableO prog w A s a vs fun v u => HT.lexLt (k v) (k u) := by
  intro h' keep
  have hp' : ∀ v ∈ vs, TupZ h' v (k v) ∧ k v ≠ [] := fun v hm => by
    obtain ⟨⟨b, o, its, n, e, ho, hc, r⟩, ne⟩ := hp v hm
    exact ⟨⟨b, o, its, n, e, keep b o (fun z => by subst z; exact ha o ho hc) ho, hc, r⟩, ne⟩
  obtain ⟨fs, g1, g2, g3⟩ := tupZ_firsts hp'
  refine ⟨PyProof.Rows.tuples' true, fun Q E hq => ?_, tupZ_cmp fun v hm => (hp' v hm).1⟩
  refine PySem.W.kat_kind (T := .type "int") g1 (by omega) (fun f hm => ?_) (by rfl) ?_
  · obtain ⟨x, t, rfl⟩ := g3 f hm
    exact PySem.W.Looks.now
  · have e : (Value.type "int" != Value.type "tuple") = true := by decide +kernel
    rw [e]
    exact hq
end
end O

/-! Own24: sorted(list of tuples of ints), on data -/
namespace O
open PySem
open PyProof.Rows (IntsAre)
open L2 (V Hp HO Rd SqL SqT Vals RelV Cx CallR St VK)
theorem lex_anti : ∀ {a b : List Int}, HT.lexLt a b = false → HT.lexLt b a = false → a = b
  | [], [], _, _ => rfl
  | [], _ :: _, h, _ => by simp [HT.lexLt] at h
  | _ :: _, [], _, h => by simp [HT.lexLt] at h
  | x :: xs, y :: ys, h1, h2 => by
    rw [HT.lexLt_cons] at h1 h2
    by_cases e : x = y
    · subst e
      rw [if_pos rfl] at h1 h2
      rw [lex_anti h1 h2]
    · rw [if_neg e] at h1
      rw [if_neg (fun z => e z.symm)] at h2
      have g1 := of_decide_eq_false h1
      have g2 := of_decide_eq_false h2
      exact absurd (Int.le_antisymm (by omega) (by omega)) e
def leR (a b : List Int) : Bool := !HT.lexLt b a
def sortR (rows : List (List Int)) : List (List Int) := rows.mergeSort leR
theorem sortR_perm (rows : List (List Int)) : (sortR rows).Perm rows := List.mergeSort_perm rows _
theorem sortR_sorted (rows : List (List Int)) : (sortR rows).Pairwise fun a b => HT.lexLt b a = false := by
  have h := List.pairwise_mergeSort (le := leR) (fun a b c h1 h2 => by
    unfold leR at *
    rw [Bool.not_eq_true'] at *
    exact lex_tr h1 h2) (fun a b => by
    unfold leR
    cases h : HT.lexLt b a with
    | false => rfl
    | true => rw [lex_asym h]; rfl) rows
  exact h.imp fun h => by unfold leR at h; rwa [Bool.not_eq_true'] at h
theorem rows_uniq {a b : List (List Int)} (p : a.Perm b) (ha : a.Pairwise fun x y => HT.lexLt y x = false) (hb : b.Pairwise fun x y => HT.lexLt y x = false) : a = b :=
  p.eq_of_pairwise (fun x y _ _ h1 h2 => lex_anti h2 h1) ha hb
/-- rows of ints, none empty -/
def rowsD : List D → Option (List (List Int))
  | [] => some []
  | .tup xs :: ds => match intsD xs, rowsD ds with
    | some (n :: ns), some r => some ((n :: ns) :: r)
    | _, _ => none
  | _ :: _ => none
def rowT (ns : List Int) : D := .tup (ns.map .int)
def gSortedT : List D → Option RV
  | [.lst ds] => (rowsD ds).map fun rows => .own (.lst ((sortR rows).map rowT))
  | _ => none
theorem intsD_back : ∀ {xs : List D} {ns : List Int}, intsD xs = some ns → xs = ns.map .int
  | [], _, e => by cases e; rfl
  | .int i :: xs, _, e => by
    simp only [intsD] at e
    cases e1 : intsD xs with
    | none => rw [e1] at e; cases e
    | some ms => rw [e1] at e; cases e; rw [intsD_back e1]; rfl
  | .non :: _, _, e => by cases e
  | .bl _ :: _, _, e => by cases e
  | .str _ :: _, _, e => by cases e
  | .tup _ :: _, _, e => by cases e
  | .lst _ :: _, _, e => by cases e
  | .dic _ :: _, _, e => by cases e
  | .set _ :: _, _, e => by cases e
  | .scr _ :: _, _, e => by cases e
  | .dlk _ :: _, _, e => by cases e
section
variable {X : Cx} {pins : List (Addr × Obj)} {s : Shared} {σ : St} {H : Hp}
theorem tupZ_fun {h : Heap} {v : Value} {a b : List Int} (p : TupZ h v a) (q : TupZ h v b) : a = b := by
  obtain ⟨x, o, its, n, e, ho, _, hd, hi⟩ := p
  obtain ⟨y, o2, jts, n2, e2, ho2, _, hd2, hj⟩ := q
  subst e
  cases e2
  rw [ho] at ho2
  cases ho2
  rw [hd] at hd2
  cases hd2
  have e1 := SrtO.iv_ints hi
  have e2 := SrtO.iv_ints hj
  rw [← e1, ← e2]
theorem rows_of (I : L2.Inv X pins σ H s) {Hd : Hp} (l : Le Hd H) : ∀ {ds : List D} {vs : List V} {us : List Value} {rows : List (List Int)}, Reps X.K Hd ds vs → Vals vs us → rowsD ds = some rows → Paired (fun u row => TupZ s.heap u row ∧ row ≠ [] ∧ ∃ y, RelV y u ∧ Rep X.K Hd (rowT row) y) us rows
  | _, _, _, _, .nil, r, e => by cases e; cases r; exact .nil
  | _, _, _, _, .cons (d := d) (ds := ds) h q, r, e => by
    cases d with
    | tup xs =>
      simp only [rowsD] at e
      cases e1 : intsD xs with
      | none => rw [e1] at e; cases e
      | some ns =>
        cases ns with
        | nil => rw [e1] at e; cases e
        | cons n ns =>
          cases e2 : rowsD ds with
          | none => rw [e1, e2] at e; cases e
          | some rest =>
            rw [e1, e2] at e
            cases e
            have ex := intsD_back e1
            cases r with
            | cons r1 r2 =>
              refine .cons ⟨?_, by simp, _, r1, by unfold rowT; rw [← ex]; exact h⟩ (rows_of I l q r2 e2)
              cases h with
              | tup hq hr =>
                have ev := intsD_ok hr e1
                subst ev
                rename_i b
                have eu := (show _ = Value.ref b from r1)
                obtain ⟨its, rv, ⟨o, ho, hc, m, hd⟩, _⟩ := I.tuple (l.sqT hq)
                exact ⟨b, o, _, m, eu, ho, hc, hd, by simpa using L2.Vals.ints rv⟩
    | _ => cases e
theorem out_reps {K : PySem.W.Frag} {Hd : Hp} {k : Value → List Int} : ∀ {out : List Value}, (∀ u ∈ out, ∃ y, RelV y u ∧ Rep K Hd (rowT (k u)) y) → ∃ ys, Vals ys out ∧ Reps K Hd ((out.map k).map rowT) ys
  | [], _ => ⟨[], .nil, .nil⟩
  | u :: out, h => by
    obtain ⟨y, a, b⟩ := h u (by simp)
    obtain ⟨ys, c, d⟩ := out_reps (out := out) fun z hz => h z (by simp [hz])
    exact ⟨y :: ys, .cons a c, .cons b d⟩
theorem paired_map {k : Value → List Int} {F : Value → List Int → Prop} (hk : ∀ u row, F u row → k u = row) : ∀ {us : List Value} {rows : List (List Int)}, Paired F us rows → us.map k = rows ∧ ∀ u ∈ us, F u (k u)
  | _, _, .nil => ⟨rfl, by simp⟩
  | _, _, .cons h r => by
    obtain ⟨a, b⟩ := paired_map hk r
    have e := hk _ _ h
    refine ⟨by rw [List.map_cons, a, e], fun u hu => ?_⟩
    rcases List.mem_cons.mp hu with rfl | hu
    · rw [e]; exact h
    · exact b u hu
open Classical in
theorem cb_sortedT : CallR X (.builtin "sorted") (rGC X.K gSortedT) := by
  intro pins s σ H xs us Q I rx ⟨Hd, ds, z, l, t, eg, q⟩
  match ds, t, eg with
  | [.lst es], t, eg =>
    simp only [gSortedT] at eg
    cases e1 : rowsD es with
    | none => rw [e1] at eg; cases eg
    | some rows =>
      rw [e1] at eg
      cases eg
      obtain ⟨x, rfl, w⟩ := tops1 t
      obtain ⟨a, ys, rfl, h1, r1⟩ := w.lstD l
      obtain ⟨its, rv, hl, hz⟩ := I.list (.inl h1)
      rw [L2.Vals.ref1 rx]
      have pr := rows_of I l r1 rv e1
      let k : Value → List Int := fun u => if h : ∃ ns, TupZ s.heap u ns then Classical.choose h else []
      have hk : ∀ u row, (TupZ s.heap u row ∧ row ≠ [] ∧ ∃ y, RelV y u ∧ Rep X.K Hd (rowT row) y) → k u = row := fun u row h => by
        have ex : ∃ ns, TupZ s.heap u ns := ⟨row, h.1⟩
        have e : k u = Classical.choose ex := dif_pos ex
        rw [e]
        exact tupZ_fun (Classical.choose_spec ex) h.1
      obtain ⟨m1, m2⟩ := paired_map hk pr
      refine SrtO.sorted_ord (ltv := fun v u => HT.lexLt (k v) (k u)) ⟨fun x y h => lex_asym h, fun x y z h g => lex_tr h g⟩ hl.isList (by rw [← rv.length]; exact hz) (fun two h₁ a' ha keep => ?_) fun out hs hb => ?_
      · refine tupZ_sortable (s := { s with heap := h₁ }) (by omega) (fun v hv => ⟨?_, (m2 v hv).2.1⟩) fun o e => ?_
        · obtain ⟨b, o, jts, n, e, ho, r⟩ := (m2 v hv).1
          exact ⟨b, o, jts, n, e, (keep b o ho).2, r⟩
        · have e' := e.symm.trans ha
          cases e'
          intro c
          exact absurd (Value.type.inj c) (by decide)
      · obtain ⟨ep, he'⟩ := PyProof.Rows.sortedAll_at s.heap its out.toArray
        obtain ⟨zs, vz, rz⟩ := out_reps (K := X.K) (Hd := Hd) (k := k) (out := out) fun u hu => (m2 u (hb.perm.mem_iff.mp hu)).2.2
        have es : out.map k = sortR rows := by
          refine rows_uniq ?_ ?_ (sortR_sorted rows)
          · rw [← m1]
            exact (hb.perm.map k).trans (by rw [m1]; exact (sortR_perm rows).symm)
          · exact List.pairwise_map.mpr hs
        rw [es] at rz
        have hlen : zs.length ≤ sizeLine := by
          rw [vz.length, hb.perm.length_eq, ← rv.length]
          exact hz
        exact ⟨.ref _, L2.upd H (s.heap.objs.size + 1) (.lst zs), I.laid (t' := s.toks) (fun _ _ g => PyProof.Rows.sortedAll_old g) (Nat.le_succ _) ⟨hlen, out, ep, vz, he'⟩, rfl, q _ _ (newR_lst l (I.hok.fresh (Nat.le_succ _)) rz)⟩
end
end O

/-! Own25: an owned local list is lent to an expression that only reads it -/
namespace O
open PySem
open L2 (V Hp HO Rd SqL SqT upd upd_same upd_ne ne_of ne_of_none TE TT TA TS TG TGs TI It VK XK Ends St Cx)
section
variable {K : PySem.W.Frag} {W : St → XK} {C : Cn} {fp : Fp} {Hd H : Hp} {σ : St} {ρ : Env}
open Classical in
/-- the frame under which slot v is only read -/
noncomputable def lentC (C : Cn) (fp : Fp) (Hd H : Hp) (v : Nat) : Cn :=
  ⟨fun b => if C.H0 b ≠ none then C.H0 b else if ∃ i, i ≠ v ∧ b ∈ fp i then none else H b, Hd, fun i => (C.M i).filter fun a => decide (C.H0 a ≠ none), C.io⟩
theorem lent_old {v : Nat} {b : Addr} {o : HO} (h : C.H0 b = some o) : (lentC C fp Hd H v).H0 b = some o := by
  show (if C.H0 b ≠ none then C.H0 b else _) = _
  rw [if_pos (by rw [h]; intro z; cases z), h]
theorem lent_other {v i : Nat} {b : Addr} (h : C.H0 b = none) (hi : i ≠ v) (hb : b ∈ fp i) : (lentC C fp Hd H v).H0 b = none := by
  show (if C.H0 b ≠ none then C.H0 b else _) = _
  rw [if_neg (by rw [h]; simp), if_pos ⟨i, hi, hb⟩]
theorem lent_free {v : Nat} {b : Addr} (h : C.H0 b = none) (hb : ∀ i, i ≠ v → b ∉ fp i) : (lentC C fp Hd H v).H0 b = H b := by
  show (if C.H0 b ≠ none then C.H0 b else _) = _
  rw [if_neg (by rw [h]; simp), if_neg (by rintro ⟨i, hi, hbi⟩; exact hb i hi hbi)]
theorem lent_none {v : Nat} {b : Addr} (h : (lentC C fp Hd H v).H0 b = none) : C.H0 b = none := by
  cases e : C.H0 b with
  | none => rfl
  | some o => rw [lent_old e] at h; cases h
theorem lent_M {v i : Nat} {a : Addr} : a ∈ (lentC C fp Hd H v).M i ↔ a ∈ C.M i ∧ C.H0 a ≠ none := by
  show a ∈ (C.M i).filter _ ↔ _
  rw [List.mem_filter]
  simp
theorem Rd.up {H H' : Hp} {a : Addr} {x : HO} (k : ∀ o, H a = some o → H' a = some o) (r : Rd H a x) : Rd H' a x := by
  rcases r with r | ⟨o, r⟩
  · exact .inl (k _ r)
  · exact .inr ⟨o, k _ r⟩
theorem Top.up {Hd H Hd' H' : Hp} {d : D} {v : V} (l : Le Hd Hd') (k : ∀ a o, H a = some o → H' a = some o) (t : Top K Hd H d v) : Top K Hd' H' d v := by
  cases t with
  | rep r => exact .rep (r.mono l)
  | lst h r => exact .lst (Rd.up (k _) h) (r.mono l)
  | dic h r => exact .dic (Rd.up (k _) h) (r.mono l)
theorem Own.headIn {o : OD} {x : V} {A : List Addr} {a : Addr} (h : Own K Hd H o x A) (e : x = .ref a) : (∃ y, o = .fz y) ∨ a ∈ A := by
  subst e
  cases h with
  | fz r => exact .inl ⟨_, rfl⟩
  | lst h r => exact .inr (by simp)
  | dic h r => exact .inr (by simp)
  | ins h h' r => exact .inr (by simp)
theorem Own.fzRep {d : D} {x : V} {A : List Addr} (h : Own K Hd H (.fz d) x A) : Rep K Hd d x := by
  cases h with
  | fz r => exact r
theorem Inv.lend {v : Nat} {o : OD} {d : D} (I : Inv K C fp Hd H σ ρ) (e : ρ[v]? = some (.ow o)) (et : o.top = some d) : Inv K (lentC C fp Hd H v) (setF fp v []) Hd H σ (ρ.set v (.br d)) := by
  have hv : v < ρ.length := (List.getElem?_eq_some_iff.mp e).1
  obtain ⟨x, ex, ow, nd, fr⟩ := I.slot v _ e
  have hA : ∀ a ∈ fp v, (lentC C fp Hd H v).H0 a = H a := fun a ha => lent_free (fr a ha).2 fun i hi hb => hi (I.dis i v a hb ha)
  refine ⟨I.le, .refl _, fun b o h n => ?_, fun b h => ?_, fun b h => .inl h, by rw [List.length_set]; exact I.len, fun i s es => ?_, fun i hi => ?_, fun i j a h1 h2 => ?_⟩
  · cases e0 : C.H0 b with
    | some o' =>
      rw [lent_old e0] at h
      cases h
      exact I.keep b _ e0 fun i hi => n i (lent_M.mpr ⟨hi, by rw [e0]; intro z; cases z⟩)
    | none =>
      by_cases q : ∃ i, i ≠ v ∧ b ∈ fp i
      · obtain ⟨i, hi, hb⟩ := q
        rw [lent_other e0 hi hb] at h; cases h
      · rw [lent_free e0 fun i hi hb => q ⟨i, hi, hb⟩] at h
        exact h
  · cases e0 : C.H0 b with
    | some o' => exact I.dom b (by rw [e0]; intro z; cases z)
    | none =>
      by_cases q : ∃ i, i ≠ v ∧ b ∈ fp i
      · obtain ⟨i, hi, hb⟩ := q
        exact absurd (lent_other e0 hi hb) h
      · rw [lent_free e0 fun i hi hb => q ⟨i, hi, hb⟩] at h
        exact h
  · by_cases hi : i = v
    · subst hi
      rw [List.getElem?_set_self hv] at es
      cases es
      rw [setF_same]
      refine ⟨rfl, x, ex, (ow.frame (.refl _) fun a ha u eu => by rw [hA a ha]; exact eu).topD et, ?_⟩
      have key : ∀ a, x = .ref a → (∃ y, o = .fz y) ∨ a ∈ fp i := fun a ea => ow.headIn ea
      by_cases hz : ∃ y, o = .fz y
      · obtain ⟨y, rfl⟩ := hz
        cases et
        exact .inl ow.fzRep
      · exact .inr fun a ea j hj => (lent_M.mp hj).2 (fr a ((key a ea).resolve_left hz)).2
    · rw [List.getElem?_set_ne (Ne.symm hi)] at es
      rw [setF_ne hi]
      have q := I.slot i s es
      cases s with
      | un => exact q
      | sh d => exact q
      | br d' =>
        obtain ⟨q1, y, q2, q3, q4⟩ := q
        exact ⟨q1, y, q2, q3.up I.hd0 fun a o h => lent_old h, q4.elim (fun r => .inl (r.mono I.hd0)) fun r => .inr fun a ha j hj => r a ha j (lent_M.mp hj).1⟩
      | ow o' =>
        obtain ⟨y, q1, q2, q3, q4⟩ := q
        exact ⟨y, q1, q2, q3, fun a ha => ⟨(q4 a ha).1, lent_other (q4 a ha).2 hi ha⟩⟩
      | io o' =>
        obtain ⟨y, q1, q2, q3, q4, q5⟩ := q
        refine ⟨y, q1, q2, q3, fun a ha => ⟨(q4 a ha).1, ?_⟩, q5⟩
        by_cases e0 : C.H0 a = none
        · exact .inr (lent_other e0 hi ha)
        · exact .inl (lent_M.mpr ⟨(q4 a ha).2.resolve_right e0, e0⟩)
  · rw [List.length_set] at hi
    rw [setF_ne (by omega)]
    exact I.out i hi
  · by_cases hi : i = v
    · subst hi; rw [setF_same] at h1; cases h1
    · by_cases hj : j = v
      · subst hj; rw [setF_same] at h2; cases h2
      · rw [setF_ne hi] at h1; rw [setF_ne hj] at h2
        exact I.dis i j a h1 h2

/-- borrowed slots are those of before -/
def brs (v : Nat) (ρ ρ2 : Env) : Prop := ∀ i d, i ≠ v → ρ2[i]? = some (.br d) → ρ[i]? = some (.br d)
theorem Stp.lend {v : Nat} {fp2 : Fp} {Hd2 H2 : Hp} (s : Stp (setF fp v []) Hd H fp2 Hd2 H2) : Stp fp Hd H (setF fp2 v (fp v)) Hd2 H2 := by
  have sub : ∀ i b, b ∈ setF fp v [] i → b ∈ fp i := fun i b h => by
    by_cases e : i = v
    · subst e; rw [setF_same] at h; cases h
    · rw [setF_ne e] at h; exact h
  refine ⟨s.hd, fun b h => ?_, fun b o h n => s.keep b o h fun i hi => n i (sub i b hi), s.dom, fun i b h => ?_⟩
  · rcases s.fr b h with q | q | ⟨i, q⟩
    · exact .inl q
    · exact .inr (.inl q)
    · exact .inr (.inr ⟨i, sub i b q⟩)
  · by_cases e : i = v
    · subst e; rw [setF_same] at h; exact .inl ⟨_, h⟩
    · rw [setF_ne e] at h
      rcases s.fpx i b h with ⟨j, q⟩ | q
      · exact .inl ⟨j, sub j b q⟩
      · exact .inr q
theorem Inv.unlend {v : Nat} {o : OD} {d d2 : D} {fp2 : Fp} {Hd2 H2 : Hp} {ρ2 : Env} (I : Inv K C fp Hd H σ ρ) (e : ρ[v]? = some (.ow o)) (s : Stp (setF fp v []) Hd H fp2 Hd2 H2)
    (I2 : Inv K (lentC C fp Hd H v) fp2 Hd2 H2 σ ρ2) (e2 : ρ2[v]? = some (.br d2)) (hb : brs v ρ ρ2) : Inv K C (setF fp2 v (fp v)) Hd2 H2 σ (ρ2.set v (.ow o)) := by
  have hv : v < ρ2.length := (List.getElem?_eq_some_iff.mp e2).1
  obtain ⟨x, ex, ow, nd, fr⟩ := I.slot v _ e
  have hA : ∀ a ∈ fp v, (lentC C fp Hd H v).H0 a = H a := fun a ha => lent_free (fr a ha).2 fun i hi hb => hi (I.dis i v a hb ha)
  have hN : ∀ a ∈ fp v, (lentC C fp Hd H v).H0 a ≠ none := fun a ha => by rw [hA a ha]; exact ow.there a ha
  have hM : ∀ a ∈ fp v, ∀ i, a ∉ (lentC C fp Hd H v).M i := fun a ha i hi => (lent_M.mp hi).2 (fr a ha).2
  have hf : ∀ a ∈ fp v, ∀ j, a ∉ fp2 j := fun a ha j hj => by
    rcases (I2.fpOk hj).2.2 with q | q
    · exact hM a ha j q
    · exact hN a ha q
  refine ⟨I2.le, I.hd0.trans s.hd, fun b o' h n => I2.keep b o' (lent_old h) fun i hi => n i (lent_M.mp hi).1, fun b h => s.dom b (I.dom b h), fun b h => ?_, by rw [List.length_set]; exact I2.len, fun i s' es => ?_, fun i hi => ?_, fun i j a h1 h2 => ?_⟩
  · rcases I2.fresh b h with q | q
    · exact I.fresh b q
    · exact .inr (lent_none q)
  · by_cases hi : i = v
    · subst hi
      rw [List.getElem?_set_self hv] at es
      cases es
      rw [setF_same]
      refine ⟨x, ex, ow.frame s.hd fun a ha u eu => I2.keep a u (by rw [hA a ha]; exact eu) (hM a ha), nd, fun a ha => ⟨?_, (fr a ha).2⟩⟩
      cases en : Hd2 a with
      | none => rfl
      | some u =>
        rcases I2.fresh a (by rw [en]; intro z; cases z) with q | q
        · exact absurd (fr a ha).1 q
        · exact absurd q (hN a ha)
    · rw [List.getElem?_set_ne (Ne.symm hi)] at es
      rw [setF_ne hi]
      have q := I2.slot i s' es
      cases s' with
      | un => exact q
      | sh d => exact q
      | br d' =>
        obtain ⟨q1, y, q2, q3, q4⟩ := q
        obtain ⟨r1, z, r2, r3, r4⟩ := I.slot i _ (hb i d' hi es)
        rw [q2] at r2
        cases r2
        exact ⟨q1, y, q2, r3, r4⟩
      | ow o' =>
        obtain ⟨y, q1, q2, q3, q4⟩ := q
        exact ⟨y, q1, q2, q3, fun a ha => ⟨(q4 a ha).1, lent_none (q4 a ha).2⟩⟩
      | io o' =>
        obtain ⟨y, q1, q2, q3, q4, q5⟩ := q
        exact ⟨y, q1, q2, q3, fun a ha => ⟨(q4 a ha).1, (q4 a ha).2.imp (fun q => (lent_M.mp q).1) lent_none⟩, q5⟩
  · rw [List.length_set] at hi
    rw [setF_ne (by omega)]
    exact I2.out i hi
  · by_cases hi : i = v
    · by_cases hj : j = v
      · rw [hi, hj]
      · subst hi
        rw [setF_same] at h1
        rw [setF_ne hj] at h2
        exact absurd h2 (hf a h1 j)
    · by_cases hj : j = v
      · subst hj
        rw [setF_same] at h2
        rw [setF_ne hi] at h1
        exact absurd h1 (hf a h2 i)
      · rw [setF_ne hi] at h1; rw [setF_ne hj] at h2
        exact I2.dis i j a h1 h2
open Classical in
/-- what comes back -/
noncomputable def unlend (v : Nat) (o : OD) (ρ : Env) : Res RV → Res RV
  | .ok (.val x) ρ2 => if (∃ d, ρ2[v]? = some (.br d)) ∧ brs v ρ ρ2 then .ok (.val x) (ρ2.set v (.ow o)) else .no
  | .ok (.own x) ρ2 => if (∃ d, ρ2[v]? = some (.br d)) ∧ brs v ρ ρ2 then .ok (.own x) (ρ2.set v (.ow o)) else .no
  | _ => .no
/-- slot v is lent to f -/
noncomputable def fLend (v : Nat) (f : Env → Res RV) : Env → Res RV := fun ρ => match ρ[v]? with
  | some (.ow o) => match o.top with
    | some d => unlend v o ρ (f (ρ.set v (.br d)))
    | none => f ρ
  | _ => f ρ
theorem sd_lend {v : Nat} {te : TE} {f : Env → Res RV} (h : Sd K W (rV K) te f) : Sd K W (rV K) te (fLend v f) := by
  intro C fp Hd H σ ρ I Q p
  cases e : ρ[v]? with
  | none => simp only [fLend, e] at p; exact h C fp Hd H σ ρ I Q p
  | some sl =>
    cases sl with
    | un => simp only [fLend, e] at p; exact h C fp Hd H σ ρ I Q p
    | sh d => simp only [fLend, e] at p; exact h C fp Hd H σ ρ I Q p
    | br d => simp only [fLend, e] at p; exact h C fp Hd H σ ρ I Q p
    | io d => simp only [fLend, e] at p; exact h C fp Hd H σ ρ I Q p
    | ow o =>
      cases et : o.top with
      | none => simp only [fLend, e, et] at p; exact h C fp Hd H σ ρ I Q p
      | some d =>
        simp only [fLend, e, et] at p
        refine h _ _ Hd H σ _ (I.lend e et) Q ?_
        cases er : f (ρ.set v (.br d)) with
        | no => rw [er] at p; exact p.elim
        | ex c ρ1 => rw [er] at p; exact p.elim
        | ok r ρ2 =>
          rw [er] at p
          intro w fp2 Hd2 H2 s2 I2 r2
          have hA : ∀ a ∈ fp v, H a ≠ none := fun a ha => (I.fpOk ha).1
          cases r with
          | bor i => exact p.elim
          | val x =>
            simp only [unlend] at p
            split at p
            · rename_i hc
              obtain ⟨⟨d2, e2⟩, hb⟩ := hc
              have hbr : brs v ρ ρ2 := fun i d' hi h => hb i d' hi h
              exact p w _ Hd2 H2 s2.lend (I.unlend (d := d) e s2 I2 e2 hbr) r2
            · exact p.elim
          | own x =>
            simp only [unlend] at p
            split at p
            · rename_i hc
              obtain ⟨⟨d2, e2⟩, hb⟩ := hc
              obtain ⟨A, ow, nd, fr⟩ := r2
              refine p w _ Hd2 H2 s2.lend (I.unlend (d := d) e s2 I2 e2 hb) ⟨A, ow, nd, fun a ha => ⟨(fr a ha).1, lent_none (fr a ha).2.1, fun i hi => ?_, (fr a ha).2.2.2⟩⟩
              by_cases ei : i = v
              · subst ei; rw [setF_same] at hi
                exact hA a hi (fr a ha).2.2.2
              · rw [setF_ne ei] at hi
                exact (fr a ha).2.2.1 i hi
            · exact p.elim
end
section
variable {X : Cx} {W : St → XK} {e : Expr} {te : TE} {f : Env → Res RV}
theorem jlend (v : Nat) (h : JE X W e te f) : JE X W e te (fLend v f) := ⟨h.pe, sd_lend h.se⟩
end
/-! as simp lemmas -/
section
variable {v : Nat} {ρ ρ2 : Env} {o : OD} {d : D} {f : Env → Res RV}
theorem u_fLend (h : ρ[v]? = some (.ow o)) (ht : o.top = some d) : fLend v f ρ = unlend v o ρ (f (ρ.set v (.br d))) := by
  simp only [fLend, h, ht]
theorem u_unlend {x : RV} (hx : ∀ i, x ≠ .bor i) (h : ρ2[v]? = some (.br d)) (hb : brs v ρ ρ2) : unlend v o ρ (.ok x ρ2) = .ok x (ρ2.set v (.ow o)) := by
  cases x with
  | bor i => exact absurd rfl (hx i)
  | val y => simp only [unlend]; rw [if_pos ⟨⟨_, h⟩, hb⟩]
  | own y => simp only [unlend]; rw [if_pos ⟨⟨_, h⟩, hb⟩]
/-- where the answer leaves the slots as they were -/
theorem u_lend_same {x : RV} (hx : ∀ i, x ≠ .bor i) (h : ρ[v]? = some (.ow o)) (ht : o.top = some d) (hf : f (ρ.set v (.br d)) = .ok x (ρ.set v (.br d))) : fLend v f ρ = .ok x ρ := by
  have hv : v < ρ.length := (List.getElem?_eq_some_iff.mp h).1
  rw [u_fLend h ht, hf, u_unlend (d := d) hx (by rw [List.getElem?_set_self hv]) fun i d' hi e => by rwa [List.getElem?_set_ne (Ne.symm hi)] at e, List.set_set]
  congr 1
  refine List.ext_getElem? fun j => ?_
  by_cases e : j = v
  · subst e; rw [List.getElem?_set_self hv, h]
  · rw [List.getElem?_set_ne (Ne.symm e)]
end
end O

/-! Own26: repr of small data: what may be shown -/
namespace O
open PySem
/-- d is shown as p; k bounds the depth, N the size -/
structure Shw (d : D) (p : PyData) (k N : Nat) : Prop where
  e : toPyR d = some p
  s : p.showable = true
  l : p.leavesShort 13 = true
  dp : p.depth ≤ k
  b : p.bulk ≤ N
structure ShwL (ds : List D) (ps : List PyData) (k N : Nat) : Prop where
  e : toPyRs ds = some ps
  s : PyData.showableAll ps = true
  l : PyData.leavesShortAll 13 ps = true
  dp : PyData.depthAll ps ≤ k
  b : PyData.bulkAll ps ≤ N
structure ShwK (ds : List (L2.Key × D)) (ps : List (PyData × PyData)) (k N : Nat) : Prop where
  e : toPyRk ds = some ps
  s : PyData.showableKv ps = true
  l : PyData.leavesShortKv 13 ps = true
  dp : PyData.depthKv ps ≤ k
  b : PyData.bulkKv ps ≤ N
def smallI (i : Int) : Prop := -999999999999 ≤ i ∧ i ≤ 999999999999
theorem log_small {i : Int} (h : smallI i) : i.natAbs.log2 < 1920 := by
  have h1 : i.natAbs < 2 ^ 40 := by
    have : (2 : Nat) ^ 40 = 1099511627776 := by decide
    obtain ⟨a, b⟩ := h
    omega
  by_cases h0 : i.natAbs = 0
  · rw [h0]; decide
  · have := (Nat.log2_lt h0).mpr h1
    omega
theorem Shw.int {i : Int} (h : smallI i) {k N : Nat} : Shw (.int i) (.int i) k N := by
  refine ⟨by simp [toPyR], ?_, ?_, by simp [PyData.depth], by simp [PyData.bulk]⟩
  · simp only [PyData.showable, decide_eq_true_eq]; exact log_small h
  · simp only [PyData.leavesShort, decide_eq_true_eq]; exact PyData.shown_int_le2 h.1 h.2
theorem Shw.bl {b : Bool} {k N : Nat} : Shw (.bl b) (.bool b) k N := ⟨by simp [toPyR], by simp [PyData.showable], by simp [PyData.leavesShort], by simp [PyData.depth], by simp [PyData.bulk]⟩
theorem Shw.non {k N : Nat} : Shw .non .none k N := ⟨by simp [toPyR], by simp [PyData.showable], by simp [PyData.leavesShort], by simp [PyData.depth], by simp [PyData.bulk]⟩
theorem ShwL.nil {k N : Nat} : ShwL [] [] k N := ⟨by simp [toPyRs], by simp [PyData.showableAll], by simp [PyData.leavesShortAll], by simp [PyData.depthAll], by simp [PyData.bulkAll]⟩
theorem ShwL.cons {d : D} {p : PyData} {ds : List D} {ps : List PyData} {k N M S : Nat} (h : Shw d p k N) (r : ShwL ds ps k M) (hS : N + 1 + M ≤ S) : ShwL (d :: ds) (p :: ps) k S := by
  refine ⟨by simp [toPyRs, h.e, r.e], by simp [PyData.showableAll, h.s, r.s], by simp [PyData.leavesShortAll, h.l, r.l], ?_, ?_⟩
  · have := h.dp; have := r.dp; simp only [PyData.depthAll]; omega
  · have := h.b; have := r.b; simp only [PyData.bulkAll]; omega
theorem ShwL.ints {k : Nat} : ∀ (ns : List Int) (h : ∀ n ∈ ns, smallI n) {N : Nat} (hN : ns.length ≤ N), ShwL (ns.map .int) (ns.map .int) k N
  | [], _, _, _ => .nil
  | n :: ns, h, N, hN => .cons (N := 0) (M := ns.length) (Shw.int (h n (by simp))) (ShwL.ints ns (fun x hx => h x (by simp [hx])) (Nat.le_refl _)) (by simp at hN; omega)
theorem ShwK.nil {k N : Nat} : ShwK [] [] k N := ⟨by simp [toPyRk], by simp [PyData.showableKv], by simp [PyData.leavesShortKv], by simp [PyData.depthKv], by simp [PyData.bulkKv]⟩
theorem ShwK.cons {i : Int} (hi : smallI i) {d : D} {p : PyData} {ds : List (L2.Key × D)} {ps : List (PyData × PyData)} {k N M S : Nat} (h : Shw d p k N) (r : ShwK ds ps k M) (hS : N + 2 + M ≤ S) : ShwK ((.inl i, d) :: ds) ((.int i, p) :: ps) k S := by
  have q := Shw.int hi (k := k) (N := 0)
  refine ⟨by simp [toPyRk, h.e, r.e, kD], by simp [PyData.showableKv, h.s, r.s, q.s], by simp [PyData.leavesShortKv, h.l, r.l, q.l], ?_, ?_⟩
  · have := h.dp; have := r.dp; have := q.dp; simp only [PyData.depthKv]; omega
  · have := h.b; have := r.b; have := q.b; simp only [PyData.bulkKv]; omega
theorem Shw.lst {ds : List D} {ps : List PyData} {k N : Nat} (h : ShwL ds ps k N) : Shw (.lst ds) (.list ps) (k + 1) N := by
  refine ⟨by simp [toPyR, h.e], by simp [PyData.showable, h.s], by simp [PyData.leavesShort, h.l], ?_, ?_⟩
  · have := h.dp; simp only [PyData.depth]; omega
  · have := h.b; simp only [PyData.bulk]; omega
theorem Shw.tup {ds : List D} {ps : List PyData} {k N : Nat} (h : ShwL ds ps k N) : Shw (.tup ds) (.tuple ps) (k + 1) N := by
  refine ⟨by simp [toPyR, h.e], by simp [PyData.showable, h.s], by simp [PyData.leavesShort, h.l], ?_, ?_⟩
  · have := h.dp; simp only [PyData.depth]; omega
  · have := h.b; simp only [PyData.bulk]; omega
theorem Shw.dic {ds : List (L2.Key × D)} {ps : List (PyData × PyData)} {k N : Nat} (h : ShwK ds ps k N) : Shw (.dic ds) (.dict ps) (k + 1) N := by
  refine ⟨by simp [toPyR, h.e], by simp [PyData.showable, h.s], by simp [PyData.leavesShort, h.l], ?_, ?_⟩
  · have := h.dp; simp only [PyData.depth]; omega
  · have := h.b; simp only [PyData.bulk]; omega
theorem Shw.dlk {ds : List (L2.Key × D)} {ps : List (PyData × PyData)} {k N : Nat} (h : ShwK ds ps k N) : Shw (.dlk ds) (.dict ps) (k + 1) N := by
  refine ⟨by simp [toPyR, h.e], by simp [PyData.showable, h.s], by simp [PyData.leavesShort, h.l], ?_, ?_⟩
  · have := h.dp; simp only [PyData.depth]; omega
  · have := h.b; simp only [PyData.bulk]; omega
/-- no list, or no dict -/
def easy (p : PyData) : Bool := noL p || !p.hasDict
theorem Shw.can {d : D} {p : PyData} {k N : Nat} (h : Shw d p k N) (hk : k ≤ 60) (hN : N ≤ 2 ^ 20) (he : easy p = true) : canShowR p = true := by
  have h1 : p.shown.length ≤ sizeLine := PyData.shown_fits_bulk (B := 13) (by decide) (by decide) h.l (by have := h.b; omega)
  have h2 := h.dp
  unfold canShowR
  unfold easy at he
  simp only [h.s, he, Bool.true_and, Bool.and_eq_true, decide_eq_true_eq]
  exact ⟨by omega, h1⟩
theorem reprR_lst {ds : List D} {p : PyData} {k N : Nat} (h : Shw (.lst ds) p k N) (hk : k ≤ 60) (hN : N ≤ 2 ^ 20) (he : easy p = true) : gReprR [.lst ds] = some (.val (.str p.shown)) := by
  simp only [gReprR, h.e, Option.bind_some, if_pos (h.can hk hN he)]
theorem reprR_tup {ds : List D} {p : PyData} {k N : Nat} (h : Shw (.tup ds) p k N) (hk : k ≤ 60) (hN : N ≤ 2 ^ 20) (he : easy p = true) : gReprR [.tup ds] = some (.val (.str p.shown)) := by
  simp only [gReprR, h.e, Option.bind_some, if_pos (h.can hk hN he)]
theorem reprR_dic {ds : List (L2.Key × D)} {p : PyData} {k N : Nat} (h : Shw (.dic ds) p k N) (hk : k ≤ 60) (hN : N ≤ 2 ^ 20) (he : easy p = true) : gReprR [.dic ds] = some (.val (.str p.shown)) := by
  simp only [gReprR, h.e, Option.bind_some, if_pos (h.can hk hN he)]
theorem reprR_dlk {ds : List (L2.Key × D)} {p : PyData} {k N : Nat} (h : Shw (.dlk ds) p k N) (hk : k ≤ 60) (hN : N ≤ 2 ^ 20) (he : easy p = true) : gReprR [.dlk ds] = some (.val (.str p.shown)) := by
  simp only [gReprR, h.e, Option.bind_some, if_pos (h.can hk hN he)]
theorem noLs_ints : ∀ ns : List Int, noLs (ns.map .int) = true
  | [] => rfl
  | n :: ns => by simp [noLs, noL, noLs_ints ns]
theorem noD_ints : ∀ ns : List Int, PyData.hasDictAll (ns.map .int) = false
  | [] => rfl
  | n :: ns => by simp [PyData.hasDictAll, PyData.hasDict, noD_ints ns]
/-- a list of ints is shown -/
theorem repr_ints (ns : List Int) (h : ∀ n ∈ ns, smallI n) (hl : ns.length ≤ 1000000) : ∃ x, gReprR [.lst (ns.map .int)] = some (.val (.str x)) :=
  ⟨_, reprR_lst (Shw.lst (k := 0) (ShwL.ints ns h (Nat.le_refl _))) (by omega) (by have : (2 : Nat) ^ 20 = 1048576 := by decide
                                                                                   omega) (by simp [easy, PyData.hasDict, noD_ints])⟩
/-! slots that may be stored to -/
def Fr (s : Sl) : Prop := ∀ ρ' : O.Env, fre ρ' (some s) = some ρ'
theorem fr_un : Fr .un := fun _ => id rfl
theorem fr_sh {d : D} : Fr (.sh d) := fun _ => id rfl
theorem fr_br {d : D} : Fr (.br d) := fun _ => id rfl
theorem fr_ow {o : OD} : Fr (.ow o) := fun _ => id rfl
theorem rng_mem {lo : Int} {n : Nat} {d : D} (h : d ∈ rngD lo n) : ∃ i : Nat, i < n ∧ d = .int (lo + (i : Int)) := by
  unfold rngD at h
  obtain ⟨i, hi, rfl⟩ := List.mem_map.mp h
  exact ⟨i, List.mem_range.mp hi, rfl⟩
theorem forD_cons {k : D → O.Env → Option O.Env} {g : O.Env → SR} {d : D} {ds : List D} {ρ ρ1 ρ2 : O.Env} (h1 : k d ρ = some ρ1) (h2 : g ρ1 = .nx ρ2) : forD k g (d :: ds) ρ = forD k g ds ρ2 := by simp only [forD, h1, h2]
end O

/-! Own27: repr of any data (lists beside dicts too, and None, bools, ints, texts) -/
namespace O
open PySem
open L2 (V Hp HO Rd SqL SqT VK XK St TE TA Cx Sp FnOk Room Vals RelV OpR CallR)
mutual
/-- what a value shows; no dict is the one of the loaded modules -/
inductive RdN (h : Heap) : Value → PyData → Prop
  | non : RdN h .none .none
  | bl (b : Bool) : RdN h (.bool b) (.bool b)
  | int (i : Int) (t : Tok) : RdN h (.int i t) (.int i)
  | str (x : Str) (t : Tok) : RdN h (.str x t) (.str x)
  | list {a : Addr} {o : Obj} {us : Array Value} {n : Nat} {ps : List PyData} (e1 : h.get? a = some o) (e2 : o.cls = .type "list") (e3 : o.data = .seq us n) (r : RdNs h us.toList ps) : RdN h (.ref a) (.list ps)
  | tuple {a : Addr} {o : Obj} {us : Array Value} {n : Nat} {ps : List PyData} (e1 : h.get? a = some o) (e2 : o.cls = .type "tuple") (e3 : o.data = .seq us n) (r : RdNs h us.toList ps) : RdN h (.ref a) (.tuple ps)
  | dict {a : Addr} {o : Obj} {es : Array DictEntry} {n : Nat} {kps : List (PyData × PyData)} (e1 : h.get? a = some o) (e2 : o.cls = .type "dict") (e3 : o.data = .dict es n) (e4 : (a == sysModules) = false) (r : RdNs h (es.toList.map (·.key)) (kps.map (·.1))) (q : RdNs h (es.toList.map (·.val)) (kps.map (·.2))) : RdN h (.ref a) (.dict kps)
inductive RdNs (h : Heap) : List Value → List PyData → Prop
  | nil : RdNs h [] []
  | cons {u : Value} {p : PyData} {us : List Value} {ps : List PyData} : RdN h u p → RdNs h us ps → RdNs h (u :: us) (p :: ps)
end
mutual
theorem RdN.reads {h : Heap} : ∀ {u : Value} {p : PyData}, RdN h u p → ∃ as, Reads h u p as
  | _, _, .non => ⟨_, .none⟩
  | _, _, .bl b => ⟨_, .bool b⟩
  | _, _, .int i t => ⟨_, .int i t⟩
  | _, _, .str x t => ⟨_, .str x t⟩
  | _, _, .list e1 e2 e3 r => let ⟨_, z⟩ := r.reads; ⟨_, .list e1 e2 e3 z⟩
  | _, _, .tuple e1 e2 e3 r => let ⟨_, z⟩ := r.reads; ⟨_, .tuple e1 e2 e3 z⟩
  | _, _, .dict e1 e2 e3 _ r q => let ⟨_, z⟩ := r.reads; let ⟨_, y⟩ := q.reads; ⟨_, .dict e1 e2 e3 z y⟩
theorem RdNs.reads {h : Heap} : ∀ {us : List Value} {ps : List PyData}, RdNs h us ps → ∃ as, ReadsAll h us ps as
  | _, _, .nil => ⟨_, .nil⟩
  | _, _, .cons r q => let ⟨_, z⟩ := r.reads; let ⟨_, y⟩ := q.reads; ⟨_, .cons z y⟩
end
section
variable (P : Program) (w : World)
mutual
theorem RdN.rk {h : Heap} : ∀ {u : Value} {p : PyData}, RdN h u p → p.showable = true → p.shown.length ≤ sizeLine → ∃ bs, ReadAtMost h p.depth bs ∧ ReprK P w bs h p.depth u p.shown
  | _, _, .non, _, _ => ⟨[], fun _ z => (by cases z), by rw [PyData.shown]; exact .of_is .none _ _ _⟩
  | _, _, .bl b, _, _ => ⟨[], fun _ z => (by cases z), by rw [PyData.shown]; exact .of_is (.bool b) _ _ _⟩
  | _, _, .int i t, s, _ => ⟨[], fun _ z => (by cases z), by
      rw [PyData.shown]
      exact .of_is (.int t (by simpa [PyData.showable] using s)) _ _ _⟩
  | _, _, .str x t, _, z => ⟨[], fun _ z => (by cases z), by
      rw [PyData.shown] at z ⊢
      exact .of_is (.str x t z) _ _ _⟩
  | _, _, .list (a := a) (us := us) (ps := ps) e1 e2 e3 r, s, z => by
    rw [PyData.shown] at z ⊢
    rw [PyData.depth]
    obtain ⟨bs, k1, k2⟩ := r.rk (by simpa [PyData.showable] using s) fun t ht => Nat.le_trans (listText_mem_le ht) z
    obtain ⟨as, ra⟩ := r.reads
    have rr : Reads h (.ref a) (.list ps) (a :: as) := .list e1 e2 e3 ra
    have fresh : a ∉ bs := not_mem_of_deeper rr (by rw [PyData.depth]; omega) k1
    refine ⟨a :: bs, by have := ReadAtMost.cons rr (n := PyData.depthAll ps) (by rw [PyData.depth]; omega) k1; rwa [PyData.depth] at this, ?_⟩
    rcases us with ⟨_ | ⟨u, us⟩⟩
    · have r0 : RdNs h [] ps := r
      cases r0
      rw [PyData.shownAll, listText_nil]
      exact .listEmpty e1 e2 e3
    · exact .list e1 e2 e3 fresh (by simpa using k2.length_eq) fun i y e => k2.item i y (by simpa using e)
  | _, _, .tuple (a := a) (us := us) (ps := ps) e1 e2 e3 r, s, z => by
    rw [PyData.shown] at z ⊢
    rw [PyData.depth]
    obtain ⟨bs, k1, k2⟩ := r.rk (by simpa [PyData.showable] using s) fun t ht => Nat.le_trans (tupleText_mem_le ht) z
    obtain ⟨as, ra⟩ := r.reads
    have rr : Reads h (.ref a) (.tuple ps) as := .tuple e1 e2 e3 ra
    have fresh : a ∉ bs := not_mem_of_deeper rr (by rw [PyData.depth]; omega) k1
    exact ⟨a :: bs, by have := ReadAtMost.cons rr (n := PyData.depthAll ps) (by rw [PyData.depth]; omega) k1; rwa [PyData.depth] at this, .tuple e1 e2 e3 fresh k2⟩
  | _, _, .dict (a := a) (es := es) (kps := kps) e1 e2 e3 e4 r q, s, z => by
    rw [PyData.shown] at z ⊢
    rw [PyData.depth]
    obtain ⟨s1, s2⟩ := PyData.showableKv_split kps (by simpa [PyData.showable] using s)
    obtain ⟨b1, k1, k2⟩ := r.rk s1 fun t ht => let ⟨p, hp, hl⟩ := PyData.shownKv_key_le kps t ht; Nat.le_trans hl (Nat.le_trans (dictText_mem_le hp) z)
    obtain ⟨b2, j1, j2⟩ := q.rk s2 fun t ht => let ⟨p, hp, hl⟩ := PyData.shownKv_val_le kps t ht; Nat.le_trans hl (Nat.le_trans (dictText_mem_le hp) z)
    obtain ⟨as, ra⟩ := r.reads
    obtain ⟨cs, rc⟩ := q.reads
    have rr : Reads h (.ref a) (.dict kps) (a :: as ++ cs) := .dict e1 e2 e3 ra rc
    have most : ReadAtMost h (PyData.depthKv kps) (b1 ++ b2) := (k1.mono (PyData.depthAll_keys_le kps)).append (j1.mono (PyData.depthAll_vals_le kps))
    have fresh : a ∉ b1 ++ b2 := not_mem_of_deeper rr (by rw [PyData.depth]; omega) most
    refine ⟨a :: (b1 ++ b2), by have := ReadAtMost.cons rr (n := PyData.depthKv kps) (by rw [PyData.depth]; omega) most; rwa [PyData.depth] at this, ?_⟩
    rw [PyData.shownKv_eq]
    have l1 := k2.more_le (as' := b1 ++ b2) (fun b hb => by simp [hb]) (PyData.depthAll_keys_le kps)
    have l2 := j2.more_le (as' := b1 ++ b2) (fun b hb => by simp [hb]) (PyData.depthAll_vals_le kps)
    exact .dict e1 e2 e3 e4 fresh (.of_two es.toList _ _ l1 l2)
theorem RdNs.rk {h : Heap} : ∀ {us : List Value} {ps : List PyData}, RdNs h us ps → PyData.showableAll ps = true → (∀ t ∈ PyData.shownAll ps, t.length ≤ sizeLine) → ∃ bs, ReadAtMost h (PyData.depthAll ps) bs ∧ ReprAllK P w bs h (PyData.depthAll ps) us (PyData.shownAll ps)
  | _, _, .nil, _, _ => ⟨[], fun _ z => (by cases z), by rw [PyData.shownAll]; exact .nil⟩
  | _, _, .cons (p := p) (ps := ps) r q, s, z => by
    rw [PyData.shownAll] at z ⊢
    rw [PyData.depthAll]
    rw [PyData.showableAll, Bool.and_eq_true] at s
    obtain ⟨b1, k1, k2⟩ := r.rk s.1 (z _ (by simp))
    obtain ⟨b2, j1, j2⟩ := q.rk s.2 fun t ht => z t (by simp [ht])
    refine ⟨b1 ++ b2, (k1.mono (Nat.le_max_left ..)).append (j1.mono (Nat.le_max_right ..)), ?_⟩
    exact .cons ((k2.more fun b hb => by simp [hb]).level_le (Nat.le_max_left ..)) (j2.more_le (fun b hb => by simp [hb]) (Nat.le_max_right ..))
end
end
section
variable {P : Program} {w : World} {A : Around} {E : Value → Shared → Prop} {s : Shared} {Q : Value → Shared → Prop}
/-- repr, called -/
theorem RdN.repr {u : Value} {p : PyData} (r : RdN s.heap u p) (hs : p.showable = true) (hg : A.guards = some []) (hu : A.units + (p.depth + 1) < cLine) (hz : p.shown.length ≤ sizeLine)
    (q : ∀ h' t tk, (∀ b o, s.heap.get? b = some o → h'.get? b = some o) → Q (.str p.shown t) { s with heap := h', toks := tk }) : wpAny (model P w) A (call (.builtin "repr") [u]) Q E s := by
  cases r with
  | non => exact call_repr_gives (typeIs_none s) F.slot_NoneType_repr F.entry_NoneType_repr (F.args_NoneType_repr_1 _) gives_none_repr (q s.heap _ _ fun _ _ e => e) (hx := hz)
  | bl b => exact call_repr_gives (PySem.typeIs_bool s b) F.slot_bool_repr F.entry_bool_repr (F.args_bool_repr_1 _) (gives_bool_repr b) (q s.heap _ _ fun _ _ e => e) (hx := hz)
  | int i t => exact call_repr_gives (typeIs_int s i t) F.slot_int_repr F.entry_int_repr (F.args_int_repr_1 _) (gives_int_repr i t (by simpa [PyData.showable] using hs)) (q s.heap _ _ fun _ _ e => e) (hx := hz)
  | str x t => exact call_repr_gives (typeIs_str s x t) F.slot_str_repr F.entry_str_repr (F.args_str_repr_1 _) (gives_str_repr x t) (q s.heap _ _ fun _ _ e => e) (hx := hz)
  | list e1 e2 e3 r =>
    rename_i a o us n ps
    rw [PyData.shown] at hz q
    rw [PyData.depth] at hu
    obtain ⟨bs, k1, k2⟩ := r.rk P w (by simpa [PyData.showable] using hs) fun t ht => Nat.le_trans (listText_mem_le ht) hz
    obtain ⟨as, ra⟩ := r.reads
    have rr : Reads s.heap (.ref a) (.list ps) (a :: as) := .list e1 e2 e3 ra
    have fresh : a ∉ bs := not_mem_of_deeper rr (by rw [PyData.depth]; omega) k1
    refine call_repr_slot (by omega) ⟨o, e1, e2⟩ F.slot_list_repr.toG ?_
    rcases us with ⟨_ | ⟨u, us⟩⟩
    · have r0 : RdNs s.heap [] ps := r
      cases r0
      rw [PyData.shownAll, listText_nil] at q
      exact call_list_repr_empty ⟨o, e1, e2⟩ e1 e3 ⟨_, _, rfl, q s.heap _ _ fun _ _ e => e⟩
    · exact call_list_reprK e1 e2 e3 fresh (by simpa using k2.length_eq) (fun i y e => k2.item i y (by simpa using e)) hg (fun b _ => Clear.nil b) (by show A.units + 1 + _ < _; omega) (fun _ _ e => e) (fun h' t tk k => ⟨_, _, rfl, q h' t tk k⟩) hz
  | tuple e1 e2 e3 r =>
    rename_i a o us n ps
    rw [PyData.shown] at hz q
    rw [PyData.depth] at hu
    obtain ⟨bs, k1, k2⟩ := r.rk P w (by simpa [PyData.showable] using hs) fun t ht => Nat.le_trans (tupleText_mem_le ht) hz
    obtain ⟨as, ra⟩ := r.reads
    have rr : Reads s.heap (.ref a) (.tuple ps) as := .tuple e1 e2 e3 ra
    have fresh : a ∉ bs := not_mem_of_deeper rr (by rw [PyData.depth]; omega) k1
    refine call_repr_slot (by omega) ⟨o, e1, e2⟩ F.slot_tuple_repr ?_
    exact call_tuple_reprK e1 e2 e3 fresh k2 hg (fun b _ => Clear.nil b) (by show A.units + 1 + _ < _; omega) (fun _ _ e => e) (fun h' t tk k => ⟨_, _, rfl, q h' t tk k⟩) hz
  | dict e1 e2 e3 e4 r r' =>
    rename_i a o es n kps
    rw [PyData.shown] at hz
    rw [PyData.shown, PyData.shownKv_eq] at q
    rw [PyData.depth] at hu
    obtain ⟨s1, s2⟩ := PyData.showableKv_split kps (by simpa [PyData.showable] using hs)
    obtain ⟨b1, k1, k2⟩ := r.rk P w s1 fun t ht => let ⟨p, hp, hl⟩ := PyData.shownKv_key_le kps t ht; Nat.le_trans hl (Nat.le_trans (dictText_mem_le hp) hz)
    obtain ⟨b2, j1, j2⟩ := r'.rk P w s2 fun t ht => let ⟨p, hp, hl⟩ := PyData.shownKv_val_le kps t ht; Nat.le_trans hl (Nat.le_trans (dictText_mem_le hp) hz)
    obtain ⟨as, ra⟩ := r.reads
    obtain ⟨cs, rc⟩ := r'.reads
    have rr : Reads s.heap (.ref a) (.dict kps) (a :: as ++ cs) := .dict e1 e2 e3 ra rc
    have most : ReadAtMost s.heap (PyData.depthKv kps) (b1 ++ b2) := (k1.mono (PyData.depthAll_keys_le kps)).append (j1.mono (PyData.depthAll_vals_le kps))
    have fresh : a ∉ b1 ++ b2 := not_mem_of_deeper rr (by rw [PyData.depth]; omega) most
    have l1 := k2.more_le (as' := b1 ++ b2) (fun b hb => by simp [hb]) (PyData.depthAll_keys_le kps)
    have l2 := j2.more_le (as' := b1 ++ b2) (fun b hb => by simp [hb]) (PyData.depthAll_vals_le kps)
    refine call_repr_slot (by omega) ⟨o, e1, e2⟩ F.slot_dict_repr ?_
    exact call_dict_reprK e1 e2 e3 e4 fresh (.of_two es.toList _ _ l1 l2) hg (fun b _ => Clear.nil b) (by show A.units + 1 + _ < _; omega) (fun _ _ e => e) (fun h' t tk k => ⟨_, _, rfl, q h' t tk k⟩) (by rw [← PyData.shownKv_eq]; exact hz)
end
section
variable {X : Cx} {pins : List (Addr × Obj)} {σ : St} {H : Hp} {s : Shared}
theorem keys_rdN (h : Heap) {P : Program} {w : World} {es : List DictEntry} {kvs : List (L2.Key × Value)} (r : Pairs (L2.mixKind P w) es kvs) : RdNs h (es.map (·.key)) (kvs.map fun kv => kD kv.1) := by
  induction r with
  | nil => exact .nil
  | cons k _ _ ih =>
    refine .cons ?_ ih
    rcases L2.keyIs_shape k with ⟨i, t, e1, e2⟩ | ⟨x, t, e1, e2⟩
    · show RdN h (DictEntry.key _) (kD (Prod.fst _))
      rw [e1, e2]; exact .int i t
    · show RdN h (DictEntry.key _) (kD (Prod.fst _))
      rw [e1, e2]; exact .str x t
mutual
theorem Rep.rdN (I : L2.Inv X pins σ H s) : ∀ {d : D} {v : V} {u : Value} {p : PyData}, Rep X.K H d v → RelV v u → toPyR d = some p → RdN s.heap u p
  | _, _, _, _, .non, r, e => by simp only [toPyR, Option.some.injEq] at e; subst e; cases r; exact .non
  | _, _, _, _, .bl b, r, e => by simp only [toPyR, Option.some.injEq] at e; subst e; cases r; exact .bl b
  | _, _, _, _, .int i, r, e => by simp only [toPyR, Option.some.injEq] at e; subst e; obtain ⟨t, rfl⟩ := r; exact .int i t
  | _, _, _, _, .str x, r, e => by simp only [toPyR, Option.some.injEq] at e; subst e; obtain ⟨t, rfl⟩ := r; exact .str x t
  | _, _, _, _, .scr _, _, e => by simp [toPyR] at e
  | _, _, _, _, .set _ _, _, e => by simp [toPyR] at e
  | _, _, _, _, .tup (ds := ds) h q, r, e => by
    simp only [toPyR] at e
    cases e1 : toPyRs ds with
    | none => rw [e1] at e; cases e
    | some ps =>
      rw [e1] at e
      cases e; cases r
      obtain ⟨its, rv, ⟨o, ho, hc, n, hd⟩, _⟩ := I.tuple h
      exact .tuple ho hc hd (Reps.rdN I q rv e1)
  | _, _, _, _, .lst (ds := ds) h q, r, e => by
    simp only [toPyR] at e
    cases e1 : toPyRs ds with
    | none => rw [e1] at e; cases e
    | some ps =>
      rw [e1] at e
      cases e; cases r
      obtain ⟨its, rv, ⟨o, n, ho, hc, _, hd⟩, _⟩ := I.list (.inl h)
      exact .list ho hc hd (Reps.rdN I q rv e1)
  | _, _, _, _, .dic (kvs := kvs) h q, r, e => by
    simp only [toPyR] at e
    cases e1 : toPyRk kvs with
    | none => rw [e1] at e; cases e
    | some ps =>
      rw [e1] at e
      cases e; cases r
      obtain ⟨hz, hsys, ws, kvw, o, es, ep, ho, hex, hd, _, prs, _⟩ := h.ok I.hok
      obtain ⟨e2, e3⟩ := Repk.rdN I q kvw e1
      exact .dict ho hex.1 hd hsys (by rw [e2]; exact keys_rdN _ prs) (by rw [vals_of_pairs prs]; exact e3)
  | _, _, _, _, .dlk (kvs := kvs) h q, r, e => by
    simp only [toPyR] at e
    cases e1 : toPyRk kvs with
    | none => rw [e1] at e; cases e
    | some ps =>
      rw [e1] at e
      cases e; cases r
      obtain ⟨hz, hsys, ws, kvw, o, es, ep, ho, hex, hd, _, prs, _⟩ := (show Rd H _ _ from .inr ⟨_, h⟩).ok I.hok
      obtain ⟨e2, e3⟩ := Repk.rdN I q kvw e1
      exact .dict ho hex.1 hd hsys (by rw [e2]; exact keys_rdN _ prs) (by rw [vals_of_pairs prs]; exact e3)
theorem Reps.rdN (I : L2.Inv X pins σ H s) : ∀ {ds : List D} {vs : List V} {us : List Value} {ps : List PyData}, Reps X.K H ds vs → Vals vs us → toPyRs ds = some ps → RdNs s.heap us ps
  | _, _, _, _, .nil, r, e => by simp only [toPyRs, Option.some.injEq] at e; subst e; cases r; exact .nil
  | _, _, _, _, .cons (d := d) (ds := ds) h q, r, e => by
    simp only [toPyRs] at e
    cases e1 : toPyR d with
    | none => rw [e1] at e; cases e
    | some p =>
      cases e2 : toPyRs ds with
      | none => rw [e1, e2] at e; cases e
      | some ps =>
        rw [e1, e2] at e
        cases e
        cases r with
        | cons r1 r2 => exact .cons (Rep.rdN I h r1 e1) (Reps.rdN I q r2 e2)
theorem Repk.rdN (I : L2.Inv X pins σ H s) : ∀ {kvs : List (L2.Key × D)} {kws : List (L2.Key × V)} {ws : List (L2.Key × Value)} {ps : List (PyData × PyData)}, Repk X.K H kvs kws → L2.KV kws ws → toPyRk kvs = some ps →
    ps.map (·.1) = ws.map (fun kv => kD kv.1) ∧ RdNs s.heap (ws.map (·.2)) (ps.map (·.2))
  | _, _, _, _, .nil, r, e => by simp only [toPyRk, Option.some.injEq] at e; subst e; cases r; exact ⟨rfl, .nil⟩
  | _, _, _, _, .cons (k := k) (d := d) (kvs := kvs) h q, r, e => by
    simp only [toPyRk] at e
    cases e1 : toPyR d with
    | none => rw [e1] at e; cases e
    | some p =>
      cases e2 : toPyRk kvs with
      | none => rw [e1, e2] at e; cases e
      | some ps =>
        rw [e1, e2] at e
        cases e
        cases r with
        | cons r1 r2 =>
          obtain ⟨ek, rv⟩ := r1
          obtain ⟨b0, b1⟩ := Repk.rdN I q r2 e2
          exact ⟨by rw [List.map_cons, List.map_cons, b0, ← ek], .cons (Rep.rdN I h rv e1) b1⟩
end
/-- what may be shown: short enough -/
def canShowA (p : PyData) : Bool := p.showable && decide (p.depth ≤ 60) && decide (p.shown.length ≤ sizeLine)
def gReprA : List D → Option RV
  | [d] => (toPyR d).bind fun p => if canShowA p = true then some (.val (.str p.shown)) else none
  | _ => none
theorem cb_reprA (hu : X.A.units + 64 < cLine) (hg : X.A.guards = some []) : CallR X (.builtin "repr") (rGC X.K gReprA) := by
  intro pins s σ H xs us Q I rx ⟨Hd, ds, z, l, t, eg, q⟩
  rcases ds with _ | ⟨d, _ | ⟨_, _⟩⟩
  · cases eg
  · simp only [gReprA] at eg
    obtain ⟨x, e1, w⟩ := tops1 t
    subst e1
    obtain ⟨u, rfl, ru⟩ : ∃ u, us = [u] ∧ RelV x u := by
      cases rx with | cons r rr => cases rr; exact ⟨_, rfl, r⟩
    cases e3 : toPyR d with
    | none => rw [e3] at eg; cases eg
    | some p =>
      rw [e3] at eg
      by_cases hc : canShowA p = true
      · simp only [Option.bind_some, if_pos hc] at eg
        cases eg
        unfold canShowA at hc
        simp only [Bool.and_eq_true, decide_eq_true_eq] at hc
        obtain ⟨⟨k1, k3⟩, k4⟩ := hc
        exact (Rep.rdN I (w.all l) ru e3).repr k1 hg (by omega) k4 fun h' u tk keep => ⟨.str p.shown, H, I.kept keep, ⟨_, rfl⟩, q _ _ (newR_here l (.str _))⟩
      · simp only [Option.bind_some, if_neg hc] at eg; cases eg
  · cases eg
end
theorem Shw.canA {d : D} {p : PyData} {k N : Nat} (h : Shw d p k N) (hk : k ≤ 60) (hN : N ≤ 2 ^ 20) : canShowA p = true := by
  have h1 : p.shown.length ≤ sizeLine := PyData.shown_fits_bulk (B := 13) (by decide) (by decide) h.l (by have := h.b; omega)
  have h2 := h.dp
  unfold canShowA
  simp only [h.s, Bool.true_and, Bool.and_eq_true, decide_eq_true_eq]
  exact ⟨by omega, h1⟩
/-- small data is shown -/
theorem Shw.repr {d : D} {p : PyData} {k N : Nat} (h : Shw d p k N) (hk : k ≤ 60) (hN : N ≤ 2 ^ 20) : gReprA [d] = some (.val (.str p.shown)) := by
  simp only [gReprA, h.e, Option.bind_some, if_pos (h.canA hk hN)]
end O

/-! Own28: defs that are called while nothing is being shown: repr may be called in them; defs that call themselves -/
namespace O
open PySem
open PyProof.Rows (envOfC AllBare)
open L2 (V Hp HO Rd SqL SqT upd upd_same upd_ne ne_of ne_of_none TE TT TA TS TG TGs TI TO It VK XK Ends St PE PT PW PA PS PSs PG PGs PI PO PTs Cx OpR UnR CallR IxR SlR MtR R2 tOp tUn tVar tC tCons tNil tTup tLst tTest tB tAnd tOr tNot tAndV tOrV tNotV tIf tCB Sp FnOk Gl Vis Loc Room Vals RelV Env0)
structure RoomG (k : Nat) (A : Around) : Prop where
  room : Room k A
  gd : A.guards = some []
theorem RoomG.mono {j k : Nat} {A : Around} (r : RoomG k A) (h : j ≤ k) : RoomG j A := ⟨r.room.mono h, r.gd⟩
theorem RoomG.deeper {k : Nat} {A : Around} (r : RoomG (k + 1) A) (env : PySem.Env) : RoomG k (A.deeper env) := ⟨r.room.deeper env, r.gd⟩
theorem RoomG.units {k : Nat} {A : Around} (r : RoomG k A) : A.units + 64 < cLine := r.room.units
section
variable {P : Program} {w : World} {K : PySem.W.Frag} {mg : Str → Option Value} {base : Heap}
/-- a def's promise where nothing is being shown -/
structure FnG (P : Program) (w : World) (K : PySem.W.Frag) (mg : Str → Option Value) (base : Heap) (k : Nat) (f : Addr) (fd : FuncData) (ps : List Str) (sp : Sp) : Prop where
  ln : ∀ vs H Q E, sp vs H Q E → vs.length = ps.length
  go : ∀ (A : Around) (outer : List PySem.Env) (s : Shared) (H : Hp) (args : Args) (us : List Value) (vs : List V) (Q : VK) (E : XK), RoomG k A → Env0 P w K mg base A outer s H → BindsTo s fd args (ps.zip us) → Vals vs us → sp vs H Q E →
    codeAny (model P w) A (.call (.ref f) args) (L2.CR (L2.CX P w) outer P w H s Q E) s
theorem FnG.none {k m : Nat} {f : Addr} {fd : FuncData} {ps : List Str} (hp : ps.length = m) : FnG P w K mg base k f fd ps (spF K m fun _ => .no) :=
  ⟨fun _ _ _ _ h => by rw [spF_len h, hp], fun _ _ _ _ _ _ _ _ _ _ _ _ _ ⟨_, _, _, _, _, _, h⟩ => h.elim⟩
theorem def_okG {x qual : Str} {st : Stmt} {f : Addr} {fd : FuncData} {N ps : List Str} {k n m : Nat} {g : O.Env → SR} (F : L2.Fun K x qual st f fd) (S : L2.FnScope N ps (L2.defScope st)) (hN : N.length = n) (hp : ps.length = m) (hmn : m ≤ n)
    (hB : ∀ (cdv : Value) (A : Around) (outer : List PySem.Env) (s : Shared) (H : Hp) (E : XK), RoomG k (A.deeper (envOfC qual (L2.defScope st) s.heap.objs.size f cdv)) → ∃ t, JB (bx P w K mg base N qual st f cdv A outer s H E) (fun _ => E) (L2.defBody st) t g) :
    FnG P w K mg base (k + 1) f fd ps (spF K m (runF n g)) := by
  obtain ⟨oc, od, kV, doc, pm, an, cdv, ct, osl, rfl, look, code⟩ := F.ex
  refine ⟨fun _ _ _ _ h => by rw [spF_len h, hp], fun A outer s H args us vs Q E room e0 bind rel prom => ?_⟩
  have many : vs.length = ps.length := by rw [spF_len prom, hp]
  have inK : K.In s.heap := e0.mod.kin.keeps fun b o h => (e0.bs b o h).1
  have free : s.heap.NoLimit := e0.mod.nolimit.keeps fun b o h => (e0.bs b o h).1
  have kinds : ∀ y ∈ ps.zip us, (L2.defScope st).names.lookup y.1 = some .local ∨ ((L2.defScope st).names.lookup y.1 = some .cell ∧ ((cellsFrom (s.heap.objs.size + 1) (L2.defScope st).names []).lookup y.1).isSome = true) := by
    rintro ⟨x, z⟩ hy
    refine (S.par x (List.of_mem_zip hy).1).imp_right fun c => ⟨c, ?_⟩
    exact PySem.W.cellsFrom_some _ _ _ (Or.inl c)
  refine codeAny_call_function room.room.depth (inK _ _ look) rfl S.co S.gen rfl (PySem.W.codeRec_of inK code) (bind _ _ _ _ (?_))
  refine wpAny_newFunctionEnv_cells S.kind kinds fun env he s1 laid => (?_)
  subst he
  refine ⟨free.keeps laid.toInCall.keep, codeAny_func (?_)⟩
  obtain ⟨t, jb⟩ := hB cdv A outer s H E (room.deeper _)
  have start := L2.inv_start (CX := L2.CX P w) (E := E) S room.room.hd e0 many rel laid
  have goal := jb.pss.run [] s1 _ H _ start (body_ok hN hmn jb.ss prom)
  refine wpAny_mono goal (fun fl s' done => ?_) fun e s' out => out
  cases fl with
  | brk => exact done.elim fun _ q => q.elim fun _ q => q.2.elim
  | cont => exact done.elim fun _ q => q.elim fun _ q => q.2.elim
  | ret z =>
    obtain ⟨y, τ, G, J, rz, hq⟩ := done
    exact ⟨y, G, J.os, J.bare, J.base, J.hok, rz, hq⟩
  | next =>
    obtain ⟨τ, G, J, hq⟩ := done
    exact ⟨.non, G, J.os, J.bare, J.base, J.hok, rfl, hq⟩
structure CalG (P : Program) (w : World) (K : PySem.W.Frag) (mg : Str → Option Value) (base : Heap) (x : Str) (k n : Nat) (ps : List Str) (F : List Ar → FO) : Prop where
  ex : ∃ (fA : Addr) (fd : FuncData), FnG P w K mg base k fA fd ps (spF K n F) ∧ mg x = some (.ref fA) ∧ PySem.W.keepIn K (.ref fA) = true ∧ L2.Binds K fd ps []
theorem cal_ofG {x : Str} {fA : Addr} {fd : FuncData} {ps N : List Str} {k n m : Nat} {st : Stmt} {g : O.Env → SR} (F : L2.Fun K x x st fA fd) (S : L2.FnScope N ps (L2.defScope st)) (gm : mg x = some (.ref fA)) (hN : N.length = n) (hp : ps.length = m) (hmn : m ≤ n) (hb : L2.Binds K fd ps [])
    (hB : ∀ (cdv : Value) (A : Around) (outer : List PySem.Env) (s : Shared) (H : Hp) (E : XK), RoomG k (A.deeper (envOfC x (L2.defScope st) s.heap.objs.size fA cdv)) → ∃ t, JB (bx P w K mg base N x st fA cdv A outer s H E) (fun _ => E) (L2.defBody st) t g) :
    CalG P w K mg base x (k + 1) m ps (runF n g) := ⟨⟨fA, fd, def_okG F S hN hp hmn hB, gm, F.kp, hb⟩⟩
theorem cal_none {x : Str} {fA : Addr} {fd : FuncData} {ps : List Str} {k m : Nat} {st : Stmt} (F : L2.Fun K x x st fA fd) (gm : mg x = some (.ref fA)) (hp : ps.length = m) (hb : L2.Binds K fd ps []) : CalG P w K mg base x k m ps (fun _ => .no) := ⟨⟨fA, fd, .none hp, gm, F.kp, hb⟩⟩
end
section
variable {X : Cx} {W : St → XK} {e : Expr} {es : List Expr} {pos p : Pos} {t : TA} {f : O.Env → Res (List RV)}
theorem pe_callG {x : Str} {k : Nat} {fA : Addr} {fd : FuncData} {ps : List Str} {sp : Sp} {dvs : List V} {ds : List Value} {E : St → XK} (F : FnG X.prog X.w X.K X.mg X.base k fA fd ps sp) (hr : RoomG k X.A) (hg : Gl X x) (hm : X.mg x = some (.ref fA)) (hk : PySem.W.keepIn X.K (.ref fA) = true) (hb : L2.Binds X.K fd ps ds) (hd : Vals dvs ds) (tk : ∀ σ, L2.PassesAt (L2.CX X.prog X.w) X σ (E σ))
    (ha : PA X (e :: es) t) (hdb : (x == ("__debug__" : Str)) = false := by decide) (he : starEach (e :: es) X.env = (false, eval e X.env) :: starEach es X.env := by rfl) (hpl : (backTo pos (starEach es X.env)).any (·.1) = false := by rfl) :
    PE X (.Call (.Name x p) (e :: es) [] pos) (L2.tCallSD sp dvs E t) := ⟨fun pins s σ H Q I h => by
  refine wpAny_Call_Name_kw (L2.ld_glob I hg hm ?_ hdb)
  refine PySem.W.callWith_K I.ok.mod.kin hk (L2.thn (ha.run pos pins s σ H _ I h) fun us s1 ⟨vs, H1, I1, r, q⟩ => ⟨I1.kIn, ?_⟩) he hpl
  have rr := r.append hd
  have many : (us ++ ds).length = ps.length := by rw [← rr.length]; exact F.ln _ _ _ _ q
  refine wpAny_call (codeAny_mono (F.go X.A X.stack s1 H1 ⟨us, []⟩ (us ++ ds) (vs ++ dvs) Q (E σ) hr I1.env0 (hb s1 us I1.kIn many) rr q) fun r s' hq => ?_)
  rcases r with e | fl
  · exact tk σ pins H1 s1 e s' I1 hq
  · cases fl with
    | ret u => exact I1.after hq
    | next => exact hq.elim
    | brk => exact hq.elim
    | cont => exact hq.elim⟩
theorem jcalG {K : PySem.W.Frag} {x : Str} {k j n : Nat} {ps : List Str} {F : List Ar → FO} (ms : List Md) (c : CalG X.prog X.w X.K X.mg X.base x k n ps F) (hr : RoomG j X.A) (tk : ∀ σ, L2.PassesAt (L2.CX X.prog X.w) X σ (W σ)) (ha : JA X W (e :: es) t f) (hj : k ≤ j := by first | decide | omega) (hl : ms.length = n := by rfl) (hg : Gl X x := by rfl)
    (hdb : (x == ("__debug__" : Str)) = false := by decide) (he : starEach (e :: es) X.env = (false, eval e X.env) :: starEach es X.env := by rfl) (hpl : (backTo pos (starEach es X.env)).any (·.1) = false := by rfl) (hK : X.K = K := by rfl) :
    JE X W (.Call (.Name x p) (e :: es) [] pos) (L2.tCallSD (spF K n F) [] W t) (fCall ms [] F f) := by
  subst hK
  obtain ⟨fA, fd, h1, h2, h3, h4⟩ := c.ex
  exact ⟨pe_callG h1 (hr.mono hj) hg h2 h3 h4 .nil tk ha.pa hdb he hpl, sd_call hl (fun _ => .nil) ha.sa⟩
end
/-- {} -/
def fDict0 : O.Env → Res RV := fun ρ => .ok (.own (.dic [])) ρ
@[simp] theorem u_fDict0 {ρ : O.Env} : fDict0 ρ = .ok (.own (.dic [])) ρ := id rfl
section
variable {X : Cx} {W : St → XK} {pos : Pos}
theorem jdict0 : JE X W (.Dict [] [] pos) L2.tDNewK fDict0 := ⟨L2.pe_dnewK, fun C fp Hd H σ ρ I Q p q hq => p.new I (newR_dic I.le hq .nil)⟩
end
section
variable {P : Program} {w : World} {K : PySem.W.Frag} {mg : Str → Option Value} {base : Heap} {N : List Str} {st : Stmt} {f : Addr} {fd : FuncData}
/-- one run of the law's def -/
theorem law_runG {k n : Nat} {g : O.Env → SR} {s : Shared} {H : Hp} {v : V} {u : Value} {Q : VK} {E : XK} (F : L2.Fun K "law" "law" st f fd) (S : L2.FnScope N ["script"] (L2.defScope st)) (hN : N.length = n) (hn : 1 ≤ n) (room : Room (k + 1) callerA)
    (hB : ∀ (cdv : Value) (A : Around) (outer : List PySem.Env) (s : Shared) (H : Hp) (E : XK), RoomG k (A.deeper (envOfC "law" (L2.defScope st) s.heap.objs.size f cdv)) → ∃ t, JB (bx P w K mg base N "law" st f cdv A outer s H E) (fun _ => E) (L2.defBody st) t g)
    (e0 : Env0 P w K mg base callerA [] s H) (bind : BindsTo s fd ⟨[u], []⟩ [("script", u)]) (rel : RelV v u) (prom : spF K 1 (runF n g) [v] H Q E) :
    codeAny (model P w) callerA (.call (.ref f) ⟨[u], []⟩) (L2.CR (L2.CX P w) [] P w H s Q E) s :=
  (def_okG F S hN rfl hn hB).go callerA [] s H _ [u] [v] Q E ⟨room, rfl⟩ e0 bind (.cons rel .nil) prom
end
end O

/-! Own29: equality with the empty tuple and the empty list, whatever stands in the other -/
namespace O
open PySem
open L2 (V Hp HO Rd SqL SqT VK XK St TE TA Cx Sp FnOk Room Vals RelV OpR CallR)
def eqE : D → D → Option Bool
  | .tup ds, .tup [] => some ds.isEmpty
  | .lst ds, .lst [] => some ds.isEmpty
  | d, e => eqS d e
def gEqE (d e : D) : Option RV := (eqE d e).map fun b => .val (.bl b)
def gNeE (d e : D) : Option RV := (eqE d e).map fun b => .val (.bl (!b))
theorem eqE_cases (d e : D) : (∃ ds, d = .tup ds ∧ e = .tup [] ∧ eqE d e = some ds.isEmpty) ∨ (∃ ds, d = .lst ds ∧ e = .lst [] ∧ eqE d e = some ds.isEmpty) ∨ eqE d e = eqS d e := by
  cases d with
  | tup ds => cases e with
    | tup es => cases es with
      | nil => exact .inl ⟨_, rfl, rfl, rfl⟩
      | cons _ _ => exact .inr (.inr rfl)
    | _ => exact .inr (.inr rfl)
  | lst ds => cases e with
    | lst es => cases es with
      | nil => exact .inr (.inl ⟨_, rfl, rfl, rfl⟩)
      | cons _ _ => exact .inr (.inr rfl)
    | _ => exact .inr (.inr rfl)
  | _ => exact .inr (.inr rfl)
section
variable {X : Cx}
theorem reps_nil {K : PySem.W.Frag} {H : Hp} {vs : List V} (r : Reps K H [] vs) : vs = [] := by cases r; rfl
theorem uals_nil {us : List Value} (r : Vals [] us) : us = [] := by cases r; rfl
theorem emp_size {K : PySem.W.Frag} {Hd : Hp} {ds : List D} {vs : List V} {us : List Value} (r : Reps K Hd ds vs) (q : Vals vs us) : us.length = ds.length := by rw [← q.length, r.length]
theorem op_gEqE (hu : X.A.units + 64 < cLine) : OpR X (compareOp .Eq) (rG X.K gEqE) := by
  intro pins s σ H x y v u Q I rx ry ⟨Hd, d1, d2, z, l, t1, t2, eg, q⟩
  rcases eqE_cases d1 d2 with ⟨ds, rfl, rfl, h⟩ | ⟨ds, rfl, rfl, h⟩ | h
  · cases eg
    obtain ⟨a, xs, rfl, h1, r1⟩ := t1.tupD l
    obtain ⟨b, ys, rfl, h2, r2⟩ := t2.tupD l
    cases reps_nil r2
    cases (show v = Value.ref a from rx)
    cases (show u = Value.ref b from ry)
    obtain ⟨us, p1, k1, _⟩ := I.tuple h1
    obtain ⟨ws, p2, k2, _⟩ := I.tuple h2
    cases uals_nil p2
    have e1 := emp_size r1 p1
    refine SeqAt.eq_tupleAt (e := fun _ => true) k1 k2 (by omega) (fun j _ z => (by simp at z)) ⟨.bl ds.isEmpty, H, I, ?_, q _ _ (newR_here l (.bl _))⟩
    show Value.bool _ = Value.bool _
    congr 1
    cases ds with
    | nil => simp at e1; subst e1; rfl
    | cons d ds => cases us with
      | nil => simp at e1
      | cons _ _ => rfl
  · cases eg
    obtain ⟨a, xs, rfl, h1, r1⟩ := t1.lstD l
    obtain ⟨b, ys, rfl, h2, r2⟩ := t2.lstD l
    cases reps_nil r2
    cases (show v = Value.ref a from rx)
    cases (show u = Value.ref b from ry)
    obtain ⟨us, p1, k1, _⟩ := I.list (.inl h1)
    obtain ⟨ws, p2, k2, _⟩ := I.list (.inl h2)
    cases uals_nil p2
    have e1 := emp_size r1 p1
    cases ds with
    | nil =>
      simp at e1; subst e1
      exact SeqAt.eq_listAt (e := fun _ => true) k1.isList k2.isList rfl (by omega) (fun j z _ => (by simp at z)) ⟨.bl true, H, I, rfl, q _ _ (newR_here l (.bl _))⟩
    | cons d ds => cases us with
      | nil => simp at e1
      | cons _ _ => exact SeqAt.eq_list_lengthsAt k1.isList k2.isList (by simp) (by omega) ⟨.bl false, H, I, rfl, q _ _ (newR_here l (.bl _))⟩
  · unfold gEqE at eg
    rw [h] at eg
    exact op_gEqS hu pins s σ H x y v u Q I rx ry ⟨Hd, d1, d2, z, l, t1, t2, eg, q⟩
theorem op_gNeE (hu : X.A.units + 64 < cLine) : OpR X (compareOp .NotEq) (rG X.K gNeE) := by
  intro pins s σ H x y v u Q I rx ry ⟨Hd, d1, d2, z, l, t1, t2, eg, q⟩
  rcases eqE_cases d1 d2 with ⟨ds, rfl, rfl, h⟩ | ⟨ds, rfl, rfl, h⟩ | h
  · cases eg
    obtain ⟨a, xs, rfl, h1, r1⟩ := t1.tupD l
    obtain ⟨b, ys, rfl, h2, r2⟩ := t2.tupD l
    cases reps_nil r2
    cases (show v = Value.ref a from rx)
    cases (show u = Value.ref b from ry)
    obtain ⟨us, p1, k1, _⟩ := I.tuple h1
    obtain ⟨ws, p2, k2, _⟩ := I.tuple h2
    cases uals_nil p2
    have e1 := emp_size r1 p1
    refine SeqAt.RcNeAt.tuples (e := fun _ => true) k1 k2 (by omega) (fun j _ z => (by simp at z)) _ _ _ _ ⟨.bl (!ds.isEmpty), H, I, ?_, q _ _ (newR_here l (.bl _))⟩
    show Value.bool _ = Value.bool _
    congr 1
    cases ds with
    | nil => simp at e1; subst e1; rfl
    | cons d ds => cases us with
      | nil => simp at e1
      | cons _ _ => rfl
  · cases eg
    obtain ⟨a, xs, rfl, h1, r1⟩ := t1.lstD l
    obtain ⟨b, ys, rfl, h2, r2⟩ := t2.lstD l
    cases reps_nil r2
    cases (show v = Value.ref a from rx)
    cases (show u = Value.ref b from ry)
    obtain ⟨us, p1, k1, _⟩ := I.list (.inl h1)
    obtain ⟨ws, p2, k2, _⟩ := I.list (.inl h2)
    cases uals_nil p2
    have e1 := emp_size r1 p1
    cases ds with
    | nil =>
      simp at e1; subst e1
      exact SeqAt.RcNeAt.lists (e := fun _ => true) k1.isList k2.isList rfl (by omega) (fun j z _ => (by simp at z)) _ _ _ _ ⟨.bl false, H, I, rfl, q _ _ (newR_here l (.bl _))⟩
    | cons d ds => cases us with
      | nil => simp at e1
      | cons _ _ => exact SeqAt.RcNeAt.lists_lengths k1.isList k2.isList (by simp) (by omega) _ _ _ _ ⟨.bl true, H, I, rfl, q _ _ (newR_here l (.bl _))⟩
  · unfold gNeE at eg
    rw [h] at eg
    exact op_gNeS hu pins s σ H x y v u Q I rx ry ⟨Hd, d1, d2, z, l, t1, t2, eg, q⟩
end
@[simp] theorem eqE_ii (i j : Int) : eqE (.int i) (.int j) = some (decide (i = j)) := eqB_int i j
@[simp] theorem eqE_ss (a b : Str) : eqE (.str a) (.str b) = some (decide (a = b)) := id rfl
@[simp] theorem eqE_bb (a b : Bool) : eqE (.bl a) (.bl b) = some (a == b) := by cases a <;> cases b <;> rfl
@[simp] theorem eqE_t0 (ds : List D) : eqE (.tup ds) (.tup []) = some ds.isEmpty := id rfl
@[simp] theorem eqE_l0 (ds : List D) : eqE (.lst ds) (.lst []) = some ds.isEmpty := id rfl
theorem eqE_ll (a b : List Int) : eqE (.lst (a.map .int)) (.lst (b.map .int)) = some (decide (a = b)) := by
  cases b with
  | nil => cases a <;> simp
  | cons j b => exact eqB_lst a (j :: b)
@[simp] theorem gEqE_some {d e : D} {b : Bool} (h : eqE d e = some b) : gEqE d e = some (.val (.bl b)) := by simp [gEqE, h]
@[simp] theorem gNeE_some {d e : D} {b : Bool} (h : eqE d e = some b) : gNeE d e = some (.val (.bl (!b))) := by simp [gNeE, h]
end O

/-! Own30: what the plain texts about the deck of draws share -/
namespace O
open PySem
@[simp] theorem gSubX_ii {i j : Int} : gSubX (.int i) (.int j) = some (.val (.int (i - j))) := id rfl
@[simp] theorem gSubX_bb {a b : Bool} : gSubX (.bl a) (.bl b) = some (.val (.int (nB a - nB b))) := id rfl
@[simp] theorem gLtT_ii {i j : Int} : gLtT (.int i) (.int j) = some (.val (.bl (decide (i < j)))) := id rfl
@[simp] theorem gGtT_ii {i j : Int} : gGtT (.int i) (.int j) = some (.val (.bl (decide (j < i)))) := id rfl
@[simp] theorem gLtT_tt {a b : List Int} : gLtT (.tup (a.map .int)) (.tup (b.map .int)) = some (.val (.bl (HT.lexLt a b))) := by simp [gLtT]
@[simp] theorem gGtT_tt {a b : List Int} : gGtT (.tup (a.map .int)) (.tup (b.map .int)) = some (.val (.bl (HT.lexLt b a))) := by simp [gGtT]
@[simp] theorem eqS_ii (i j : Int) : eqS (.int i) (.int j) = some (decide (i = j)) := eqB_int i j
@[simp] theorem eqS_ll (a b : List Int) : eqS (.lst (a.map .int)) (.lst (b.map .int)) = some (decide (a = b)) := eqB_lst a b
@[simp] theorem eqS_ss (a b : Str) : eqS (.str a) (.str b) = some (decide (a = b)) := id rfl
theorem atI_ok {α : Type} {l : List α} {r : Int} (h0 : 0 ≤ r) (h1 : r.toNat < l.length) : L2.atI l r = some l[r.toNat] := by
  obtain ⟨k, rfl⟩ := Int.eq_ofNat_of_zero_le h0
  have hk : k < l.length := by simpa using h1
  rw [L2.atI_nat (j := k) (List.getElem?_eq_getElem hk)]
  simp
theorem sub_len : ∀ {L F : List Int}, L.Nodup → (∀ x ∈ L, x ∈ F) → L.length ≤ F.length
  | [], _, _, _ => by simp
  | x :: L, F, h, hs => by
    have hx : x ∈ F := hs x (by simp)
    have h1 := List.nodup_cons.mp h
    have ih := sub_len (L := L) (F := F.erase x) h1.2 fun y hy => by
      have hne : y ≠ x := fun e => h1.1 (e ▸ hy)
      exact (List.mem_erase_of_ne hne).mpr (hs y (by simp [hy]))
    rw [List.length_erase_of_mem hx] at ih
    have : 0 < F.length := List.length_pos_of_mem hx
    rw [List.length_cons]
    omega
def nxt (n : Int) (j : Nat) : Int := (n - 1 + (j : Int)) % 1000000 + 1
theorem free_id {n : Int} (h1 : 1 ≤ n) (h2 : n ≤ 1000000) {F : List Int} (hF : F.length < 4000) : ∃ j, j ≤ F.length ∧ nxt n j ∉ F := by
  apply Classical.byContradiction
  intro hc
  have all : ∀ x ∈ (List.range (F.length + 1)).map (nxt n), x ∈ F := fun x hx => by
    obtain ⟨j, hj, rfl⟩ := List.mem_map.mp hx
    apply Classical.byContradiction
    intro hn
    exact hc ⟨j, by have := List.mem_range.mp hj; omega, hn⟩
  have nd : ((List.range (F.length + 1)).map (nxt n)).Nodup := List.pairwise_iff_getElem.mpr fun i j hi hj hij => by
    simp only [List.length_map, List.length_range] at hi hj
    simp only [List.getElem_map, List.getElem_range, nxt]
    omega
  have := sub_len nd all
  simp at this
  omega
structure Good (d m : Int) : Prop where
  d0 : 0 ≤ d
  m0 : 0 ≤ m
  m1 : m < 4294967296
structure Ids (ids : List Int) : Prop where
  nd : ids.Nodup
  rg : ∀ n ∈ ids, 1 ≤ n ∧ n ≤ 1000000
theorem bits_sum {z m : Int} {n : Nat} (hz : Builtin.Int.intBits z ≤ n) (hn : 64 ≤ n) (h0 : 0 ≤ m) (h1 : m < 4294967296) : Builtin.Int.intBits (m * 20011 + z * z + 13) ≤ n + n + 1 := by
  apply PyProof.Rows.intBits_le
  have a : z.natAbs < 2 ^ n := Nat.lt_of_lt_of_le (PyProof.Rows.natAbs_lt_pow_bits z) (Nat.pow_le_pow_right (by omega) hz)
  have b : z.natAbs * z.natAbs < 2 ^ n * 2 ^ n := Nat.mul_lt_mul'' a a
  rw [← Nat.pow_add] at b
  have c : (2 : Nat) ^ 64 ≤ 2 ^ (n + n) := Nat.pow_le_pow_right (by omega) (by omega)
  have c' : (2 : Nat) ^ 64 = 18446744073709551616 := by decide
  have e : (z * z).natAbs = z.natAbs * z.natAbs := Int.natAbs_mul z z
  have f : (2 : Nat) ^ (n + n + 1) = 2 ^ (n + n) * 2 := Nat.pow_succ ..
  rw [f]
  generalize (2 : Nat) ^ (n + n) = P at *
  generalize z * z = w at *
  omega
theorem map_erase : ∀ (l : List Int) (q : Nat), (l.map D.int).eraseIdx q = (l.eraseIdx q).map .int
  | [], _ => by simp
  | x :: l, 0 => rfl
  | x :: l, q + 1 => by simp [map_erase l q]
theorem erase_perm : ∀ (l : List Int) (q : Nat) (h : q < l.length), (l[q] :: l.eraseIdx q).Perm l
  | x :: l, 0, _ => List.Perm.refl _
  | x :: l, q + 1, h => by
    have ih := erase_perm l q (by simpa using h)
    simp only [List.getElem_cons_succ, List.eraseIdx_cons_succ]
    exact (List.Perm.swap x _ _).trans (List.Perm.cons x ih)
def somes : List Int := [0, 0, 1, 1, 2, 3, -1, -2, 1000000000, -1000000000]
theorem ix_row (fs : List Int) {z : Int} (h0 : 0 ≤ z) (h1 : z < fs.length) : gIx (.tup (fs.map .int)) (.int z) = some (.val (.int (fs.getD z.toNat 0))) := by
  have hz : z.toNat < fs.length := by omega
  have e : L2.atI fs z = some fs[z.toNat] := atI_ok h0 hz
  simp only [gIx, atI_map, e, Option.map_some]
  rw [List.getD_eq_getElem?_getD, List.getElem?_eq_getElem hz]
  rfl
theorem pop_nat (l : List D) (k : Nat) (h : k < l.length) (hz : l.length < 1000000) : gPopAt l [.int (k : Int)] = some (l.eraseIdx k, l[k]) := by
  have hi : -(2 ^ 63) ≤ (k : Int) ∧ (k : Int) < 2 ^ 63 := by omega
  have hs : seqIndex? (k : Int) l.length = some k := by
    unfold seqIndex?
    have h1 : ¬ (k : Int) < 0 := by omega
    have h2 : (0 : Int) ≤ k := by omega
    have h3 : (k : Int) < l.length := by omega
    simp [h1, h2, h3]
  simp only [gPopAt, if_pos hi, hs, List.getElem?_eq_getElem h, Option.map_some]
theorem ten9 : gPow (.int 10) (.int 9) = some (.val (.int 1000000000)) := by
  have b : Builtin.Int.intBits 10 ≤ 4 := PyProof.Rows.intBits_le (by decide)
  have := gPow_ii (i := 10) 9 (by omega)
  exact this
theorem at0 (x y : D) : gIx (.tup [x, y]) (.int 0) = some (.val x) := by
  simp only [gIx]
  rw [show (0 : Int) = ((0 : Nat) : Int) from rfl, L2.atI_nat (j := 0) (v := x) rfl]
  rfl
theorem at1 (x y : D) : gIx (.tup [x, y]) (.int 1) = some (.val y) := by
  simp only [gIx]
  rw [show (1 : Int) = ((1 : Nat) : Int) from rfl, L2.atI_nat (j := 1) (v := y) rfl]
  rfl
theorem ix_lst (fs : List Int) {z : Int} (h0 : 0 ≤ z) (h1 : z < fs.length) : gIx (.lst (fs.map .int)) (.int z) = some (.val (.int (fs.getD z.toNat 0))) := by
  have hz : z.toNat < fs.length := by omega
  have e : L2.atI fs z = some fs[z.toNat] := atI_ok h0 hz
  simp only [gIx, atI_map, e, Option.map_some]
  rw [List.getD_eq_getElem?_getD, List.getElem?_eq_getElem hz]
  rfl
theorem cut_low (l : List Int) (p : Nat) : cutD (l.map D.int) none (some (p : Int)) = (l.take p).map D.int := by
  unfold cutD
  rw [HT.sIx_none, HT.sIx_nat, List.drop_zero, List.map_take, Nat.sub_zero]
  rcases Nat.le_total p (l.map D.int).length with h | h
  · rw [Nat.min_eq_left h]
  · rw [Nat.min_eq_right h, List.take_of_length_le (Nat.le_refl _), List.take_of_length_le h]
def oneTo (n : Nat) : List Int := (List.range n).map fun (i : Nat) => 1 + (i : Int)
theorem oneTo_D (n : Nat) : rngD 1 n = (oneTo n).map .int := by unfold rngD oneTo; rw [List.map_map]; rfl
theorem oneTo_mem {n : Nat} {z : Int} (h : z ∈ oneTo n) : 1 ≤ z ∧ z ≤ n := by
  unfold oneTo at h
  obtain ⟨i, hi, rfl⟩ := List.mem_map.mp h
  have := List.mem_range.mp hi
  omega
@[simp] theorem emp_dec (l : List Int) : l.isEmpty = decide (l = []) := by cases l <;> simp
end O

/-! Own31: fine data: it can be shown and typed; its depth and its size -/
namespace O
open PySem
def intOk (i : Int) : Bool := decide ((PyData.shown (.int i)).length ≤ 100) && decide (i.natAbs.log2 < 1920)
def strOk (x : Str) : Bool := x.cps.toList.all fun c => decide (c < 16 ^ 8)
def keyOk : L2.Key → Bool
  | .inl i => intOk i
  | .inr x => strOk x
mutual
def fineD : D → Bool
  | .non => true
  | .bl _ => true
  | .int i => intOk i
  | .str x => strOk x
  | .tup ds => fineDs ds
  | .lst ds => fineDs ds
  | .dic kvs => fineDk kvs
  | .dlk kvs => fineDk kvs
  | .scr _ => false
  | .set _ => false
def fineDs : List D → Bool
  | [] => true
  | d :: ds => fineD d && fineDs ds
def fineDk : List (L2.Key × D) → Bool
  | [] => true
  | (k, d) :: ds => keyOk k && fineD d && fineDk ds
end
mutual
def pyD : D → PyData
  | .non => .none
  | .bl b => .bool b
  | .int i => .int i
  | .str x => .str x
  | .tup ds => .tuple (pyDs ds)
  | .lst ds => .list (pyDs ds)
  | .dic kvs => .dict (pyDk kvs)
  | .dlk kvs => .dict (pyDk kvs)
  | .scr _ => .none
  | .set _ => .none
def pyDs : List D → List PyData
  | [] => []
  | d :: ds => pyD d :: pyDs ds
def pyDk : List (L2.Key × D) → List (PyData × PyData)
  | [] => []
  | (k, d) :: ds => (kD k, pyD d) :: pyDk ds
end
theorem int_small {i : Int} (h : smallI i) : intOk i = true := by
  unfold intOk
  have := PyData.shown_int_le2 h.1 h.2
  simp only [Bool.and_eq_true, decide_eq_true_eq]
  exact ⟨by omega, log_small h⟩
mutual
theorem fine_py : ∀ {d : D}, fineD d = true → toPyR d = some (pyD d) ∧ (pyD d).showable = true ∧ (pyD d).leavesShort 100 = true
  | .non, _ => ⟨rfl, rfl, rfl⟩
  | .bl _, _ => ⟨rfl, rfl, rfl⟩
  | .int i, h => by
    simp only [fineD, intOk, Bool.and_eq_true, decide_eq_true_eq] at h
    exact ⟨rfl, by simp [pyD, PyData.showable, h.2], by simp [pyD, PyData.leavesShort, h.1]⟩
  | .str x, h => ⟨rfl, rfl, by simpa [fineD, strOk, pyD, PyData.leavesShort] using h⟩
  | .tup ds, h => by
    obtain ⟨a, b, c⟩ := fine_pys (ds := ds) (by simpa [fineD] using h)
    exact ⟨by simp [toPyR, a, pyD], by simpa [pyD, PyData.showable] using b, by simpa [pyD, PyData.leavesShort] using c⟩
  | .lst ds, h => by
    obtain ⟨a, b, c⟩ := fine_pys (ds := ds) (by simpa [fineD] using h)
    exact ⟨by simp [toPyR, a, pyD], by simpa [pyD, PyData.showable] using b, by simpa [pyD, PyData.leavesShort] using c⟩
  | .dic ds, h => by
    obtain ⟨a, b, c⟩ := fine_pyk (ds := ds) (by simpa [fineD] using h)
    exact ⟨by simp [toPyR, a, pyD], by simpa [pyD, PyData.showable] using b, by simpa [pyD, PyData.leavesShort] using c⟩
  | .dlk ds, h => by
    obtain ⟨a, b, c⟩ := fine_pyk (ds := ds) (by simpa [fineD] using h)
    exact ⟨by simp [toPyR, a, pyD], by simpa [pyD, PyData.showable] using b, by simpa [pyD, PyData.leavesShort] using c⟩
  | .scr _, h => by simp [fineD] at h
  | .set _, h => by simp [fineD] at h
theorem fine_pys : ∀ {ds : List D}, fineDs ds = true → toPyRs ds = some (pyDs ds) ∧ PyData.showableAll (pyDs ds) = true ∧ PyData.leavesShortAll 100 (pyDs ds) = true
  | [], _ => ⟨rfl, rfl, rfl⟩
  | d :: ds, h => by
    simp only [fineDs, Bool.and_eq_true] at h
    obtain ⟨a, b, c⟩ := fine_py h.1
    obtain ⟨a', b', c'⟩ := fine_pys h.2
    exact ⟨by simp [toPyRs, a, a', pyDs], by simp [pyDs, PyData.showableAll, b, b'], by simp [pyDs, PyData.leavesShortAll, c, c']⟩
theorem fine_pyk : ∀ {ds : List (L2.Key × D)}, fineDk ds = true → toPyRk ds = some (pyDk ds) ∧ PyData.showableKv (pyDk ds) = true ∧ PyData.leavesShortKv 100 (pyDk ds) = true
  | [], _ => ⟨rfl, rfl, rfl⟩
  | (k, d) :: ds, h => by
    simp only [fineDk, Bool.and_eq_true] at h
    obtain ⟨a, b, c⟩ := fine_py h.1.2
    obtain ⟨a', b', c'⟩ := fine_pyk h.2
    have hk : (kD k).showable = true ∧ (kD k).leavesShort 100 = true := by
      cases k with
      | inl i =>
        have hi := h.1.1
        simp only [keyOk, intOk, Bool.and_eq_true, decide_eq_true_eq] at hi
        exact ⟨by simp [kD, PyData.showable, hi.2], by simp [kD, PyData.leavesShort, hi.1]⟩
      | inr x =>
        have hi := h.1.1
        simp only [keyOk, strOk] at hi
        exact ⟨by simp [kD, PyData.showable], by simpa [kD, PyData.leavesShort] using hi⟩
    exact ⟨by simp [toPyRk, a, a', pyDk], by simp [pyDk, PyData.showableKv, b, b', hk.1], by simp [pyDk, PyData.leavesShortKv, c, c', hk.2]⟩
end
def dpD (d : D) : Nat := (pyD d).depth
def bkD (d : D) : Nat := (pyD d).bulk
/-- fine data is shown -/
theorem fine_repr {d : D} (h : fineD d = true) (hk : dpD d ≤ 60) (hb : bkD d ≤ 100000) : gReprA [d] = some (.val (.str (pyD d).shown)) := by
  obtain ⟨a, b, c⟩ := fine_py h
  have k := PyData.shown_le_bulk 100 (by decide) (pyD d) c
  have hz : (pyD d).shown.length ≤ sizeLine := by
    have e : sizeLine = 16777216 ∨ 15728653 ≤ sizeLine := .inr (by have := sizeLine_eq; omega)
    have : (pyD d).bulk ≤ 100000 := hb
    have : (100 + 2) * (pyD d).bulk ≤ 102 * 100000 := Nat.mul_le_mul (by omega) this
    omega
  have hd : (pyD d).depth ≤ 60 := hk
  simp only [gReprA, a, Option.bind_some]
  rw [if_pos]
  simp [canShowA, b, hd, hz]
/-! parts -/
theorem fine_all {ds : List D} : fineDs ds = true ↔ ∀ d ∈ ds, fineD d = true := by
  induction ds with
  | nil => simp [fineDs]
  | cons d ds ih => simp [fineDs, ih]
def dpDs (ds : List D) : Nat := PyData.depthAll (pyDs ds)
def bkDs (ds : List D) : Nat := PyData.bulkAll (pyDs ds)
theorem dp_tup (ds : List D) : dpD (.tup ds) = dpDs ds + 1 := by simp [dpD, pyD, PyData.depth, dpDs]
theorem dp_lst (ds : List D) : dpD (.lst ds) = dpDs ds + 1 := by simp [dpD, pyD, PyData.depth, dpDs]
theorem bk_tup (ds : List D) : bkD (.tup ds) = bkDs ds := by simp [bkD, pyD, PyData.bulk, bkDs]
theorem bk_lst (ds : List D) : bkD (.lst ds) = bkDs ds := by simp [bkD, pyD, PyData.bulk, bkDs]
theorem dp_nil : dpDs [] = 0 := rfl
theorem bk_nil : bkDs [] = 0 := rfl
theorem dp_cons (d : D) (ds : List D) : dpDs (d :: ds) = max (dpD d) (dpDs ds) := by simp [dpDs, pyDs, PyData.depthAll, dpD]
theorem bk_cons (d : D) (ds : List D) : bkDs (d :: ds) = bkD d + 1 + bkDs ds := by simp [bkDs, pyDs, PyData.bulkAll, bkD]
theorem dp_app (a b : List D) : dpDs (a ++ b) = max (dpDs a) (dpDs b) := by
  induction a with
  | nil => simp [dp_nil]
  | cons d a ih => rw [List.cons_append, dp_cons, dp_cons, ih]; omega
theorem bk_app (a b : List D) : bkDs (a ++ b) = bkDs a + bkDs b := by
  induction a with
  | nil => simp [bk_nil]
  | cons d a ih => rw [List.cons_append, bk_cons, bk_cons, ih]; omega
theorem dp_take (n : Nat) (ds : List D) : dpDs (ds.take n) ≤ dpDs ds := by
  have := dp_app (ds.take n) (ds.drop n)
  rw [List.take_append_drop] at this
  omega
theorem dp_drop (n : Nat) (ds : List D) : dpDs (ds.drop n) ≤ dpDs ds := by
  have := dp_app (ds.take n) (ds.drop n)
  rw [List.take_append_drop] at this
  omega
theorem bk_cut (n : Nat) (ds : List D) : bkDs (ds.take n) + bkDs (ds.drop n) = bkDs ds := by
  have := bk_app (ds.take n) (ds.drop n)
  rw [List.take_append_drop] at this
  omega
theorem dp_mem {d : D} {ds : List D} (h : d ∈ ds) : dpD d ≤ dpDs ds := by
  induction ds with
  | nil => cases h
  | cons x ds ih =>
    rw [dp_cons]
    rcases List.mem_cons.mp h with rfl | h
    · omega
    · have := ih h; omega
theorem bk_mem {d : D} {ds : List D} (h : d ∈ ds) : bkD d + 1 ≤ bkDs ds := by
  induction ds with
  | nil => cases h
  | cons x ds ih =>
    rw [bk_cons]
    rcases List.mem_cons.mp h with rfl | h
    · omega
    · have := ih h; omega
theorem dp_int (i : Int) : dpD (.int i) = 0 := by simp [dpD, pyD, PyData.depth]
theorem bk_int (i : Int) : bkD (.int i) = 0 := by simp [bkD, pyD, PyData.bulk]
theorem dpD_ints (ns : List Int) : dpDs (ns.map .int) = 0 := by
  induction ns with
  | nil => rfl
  | cons n ns ih => rw [List.map_cons, dp_cons, ih, dp_int]; rfl
theorem bkD_ints (ns : List Int) : bkDs (ns.map .int) = ns.length := by
  induction ns with
  | nil => rfl
  | cons n ns ih => rw [List.map_cons, bk_cons, ih, bk_int, List.length_cons]; omega
theorem fine_ints {ns : List Int} (h : ∀ n ∈ ns, smallI n) : fineDs (ns.map .int) = true := by
  rw [fine_all]
  intro d hd
  obtain ⟨n, hn, rfl⟩ := List.mem_map.mp hd
  simp only [fineD]
  exact int_small (h n hn)
theorem bk_len (ds : List D) : ds.length ≤ bkDs ds := by
  induction ds with
  | nil => simp
  | cons d ds ih => rw [bk_cons, List.length_cons]; omega
/-- its type is known -/
theorem fine_ty {d : D} (h : fineD d = true) : ∃ t, tyN d = some t := by
  cases d <;> first | exact ⟨_, rfl⟩ | simp [fineD] at h
end O

/-! Own32: len(set(xs)) of a list or a tuple of ints -/
namespace O
open PySem
open L2 (V Hp HO Rd SqL SqT upd upd_same upd_ne ne_of ne_of_none TE TT TA TS TG TGs TI TO It VK XK Ends St PE PT PW PA PS PSs PG PGs PI PO PTs Cx OpR UnR CallR IxR SlR MtR R2 tOp tUn tVar tC tCons tNil tTup tLst tTest tB tAnd tOr tNot tAndV tOrV tNotV tIf tCB Sp FnOk Gl Vis Loc Room Vals RelV)
open PyProof.Rows (firstMet step_dedup)
theorem dedup_ok : ∀ (xs acc : List Int), acc.Nodup → (xs.foldl step_dedup acc).Nodup ∧ ∀ z, z ∈ xs.foldl step_dedup acc ↔ z ∈ acc ∨ z ∈ xs
  | [], acc, h => ⟨h, fun z => by simp⟩
  | x :: xs, acc, h => by
    rw [List.foldl_cons]
    by_cases hx : x ∈ acc
    · have e : step_dedup acc x = acc := by simp [step_dedup, hx]
      obtain ⟨a, b⟩ := dedup_ok xs acc h
      rw [e]
      refine ⟨a, fun z => ?_⟩
      rw [b z, List.mem_cons]
      constructor
      · rintro (q | q)
        · exact .inl q
        · exact .inr (.inr q)
      · rintro (q | rfl | q)
        · exact .inl q
        · exact .inl hx
        · exact .inr q
    · have e : step_dedup acc x = acc ++ [x] := by simp [step_dedup, hx]
      obtain ⟨a, b⟩ := dedup_ok xs (acc ++ [x]) (by
        rw [List.nodup_append]
        exact ⟨h, by simp, fun y hy z hz => by simp at hz; subst hz; exact fun q => hx (q ▸ hy)⟩)
      rw [e]
      refine ⟨a, fun z => ?_⟩
      rw [b z, List.mem_append, List.mem_singleton, List.mem_cons]
      constructor
      · rintro ((q | q) | q)
        · exact .inl q
        · exact .inr (.inl q)
        · exact .inr (.inr q)
      · rintro (q | q | q)
        · exact .inl (.inl q)
        · exact .inl (.inr q)
        · exact .inr q
theorem first_len (ns : List Int) : (firstMet (fun i => ns.getD i 0) ns.length).length = (nubI ns).length := by
  have e : (List.range ns.length).map (fun i => ns.getD i 0) = ns := by
    refine List.ext_getElem (by simp) fun i h1 h2 => ?_
    simp [List.getD_eq_getElem?_getD, List.getElem?_eq_getElem h2]
  unfold firstMet
  rw [e]
  obtain ⟨a, b⟩ := dedup_ok ns [] (by simp)
  refine ((List.perm_ext_iff_of_nodup a (nubI_nodup ns)).mpr fun z => ?_).length_eq
  rw [b z, nubI_mem]
  simp
section
variable {X : Cx} {a : Expr} {ta : TE} {pos p p2 q : Pos}
def tLsA (K : PySem.W.Frag) (ta : TE) : TE := fun σ H Q => ta σ H fun x H1 => ∃ (l : Addr) (ns : List Int), x = V.ref l ∧ (SqT K H1 l (ns.map V.int) ∨ SqL K H1 l (ns.map V.int)) ∧ ns.length < 4000 ∧ Q (.int ((nubI ns).length : Nat)) H1
theorem pe_lsA (hc : X.calm = true) (hm : X.mg "len" = none) (hm2 : X.mg "set" = none) (ha : PE X a ta) (hg : Gl X "len" := by rfl) (hg2 : Gl X "set" := by rfl)
    (na : starEach [a] X.env = (false, eval a X.env) :: starEach [] X.env := by rfl) : PE X (.Call (.Name "len" p) [.Call (.Name "set" p2) [a] [] q] [] pos) (tLsA X.K ta) := by
  refine ⟨fun pins s σ H Q I hw => ?_⟩
  refine PyProof.Rows.Call_ (L2.ld_blt I hg hm PySem.boot_len ?_)
  refine PyProof.Rows.callWith_builtin1 (PyProof.Rows.args_cons (?_) rfl) rfl rfl
  refine PyProof.Rows.Call_ (L2.ld_blt I hg2 hm2 PyProof.Rows.boot_set ?_)
  refine PyProof.Rows.callWith_type1 (PyProof.Rows.args_cons (L2.thn (ha.run pins s σ H _ I hw) fun v s1 ⟨x, H1, I1, r1, q1⟩ => (PyProof.Rows.args_nil ?_)) na) na rfl
  obtain ⟨l, ns, rfl, hq, hlen, q1⟩ := q1
  cases r1
  have hd := I1.ok.hd hc
  rcases hq with hq | hq
  · obtain ⟨its, r, pt, hz⟩ := I1.tuple hq
    have hi : PyProof.Rows.IntsAre its.toArray.toList ns := by simpa using L2.ints_of_vals r
    refine L2.call_set_tupI ns hd (show s1.heap.IsTuple l its.toArray from pt) hi (by unfold scanBound; omega) fun h' tk c R1 hcn k => (?_)
    obtain ⟨o, es, ep, t, ho, hex, hdt, g, nd, hm3, hb, hf, hn, _⟩ := R1
    refine PyProof.Rows.args_nil (?_)
    have I2 : L2.Inv X pins σ H1 { s1 with heap := h', toks := tk } := I1.kept fun b o e => k b o e
    have hp : (es.toList.map L2.keyOf).Perm (nubI ns) := by
      refine (List.perm_ext_iff_of_nodup nd (nubI_nodup ns)).mpr fun z => ?_
      have := hm3 z
      simp only [decide_eq_true_eq] at this
      rw [nubI_mem]
      exact this.symm
    have he : es.size = (nubI ns).length := by
      have := hp.length_eq
      rw [List.length_map, Array.length_toList] at this
      exact this
    exact PySem.call_len_set ho hex hdt hf (by omega) ⟨.int (nubI ns).length, H1, I2.tok _, ⟨_, by rw [he]⟩, q1⟩
  · obtain ⟨its, r, pl, hz⟩ := I1.list hq
    have hl : its.toArray.size = ns.length := by rw [List.size_toArray, ← r.length, List.length_map]
    have hi : PyProof.Rows.IntsAre its.toArray.toList ns := by simpa using L2.ints_of_vals r
    refine PySem.call_set_list hd pl.isList hi (by rw [hl]; unfold scanBound; omega) fun h' tk hS hk => ?_
    have hle := PyProof.Rows.firstMet_length_le (fun i => ns.getD i 0) ns.length
    rw [hl] at hS
    obtain ⟨o, es, ep, t, ho, hex, hdt, _, _, _, hf, hn⟩ := hS
    have I2 : L2.Inv X pins σ H1 { s1 with heap := h', toks := tk } := I1.kept fun b o e => hk b o (Heap.lt_size e) e
    refine PyProof.Rows.args_nil (?_)
    have hz : es.size = (nubI ns).length := by rw [hn, first_len]
    exact PySem.call_len_set ho hex hdt hf (by rw [hn]; omega) ⟨.int (nubI ns).length, H1, I2.tok _, ⟨_, by rw [hz]⟩, q1⟩
end
section
variable {K : PySem.W.Frag} {W : St → XK}
def gLenSetA : D → Option RV
  | .tup ds => match intsD ds with
    | some ns => if ns.length < 4000 then some (.val (.int ((nubI ns).length : Nat))) else none
    | none => none
  | .lst ds => match intsD ds with
    | some ns => if ns.length < 4000 then some (.val (.int ((nubI ns).length : Nat))) else none
    | none => none
  | _ => none
theorem sd_lsA {ta : TE} {fa : O.Env → Res RV} (ha : Sd K W (rV K) ta fa) : Sd K W (rV K) (tLsA K ta) (f1 fa gLenSetA) := fun C fp Hd H σ ρ I Q p =>
  ha.run I p fun r1 v1 fp0 Hd0 H0 ρ0 s0 I0 h1 p => by
    have h1 := rV_loose h1
    cases e1 : rd r1 ρ0 with
    | none => simp only [e1] at p; exact p.elim
    | some d1 =>
      simp only [e1] at p
      have t := I0.rdTop h1 e1
      cases d1 with
      | tup ds =>
        simp only [gLenSetA] at p
        cases e2 : intsD ds with
        | none => simp only [e2] at p; exact p.elim
        | some ns =>
          simp only [e2] at p
          by_cases hh : ns.length < 4000
          · rw [if_pos hh] at p
            obtain ⟨b, xs, rfl, hq, r⟩ := t.tupD I0.le
            have ey := intsD_ok r e2
            subst ey
            exact ⟨b, ns, rfl, .inl hq, hh, p.new I0 (newR_here I0.le (.int _))⟩
          · rw [if_neg hh] at p; exact p.elim
      | lst ds =>
        simp only [gLenSetA] at p
        cases e2 : intsD ds with
        | none => simp only [e2] at p; exact p.elim
        | some ns =>
          simp only [e2] at p
          by_cases hh : ns.length < 4000
          · rw [if_pos hh] at p
            obtain ⟨b, xs, rfl, hq, r⟩ := t.lstD I0.le
            have ey := intsD_ok r e2
            subst ey
            exact ⟨b, ns, rfl, .inr (.inl hq), hh, p.new I0 (newR_here I0.le (.int _))⟩
          · rw [if_neg hh] at p; exact p.elim
      | _ => exact p.elim
end
section
variable {X : Cx} {W : St → XK} {a : Expr} {pos p p2 : Pos} {ta : TE} {fa : O.Env → Res RV}
theorem jlsA {q : Pos} {K : PySem.W.Frag} (hc : X.calm = true) (hm : X.mg "len" = none) (hm2 : X.mg "set" = none) (ha : JE X W a ta fa) (hg : Gl X "len" := by rfl) (hg2 : Gl X "set" := by rfl)
    (na : starEach [a] X.env = (false, eval a X.env) :: starEach [] X.env := by rfl) (hK : X.K = K := by rfl) : JE X W (.Call (.Name "len" p) [.Call (.Name "set" p2) [a] [] q] [] pos) (tLsA K ta) (f1 fa gLenSetA) := by
  subst hK
  exact ⟨pe_lsA hc hm hm2 ha.pe hg hg2 na, sd_lsA ha.se⟩
end
theorem nub_len (ns : List Int) : (nubI ns).length ≤ ns.length := by
  induction ns with
  | nil => simp [nubI]
  | cons n ns ih =>
    unfold nubI
    split <;> simp <;> omega
theorem nub_all {ns : List Int} : (nubI ns).length = ns.length ↔ ns.Nodup := by
  induction ns with
  | nil => simp [nubI]
  | cons n ns ih =>
    have h := nub_len ns
    unfold nubI
    by_cases hn : n ∈ nubI ns
    · rw [if_pos hn, List.nodup_cons, List.length_cons]
      rw [nubI_mem] at hn
      exact ⟨fun e => by omega, fun e => absurd hn e.1⟩
    · rw [if_neg hn, List.nodup_cons, List.length_cons, List.length_cons]
      have hn' : n ∉ ns := fun z => hn (nubI_mem.mpr z)
      exact ⟨fun e => ⟨hn', ih.mp (by omega)⟩, fun e => by rw [ih.mpr e.2]⟩
end O

/-! Own33: own errors: their __init__, raise, try .. except .. as n: return (n.f,) -/
namespace O
open PySem
open PyProof.Rows (envOfC AllBare)
open L2 (V Hp HO Rd SqL SqT upd upd_same upd_ne ne_of ne_of_none TE TT TA TS TG TGs TI TO It VK XK WX Ends St PE PT PW PA PS PSs PG PGs PI PO PTs Cx OpR UnR CallR IxR SlR MtR R2 tOp tUn tVar tC tCons tNil tTup tLst tTest tB tAnd tOr tNot tAndV tOrV tNotV tIf tCB Sp FnOk Gl Vis Loc Room Vals RelV Env0 OexC exo exd tVeI tOst tMkO del PMk Takes)
/-! ### Base.__init__(self, ..) -/
structure BaseI (K : PySem.W.Frag) (CH : Addr) (mc : Value) : Prop where
  rd : PySem.W.readsIn K CH mc = true
  ga : PySem.W.specialIn K (.ref CH) "__getattribute__" = some (some (.builtin "type.__getattribute__"))
  at_ : PySem.W.findCls K (.ref CH) mc "__init__" = some (.val (.builtin "ValueError.__init__"))
section
variable {X : Cx} {e : Expr} {es : List Expr} {ta : TA} {p1 p2 pos : Pos}
theorem pe_baseI {x : Str} {CH : Addr} {mc : Value} {pl : Sem Bool} (B : BaseI X.K CH mc) (hg : Gl X x) (hm : X.mg x = some (.ref CH)) (ha : PA X (e :: es) ta)
    (hc : eval (.Call (.Attribute (.Name x p1) "__init__" p2) (e :: es) [] pos) X.env = (do
      let ov ← eval (.Name x p1) X.env
      standAt p2.atName
      let (f, first) ← holding [ov] (getMethod ov "__init__" pl)
      callWith pos f first (backTo pos (starEach (e :: es) X.env)) (backToKw pos (keywordEach [] X.env))) := by rfl)
    (hd : (x == ("__debug__" : Str)) = false := by decide) (he : starEach (e :: es) X.env = (false, eval e X.env) :: starEach es X.env := by rfl) (hpl : (backTo pos (starEach es X.env)).any (·.1) = false := by rfl) :
    PE X (.Call (.Attribute (.Name x p1) "__init__" p2) (e :: es) [] pos) (tVeI X.K ta) := ⟨fun pins s σ H Q I h => by
  refine PySem.W.methodCall_KW (L2.ld_glob I hg hm ?_ hd) hc
  refine PySem.W.method_cls I.kIn B.ga (PySem.W.cls_value I.kIn B.rd B.at_ (by decide +kernel) ?_)
  show wpAny _ _ (callWith pos (Value.builtin "ValueError.__init__") [] (backTo pos (starEach (e :: es) X.env)) []) _ _ _
  refine PyProof.Rows.callWith_method1 (L2.thn (ha.run pos pins _ σ H _ (I.tok _) h) fun us s1 ⟨vs, H1, I1, r1, b, D, ws, ev, hl, T, eb, q⟩ => ?_) he hpl
  subst ev
  obtain ⟨u, ur, rfl, ra, rw⟩ : ∃ u ur, us = u :: ur ∧ RelV (.ref b) u ∧ Vals ws ur := by
    cases r1 with | cons ra rw => exact ⟨_, _, rfl, ra, rw⟩
  have hu : u = Value.ref b := ra
  subst hu
  have many : ur.length ≤ sizeLine := by
    have := rw.length
    have := sizeLine_eq
    omega
  exact L2.oinit_ok T I1 eb many fun s' J => ⟨.non, H1, J, rfl, q⟩⟩
end
/-- the promise of __init__(self, value): self.f = value -/
def spIni (K : PySem.W.Frag) (C : Addr) (f : Str) : Sp := fun vs H Q E => ∃ a y, vs = [.ref a, y] ∧ OexC K C ∧ PySem.W.findIn K (.ref C) f = some none ∧ H a = some (exo a C none) ∧
  ∀ dx, H dx = none → dx ≠ a → Q .non (upd (upd H dx (exd dx [(f, y)])) a (exo a C (some dx)))
section
variable {P : Program} {w : World} {K : PySem.W.Frag} {mg : Str → Option Value} {base : Heap} {C : Addr} {fl : Str}
theorem ini_ok {qual : Str} {st : Stmt} {f : Addr} {fd : FuncData} {k : Nat} {txt : Str} (F : L2.Fun K "__init__" qual st f fd) (S : L2.FnScope ["self", "value"] ["self", "value"] (L2.defScope st))
    (hB : ∀ (cdv : Value) (A : Around) (outer : List PySem.Env) (s : Shared) (H : Hp) (E : XK), PSs (bx P w K mg base ["self", "value"] qual st f cdv A outer s H E) (L2.defBody st) (L2.tSeq (L2.tDrop (tVeI K (tCons (tVar 0) (tCons (tC (.str txt)) tNil)))) (tOst K fl (tVar 0) (tVar 1)))) :
    FnOk P w K mg base (L2.CX P w) (k + 1) f fd ["self", "value"] (spIni K C fl) :=
  F.okX S (fun vs H Q E ⟨a, y, e, _⟩ => by rw [e]; rfl) fun cdv A outer s H vs Q E hr ⟨a, y, e, T, hno, ha, q⟩ => by
    subst e
    refine ⟨_, hB cdv A outer s H E, ?_⟩
    refine ⟨.ref a, rfl, ⟨a, C, [.str txt], rfl, by simp, T, ha, ?_⟩⟩
    refine ⟨y, rfl, .ref a, rfl, a, C, rfl, T, hno, .inl ⟨ha, fun dx hd hne => q dx hd hne⟩⟩
end
/-! ### raise -/
structure ErrC (P : Program) (w : World) (K : PySem.W.Frag) (mg : Str → Option Value) (base : Heap) (k : Nat) (x : Str) (C : Addr) (f : Str) : Prop where
  ex : ∃ (fI : Addr) (fd : FuncData), PySem.W.findIn K (.ref C) "__init__" = some (some (.ref fI)) ∧ PySem.W.typeIn K (.ref fI) = some (.type "function") ∧ FnOk P w K mg base (L2.CX P w) k fI fd ["self", "value"] (spIni K C f) ∧ L2.Binds K fd ["self", "value"] []
  gm : mg x = some (.ref C)
  oe : OexC K C
  no : PySem.W.findIn K (.ref C) f = some none
  xf : L2.XfC K C
section
variable {K : PySem.W.Frag} {W : St → XK}
def gRaise (C : Addr) (f : Str) (fe : O.Env → Res RV) : O.Env → SR := fun ρ => ((fe ρ).bind O.fz).thn fun d ρ1 => .ex ⟨.ref C, some [(f, d)]⟩ ρ1
theorem ss_raise {C : Addr} {f : Str} {te : TE} {fe : O.Env → Res RV} (T : OexC K C) (hno : PySem.W.findIn K (.ref C) f = some none) (he : Sd K W (rV K) te fe) :
    Ss K W (fun _ σ H => tMkO C (spIni K C f) [] (tCons te tNil) σ H fun cls d H' => W σ cls d H') (gRaise C f fe) := fun C0 fp Hd H σ ρ I D p =>
  (Sd.fz he).runS I p fun d v fp1 Hd1 H1 ρ1 s1 I1 r1 p => by
    refine ⟨by simp, fun a ha => ⟨a, v, rfl, T, hno, upd_same, fun dx hd hne => ⟨rfl, dx, [(f, v)], upd_same, by rw [upd_ne hne, upd_same], ?_, ?_⟩⟩⟩
    · rw [upd_ne hne] at hd; exact hd
    · rw [upd_ne hne] at hd
      have eH : upd (del (upd (upd (upd H1 a (exo a C none)) dx (exd dx [(f, v)])) a (exo a C (some dx))) a) dx (HO.xd [(f, v)]) = upd H1 dx (HO.xd [(f, v)]) := by
        funext b
        by_cases e1 : b = dx
        · subst e1; rw [upd_same, upd_same]
        · rw [upd_ne e1, upd_ne e1]
          by_cases e2 : b = a
          · subst e2; rw [L2.del_same, ha]
          · rw [L2.del_ne e2, upd_ne e2, upd_ne e1, upd_ne e2]
      rw [eH]
      have x := ext_new (o := HO.xd [(f, v)]) I1.le hd
      exact p (some dx) σ fp1 Hd1 _ (I1.stp x) (I1.ext x) (.some upd_same rfl (.cons r1 .nil))
end
section
variable {X : Cx} {W : St → XK} {e : Expr} {te : TE} {fe : O.Env → Res RV} {pos pos2 p : Pos} {x f : Str} {C : Addr} {k j : Nat}
theorem jraise (R : ErrC X.prog X.w X.K X.mg X.base k x C f) (hr : RoomG j X.A) (hc : X.calm = true) (tk : Takes X fun cls d σ H => W σ cls d H) (he : JE X W e te fe) (hj : k + 1 ≤ j := by first | decide | omega) (hg : Gl X x := by rfl)
    (hdb : (x == ("__debug__" : Str)) = false := by decide) (hs : starEach (e :: []) X.env = (false, eval e X.env) :: starEach [] X.env := by rfl) (hpl : (backTo pos (starEach [] X.env)).any (·.1) = false := by rfl) :
    JS X W (.Raise (some (.Call (.Name x p) [e] [] pos)) none pos2) (fun _ σ H => tMkO C (spIni X.K C f) [] (tCons te tNil) σ H fun cls d H' => W σ cls d H') (gRaise C f fe) := by
  obtain ⟨fI, fd, h1, h2, h3, h4⟩ := R.ex
  exact ⟨L2.ps_raise hc tk (L2.pmk_oex R.oe h1 h2 h3 (hr.mono hj).room h4 .nil L2.passL hg R.gm (L2.pa_cons he.pe L2.pa_nil hs) hdb hs hpl), ss_raise R.oe R.no he.se⟩
end
/-! ### try: .. except X as n: return (n.f,) -/
section
variable {K : PySem.W.Frag}
open Classical in
noncomputable def gTryV (C : Addr) (f : Str) (i : Nat) (gb : O.Env → SR) : O.Env → SR := fun ρ => match gb ρ with
  | .ex e ρ1 => match e.fs with
    | some [(g, d)] => if e.cls = .ref C ∧ g = f ∧ i < ρ1.length then .rt (.val (.tup [d])) ρ1 else .no
    | _ => .no
  | r => r
def tSuiteV (C : Addr) (f : Str) (i : Nat) : Addr → Value → Option Addr → TS := fun a cls d => L2.tRet (tTup (tCons (L2.tXf a cls d C f (tVar i)) tNil))
theorem ss_tryV {W : St → XK} {C : Addr} {c : Value} {f : Str} {i : Nat} {tb : WX → TS} {gb : O.Env → SR} (hm : PySem.W.exmOne K (.ref C) c = some true) (hb : ∀ W' : WX, Ss K (fun σ cls d H => W' cls d σ H) (tb W') gb) :
    Ss K W (fun D σ H => tb (L2.wAs K c i (tSuiteV C f i) (fun cls d σ H => W σ cls d H) D) D σ H) (gTryV C f i gb) := fun C0 fp Hd H σ ρ I D p => by
  refine hb _ C0 fp Hd H σ ρ I D ?_
  unfold gTryV at p
  cases e : gb ρ with
  | nx ρ' => rw [e] at p; exact p
  | bk ρ' => rw [e] at p; exact p
  | ct ρ' => rw [e] at p; exact p
  | rt r ρ' => rw [e] at p; exact p
  | no => rw [e] at p; exact p
  | ex ee ρ1 =>
    rw [e] at p
    obtain ⟨cls, fs⟩ := ee
    match fs, p with
    | none, p => exact p.elim
    | some [], p => exact p.elim
    | some (_ :: _ :: _), p => exact p.elim
    | some [(g, d)], p =>
      by_cases hh : cls = .ref C ∧ g = f ∧ i < ρ1.length
      · have pp : PostS K W C0 fp Hd H (.rt (.val (.tup [d])) ρ1) D := by
          have q := p
          simp only [if_pos hh] at q
          exact q
        obtain ⟨h1, h2, h3⟩ := hh
        subst h1 h2
        intro dd σ1 fp1 Hd1 H1 s1 I1 hx
        refine ⟨true, hm, fun _ a ha => ?_, fun z => (by cases z)⟩
        cases hx with
        | @some _ _ gs b hd hn hr =>
          match gs, hd, hn, hr with
          | [(g', v)], hd, hn, hr =>
            simp only [List.map_cons, List.map_nil, List.cons.injEq, and_true] at hn
            subst hn
            cases hr with
            | cons rv _ =>
              have hi : i < σ1.length := by rw [I1.len]; exact h3
              refine ⟨.ref a, List.getElem?_set_self hi, rfl, rfl, b, [(g', v)], v, rfl, hd, by simp, ?_⟩
              have hz := sizeLine_is
              refine ⟨by simp only [List.length_singleton]; omega, fun q hq => ?_⟩
              obtain ⟨Hd2, x2, r2⟩ := newR_tup (vs := [v]) (ds := [d]) I1.le hq (.cons rv .nil)
              exact pp (.ref q) σ1 fp1 Hd2 _ (s1.trans (I1.stp x2)) (I1.ext x2) r2
          | [], hd, hn, hr => cases hn
          | _ :: _ :: _, hd, hn, hr => simp at hn
      · simp only [if_neg hh] at p
        exact p.elim
end
section
variable {X : Cx} {W : St → XK} {x n f : Str} {c : Value} {C : Addr} {body : List Stmt} {np p1 p2 pos pos' pos2 pos3 : Pos} {k2 : Nat} {tb : WX → TS} {gb : O.Env → SR}
theorem jtryV {K : PySem.W.Frag} (i : Nat) (hN : X.N.Nodup) (hm : X.mg x = some c) (R : L2.XfC X.K C) (hno : PySem.W.findIn X.K (.ref C) f = some none) (hex : PySem.W.exmOne X.K (.ref C) c = some true) (tk : Takes X fun cls d σ H => W σ cls d H)
    (hb : ∀ (W' : WX) (pn : List (Addr × Obj)) (xe : Value → Shared → Prop), Takes (X.tr pn xe) W' → JB (X.tr pn xe) (fun σ cls d H => W' cls d σ H) body (tb W') gb)
    (hg : Gl X x := by rfl) (hi : X.N[i]? = some n := by rfl) (hv : Vis X.env.scope n := by first | exact Or.inl (by rfl) | exact Or.inr (Or.inl (by rfl)) | exact Or.inr (Or.inr (by rfl))) (hln : X.env.kindOf n = some .local := by rfl) (hs : X.stack = X.env :: X.outer := by rfl) (hf : X.env.frame = some X.env.locals := by rfl)
    (hd1 : (x == ("__debug__" : Str)) = false := by decide) (hd2 : (n == ("__debug__" : Str)) = false := by decide) (hd3 : (n == ("__classdict__" : Str)) = false := by decide) (hba : attributeBase (.Name n p1) f X.env (eval (.Name n p1) X.env) = eval (.Name n p1) X.env := by rfl)
    (hst : starEach (.Attribute (.Name n p1) f p2 :: []) X.env = (false, eval (.Attribute (.Name n p1) f p2) X.env) :: starEach [] X.env := by rfl) (hK : X.K = K := by rfl) :
    JS X W (.Try body [.ExceptHandler (some (.Name x np)) (some n) [.Return (some (.Tuple [.Attribute (.Name n p1) f p2] k2 pos3)) pos2] pos'] [] [] pos)
      (fun D σ H => tb (L2.wAs K c i (tSuiteV C f i) (fun cls d σ H => W σ cls d H) D) D σ H) (gTryV C f i gb) := by
  subst hK
  refine ⟨L2.ps_try_as hs hf hN hi hln ⟨hg, hd1, .inl hm⟩ tk (fun W' pn xe t _ => (hb W' pn xe t).pss) fun a oe cls d pn hz hfl => ?_, ss_tryV hex fun W' => ?_⟩
  · have pv : PE (X.suite a ((a, oe) :: pn)) (.Name n p1) (tVar i) := L2.pe_var (X := X.suite a ((a, oe) :: pn)) hi hv hd2 hd3
    exact L2.pss_one (L2.ps_ret (L2.pe_tup (L2.pa_cons (L2.pe_xf R hno hz hfl pv hba) L2.pa_nil hst)))
  · exact (hb W' X.pn (fun u s' => ∃ xe0, L2.XE (X.tr X.pn xe0) W' u s') fun u s' h => ⟨_, h⟩).ss
end
/-! ### defs with a star parameter -/
section
variable {P : Program} {w : World} {K : PySem.W.Frag} {mg : Str → Option Value} {base : Heap}
/-- m parameters, and a tuple of all other arguments -/
def spS (K : PySem.W.Frag) (m : Nat) (F : List Ar → FO) : Sp := fun vs H Q E => ∃ ws rest, vs = ws ++ rest ∧ ws.length = m ∧ rest.length ≤ sizeLine ∧ ∀ p, H p = none → spF K (m + 1) F (ws ++ [V.ref p]) (upd H p (.tup rest)) Q E
structure CalS (P : Program) (w : World) (K : PySem.W.Frag) (mg : Str → Option Value) (base : Heap) (x : Str) (k m : Nat) (F : List Ar → FO) : Prop where
  ex : ∃ fA : Addr, (∀ (A : Around) (outer : List PySem.Env) (s : Shared) (H : Hp) (us : List Value) (vs : List V) (Q : VK) (E : XK), RoomG k A → Env0 P w K mg base A outer s H → Vals vs us → spS K m F vs H Q E →
    codeAny (model P w) A (.call (.ref fA) ⟨us, []⟩) (L2.CR (L2.CX P w) outer P w H s Q E) s) ∧ mg x = some (.ref fA) ∧ PySem.W.keepIn K (.ref fA) = true
theorem cal_ofS {x pv : Str} {fA : Addr} {N ps : List Str} {k n m : Nat} {st : Stmt} {params : Arguments} {g : O.Env → SR} {oc kV doc pm cdv ct : Value} {an od : Option Addr} {osl : Array (Option Value)}
    (lk : K.lookup fA = some ⟨oc, od, .func (PySem.W.fnOf x x params (L2.defBody st) (L2.defScope st) .none kV doc pm an cdv ct), osl⟩) (hcd : PySem.W.codeIn K cdv x = true) (kp : PySem.W.keepIn K (.ref fA) = true) (S : L2.FnScope N (ps ++ [pv]) (L2.defScope st)) (gm : mg x = some (.ref fA)) (hN : N.length = n) (hp : ps.length = m) (hmn : m + 1 ≤ n)
    (hb : ∀ us rest : List Value, us.length = ps.length → bindArgs (PySem.W.fnOf x x params (L2.defBody st) (L2.defScope st) .none kV doc pm an cdv ct) ⟨us ++ rest, []⟩ = (newTuple rest >>= fun t => pure (ps.zip us ++ [(pv, t)])))
    (hB : ∀ (A : Around) (outer : List PySem.Env) (s : Shared) (H : Hp) (E : XK), RoomG k (A.deeper (envOfC x (L2.defScope st) s.heap.objs.size fA cdv)) → ∃ t, JB (bx P w K mg base N x st fA cdv A outer s H E) (fun _ => E) (L2.defBody st) t g) :
    CalS P w K mg base x (k + 1) m (runF n g) := by
  refine ⟨fA, fun A outer s H us vs Q E room e0 r ⟨ws, rest, ev, hl, hz, hq⟩ => ?_, gm, kp⟩
  subst ev
  obtain ⟨u1, u2, eu, q1, q2⟩ := StX.vals_split r
  subst eu
  have free : H s.heap.objs.size = none := e0.hok.fresh (Nat.le_refl _)
  have l1 : u1.length = ps.length := by rw [← q1.length, hl, hp]
  have l2 : u2.length ≤ sizeLine := by rw [← q2.length]; exact hz
  refine StX.run_bnd lk hcd S room.room e0 (G := fun xs H2 => ∃ p, H p = none ∧ xs = ws ++ [V.ref p] ∧ H2 = upd H p (.tup rest)) (fun A' Ex Q' h => ?_) fun s2 H2 xs ⟨p, hpn, ex, eH⟩ hr' => ?_
  · rw [hb u1 u2 l1]
    refine wpAny_bind (wpAny_newTuple (wpAny_pure ?_) l2)
    have put : L2.ObjOk P w (upd H s.heap.objs.size (.tup rest)) (s.heap.push ({ cls := .type "tuple", data := .seq u2.toArray } : Obj)) s.heap.objs.size (.tup rest) := ⟨hz, u2, q2, ⟨_, Heap.get?_push_size _ rfl, rfl, _, rfl⟩⟩
    have grown := StX.un_laid (fs := L2.frs outer) (s := s) (o := ({ cls := .type "tuple", data := .seq u2.toArray } : Obj)) (u := .tup rest) free
    have got := h _ _ (ws ++ [V.ref s.heap.objs.size]) (u1 ++ [Value.ref s.heap.objs.size]) (StX.env0_laid e0 put) grown rfl (fun e s' => StX.cxUp outer s H _ _ E e s' grown (fun b o q => Heap.get?_push_of_some _ q) rfl) (q1.append (.cons rfl .nil))
      (by rw [List.length_append, List.length_append, hl, hp]; rfl) ⟨_, free, rfl, rfl⟩
    rw [List.zip_append l1.symm] at got
    exact got
  · subst ex eH
    obtain ⟨t, jb⟩ := hB A outer s2 _ E ⟨hr', room.gd⟩
    exact ⟨t, jb.pss, body_ok hN hmn jb.ss (hq p hpn)⟩
end
section
variable {K : PySem.W.Frag} {W : St → XK}
/-- arguments behind the first m are packed -/
def tStarA (m : Nat) (t : TA) : TA := fun σ H Q => t σ H fun vs H1 => ∃ ws rest, vs = ws ++ rest ∧ ws.length = m ∧ rest.length ≤ sizeLine ∧ ∀ p, H1 p = none → Q (ws ++ [V.ref p]) (upd H1 p (.tup rest))
def valsD : List RV → Option (List D)
  | [] => some []
  | .val d :: rs => (valsD rs).map (d :: ·)
  | _ :: _ => none
theorem valsD_ok {Hd : Hp} {σ : St} : ∀ {rs : List RV} {vs : List V} {ds : List D}, RVs K Hd σ rs vs → valsD rs = some ds → Reps K Hd ds vs
  | _, _, _, .nil, e => by cases e; exact .nil
  | _, _, _, .val (rs := rs) r q, e => by
    simp only [valsD] at e
    cases e1 : valsD rs with
    | none => rw [e1] at e; cases e
    | some es => rw [e1] at e; cases e; exact .cons r (valsD_ok q e1)
  | _, _, _, .bor _ _, e => by cases e
theorem RVs.length {Hd : Hp} {σ : St} : ∀ {rs : List RV} {vs : List V}, RVs K Hd σ rs vs → rs.length = vs.length
  | _, _, .nil => rfl
  | _, _, .val _ q => by simp [RVs.length q]
  | _, _, .bor _ q => by simp [RVs.length q]
theorem RVs.take {Hd : Hp} {σ : St} : ∀ {rs : List RV} {vs : List V} (m : Nat), RVs K Hd σ rs vs → RVs K Hd σ (rs.take m) (vs.take m)
  | _, _, 0, _ => by simp; exact .nil
  | _, _, m + 1, .nil => .nil
  | _, _, m + 1, .val r q => .val r (RVs.take m q)
  | _, _, m + 1, .bor r q => .bor r (RVs.take m q)
theorem RVs.drop {Hd : Hp} {σ : St} : ∀ {rs : List RV} {vs : List V} (m : Nat), RVs K Hd σ rs vs → RVs K Hd σ (rs.drop m) (vs.drop m)
  | _, _, 0, q => q
  | _, _, m + 1, .nil => .nil
  | _, _, m + 1, .val r q => RVs.drop m q
  | _, _, m + 1, .bor r q => RVs.drop m q
theorem RVs.app {Hd : Hp} {σ : St} : ∀ {rs rs' : List RV} {vs vs' : List V}, RVs K Hd σ rs vs → RVs K Hd σ rs' vs' → RVs K Hd σ (rs ++ rs') (vs ++ vs')
  | _, _, _, _, .nil, s => s
  | _, _, _, _, .val r q, s => .val r (RVs.app q s)
  | _, _, _, _, .bor r q, s => .bor r (RVs.app q s)
def packA (m : Nat) (rs : List RV) (ρ : O.Env) : Res (List RV) := match valsD (rs.drop m) with
  | some ds => if m ≤ rs.length ∧ ds.length ≤ sizeLine then .ok (rs.take m ++ [.val (.tup ds)]) ρ else .no
  | none => .no
def fStarA (m : Nat) (f : O.Env → Res (List RV)) : O.Env → Res (List RV) := fun ρ => (f ρ).bind (packA m)
theorem sd_starA {m : Nat} {t : TA} {f : O.Env → Res (List RV)} (h : Sd K W (rA K) t f) : Sd K W (rA K) (tStarA m t) (fStarA m f) := fun C fp Hd H σ ρ I Q p =>
  h.run I p fun rs vs fp1 Hd1 H1 ρ1 s1 I1 r1 p => by
    have r1 : RVs K Hd1 σ rs vs := r1
    unfold packA at p
    cases e : valsD (rs.drop m) with
    | none => simp only [e] at p; exact p.elim
    | some ds =>
      simp only [e] at p
      by_cases hh : m ≤ rs.length ∧ ds.length ≤ sizeLine
      · rw [if_pos hh] at p
        have rd := valsD_ok (r1.drop m) e
        have hl := r1.length
        refine ⟨vs.take m, vs.drop m, (List.take_append_drop m vs).symm, by rw [List.length_take]; omega, by rw [rd.length]; exact hh.2, fun q hq => ?_⟩
        obtain ⟨Hd2, x2, r2⟩ := newR_tup I1.le hq rd
        exact p _ fp1 Hd2 _ (I1.stp x2) (I1.ext x2) (((r1.take m).mono x2.hd).app (.val r2 .nil))
      · rw [if_neg hh] at p; exact p.elim
end
section
variable {X : Cx} {W : St → XK} {e : Expr} {es : List Expr} {pos p : Pos} {t : TA} {f : O.Env → Res (List RV)}
theorem jcalS {K : PySem.W.Frag} {x : Str} {k j m : Nat} {F : List Ar → FO} (ms : List Md) (c : CalS X.prog X.w X.K X.mg X.base x k m F) (hr : RoomG j X.A) (tk : ∀ σ, L2.PassesAt (L2.CX X.prog X.w) X σ (W σ)) (ha : JA X W (e :: es) t f) (hj : k ≤ j := by first | decide | omega) (hl : ms.length = m + 1 := by rfl) (hg : Gl X x := by rfl)
    (hdb : (x == ("__debug__" : Str)) = false := by decide) (he : starEach (e :: es) X.env = (false, eval e X.env) :: starEach es X.env := by rfl) (hpl : (backTo pos (starEach es X.env)).any (·.1) = false := by rfl) (hK : X.K = K := by rfl) :
    JE X W (.Call (.Name x p) (e :: es) [] pos) (L2.tCallSD (spF K (m + 1) F) [] W (tStarA m t)) (fCall ms [] F (fStarA m f)) := by
  subst hK
  obtain ⟨fA, go, h2, h3⟩ := c.ex
  refine ⟨⟨fun pins s σ H Q I h => ?_⟩, sd_call hl (fun _ => .nil) (sd_starA ha.sa)⟩
  refine wpAny_Call_Name_kw (L2.ld_glob I hg h2 ?_ hdb)
  refine PySem.W.callWith_K I.ok.mod.kin h3 (L2.thn (ha.pa.run pos pins s σ H _ I h) fun us s1 ⟨vs, H1, I1, r, q⟩ => ⟨I1.kIn, ?_⟩) he hpl
  have q' : spS X.K m F vs H1 Q (W σ) := by
    obtain ⟨ws, rest, e1, e2, e3, q⟩ := q
    refine ⟨ws, rest, e1, e2, e3, fun b hb => ?_⟩
    have z : spF X.K (m + 1) F ((ws ++ [V.ref b]) ++ []) (upd H1 b (HO.tup rest)) Q (W σ) := q b hb
    rwa [List.append_nil] at z
  refine wpAny_call (codeAny_mono (go X.A X.stack s1 H1 us vs Q (W σ) (hr.mono hj) I1.env0 r q') fun r s' hq => ?_)
  rcases r with e | fl
  · exact tk σ pins H1 s1 e s' I1 hq
  · cases fl with
    | ret u => exact I1.after hq
    | next => exact hq.elim
    | brk => exact hq.elim
    | cont => exact hq.elim
end
/-! ### a new list, repeated -/
section
variable {K : PySem.W.Frag} {W : St → XK}
def repR (r r2 : RV) (ρ : O.Env) : Res RV := match r, rd r2 ρ with
  | .own (.lst ds), some (.int k) => if -(2 ^ 63) ≤ k ∧ k < 2 ^ 63 ∧ ds.length * k.toNat ≤ sizeLine then .ok (.own (.lst (List.replicate k.toNat ds).flatten)) ρ else .no
  | _, _ => .no
def fRep (fa fb : O.Env → Res RV) : O.Env → Res RV := fun ρ => (fa ρ).bind fun r ρ1 => (fb ρ1).bind fun r2 ρ2 => repR r r2 ρ2
theorem Reps.rep {H : Hp} {ds : List D} {vs : List V} (r : Reps K H ds vs) : ∀ n : Nat, Reps K H (List.replicate n ds).flatten (List.replicate n vs).flatten
  | 0 => .nil
  | n + 1 => by
    rw [List.replicate_succ, List.replicate_succ, List.flatten_cons, List.flatten_cons]
    exact r.append (Reps.rep r n)
theorem sd_rep {ta tb : TE} {fa fb : O.Env → Res RV} (ha : Sd K W (rV K) ta fa) (hb : Sd K W (rV K) tb fb) : Sd K W (rV K) (tOp L2.rRep ta tb) (fRep fa fb) := fun C fp Hd H σ ρ I Q p =>
  ha.run I p fun r1 v1 fp0 Hd0 H0 ρ0 s0 I0 h1 p => hb.run I0 p fun r2 v2 fp1 Hd1 H1 ρ1 s1 I1 h2 p => by
    have h1 := (rV_loose h1).stp s1
    have h2 := rV_loose h2
    unfold repR at p
    cases r1 with
    | val d => exact p.elim
    | bor i => exact p.elim
    | own o =>
      cases o with
      | lst ds =>
        cases e2 : rd r2 ρ1 with
        | none => simp only [e2] at p; exact p.elim
        | some d2 =>
          simp only [e2] at p
          have t2 := I1.rdTop h2 e2
          cases d2 with
          | int k =>
            simp only at p
            by_cases hh : -(2 ^ 63) ≤ k ∧ k < 2 ^ 63 ∧ ds.length * k.toNat ≤ sizeLine
            · rw [if_pos hh] at p
              obtain ⟨A, ow, nda⟩ := h1
              clear nda
              cases ow with
              | lst hH rr =>
                rename_i a vs
                exact ⟨a, k, vs, rfl, t2.intD, hH, hh.1, hh.2.1, by rw [rr.length]; exact hh.2.2, fun q hq => p.new I1 (newR_lst I1.le hq (Reps.rep rr k.toNat))⟩
            · rw [if_neg hh] at p; exact p.elim
          | _ => exact p.elim
      | _ => exact p.elim
end
section
variable {X : Cx} {W : St → XK} {a b : Expr} {pos : Pos} {ta tb : TE} {fa fb : O.Env → Res RV}
theorem jrep (ha : JE X W a ta fa) (hb : JE X W b tb fb) : JE X W (.BinOp a .Mult b pos) (tOp L2.rRep ta tb) (fRep fa fb) := ⟨L2.pe_op L2.op_rep ha.pe hb.pe, sd_rep ha.se hb.se⟩
end
end O

/-! Own34: three names at once; classes of errors as gen.py prints them; the words of Own33 as simp lemmas -/
namespace O
open PySem
open PyProof.Rows (envOfC AllBare)
open L2 (V Hp HO Rd SqL SqT upd upd_same upd_ne TE TT TA TS TG TGs TI TO It VK XK WX Ends St PE PT PW PA PS PSs PG PGs PI PO PTs Cx OpR UnR CallR tOp tUn tVar tC tCons tNil tTup Sp FnOk Gl Vis Loc Room OexC Takes)
section
variable {X : Cx} {W : St → XK} {a b c : Expr} {pos : Pos} {t : TA} {f : O.Env → Res (List RV)}
theorem jpar3 (n m l : Nat) {x y z : Str} {px py pz pt : Pos} {kt k2 pt2} (hc : X.calm = true) (hN : X.N.Nodup) (ha : JM X W [a, b, c] t f) (hi : X.N[n]? = some x := by rfl) (hj : X.N[m]? = some y := by rfl) (hk : X.N[l]? = some z := by rfl) (hij : n ≠ m := by decide) (hil : n ≠ l := by decide) (hjl : m ≠ l := by decide)
    (hx : X.env.scope.names.lookup x = some .local := by rfl) (hy : X.env.scope.names.lookup y = some .local := by rfl) (hz : X.env.scope.names.lookup z = some .local := by rfl)
    (hw : swappedStores [.Tuple [.Name x px, .Name y py, .Name z pz] kt pt] (.Tuple [a, b, c] k2 pt2) X.env = pure (some [x, y, z]) := by rfl) (hs : swapsWithSole [.Tuple [.Name x px, .Name y py, .Name z pz] kt pt] (.Tuple [a, b, c] k2 pt2) pos.line X.env = pure false := by rfl) :
    JS X W (.Assign [.Tuple [.Name x px, .Name y py, .Name z pz] kt pt] (.Tuple [a, b, c] k2 pt2) pos) (L2.tPar3 n m l t) (gParN [n, m, l] f) := ⟨L2.ps_par3 hc hN hi hj hk hij hil hjl hx hy hz ha.pa hw hs, ss_par3 ha.sm⟩
end
/-- a class's body -/
def clsBody : Stmt → List Stmt
  | .ClassDef _ _ _ body _ _ _ _ _ _ _ => body
  | _ => []
def clsAt (st : Stmt) (j : Nat) : Stmt := (clsBody st).getD j (.Pass ⟨0, 0, 0, 0⟩)
theorem err_mk {P : Program} {w : World} {K : PySem.W.Frag} {mg : Str → Option Value} {base : Heap} {x f : Str} {C fI : Addr} {fd : FuncData} {k : Nat}
    (h1 : PySem.W.findIn K (.ref C) "__init__" = some (some (.ref fI))) (h2 : PySem.W.typeIn K (.ref fI) = some (.type "function")) (h3 : FnOk P w K mg base (L2.CX P w) k fI fd ["self", "value"] (spIni K C f)) (h4 : L2.Binds K fd ["self", "value"] [])
    (gm : mg x = some (.ref C)) (cl : ∃ nm q N bs bm sn sub ab col dd k0 k1 k2 k3 k5, K.lookup C = some (excClassObj nm q C N bs bm true sn sub ab col dd k0 k1 k2 k3 k5 "ValueError.__new__") ∧ PySem.HandSPX.refsVE bm = true)
    (sa : PySem.W.findIn K (.ref C) "__setattr__" = some (some (.builtin "object.__setattr__"))) (ex : PySem.W.subIn K (.ref C) (.type "BaseException") = some true) (ty : PySem.W.typeIn K (.ref C) = some (.type "type")) (kp : PySem.W.keepIn K (.ref C) = true)
    (no : PySem.W.findIn K (.ref C) f = some none) (ga : PySem.W.findIn K (.ref C) "__getattribute__" = some (some (.builtin "BaseException.__getattribute__"))) (gg : PySem.W.findIn K (.ref C) "__getattr__" = some none) (hd : PySem.W.hasDictIn K C = true) : ErrC P w K mg base k x C f :=
  ⟨⟨fI, fd, h1, h2, h3, h4⟩, gm, ⟨cl, sa, ex, ty, kp⟩, no, ⟨ga, gg, ex, hd⟩⟩
/-! simp lemmas -/
section
variable {C : Addr} {f : Str} {i : Nat} {gb : O.Env → SR} {ρ ρ1 : O.Env} {fa fb : O.Env → Res RV} {d : D}
theorem u_gRaise : gRaise C f fa ρ = ((fa ρ).bind O.fz).thn fun d ρ1 => .ex ⟨.ref C, some [(f, d)]⟩ ρ1 := id rfl
theorem u_raise_ok (h : (fa ρ).bind O.fz = .ok d ρ1) : gRaise C f fa ρ = .ex ⟨.ref C, some [(f, d)]⟩ ρ1 := by
  unfold gRaise; rw [h]; rfl
theorem u_try_ex (h : gb ρ = .ex ⟨.ref C, some [(f, d)]⟩ ρ1) (hi : i < ρ1.length) : gTryV C f i gb ρ = .rt (.val (.tup [d])) ρ1 := by
  unfold gTryV; rw [h]; exact if_pos ⟨rfl, rfl, hi⟩
theorem u_try_rt {r : RV} (h : gb ρ = .rt r ρ1) : gTryV C f i gb ρ = .rt r ρ1 := by
  unfold gTryV; rw [h]
theorem u_try_nx (h : gb ρ = .nx ρ1) : gTryV C f i gb ρ = .nx ρ1 := by
  unfold gTryV; rw [h]
end
section
variable {m : Nat} {fa : O.Env → Res (List RV)} {ρ : O.Env} {f g : O.Env → Res RV}
@[simp] theorem u_fStarA : fStarA m fa ρ = (fa ρ).bind (packA m) := id rfl
theorem pack_ok {rs : List RV} {ds : List D} (h : valsD (rs.drop m) = some ds) (hm : m ≤ rs.length) (hz : ds.length ≤ sizeLine) : packA m rs ρ = .ok (rs.take m ++ [.val (.tup ds)]) ρ := by
  unfold packA; rw [h]; exact if_pos ⟨hm, hz⟩
theorem valsD_map : ∀ ds : List D, valsD (ds.map .val) = some ds
  | [] => rfl
  | d :: ds => by simp [valsD, valsD_map ds]
end
/-! errors passed on -/
section
variable {α β : Type} {e : Exc} {ρ : O.Env}
@[simp] theorem bind_ex {f : α → O.Env → Res β} : (Res.ex e ρ : Res α).bind f = .ex e ρ := id rfl
@[simp] theorem thn_ex {f : α → O.Env → SR} : (Res.ex e ρ : Res α).thn f = .ex e ρ := id rfl
@[simp] theorem seq_ex {f : O.Env → SR} : (SR.ex e ρ).seq f = .ex e ρ := id rfl
def cEx (e : Exc) : Option O.Env → Res RV
  | some ρ' => .ex e ρ'
  | none => .no
@[simp] theorem cEx_some : cEx e (some ρ) = .ex e ρ := id rfl
@[simp] theorem cR1_exc {ms : List Md} {rs : List RV} {outs : List (Option OD)} : cR1 ms rs ρ (.exc e outs) = cEx e (outE ρ ms rs outs (drops ms rs ρ)) := by
  simp only [cR1]
  cases outE ρ ms rs outs (drops ms rs ρ) <;> rfl
def rEx (e : Exc) : Option (List (Option OD)) → FO
  | some os => .exc e os
  | none => .no
@[simp] theorem rEx_some {os : List (Option OD)} : rEx e (some os) = .exc e os := id rfl
@[simp] theorem run1_ex {as : List Ar} : run1 as (.ex e ρ) = rEx e (outsOf as ρ) := by
  simp only [run1]
  cases outsOf as ρ <;> rfl
end
end O

/-! Own35: a name's thing frozen where it gets a second name; xs[i] = e of a list; x.reverse() -/
namespace O
open PySem
open L2 (V Hp HO Rd SqL SqT upd upd_same upd_ne ne_of ne_of_none TE TT TA TS TG TGs TI TO It VK XK Ends St PE PT PW PA PS PSs PG PGs PI PO PTs Cx OpR UnR CallR IxR SlR MtR R2 tOp tUn tVar tC tCons tNil tTup tLst tTest tB tAnd tOr tNot tAndV tOrV tNotV tIf tCB Sp FnOk Gl Vis Loc Room)
section
variable {K : PySem.W.Frag} {W : St → XK}
def kVal (d : D) (ρ : O.Env) : Res RV := .ok (.val d) ρ
def fFz (f : O.Env → Res RV) : O.Env → Res RV := fun ρ => ((f ρ).bind fz).bind kVal
theorem sd_fz {t : TE} {f : O.Env → Res RV} (h : Sd K W (rV K) t f) : Sd K W (rV K) t (fFz f) := by
  intro C fp Hd H σ ρ I Q p
  refine h.fz C fp Hd H σ ρ I Q ?_
  unfold fFz at p
  show Post K W C (rD K) fp Hd H σ ((f ρ).bind fz) Q
  cases e : (f ρ).bind fz with
  | no => rw [e] at p; exact p
  | ex c ρ1 => rw [e] at p; exact p
  | ok d ρ1 =>
    rw [e] at p
    exact fun v fp1 Hd1 H1 s1 I1 r => p v fp1 Hd1 H1 s1 I1 r
@[simp] theorem u_kVal {d : D} {ρ : O.Env} : kVal d ρ = .ok (.val d) ρ := id rfl
@[simp] theorem u_fFz {f : O.Env → Res RV} {ρ : O.Env} : fFz f ρ = ((f ρ).bind fz).bind kVal := id rfl
/-- l.reverse() -/
def gReverse : List D → List D → Option (List D × D)
  | ds, [] => some (ds.reverse, .non)
  | _, _ => none
end
section
variable {X : Cx} {W : St → XK} {a b e i : Expr} {es : List Expr} {pos p p2 : Pos} {ta tb te ti : TE} {fa fb fe fi : O.Env → Res RV} {t : TA} {f : O.Env → Res (List RV)}
theorem mt_gReverse : MtR X "list.reverse" (rGMut X.K gReverse) := mt_imp L2.mt_reverse fun x vs H Q ⟨l, xs, Hd, ds, es, ds', z, ex, hl, r, re, eg, q⟩ => by
  match es, re, eg with
  | [], .nil, eg =>
    cases eg
    exact ⟨l, xs, ex, rfl, hl, q _ _ r.reverse .non⟩
theorem jfz (ha : JE X W a ta fa) : JE X W a ta (fFz fa) := ⟨ha.pe, sd_fz ha.se⟩
theorem jreverse {n : Nat} {apos : Pos} {x : Str} {K : PySem.W.Frag} (ho : JE X W (.Name x p) (tVar n) (fVar n)) (hbase : attributeBase (.Name x p) "reverse" X.env (eval (.Name x p) X.env) = eval (.Name x p) X.env := by rfl)
    (hline : (apos.endLine == pos.line) = true := by rfl) (hK : X.K = K := by rfl) :
    JE X W (.Call (.Attribute (.Name x p) "reverse" apos) [] [] pos) (L2.tBM0 K "list" (rGMut K gReverse) (tVar n)) (fMutL n aNil gReverse) := by
  subst hK
  exact ⟨L2.pe_bm0 PySem.F.plainAttrs_list PySem.F.slot_list_reverse PySem.F.type_list_reverse mt_gReverse ho.pe hbase hline, sd_mut sa_nil⟩
theorem jsetI (n : Nat) {x : Str} {pos' : Pos} (ho : JE X W (.Name x p) (tVar n) (fVar n)) (hi : JE X W i ti fi) (he : JE X W e te fe) (hs : swapsWithSole [.Subscript (.Name x p) i pos'] e pos.line X.env = pure false := by rfl) (hw : swappedStores [.Subscript (.Name x p) i pos'] e X.env = pure none := by rfl)
    (h1 : (assignEach [.Subscript (.Name x p) i pos'] X.env).map (·.2) = [assign (.Subscript (.Name x p) i pos') X.env] := by rfl)
    (ha : ∀ v, assign (.Subscript (.Name x p) i pos') X.env v = (do
      let ov ← holding [v] (eval (.Name x p) X.env)
      let iv ← holding [v, ov] (eval i X.env)
      standAt pos'
      holding [v, ov, iv] (setItem ov iv v)
      release [v, ov, iv] []) := by intro _; rfl) :
    JS X W (.Assign [.Subscript (.Name x p) i pos'] e pos) (L2.tAsg te (L2.gSub (tVar n) ti L2.rSetL)) (gSetI n fi fe) := ⟨L2.ps_asg he.pe (L2.pg_sub ho.pe hi.pe L2.set_list ha) hs hw h1, ss_setI hi.se he.se⟩
end
end O

/-! Own36: the words of Own35 (and or) as simp lemmas; a stream of draws that is a list of two ints -/
namespace O
open PySem
section
variable {ρ : O.Env} {i n k : Nat} {d : D} {fa fb fe fi : O.Env → Res RV}
def aSt3 (i : Nat) (d : D) (ds : List D) (ρ : O.Env) : Option Nat → SR
  | some j => .nx (setOw i (.lst (ds.set j d)) ρ)
  | none => .no
@[simp] theorem aSt3_some {ds : List D} {j : Nat} : aSt3 i d ds ρ (some j) = .nx (setOw i (.lst (ds.set j d)) ρ) := id rfl
def aSt2 (i : Nat) (d : D) (ρ : O.Env) : Option D → Option OD → SR
  | some (.int k), some (.lst ds) => aSt3 i d ds ρ (L2.ixN ds.length k)
  | _, _ => .no
@[simp] theorem aSt2_some {ds : List D} {k : Int} : aSt2 i d ρ (some (.int k)) (some (.lst ds)) = aSt3 i d ds ρ (L2.ixN ds.length k) := id rfl
def kStI2 (i : Nat) (d : D) (r : RV) (ρ : O.Env) : SR := aSt2 i d ρ (rd r ρ) (ownAt i ρ)
@[simp] theorem u_kStI2 {r : RV} : kStI2 i d r ρ = aSt2 i d ρ (rd r ρ) (ownAt i ρ) := id rfl
def aStI (i : Nat) (fi : O.Env → Res RV) (d : D) (ρ : O.Env) : Option OD → SR
  | some (.lst _) => (fi ρ).thn (kStI2 i d)
  | _ => .no
@[simp] theorem aSt_some {ds : List D} : aStI i fi d ρ (some (.lst ds)) = (fi ρ).thn (kStI2 i d) := id rfl
def kStI (i : Nat) (fi : O.Env → Res RV) (d : D) (ρ : O.Env) : SR := aStI i fi d ρ (ownAt i ρ)
@[simp] theorem u_kStI : kStI i fi d ρ = aStI i fi d ρ (ownAt i ρ) := id rfl
theorem aSt2_is {r : RV} : kStI2 i d r ρ = (match rd r ρ, ownAt i ρ with
    | some (.int k), some (.lst ds) => match L2.ixN ds.length k with
      | some j => .nx (setOw i (.lst (ds.set j d)) ρ)
      | none => .no
    | _, _ => .no) := by
  unfold kStI2 aSt2
  cases rd r ρ with
  | none => rfl
  | some x => cases x <;> first | rfl | (cases ownAt i ρ with
    | none => rfl
    | some o => cases o <;> first | rfl | (simp only [aSt3]; split <;> rename_i h <;> rw [h]))
@[simp] theorem u_gSetI : gSetI i fi fe ρ = ((fe ρ).bind fz).thn (kStI i fi) := by
  unfold gSetI
  congr 1
theorem or_t {r : RV} {ρ1 : O.Env} (h : fa ρ = .ok r ρ1) (ht : (rd r ρ1).bind truD = some true) : fOrT fa fb ρ = .ok r ρ1 := by
  unfold fOrT; rw [h]; simp only [Res.bind, ht]
theorem or_f {r : RV} {ρ1 : O.Env} (h : fa ρ = .ok r ρ1) (ht : (rd r ρ1).bind truD = some false) : fOrT fa fb ρ = fb ρ1 := by
  unfold fOrT; rw [h]; simp only [Res.bind, ht]
end
/-! a stream of draws: its digits and its seed -/
def sk (d m : Int) : OD := .lst [.int d, .int m]
theorem lt0 (x y : D) : gIx (.lst [x, y]) (.int 0) = some (.val x) := by simp [gIx, L2.atI, L2.ixN]
theorem lt1 (x y : D) : gIx (.lst [x, y]) (.int 1) = some (.val y) := by simp [gIx, L2.atI, L2.ixN]
theorem ixN0 : L2.ixN 2 0 = some 0 := by decide
theorem ixN1 : L2.ixN 2 1 = some 1 := by decide
theorem gPow_5 {i : Int} (h : (Builtin.Int.intBits i : Int) * 5 ≤ 134217728) : gPow (.int i) (.int 5) = some (.val (.int (i ^ 5))) := gPow_ii 5 h
theorem bits_add {z m : Int} {c n : Nat} (hz : Builtin.Int.intBits z ≤ n) (hn : 64 ≤ n) (h0 : 0 ≤ m) (h1 : m < 4294967296) (hc : c ≤ 100000) : Builtin.Int.intBits (m * c + z) ≤ n + 1 := by
  apply PyProof.Rows.intBits_le
  have a : z.natAbs < 2 ^ n := Nat.lt_of_lt_of_le (PyProof.Rows.natAbs_lt_pow_bits z) (Nat.pow_le_pow_right (by omega) hz)
  have c' : (2 : Nat) ^ 64 ≤ 2 ^ n := Nat.pow_le_pow_right (by omega) hn
  have c2 : (2 : Nat) ^ 64 = 18446744073709551616 := by decide
  have f : (2 : Nat) ^ (n + 1) = 2 ^ n * 2 := Nat.pow_succ ..
  have g : m.natAbs * c ≤ 4294967296 * 100000 := Nat.mul_le_mul (by omega) hc
  have g2 : (m * (c : Int)).natAbs = m.natAbs * c := by rw [Int.natAbs_mul]; rfl
  rw [f]
  generalize (2 : Nat) ^ n = P at *
  generalize m * (c : Int) = w at *
  omega
end O

/-! Own37: instances of own classes: fields read and stored, methods, new ones -/
namespace O
open PySem
open L2 (V Hp HO Rd SqL SqT upd upd_same upd_ne ne_of ne_of_none TE TT TA TS TG TGs TI TO It VK XK Ends St PE PT PW PA PS PSs PG PGs PI PO PTs Cx OpR UnR CallR IxR SlR MtR R2 tOp tUn tVar tC tCons tNil tTup tLst tTest tB tAnd tOr tNot tAndV tOrV tNotV tIf tCB Sp FnOk Gl Vis Loc Room)
/-! ### fields -/
section
variable {K : PySem.W.Frag} {Hd H : Hp}
theorem owns_get {f : Str} {o : OD} {fs : List (Str × OD)} : ∀ {gs : List (Str × V)} {A : List Addr}, Owns K Hd H fs gs A → fs.lookup f = some o → ∃ v B, gs.lookup f = some v ∧ Own K Hd H o v B ∧ ∀ b ∈ B, b ∈ A := by
  induction fs with
  | nil => intro gs A h e; simp at e
  | cons x fs ih =>
    intro gs A h e
    cases h with
    | cons h r =>
      rename_i g o1 v1 A1 B1 gs
      rw [List.lookup_cons] at e
      cases hb : f == g with
      | true =>
        rw [hb] at e
        cases e
        exact ⟨v1, A1, by rw [List.lookup_cons, hb], h, fun b hb => List.mem_append_left _ hb⟩
      | false =>
        rw [hb] at e
        obtain ⟨v, B, e1, e2, e3⟩ := ih r e
        exact ⟨v, B, by rw [List.lookup_cons, hb]; exact e1, e2, fun b hb => List.mem_append_right _ (e3 b hb)⟩
theorem owns_none {f : Str} {fs : List (Str × OD)} : ∀ {gs : List (Str × V)} {A : List Addr}, Owns K Hd H fs gs A → fs.lookup f = none → gs.lookup f = none := by
  induction fs with
  | nil => intro gs A h e; cases h; rfl
  | cons x fs ih =>
    intro gs A h e
    cases h with
    | cons h r =>
      rename_i g o1 v1 A1 B1 gs
      rw [List.lookup_cons] at e ⊢
      cases hb : f == g with
      | true => rw [hb] at e; cases e
      | false => rw [hb] at e; exact ih r e
theorem owns_len {fs : List (Str × OD)} : ∀ {gs : List (Str × V)} {A : List Addr}, Owns K Hd H fs gs A → gs.length = fs.length := by
  induction fs with
  | nil => intro gs A h; cases h; rfl
  | cons x fs ih =>
    intro gs A h
    cases h with
    | cons _ r => simp [ih r]
def putO (f : Str) (o : OD) : List (Str × OD) → List (Str × OD)
  | [] => [(f, o)]
  | (g, x) :: r => if g = f then (g, o) :: r else (g, x) :: putO f o r
theorem owns_put {f : Str} {o : OD} {v : V} {B : List Addr} (h' : Own K Hd H o v B) (nb : B.Nodup) {fs : List (Str × OD)} : ∀ {gs : List (Str × V)} {A : List Addr}, Owns K Hd H fs gs A → A.Nodup → (∀ b ∈ B, b ∉ A) →
    ∃ A', Owns K Hd H (putO f o fs) (L2.putF f v gs) A' ∧ A'.Nodup ∧ ∀ a ∈ A', a ∈ A ∨ a ∈ B := by
  induction fs with
  | nil =>
    intro gs A h _ _
    cases h
    exact ⟨B ++ [], .cons h' .nil, by simpa using nb, fun a ha => .inr (by simpa using ha)⟩
  | cons x fs ih =>
    intro gs A h na dj
    cases h with
    | cons h r =>
      rename_i g o1 v1 A1 B1 gs
      rw [List.nodup_append] at na
      obtain ⟨n1, n2, n3⟩ := na
      by_cases e : g = f
      · subst e
        refine ⟨B ++ B1, by simp only [putO, L2.putF, if_true]; exact .cons h' r, ?_, fun a ha => ?_⟩
        · rw [List.nodup_append]
          exact ⟨nb, n2, fun a ha b hb z => dj a ha (by rw [z]; exact List.mem_append_right _ hb)⟩
        · rcases List.mem_append.mp ha with q | q
          · exact .inr q
          · exact .inl (List.mem_append_right _ q)
      · obtain ⟨A', q1, q2, q3⟩ := ih r n2 fun b hb z => dj b hb (List.mem_append_right _ z)
        refine ⟨A1 ++ A', by simp only [putO, L2.putF, if_neg e]; exact .cons h q1, ?_, fun a ha => ?_⟩
        · rw [List.nodup_append]
          refine ⟨n1, q2, fun a ha b hb z => ?_⟩
          subst z
          rcases q3 a hb with q | q
          · exact n3 a ha a q rfl
          · exact dj a q (List.mem_append_left _ ha)
        · rcases List.mem_append.mp ha with q | q
          · exact .inl (List.mem_append_left _ q)
          · rcases q3 a q with z | z
            · exact .inl (List.mem_append_right _ z)
            · exact .inr z
/-- a list field changed in place -/
theorem owns_lst {f : Str} {ds ds' : List D} {l : Addr} {vs' : List V} (q : Reps K Hd ds' vs') {fs : List (Str × OD)} : ∀ {gs : List (Str × V)} {A : List Addr}, Owns K Hd H fs gs A → A.Nodup → fs.lookup f = some (.lst ds) → gs.lookup f = some (.ref l) →
    l ∈ A ∧ (∃ vs, H l = some (.lst vs) ∧ Reps K Hd ds vs) ∧ Owns K Hd (upd H l (.lst vs')) (putO f (.lst ds') fs) gs A := by
  induction fs with
  | nil => intro gs A h _ e; simp at e
  | cons x fs ih =>
    intro gs A h na e e'
    cases h with
    | cons h r =>
      rename_i g o1 v1 A1 B1 gs
      rw [List.nodup_append] at na
      obtain ⟨n1, n2, n3⟩ := na
      rw [List.lookup_cons] at e e'
      cases hb : f == g with
      | true =>
        rw [hb] at e e'
        cases e
        cases e'
        have eg : g = f := (by simpa using hb : f = g).symm
        cases h with
        | lst h1 r1 =>
          refine ⟨by simp, ⟨_, h1, r1⟩, ?_⟩
          simp only [putO, if_pos eg]
          refine .cons (.lst upd_same q) (r.frame (.refl _) fun a ha u hu => ?_)
          rw [upd_ne (fun z => n3 l (by simp) a ha z.symm)]; exact hu
      | false =>
        rw [hb] at e e'
        obtain ⟨q1, q2, q3⟩ := ih r n2 e e'
        have eg : ¬ g = f := fun z => by rw [z] at hb; simp at hb
        refine ⟨List.mem_append_right _ q1, q2, ?_⟩
        simp only [putO, if_neg eg]
        refine .cons (h.frame (.refl _) fun a ha u hu => ?_) q3
        rw [upd_ne (fun z => n3 a ha l q1 z)]; exact hu
end
def insAt (C : Addr) (i : Nat) (ρ : O.Env) : Option (List (Str × OD)) := match ownAt i ρ with
  | some (.ins C' fs) => if C' = C then some fs else none
  | _ => none
section
variable {K : PySem.W.Frag} {W : St → XK} {C0 : Cn} {fp : Fp} {Hd H : Hp} {σ : St} {ρ : O.Env} {C : Addr} {i : Nat} {fs : List (Str × OD)}
theorem insAt_own (e : insAt C i ρ = some fs) : ownAt i ρ = some (.ins C fs) := by
  unfold insAt at e
  cases h : ownAt i ρ with
  | none => rw [h] at e; cases e
  | some o =>
    rw [h] at e
    cases o with
    | ins C' gs =>
      simp only at e
      by_cases hc : C' = C
      · rw [if_pos hc] at e; cases e; rw [hc]
      · rw [if_neg hc] at e; cases e
    | _ => cases e
theorem insAt_ok (I : Inv K C0 fp Hd H σ ρ) (e : insAt C i ρ = some fs) : ∃ a dx gs A, σ[i]? = some (some (.ref a)) ∧ H a = some (.ins C dx gs) ∧ H dx = some (.own a) ∧ Owns K Hd H fs gs A ∧ fp i = a :: dx :: A ∧ (a :: dx :: A).Nodup ∧ ∀ b ∈ a :: dx :: A, Hd b = none := by
  obtain ⟨v, hv, ow, nd, hn⟩ := ownAt_ok I (insAt_own e)
  generalize hA : fp i = A at ow nd hn
  cases ow with
  | ins h1 h2 r => exact ⟨_, _, _, _, hv, h1, h2, r, rfl, nd, hn⟩
/-- x.f of a field that is frozen -/
def fFld (C : Addr) (i : Nat) (f : Str) : O.Env → Res RV := fun ρ => match (insAt C i ρ).bind (·.lookup f) with
  | some (.fz d) => .ok (.val d) ρ
  | _ => .no
theorem sd_fld {f : Str} (hc : L2.Cls K C) (hn : L2.NoAttr K C f) : Sd K W (rV K) (L2.tFld K (tVar i) f) (fFld C i f) := fun C0 fp Hd H σ ρ I Q p => by
  unfold fFld at p
  cases e : insAt C i ρ with
  | none => rw [e] at p; exact p.elim
  | some fs =>
    rw [e] at p
    simp only [Option.bind_some] at p
    cases el : fs.lookup f with
    | none => rw [el] at p; exact p.elim
    | some o =>
      rw [el] at p
      cases o with
      | fz d =>
        obtain ⟨a, dx, gs, A, hv, h1, h2, r, _, _, _⟩ := insAt_ok I e
        obtain ⟨v, B, e1, ow, _⟩ := owns_get r el
        cases ow with
        | fz rr => exact ⟨_, hv, a, C, dx, gs, v, rfl, h1, hc, hn, e1, p.now I rr⟩
      | lst _ => exact p.elim
      | dic _ => exact p.elim
      | ins _ _ => exact p.elim
/-- what a field shows -/
def rdF (C : Addr) (i : Nat) (f : Str) (ρ : O.Env) : Option D := ((insAt C i ρ).bind (·.lookup f)).bind OD.top
theorem rdF_ok {f : Str} {d : D} (I : Inv K C0 fp Hd H σ ρ) (e : rdF C i f ρ = some d) : ∃ a dx gs v, σ[i]? = some (some (.ref a)) ∧ H a = some (.ins C dx gs) ∧ gs.lookup f = some v ∧ Top K Hd H d v := by
  unfold rdF at e
  cases e1 : insAt C i ρ with
  | none => rw [e1] at e; cases e
  | some fs =>
    rw [e1] at e
    simp only [Option.bind_some] at e
    cases el : fs.lookup f with
    | none => rw [el] at e; cases e
    | some o =>
      rw [el] at e
      simp only [Option.bind_some] at e
      obtain ⟨a, dx, gs, A, hv, h1, h2, r, _, _, _⟩ := insAt_ok I e1
      obtain ⟨v, B, e2, ow, _⟩ := owns_get r el
      exact ⟨a, dx, gs, v, hv, h1, e2, ow.topD e⟩
/-- len(x.f) and others of one value -/
def fFldB (C : Addr) (i : Nat) (f : Str) (g : List D → Option RV) : O.Env → Res RV := fun ρ => match rdF C i f ρ with
  | some d => match g [d] with
    | some z => .ok z ρ
    | none => .no
  | none => .no
theorem sd_fldB {f : Str} {g : List D → Option RV} (hc : L2.Cls K C) (hn : L2.NoAttr K C f) : Sd K W (rV K) (tCB (rGC K g) (tCons (L2.tFld K (tVar i) f) tNil)) (fFldB C i f g) := fun C0 fp Hd H σ ρ I Q p => by
  unfold fFldB at p
  cases e : rdF C i f ρ with
  | none => rw [e] at p; exact p.elim
  | some d =>
    rw [e] at p
    simp only at p
    cases eg : g [d] with
    | none => rw [eg] at p; exact p.elim
    | some z =>
      rw [eg] at p
      obtain ⟨a, dx, gs, v, hv, h1, e2, t⟩ := rdF_ok I e
      exact ⟨_, hv, a, C, dx, gs, v, rfl, h1, hc, hn, e2, Hd, [d], z, I.le, .cons t .nil, eg, fun v' H' n => p.new I n⟩
/-- x.f[y], y a name -/
def fFldIx (C : Addr) (i : Nat) (f : Str) (j : Nat) : O.Env → Res RV := fun ρ => match fVar j ρ with
  | .ok r ρ1 => match rdF C i f ρ, rd r ρ1 with
    | some d, some e => match gIx d e with
      | some z => .ok z ρ1
      | none => .no
    | _, _ => .no
  | _ => .no
theorem fVar_ok {j : Nat} {r : RV} {ρ ρ1 : O.Env} (e : fVar j ρ = .ok r ρ1) : ρ1 = ρ ∧ r = .bor j := by
  unfold fVar at e
  cases h : ρ[j]? with
  | none => rw [h] at e; cases e
  | some s => rw [h] at e; cases s <;> cases e <;> exact ⟨rfl, rfl⟩
theorem bor_top {j : Nat} {d : D} (I : Inv K C0 fp Hd H σ ρ) (e : rd (.bor j) ρ = some d) : ∃ y, σ[j]? = some (some y) ∧ Top K Hd H d y := by
  have e0 := e
  simp only [rd] at e
  cases es : ρ[j]? with
  | none => rw [es] at e; cases e
  | some s =>
    rw [es] at e
    have q := I.slot j s es
    have fin : ∀ {y : V}, σ[j]? = some (some y) → ∃ y, σ[j]? = some (some y) ∧ Top K Hd H d y := fun {y} hy => ⟨y, hy, I.rdTop (r := .bor j) hy e0⟩
    cases s with
    | un => cases e
    | sh d => obtain ⟨_, v, ev, _⟩ := q; exact fin ev
    | br d => obtain ⟨_, v, ev, _⟩ := q; exact fin ev
    | ow d => obtain ⟨v, ev, _⟩ := q; exact fin ev
    | io d => obtain ⟨v, ev, _⟩ := q; exact fin ev
theorem sd_fldIx {f : Str} {j : Nat} (hc : L2.Cls K C) (hn : L2.NoAttr K C f) : Sd K W (rV K) (tOp (rG K gIx) (L2.tFld K (tVar i) f) (tVar j)) (fFldIx C i f j) := fun C0 fp Hd H σ ρ I Q p => by
  unfold fFldIx at p
  cases ev : fVar j ρ with
  | no => rw [ev] at p; exact p.elim
  | ex c ρ1 => rw [ev] at p; exact p.elim
  | ok r ρ1 =>
    obtain ⟨e1, e2⟩ := fVar_ok ev
    rw [ev] at p
    subst e1 e2
    simp only at p
    cases e : rdF C i f ρ1 with
    | none => rw [e] at p; exact p.elim
    | some d =>
      cases e' : rd (.bor j) ρ1 with
      | none => rw [e, e'] at p; exact p.elim
      | some dj =>
        rw [e, e'] at p
        simp only at p
        cases eg : gIx d dj with
        | none => rw [eg] at p; exact p.elim
        | some z =>
          rw [eg] at p
          obtain ⟨a, dx, gs, v, hv, h1, e2, t⟩ := rdF_ok I e
          refine ⟨_, hv, a, C, dx, gs, v, rfl, h1, hc, hn, e2, ?_⟩
          obtain ⟨y, hy, ty⟩ := bor_top I e'
          exact ⟨y, hy, Hd, d, dj, z, I.le, t, ty, eg, fun v' H' n => p.new I n⟩
end
end O

/-! Own38: fields stored, methods called, instances made -/
namespace O
open PySem
open L2 (V Hp HO Rd SqL SqT upd upd_same upd_ne ne_of ne_of_none TE TT TA TS TG TGs TI TO It VK XK Ends St PE PT PW PA PS PSs PG PGs PI PO PTs Cx OpR UnR CallR IxR SlR MtR R2 tOp tUn tVar tC tCons tNil tTup tLst tTest tB tAnd tOr tNot tAndV tOrV tNotV tIf tCB Sp FnOk Gl Vis Loc Room)
section
variable {K : PySem.W.Frag} {W : St → XK} {C0 : Cn} {fp : Fp} {Hd H : Hp} {σ : St} {ρ : O.Env} {C : Addr} {i : Nat} {fs : List (Str × OD)}
/-! x.f[y] = e, y a name -/
def gSetFI (C : Addr) (i : Nat) (f : Str) (j : Nat) (fe : O.Env → Res RV) : O.Env → SR := fun ρ => ((fe ρ).bind fz).thn fun d ρ1 => match insAt C i ρ1, rd (.bor j) ρ1 with
  | some fs, some (.int k) => match fs.lookup f with
    | some (.lst ds) => match L2.ixN ds.length k with
      | some n => .nx (setOw i (.ins C (putO f (.lst (ds.set n d)) fs)) ρ1)
      | none => .no
    | _ => .no
  | _, _ => .no
theorem ss_setFI {f : Str} {j : Nat} {te : TE} {fe : O.Env → Res RV} (hc : L2.Cls K C) (hn : L2.NoAttr K C f) (he : Sd K W (rV K) te fe) : Ss K W (L2.tAsg te (L2.gSub (L2.tFld K (tVar i) f) (tVar j) L2.rSetL)) (gSetFI C i f j fe) := fun C0 fp Hd H σ ρ I D p =>
  he.fz.runS I p fun d v fp1 Hd1 H1 ρ1 s1 I1 hd p1 => by
    have hd : Rep K Hd1 d v := hd
    cases e1 : insAt C i ρ1 with
    | none => simp only [e1] at p1; exact p1.elim
    | some fs =>
      cases e2 : rd (.bor j) ρ1 with
      | none => simp only [e1, e2] at p1; exact p1.elim
      | some dk =>
        cases dk with
        | int k =>
          simp only [e1, e2] at p1
          cases el : fs.lookup f with
          | none => simp only [el] at p1; exact p1.elim
          | some o =>
            cases o with
            | lst ds =>
              simp only [el] at p1
              cases ek : L2.ixN ds.length k with
              | none => simp only [ek] at p1; exact p1.elim
              | some n =>
                simp only [ek] at p1
                obtain ⟨a, dx, gs, A, hv, h1, h2, r, hfp, nd, hnn⟩ := insAt_ok I1 e1
                obtain ⟨w, B, ew, ow, hBA⟩ := owns_get r el
                clear hBA
                cases ow with
                | lst hl rl =>
                  rename_i l vs
                  obtain ⟨y, hy, ty⟩ := bor_top I1 e2
                  have ey := ty.intD
                  subst ey
                  have ndA : A.Nodup := (List.nodup_cons.mp (List.nodup_cons.mp nd).2).2
                  obtain ⟨m1, ⟨vs2, m2, m3⟩, m4⟩ := owns_lst (Reps.set n rl hd) r ndA el ew
                  have la : l ≠ a := fun z => (List.nodup_cons.mp nd).1 (by rw [← z]; exact List.mem_cons_of_mem _ m1)
                  have ld : l ≠ dx := fun z => (List.nodup_cons.mp (List.nodup_cons.mp nd).2).1 (by rw [← z]; exact m1)
                  obtain ⟨s2, I2⟩ := I1.mutate (o' := .ins C (putO f (.lst (ds.set n d)) fs)) (u := .lst (vs.set n v)) (insAt_own e1) hv (by rw [hfp]; exact List.mem_cons_of_mem _ (List.mem_cons_of_mem _ m1)) (by
                    rw [hfp]
                    exact .ins (by rw [upd_ne (Ne.symm la)]; exact h1) (by rw [upd_ne (Ne.symm ld)]; exact h2) m4)
                  exact ⟨_, hv, a, C, dx, gs, _, rfl, h1, hc, hn, ew, _, hy, l, vs, k, n, rfl, rfl, hl, by rw [rl.length]; exact ek, p1 σ fp1 Hd1 _ s2 I2⟩
            | _ => simp only [el] at p1; exact p1.elim
        | _ => simp only [e1, e2] at p1; exact p1.elim
/-! x.f = e -/
def fOD (r : RV) (ρ : O.Env) : Res OD := match r with
  | .own (.lst ds) => .ok (.lst ds) ρ
  | .own (.dic ds) => .ok (.dic ds) ρ
  | r => (fz r ρ).bind fun d ρ1 => .ok (.fz d) ρ1
/-- an owned thing by itself -/
def rOD (K : PySem.W.Frag) : Rel OD V where
  r := fun C Hs fp Hd H σ o v => ∃ A, Own K Hd H o v A ∧ A.Nodup ∧ ∀ a ∈ A, Hd a = none ∧ C.H0 a = none ∧ (∀ i, a ∉ fp i) ∧ Hs a = none
  back := fun {C Hs Hs' fp Hd H σ a b} d h => by
    obtain ⟨A, ow, nd, f⟩ := h
    exact ⟨A, ow, nd, fun a ha => ⟨(f a ha).1, (f a ha).2.1, (f a ha).2.2.1, none_back d (f a ha).2.2.2⟩⟩
theorem Sd.od {t : TE} {f : O.Env → Res RV} (h : Sd K W (rV K) t f) : Sd K W (rOD K) t (fun ρ => (f ρ).bind fOD) := by
  intro C fp Hd H σ ρ I Q p
  refine h C fp Hd H σ ρ I Q ?_
  cases e : f ρ with
  | no => simp only [e, Res.bind] at p; exact p
  | ex c ρ1 => simp only [e, Res.bind] at p; exact p
  | ok r ρ1 =>
    simp only [e, Res.bind] at p
    intro v fp1 Hd1 H1 s1 I1 hr
    have viaFz : fOD r ρ1 = (O.fz r ρ1).bind (fun d ρ1 => .ok (.fz d) ρ1) → Q v H1 := fun ef => by
      rw [ef] at p
      refine fz_at (W := W) s1 I1 hr (Q := Q) ?_
      cases ez : O.fz r ρ1 with
      | no => rw [ez] at p; exact p
      | ex c ρ2 => rw [ez] at p; exact p
      | ok d ρ2 =>
        rw [ez] at p
        exact fun v2 fp2 Hd2 H2 s2 I2 r2 => p v2 fp2 Hd2 H2 s2 I2 ⟨[], .fz r2, by simp, fun a ha => by cases ha⟩
    cases r with
    | val d => exact viaFz rfl
    | bor j => exact viaFz rfl
    | own o =>
      cases o with
      | lst ds => exact p v fp1 Hd1 H1 s1 I1 hr
      | dic ds => exact p v fp1 Hd1 H1 s1 I1 hr
      | fz d => exact viaFz rfl
      | ins c fs => exact viaFz rfl
def gSetF (C : Addr) (i : Nat) (f : Str) (fe : O.Env → Res RV) : O.Env → SR := fun ρ => ((fe ρ).bind fOD).thn fun o ρ1 => match insAt C i ρ1 with
  | some fs => if fs.length < 1000 then .nx (setOw i (.ins C (putO f o fs)) ρ1) else .no
  | none => .no
theorem stp_mix {fp0 : Fp} {Hd0 H0 : Hp} {A' : List Addr} (s : Stp fp0 Hd0 H0 fp Hd H) (h : ∀ a ∈ A', a ∈ fp i ∨ H0 a = none) : Stp fp0 Hd0 H0 (setF fp i A') Hd H :=
  ⟨s.hd, s.fr, s.keep, s.dom, fun j b hb => by
    by_cases hj : j = i
    · subst hj
      rw [setF_same] at hb
      rcases h b hb with q | q
      · exact s.fpx j b q
      · exact .inr q
    · rw [setF_ne hj] at hb
      exact s.fpx j b hb⟩
/-- a thing that no name has changes -/
theorem Inv.stray {a : Addr} {u : HO} (I : Inv K C0 fp Hd H σ ρ) (ha : Hd a = none) (hC : (∃ k, a ∈ C0.M k) ∨ C0.H0 a = none) (hf : ∀ j, a ∉ fp j) : Inv K C0 fp Hd (upd H a u) σ ρ where
  le := ⟨fun b w r => by
    have nb : b ≠ a := fun z => by
      rw [z] at r
      rcases r with r | ⟨_, r⟩ <;> rw [ha] at r <;> cases r
    rcases I.le b w r with q | ⟨x, q⟩
    · exact .inl (by rw [upd_ne nb]; exact q)
    · exact .inr ⟨x, by rw [upd_ne nb]; exact q⟩, fun b x w r => by
    have nb : b ≠ a := fun z => by rw [z, ha] at r; cases r
    rw [upd_ne nb]; exact I.le.fr b x w r⟩
  hd0 := I.hd0
  keep := fun b o h n => by
    have nb : b ≠ a := fun z => by
      subst z
      rcases hC with ⟨k, q⟩ | q
      · exact n k q
      · rw [q] at h; cases h
    rw [upd_ne nb]; exact I.keep b o h n
  dom := fun b h => by
    by_cases z : b = a
    · rw [z, upd_same]; intro w; cases w
    · rw [upd_ne z]; exact I.dom b h
  fresh := I.fresh
  len := I.len
  slot := fun j s e => (I.slot j s e).ext (.refl _) (fun _ _ h => h) fun b hb w h => by
    rw [upd_ne (fun z => hf j (by rw [← z]; exact hb))]; exact h
  out := I.out
  dis := I.dis
/-- an owned thing changes and gets other parts -/
theorem Inv.recast {o o' : OD} {v : V} {A' : List Addr} {a : Addr} {u : HO} (I : Inv K C0 fp Hd H σ ρ) (e : ownAt i ρ = some o) (hv : σ[i]? = some (some v)) (ha : a ∈ fp i) (hn : Own K Hd (upd H a u) o' v A') (nd : A'.Nodup) (hA : ∀ b ∈ A', b ∈ fp i ∨ (Hd b = none ∧ C0.H0 b = none ∧ ∀ j, b ∉ fp j)) :
    Inv K C0 (setF fp i A') Hd (upd H a u) σ (setOw i o' ρ) := by
  have dj : ∀ a ∈ A', ∀ j, j ≠ i → a ∉ fp j := fun a ha j hj z => by
    rcases hA a ha with q | q
    · exact hj (I.dis j i a z q)
    · exact q.2.2 j z
  obtain ⟨k1, k2, k3⟩ := I.fpOk ha
  unfold ownAt at e
  unfold setOw
  cases es : ρ[i]? with
  | none => rw [es] at e; cases e
  | some s =>
    have hi : i < ρ.length := (List.getElem?_eq_some_iff.mp es).1
    have q := I.slot i s es
    have J : Inv K C0 (setF fp i []) Hd (upd H a u) σ (ρ.set i .un) := (I.drop hi).stray k2 (k3.imp_left fun z => ⟨i, z⟩) fun j z => by
      by_cases hj : j = i
      · subst hj; rw [setF_same] at z; cases z
      · rw [setF_ne hj] at z; exact hj (I.dis j i a z ha)
    have fin : ∀ s' : Sl, SlotOk K C0 Hd (upd H a u) i s' σ[i]? A' → Inv K C0 (setF fp i A') Hd (upd H a u) σ (ρ.set i s') := fun s' hs => by
      have r := J.set_slot (i := i) (s' := s') (A' := A') (σ' := σ) (by rw [List.length_set]; exact hi) hs (fun b hb j hj => by rw [setF_ne hj]; exact dj b hb j hj) rfl fun _ _ => rfl
      rw [List.set_set] at r
      have ef : setF (setF fp i []) i A' = setF fp i A' := by
        funext j
        by_cases hj : j = i
        · rw [hj, setF_same, setF_same]
        · rw [setF_ne hj, setF_ne hj, setF_ne hj]
      rw [ef] at r
      exact r
    rw [es] at e
    cases s with
    | un => cases e
    | sh _ => cases e
    | br _ => cases e
    | ow x =>
      exact fin (.ow o') ⟨v, hv, hn, nd, fun a ha => by
        rcases hA a ha with z | z
        · obtain ⟨_, _, _, _, f⟩ := q
          exact f a z
        · exact ⟨z.1, z.2.1⟩⟩
    | io x =>
      obtain ⟨w, ew, _, _, f, m⟩ := q
      rw [hv] at ew
      cases ew
      exact fin (.io o') ⟨v, hv, hn, nd, fun a ha => by
        rcases hA a ha with z | z
        · exact f a z
        · exact ⟨z.1, .inr z.2.1⟩, m⟩
theorem ss_setF {f : Str} {te : TE} {fe : O.Env → Res RV} (hc : L2.Cls K C) (hn : L2.NoAttr K C f) (he : Sd K W (rV K) te fe) : Ss K W (L2.sFld K (tVar i) te f) (gSetF C i f fe) := fun C0 fp Hd H σ ρ I D p => by
  refine (Sd.od he) C0 fp Hd H σ ρ I _ ?_
  unfold gSetF at p
  show Post K W C0 (rOD K) fp Hd H σ ((fe ρ).bind fOD) _
  cases e : (fe ρ).bind fOD with
  | no => rw [e] at p; exact p
  | ex c ρ1 => rw [e] at p; exact fun d fp1 Hd1 H1 s1 I1 hx => p d σ fp1 Hd1 H1 s1 I1 hx
  | ok o ρ1 =>
    rw [e] at p
    intro v fp1 Hd1 H1 s1 I1 ⟨B, ow, nb, fb⟩
    have p1 : PostS K W C0 fp Hd H (match insAt C i ρ1 with | some fs => if fs.length < 1000 then .nx (setOw i (.ins C (putO f o fs)) ρ1) else .no | none => .no) D := p
    cases e1 : insAt C i ρ1 with
    | none => simp only [e1] at p1; exact p1.elim
    | some fs =>
      simp only [e1] at p1
      by_cases hz : fs.length < 1000
      · rw [if_pos hz] at p1
        obtain ⟨a, dx, gs, A, hv, h1, h2, r, hfp, nd, hnn⟩ := insAt_ok I1 e1
        have ndA : A.Nodup := (List.nodup_cons.mp (List.nodup_cons.mp nd).2).2
        have dj : ∀ b ∈ B, b ∉ a :: dx :: A := fun b hb z => (fb b hb).2.2.1 i (by rw [hfp]; exact z)
        have bn : ∀ b ∈ B, b ≠ a := fun b hb z => dj b hb (by rw [z]; simp)
        have an : a ∉ A := fun z => (List.nodup_cons.mp nd).1 (List.mem_cons_of_mem _ z)
        obtain ⟨A', q1, q2, q3⟩ := owns_put (f := f) (H := upd H1 a (.ins C dx (L2.putF f v gs))) (ow.frame (.refl _) fun b hb u hu => by rw [upd_ne (bn b hb)]; exact hu) nb (r.frame (.refl _) fun b hb u hu => by rw [upd_ne (fun z => an (by rw [← z]; exact hb))]; exact hu) ndA fun b hb z => dj b hb (List.mem_cons_of_mem _ (List.mem_cons_of_mem _ z))
        refine ⟨_, hv, a, C, dx, gs, rfl, h1, hc, hn, by rw [owns_len r]; exact hz, ?_⟩
        have nd' : (a :: dx :: A').Nodup := by
          have n1 := List.nodup_cons.mp nd
          have n2 := List.nodup_cons.mp n1.2
          have out : ∀ y ∈ A', y ≠ a ∧ y ≠ dx := fun y hy => by
            rcases q3 y hy with z | z
            · exact ⟨fun w => n1.1 (by rw [← w]; exact List.mem_cons_of_mem _ z), fun w => n2.1 (by rw [← w]; exact z)⟩
            · exact ⟨fun w => dj y z (by rw [w]; simp), fun w => dj y z (by rw [w]; simp)⟩
          refine List.nodup_cons.mpr ⟨fun z => ?_, List.nodup_cons.mpr ⟨fun z => (out dx z).2 rfl, q2⟩⟩
          rcases List.mem_cons.mp z with z | z
          · exact n1.1 (by rw [z]; simp)
          · exact (out a z).1 rfl
        have s2 : Stp fp Hd H (setF fp1 i (a :: dx :: A')) Hd1 H1 := stp_mix s1 fun b hb => by
          rcases List.mem_cons.mp hb with rfl | hb
          · exact .inl (by rw [hfp]; simp)
          · rcases List.mem_cons.mp hb with rfl | hb
            · exact .inl (by rw [hfp]; simp)
            · rcases q3 b hb with z | z
              · exact .inl (by rw [hfp]; exact List.mem_cons_of_mem _ (List.mem_cons_of_mem _ z))
              · exact .inr (fb b z).2.2.2
        have da : dx ≠ a := fun z => (List.nodup_cons.mp nd).1 (by rw [z]; simp)
        have I2 := I1.recast (o' := .ins C (putO f o fs)) (A' := a :: dx :: A') (u := .ins C dx (L2.putF f v gs)) (insAt_own e1) hv (by rw [hfp]; simp) (.ins upd_same (by rw [upd_ne da]; exact h2) q1) nd' fun b hb => by
          rcases List.mem_cons.mp hb with rfl | hb
          · exact .inl (by rw [hfp]; simp)
          · rcases List.mem_cons.mp hb with rfl | hb
            · exact .inl (by rw [hfp]; simp)
            · rcases q3 b hb with z | z
              · exact .inl (by rw [hfp]; exact List.mem_cons_of_mem _ (List.mem_cons_of_mem _ z))
              · exact .inr ⟨(fb b z).1, (fb b z).2.1, (fb b z).2.2.1⟩
        have haf : a ∈ fp1 i := by rw [hfp]; simp
        exact p1 σ _ Hd1 _ ⟨s2.hd, s2.fr, fun b o h n => by
          have nb : b ≠ a := fun z => by
            subst z
            rcases s1.fpx i b haf with ⟨j, q⟩ | q
            · exact n j q
            · rw [q] at h; cases h
          rw [upd_ne nb]; exact s2.keep b o h n, fun b h => by
          by_cases z : b = a
          · rw [z, upd_same]; intro w; cases w
          · rw [upd_ne z]; exact s2.dom b h, s2.fpx⟩ I2
      · rw [if_neg hz] at p1; exact p1.elim
end
end O

/-! Own39: methods called, instances made; the joined rules for instances -/
namespace O
open PySem
open L2 (V Hp HO Rd SqL SqT upd upd_same upd_ne ne_of ne_of_none TE TT TA TS TG TGs TI TO It VK XK Ends St PE PT PW PA PS PSs PG PGs PI PO PTs Cx OpR UnR CallR IxR SlR MtR R2 tOp tUn tVar tC tCons tNil tTup tLst tTest tB tAnd tOr tNot tAndV tOrV tNotV tIf tCB Sp FnOk Gl Vis Loc Room)
/-- what raises nothing -/
def noX (F : List Ar → FO) : List Ar → FO := fun as => match F as with
  | .exc _ _ => .no
  | r => r
section
variable {K : PySem.W.Frag} {W : St → XK} {C0 : Cn} {fp : Fp} {Hd H : Hp} {σ : St} {ρ : O.Env} {C : Addr} {i : Nat} {fs : List (Str × OD)}
theorem spF_noX {n : Nat} {F : List Ar → FO} {vs : List V} {Q : VK} {E E' : XK} (h : spF K n (noX F) vs H Q E) : spF K n F vs H Q E' := by
  obtain ⟨Hd, as, fp, h1, h2, h3, h4⟩ := h
  refine ⟨Hd, as, fp, h1, h2, h3, ?_⟩
  unfold noX at h4
  cases e : F as with
  | ret r outs => rw [e] at h4; exact h4
  | exc _ _ => rw [e] at h4; exact h4.elim
  | no => rw [e] at h4; exact h4.elim
/-! x.m(..) -/
def fMeth (C : Addr) (m : Str) (i : Nat) (ms : List Md) (F : List Ar → FO) (f : O.Env → Res (List RV)) : O.Env → Res RV := fun ρ => match insAt C i ρ with
  | some fs => if (fs.lookup m).isNone = true then ((aCons (fVar i) f) ρ).bind (callR ms (noX F)) else .no
  | none => .no
theorem sd_meth {m : Str} {ms : List Md} {n : Nat} {F : List Ar → FO} {t : TA} {f : O.Env → Res (List RV)} (hn : ms.length = n) (ha : Sd K W (rA K) t f) : Sd K W (rV K) (L2.tMeth C m (spF K n F) [] L2.E0 (tVar i) t) (fMeth C m i ms F f) := fun C0 fp Hd H σ ρ I Q p => by
  unfold fMeth at p
  cases e : insAt C i ρ with
  | none => rw [e] at p; exact p.elim
  | some fs =>
    rw [e] at p
    simp only at p
    by_cases hm : (fs.lookup m).isNone = true
    · rw [if_pos hm] at p
      obtain ⟨a, dx, gs, A, hv, h1, h2, r, _, _, _⟩ := insAt_ok I e
      have hl : gs.lookup m = none := owns_none r (by simpa using hm)
      have go := (sa_cons (sd_var (K := K) (W := W) (i := i)) ha).run I (Q := Q) (Q' := fun vs H2 => spF K n F vs H2 Q L2.E0) (g := callR ms (noX F)) p fun rs vs fp0 Hd0 H0 ρ0 s0 I0 h p => spF_noX (callR_ok I0 hn h p)
      obtain ⟨v, ev, q⟩ := go
      rw [hv] at ev
      cases ev
      refine ⟨_, hv, a, dx, gs, rfl, h1, hl, ?_⟩
      simpa only [List.append_nil] using q
    · rw [if_neg hm] at p; exact p.elim
/-! C(..) -/
def mkR (C : Addr) (ms : List Md) (F : List Ar → FO) (rs : List RV) (ρ : O.Env) : Res RV :=
  if ioIx ms rs = [] then match mkArs [] ms rs ρ with
    | some as => match F (.io (.ins C []) :: as) with
      | .ret (.val .non) (some (.ins C' fs) :: os) => if C' = C then .ok (.own (.ins C fs)) ρ else .no
      | _ => .no
    | none => .no
  else .no
def fMake (C : Addr) (ms : List Md) (F : List Ar → FO) (f : O.Env → Res (List RV)) : O.Env → Res RV := fun ρ => (f ρ).bind (mkR C ms F)
theorem sd_make {ms : List Md} {n : Nat} {F : List Ar → FO} {t : TA} {f : O.Env → Res (List RV)} (hn : ms.length = n) (ha : Sd K W (rA K) t f) : Sd K W (rV K) (L2.tMake C (spF K (n + 1) F) [] L2.E0 t) (fMake C ms F f) := fun C0 fp Hd H σ ρ I Q p => by
  refine ha.run I (Q := Q) p fun rs vs fp1 Hd1 H1 ρ1 s1 I1 h p1 => ?_
  unfold mkR at p1
  by_cases hio : ioIx ms rs = []
  · rw [if_pos hio] at p1
    cases ea : mkArs [] ms rs ρ1 with
    | none => rw [ea] at p1; exact p1.elim
    | some as =>
      rw [ea] at p1
      simp only at p1
      intro x dx hx hdx hne
      have nd : (ioIx ms rs).Nodup := by rw [hio]; simp
      obtain ⟨q1, q2, q3⟩ := ars_ok I1 nd (ms := ms) (rs := rs) 0 (fun j => by rw [Nat.zero_add]) h (by rw [hio]; exact ea)
      have noIo : ∀ j, ioAt ms rs j = none := fun j => by
        cases e : ioAt ms rs j with
        | none => rfl
        | some k => have := ioAt_mem e; rw [hio] at this; cases this
      have le2 : Le H1 (upd (upd H1 dx (.own x)) x (.ins C dx [])) := (Le.upd_new hdx).trans (Le.upd_new (by rw [upd_ne hne.symm]; exact hx))
      have hdn : ∀ b, H1 b = none → Hd1 b = none := fun b hb => I1.le.noneB hb
      refine ⟨Hd1, .io (.ins C []) :: as, fun j => if j = 0 then [x, dx] else [], I1.le.trans le2, by simp [← q2, q1, hn], ⟨by simp [q1], fun j a v hj hv => ?_, fun i j b hi hj => ?_, fun j hj => ?_⟩, ?_⟩
      · cases j with
        | zero =>
          simp at hj hv
          subst hj hv
          refine ⟨.ins upd_same (by rw [upd_ne hne, upd_same]) .nil, by simp [Ne.symm hne], fun b hb => ?_⟩
          simp at hb
          rcases hb with rfl | rfl
          · exact hdn _ hx
          · exact hdn _ hdx
        | succ j =>
          have g := q3 j a v (by simpa using hj) (by simpa using hv)
          rw [Nat.zero_add] at g
          have e0 : (fun j => if j = 0 then [x, dx] else [] : Fp) (j + 1) = [] := by simp
          cases a with
          | sh d => exact ⟨e0, g.2⟩
          | br d =>
            obtain ⟨_, t, w⟩ := g
            refine ⟨e0, ?_, ?_⟩
            · cases t with
              | rep r => exact .rep r
              | lst h r => exact .lst (le2 _ _ h) r
              | dic h r => exact .dic (le2 _ _ h) r
            · by_cases hr : Rep K Hd1 d v
              · exact .inl hr
              · refine .inr fun b eb k hk => ?_
                subst eb
                have there : H1 b ≠ none := by
                  cases t with
                  | rep r => exact absurd r hr
                  | lst h r => rcases h with h | ⟨_, h⟩ <;> rw [h] <;> intro z <;> cases z
                  | dic h r => rcases h with h | ⟨_, h⟩ <;> rw [h] <;> intro z <;> cases z
                have hk : b ∈ (if k = 0 then [x, dx] else []) := hk
                by_cases hk0 : k = 0
                · rw [if_pos hk0] at hk
                  simp at hk
                  rcases hk with rfl | rfl
                  · exact there hx
                  · exact there hdx
                · rw [if_neg hk0] at hk; cases hk
          | io o =>
            obtain ⟨ow, _, _⟩ := g
            rw [argFp_none (noIo j)] at ow
            cases ow with
            | fz r => exact ⟨by rw [e0]; exact .fz r, by rw [e0]; simp, by rw [e0]; simp⟩
      · by_cases hi0 : i = 0
        · by_cases hj0 : j = 0
          · rw [hi0, hj0]
          · simp only [if_neg hj0] at hj; cases hj
        · simp only [if_neg hi0] at hi; cases hi
      · have : j ≠ 0 := by simp at hj; omega
        simp [this]
      · cases eF : F (.io (.ins C []) :: as) with
        | no => rw [eF] at p1; exact p1.elim
        | exc ee outs => rw [eF] at p1; exact p1.elim
        | ret r outs =>
          rw [eF] at p1
          match r, outs, p1 with
          | .val .non, some (.ins C' fs) :: os, p1 =>
            simp only at p1
            by_cases hC : C' = C
            · rw [if_pos hC] at p1
              subst hC
              intro v Hd' H' fp' fin ret
              have ret : Rep K Hd' .non v := ret
              have ev : v = .non := by cases ret; rfl
              obtain ⟨ow, ndo, fo⟩ := fin.outs 0 (.ins C' fs) (.ref x) rfl rfl
              have h2none : ∀ b, (upd (upd H1 dx (.own x)) x (.ins C' dx [])) b = none → H1 b = none := fun b hb => by
                by_cases e1 : b = x
                · rw [e1, upd_same] at hb; cases hb
                · rw [upd_ne e1] at hb
                  by_cases e2 : b = dx
                  · rw [e2, upd_same] at hb; cases hb
                  · rw [upd_ne e2] at hb; exact hb
              refine ⟨ev, p1.new I1 ⟨Hd', ⟨fin.hd, fin.le, fun b hb => (fin.fr b hb).imp_right (h2none b), fun b o hb => ?_⟩, fp' 0, ow, ndo, fun b hb => ⟨?_, (fo b hb).1⟩⟩⟩
              · have nx : b ≠ x := fun z => by rw [z, hx] at hb; cases hb
                have ndx : b ≠ dx := fun z => by rw [z, hdx] at hb; cases hb
                refine fin.keep b o (by rw [upd_ne nx, upd_ne ndx]; exact hb) fun k hk => ?_
                have hk : b ∈ (if k = 0 then [x, dx] else []) := hk
                by_cases hk0 : k = 0
                · rw [if_pos hk0] at hk
                  simp at hk
                  rcases hk with z | z
                  · exact nx z
                  · exact ndx z
                · rw [if_neg hk0] at hk; cases hk
              · rcases (fo b hb).2 with q | q
                · have q : b ∈ (if (0 : Nat) = 0 then [x, dx] else []) := q
                  rw [if_pos rfl] at q
                  simp at q
                  rcases q with rfl | rfl
                  · exact hx
                  · exact hdx
                · exact h2none b q
            · rw [if_neg hC] at p1; exact p1.elim
  · rw [if_neg hio] at p1; exact p1.elim
end
end O

/-! Own40: joined rules for instances; x op= e; &; is None; d.get(k, c); range with a step; int of a bool -/
namespace O
open PySem
open L2 (V Hp HO Rd SqL SqT upd upd_same upd_ne ne_of ne_of_none TE TT TA TS TG TGs TI TO It VK XK Ends St PE PT PW PA PS PSs PG PGs PI PO PTs Cx OpR UnR CallR IxR SlR MtR R2 tOp tUn tVar tC tCons tNil tTup tLst tTest tB tAnd tOr tNot tAndV tOrV tNotV tIf tCB Sp FnOk Gl Vis Loc Room)
/-- a method: its def, its promise -/
structure MetC (P : Program) (w : World) (K : PySem.W.Frag) (mg : Str → Option Value) (base : Heap) (C : Addr) (m : Str) (k n : Nat) (ps : List Str) (F : List Ar → FO) : Prop where
  ex : ∃ (fA : Addr) (fd : FuncData), L2.Meth K C m fA ∧ FnOk P w K mg base (L2.CX P w) k fA fd ps (spF K n F) ∧ L2.Binds K fd ps []
/-- a class's making -/
structure MakC (P : Program) (w : World) (K : PySem.W.Frag) (mg : Str → Option Value) (base : Heap) (C : Addr) (k n : Nat) (ps : List Str) (F : List Ar → FO) : Prop where
  ex : ∃ (fA : Addr) (fd : FuncData), L2.Mk K C fA ∧ FnOk P w K mg base (L2.CX P w) k fA fd ps (spF K n F) ∧ L2.Binds K fd ps []
section
variable {X : Cx} {W : St → XK} {a b e o : Expr} {es : List Expr} {pos p p2 p3 tpos : Pos} {ta tb te : TE} {fa fb fe : O.Env → Res RV} {t : TA} {f : O.Env → Res (List RV)} {C : Addr} {i j : Nat} {fl x y m : Str}
theorem jfld {K : PySem.W.Frag} (hc : L2.Cls X.K C) (hn : L2.NoAttr X.K C fl) (ho : JE X W (.Name x p) (tVar i) (fVar i)) (hb : attributeBase (.Name x p) fl X.env (eval (.Name x p) X.env) = eval (.Name x p) X.env := by rfl) (hK : X.K = K := by rfl) :
    JE X W (.Attribute (.Name x p) fl pos) (L2.tFld K (tVar i) fl) (fFld C i fl) := by
  subst hK
  exact ⟨L2.pe_fld ho.pe hb, sd_fld hc hn⟩
theorem jfldLen {K : PySem.W.Frag} (hc : L2.Cls X.K C) (hn : L2.NoAttr X.K C fl) (hm : X.mg "len" = none) (ho : JE X W (.Name x p) (tVar i) (fVar i)) (hb : attributeBase (.Name x p) fl X.env (eval (.Name x p) X.env) = eval (.Name x p) X.env := by rfl) (hg : Gl X "len" := by rfl)
    (he : starEach [.Attribute (.Name x p) fl p2] X.env = (false, eval (.Attribute (.Name x p) fl p2) X.env) :: starEach [] X.env := by rfl) (hpl : (backTo pos (starEach [] X.env)).any (·.1) = false := by rfl) (hK : X.K = K := by rfl) :
    JE X W (.Call (.Name "len" p3) [.Attribute (.Name x p) fl p2] [] pos) (tCB (rGC K gLen) (tCons (L2.tFld K (tVar i) fl) tNil)) (fFldB C i fl gLen) := by
  subst hK
  exact ⟨L2.pe_callB cb_len hg hm (by decide +kernel) (L2.pa_cons (L2.pe_fld ho.pe hb) L2.pa_nil he) (by decide) (by decide) he hpl, sd_fldB hc hn⟩
theorem jfldIx {K : PySem.W.Frag} (hc : L2.Cls X.K C) (hn : L2.NoAttr X.K C fl) (ho : JE X W (.Name x p) (tVar i) (fVar i)) (hj : JE X W (.Name y p2) (tVar j) (fVar j)) (hb : attributeBase (.Name x p) fl X.env (eval (.Name x p) X.env) = eval (.Name x p) X.env := by rfl)
    (hs : L2.PlainIx (.Name y p2) := by intro _ _; rfl) (hK : X.K = K := by rfl) :
    JE X W (.Subscript (.Attribute (.Name x p) fl p3) (.Name y p2) pos) (tOp (rG K gIx) (L2.tFld K (tVar i) fl) (tVar j)) (fFldIx C i fl j) := by
  subst hK
  exact ⟨L2.pe_ix ix_gIx (L2.pe_fld ho.pe hb) hj.pe hs, sd_fldIx hc hn⟩
theorem jsetF {K : PySem.W.Frag} (hc : L2.Cls X.K C) (hn : L2.NoAttr X.K C fl) (ho : JE X W (.Name x p) (tVar i) (fVar i)) (he : JE X W e te fe) (hs : swapsWith e (some (.Attribute (.Name x p) fl p2)) pos.line X.env = pure false := by rfl) (hK : X.K = K := by rfl) :
    JS X W (.Assign [.Attribute (.Name x p) fl p2] e pos) (L2.sFld K (tVar i) te fl) (gSetF C i fl fe) := by
  subst hK
  exact ⟨L2.ps_fld ho.pe he.pe hs, ss_setF hc hn he.se⟩
theorem jsetFI {K : PySem.W.Frag} {pos' : Pos} (hc : L2.Cls X.K C) (hn : L2.NoAttr X.K C fl) (ho : JE X W (.Name x p) (tVar i) (fVar i)) (hj : JE X W (.Name y p2) (tVar j) (fVar j)) (he : JE X W e te fe) (hb : attributeBase (.Name x p) fl X.env (eval (.Name x p) X.env) = eval (.Name x p) X.env := by rfl)
    (hs : swapsWithSole [.Subscript (.Attribute (.Name x p) fl p3) (.Name y p2) pos'] e pos.line X.env = pure false := by rfl) (hw : swappedStores [.Subscript (.Attribute (.Name x p) fl p3) (.Name y p2) pos'] e X.env = pure none := by rfl)
    (h1 : (assignEach [.Subscript (.Attribute (.Name x p) fl p3) (.Name y p2) pos'] X.env).map (·.2) = [assign (.Subscript (.Attribute (.Name x p) fl p3) (.Name y p2) pos') X.env] := by rfl)
    (ha : ∀ v, assign (.Subscript (.Attribute (.Name x p) fl p3) (.Name y p2) pos') X.env v = (do
      let ov ← holding [v] (eval (.Attribute (.Name x p) fl p3) X.env)
      let iv ← holding [v, ov] (eval (.Name y p2) X.env)
      standAt pos'
      holding [v, ov, iv] (setItem ov iv v)
      release [v, ov, iv] []) := by intro _; rfl) (hK : X.K = K := by rfl) :
    JS X W (.Assign [.Subscript (.Attribute (.Name x p) fl p3) (.Name y p2) pos'] e pos) (L2.tAsg te (L2.gSub (L2.tFld K (tVar i) fl) (tVar j) L2.rSetL)) (gSetFI C i fl j fe) := by
  subst hK
  exact ⟨L2.ps_asg he.pe (L2.pg_sub (L2.pe_fld ho.pe hb) hj.pe L2.set_list ha) hs hw h1, ss_setFI hc hn he.se⟩
theorem jmeth {K : PySem.W.Frag} {k l n : Nat} {ps : List Str} {F : List Ar → FO} {apos : Pos} {pl : Sem Bool} (ms : List Md) (hc : L2.Cls X.K C) (c : MetC X.prog X.w X.K X.mg X.base C m k n ps F) (hr : Room l X.A) (ho : JE X W (.Name x p) (tVar i) (fVar i)) (ha : JA X W (e :: es) t f) (hj : k ≤ l := by first | decide | omega) (hl : ms.length = n := by rfl)
    (hst : starEach (e :: es) X.env = (false, eval e X.env) :: starEach es X.env := by rfl) (hpl : (backTo pos (starEach es X.env)).any (·.1) = false := by rfl)
    (ht : eval (.Call (.Attribute (.Name x p) m apos) (e :: es) [] pos) X.env = (do
      let ov ← eval (.Name x p) X.env
      standAt apos.atName
      let (f, first) ← holding [ov] (getMethod ov m pl)
      callWith pos f first (backTo pos (starEach (e :: es) X.env)) (backToKw pos (keywordEach [] X.env))) := by rfl) (hK : X.K = K := by rfl) :
    JE X W (.Call (.Attribute (.Name x p) m apos) (e :: es) [] pos) (L2.tMeth C m (spF K n F) [] L2.E0 (tVar i) t) (fMeth C m i ms F f) := by
  subst hK
  obtain ⟨fA, fd, h1, h2, h3⟩ := c.ex
  exact ⟨L2.pe_meth ho.pe hc h1 h2 (hr.mono hj) h3 .nil L2.passL ha.pa hst hpl ht, sd_meth hl ha.sa⟩
theorem jmake {K : PySem.W.Frag} {k l n : Nat} {ps : List Str} {F : List Ar → FO} (ms : List Md) (c : MakC X.prog X.w X.K X.mg X.base C k (n + 1) ps F) (hm : X.mg x = some (.ref C)) (hr : Room l X.A) (ha : JA X W (e :: es) t f) (hj : k + 1 ≤ l := by first | decide | omega) (hl : ms.length = n := by rfl) (hg : Gl X x := by rfl)
    (hdb : (x == ("__debug__" : Str)) = false := by decide) (he : starEach (e :: es) X.env = (false, eval e X.env) :: starEach es X.env := by rfl) (hpl : (backTo pos (starEach es X.env)).any (·.1) = false := by rfl) (hK : X.K = K := by rfl) :
    JE X W (.Call (.Name x p) (e :: es) [] pos) (L2.tMake C (spF K (n + 1) F) [] L2.E0 t) (fMake C ms F f) := by
  subst hK
  obtain ⟨fA, fd, h1, h2, h3⟩ := c.ex
  exact ⟨L2.pe_make h1 h2 (hr.mono hj) hg hm h3 .nil L2.passL ha.pa hdb he hpl, sd_make hl ha.sa⟩
end
/-! x += e, x -= e of ints -/
section
variable {K : PySem.W.Frag} {W : St → XK}
def gAug (i : Nat) (g : Int → Int → Int) (fe : O.Env → Res RV) : O.Env → SR := fun ρ => match rd (.bor i) ρ with
  | some (.int a) => (fe ρ).thn fun r ρ1 => match rd r ρ1 with
    | some (.int b) => match putSlot i (.val (.int (g a b))) ρ1 with
      | some ρ2 => .nx ρ2
      | none => .no
    | _ => .no
  | _ => .no
theorem ss_aug {i : Nat} {g : Int → Int → Int} {te : TE} {fe : O.Env → Res RV} (he : Sd K W (rV K) te fe) : Ss K W (L2.tAug i te (L2.ipI g)) (gAug i g fe) := fun C fp Hd H σ ρ I D p => by
  unfold gAug at p
  cases e0 : rd (.bor i) ρ with
  | none => rw [e0] at p; exact p.elim
  | some d0 =>
    cases d0 with
    | int a =>
      rw [e0] at p
      obtain ⟨x, hx, tx⟩ := bor_top I e0
      have ex := tx.intD
      subst ex
      refine ⟨_, hx, he.runS I p fun r v fp1 Hd1 H1 ρ1 s1 I1 hr p1 => ?_⟩
      have hr := rV_loose hr
      cases e1 : rd r ρ1 with
      | none => simp only [e1] at p1; exact p1.elim
      | some d1 =>
        cases d1 with
        | int b =>
          simp only [e1] at p1
          have ev := (I1.rdTop hr e1).intD
          subst ev
          cases ep : putSlot i (.val (.int (g a b))) ρ1 with
          | none => simp only [ep] at p1; exact p1.elim
          | some ρ2 =>
            simp only [ep] at p1
            obtain ⟨fp', s2, I2⟩ := put_ok (Stp.refl fp1 Hd1 H1) I1 (r := .val (.int (g a b))) (v := .int (g a b)) (Rep.int _) ep
            exact ⟨a, b, rfl, rfl, p1 _ fp' Hd1 H1 s2 I2⟩
        | _ => simp only [e1] at p1; exact p1.elim
    | _ => rw [e0] at p; exact p.elim
end
section
variable {X : Cx} {W : St → XK} {e : Expr} {te : TE} {fe : O.Env → Res RV} {pos pos' : Pos} {x : Str}
theorem jaugA (i : Nat) (hN : X.N.Nodup) (he : JE X W e te fe) (hi : X.N[i]? = some x := by rfl) (hx : Loc X.env.scope x := by first | exact Or.inl (by rfl) | exact Or.inr (by rfl)) (hf : X.fn x = true ∨ X.env.scope.names.lookup x = some .local := by first | exact Or.inl (by rfl) | exact Or.inr (by rfl)) :
    JS X W (.AugAssign (.Name x pos') .Add e pos) (L2.tAug i te (L2.ipI fun i j => i + j)) (gAug i (fun i j => i + j) fe) := ⟨L2.ps_aug hN hi hx he.pe L2.ip_add hf, ss_aug he.se⟩
theorem jaugS (i : Nat) (hN : X.N.Nodup) (he : JE X W e te fe) (hi : X.N[i]? = some x := by rfl) (hx : Loc X.env.scope x := by first | exact Or.inl (by rfl) | exact Or.inr (by rfl)) (hf : X.fn x = true ∨ X.env.scope.names.lookup x = some .local := by first | exact Or.inl (by rfl) | exact Or.inr (by rfl)) :
    JS X W (.AugAssign (.Name x pos') .Sub e pos) (L2.tAug i te (L2.ipI fun i j => i - j)) (gAug i (fun i j => i - j) fe) := ⟨L2.ps_aug hN hi hx he.pe L2.ip_sub hf, ss_aug he.se⟩
/-- & of ints -/
def gBitAnd : D → D → Option RV := gII (fun _ _ => true) fun i j => .int (Builtin.bitAnd i j)
theorem op_gBitAnd : OpR X (binaryOp .BitAnd) (rG X.K gBitAnd) := op_gII (op_r0 L2.op_and) (fun _ _ _ => trivial) fun _ _ _ _ => .int _
/-- is None -/
def isNon : D → Bool
  | .non => true
  | _ => false
def gIsN : D → D → Option RV
  | .set _, _ => none
  | d, .non => some (.val (.bl (isNon d)))
  | _, _ => none
def gNotN : D → D → Option RV
  | .set _, _ => none
  | d, .non => some (.val (.bl (!isNon d)))
  | _, _ => none
theorem top_non {K : PySem.W.Frag} {Hd H : Hp} {d : D} {x : V} (t : Top K Hd H d x) : decide (x = .non) = isNon d := by
  cases t with
  | rep r => cases r <;> rfl
  | lst _ _ => rfl
  | dic _ _ => rfl
theorem op_gIsN : OpR X (compareOp .Is) (rG X.K gIsN) := op_imp L2.op_isN fun x y H Q ⟨Hd, d1, d2, z, l, t1, t2, eg, q⟩ => by
  cases d2 with
  | non =>
    have e : z = .val (.bl (isNon d1)) := by cases d1 <;> first | (cases eg; rfl) | cases eg
    subst e
    exact ⟨t2.nonD, by rw [top_non t1]; exact q _ _ (newR_here l (.bl _))⟩
  | _ => cases d1 <;> cases eg
theorem op_gNotN : OpR X (compareOp .IsNot) (rG X.K gNotN) := op_imp L2.op_notN fun x y H Q ⟨Hd, d1, d2, z, l, t1, t2, eg, q⟩ => by
  cases d2 with
  | non =>
    have e : z = .val (.bl (!isNon d1)) := by cases d1 <;> first | (cases eg; rfl) | cases eg
    subst e
    exact ⟨t2.nonD, by rw [top_non t1]; exact q _ _ (newR_here l (.bl _))⟩
  | _ => cases d1 <;> cases eg
/-- int(x) of an int or a bool -/
def gInt : List D → Option RV
  | [.int i] => some (.val (.int i))
  | [.bl b] => some (.val (.int (if b then 1 else 0)))
  | _ => none
theorem cb_int : CallR X (.type "int") (rGC X.K gInt) := cb_imp L2.call_int1 fun xs H Q ⟨Hd, ds, z, l, t, eg, q⟩ => by
  match ds, t, eg with
  | [.int i], t, eg =>
    cases eg
    obtain ⟨x, rfl, w⟩ := tops1 t
    rw [w.intD]
    exact .inl ⟨i, rfl, q _ _ (newR_here l (.int _))⟩
  | [.bl b], t, eg =>
    cases eg
    obtain ⟨x, rfl, w⟩ := tops1 t
    rw [w.blD]
    exact .inr ⟨b, rfl, q _ _ (newR_here l (.int _))⟩
end
end O

/-! Own41: dict comprehensions -/
namespace O
open PySem
open L2 (V Hp HO Rd SqL SqT upd upd_same upd_ne ne_of ne_of_none TE TT TA TS TG TGs TI TO It VK XK Ends St PE PT PW PA PS PSs PG PGs PI PO PTs Cx OpR UnR CallR IxR SlR MtR R2 tOp tUn tVar tC tCons tNil tTup tLst tTest tB tAnd tOr tNot tAndV tOrV tNotV tIf tCB Sp FnOk Gl Vis Loc Room)
abbrev KD := List (L2.Key × D)
def dcD (vs : List Nat) (t : Tg) (ft : O.Env → Res Bool) (fk fe : O.Env → Res RV) : KD → List D → O.Env → Res KD
  | acc, [], ρ => .ok acc ρ
  | acc, d :: ds, ρ => match takeT t d ρ with
    | none => .no
    | some ρ1 => match ft ρ1 with
      | .ok true ρ2 => match (fk ρ2).bind fz with
        | .ok y ρ3 => match keyD y with
          | some k => match (fe ρ3).bind fz with
            | .ok z ρ4 => if acc.length < sizeLine then dcD vs t ft fk fe (putD acc k z) ds (wipeE ρ4 vs) else .no
            | _ => .no
          | none => .no
        | _ => .no
      | .ok false ρ2 => dcD vs t ft fk fe acc ds (wipeE ρ2 vs)
      | _ => .no
def fDc (fi : O.Env → Res (List D)) (vs : List Nat) (t : Tg) (ft : O.Env → Res Bool) (fk fe : O.Env → Res RV) : O.Env → Res RV := fun ρ => (fi ρ).bind fun ds ρ1 => match dcD vs t ft fk fe [] ds (wipeE ρ1 vs) with
  | .ok ys ρ2 => .ok (.own (.dic ys)) (restE ρ1 vs ρ2)
  | _ => .no
section
variable {K : PySem.W.Frag} {W : St → XK}
theorem sd_dc {wi : TI} {fi : O.Env → Res (List D)} {g : TG} {t : Tg} {tt : TT} {ft : O.Env → Res Bool} {tk te : TE} {fk fe : O.Env → Res RV} {vs : List Nat} (hi : Si K W wi fi) (hg : Gt K g t) (hv : ∀ u ∈ slotsT t, u ∈ vs) (ht : Sd K W0 rB tt ft) (hk : Sd K W0 (rV K) tk fk) (he : Sd K W0 (rV K) te fe) :
    Sd K W (rV K) (L2.tDc wi g tt tk te vs) (fDc fi vs t ft fk fe) := fun C fp Hd H σ ρ I Q p => by
  refine hi C fp Hd H σ ρ I _ ?_
  have p : Post K W C (rV K) fp Hd H σ ((fi ρ).bind fun ds ρ1 => match dcD vs t ft fk fe [] ds (wipeE ρ1 vs) with | .ok ys ρ2 => .ok (.own (.dic ys)) (restE ρ1 vs ρ2) | _ => .no) Q := p
  cases e : fi ρ with
  | no => rw [e] at p; exact p
  | ex c ρ1 => rw [e] at p; exact p
  | ok ds ρ1 =>
    simp only [e, Res.bind] at p
    intro J fp1 Hd1 H1 s1 I1 w Dl hD
    cases el : dcD vs t ft fk fe [] ds (wipeE ρ1 vs) with
    | no => simp only [el] at p; exact p.elim
    | ex c ρ2 => simp only [el] at p; exact p.elim
    | ok ys0 ρ2 =>
      simp only [el] at p
      have hd1 : Hd1 Dl = none := I1.le.noneB hD
      have hc : C.H0 Dl = none := none_back I1.dom hD
      have Iw : ∃ fpw, (∀ j, fpw j = if j ∈ vs then [] else fp1 j) ∧ Inv K C fpw Hd1 H1 (L2.wipe σ vs) (wipeE ρ1 vs) := by
        refine ⟨_, fun _ => rfl, ?_⟩
        have : ∀ us : List Nat, Inv K C (fun j => if j ∈ us then [] else fp1 j) Hd1 H1 (L2.wipe σ us) (wipeE ρ1 us) := by
          intro us
          induction us with
          | nil => simpa [L2.wipe, wipeE] using I1
          | cons u us ihu =>
            have := ihu.drop1 (v := u)
            have e : setF (fun j => if j ∈ us then [] else fp1 j) u [] = fun j => if j ∈ u :: us then [] else fp1 j := by
              funext j
              unfold setF
              by_cases h : j = u
              · simp [h]
              · by_cases h2 : j ∈ us <;> simp [h, h2]
            rw [e] at this
            exact this
        exact this vs
      obtain ⟨fpw, hw, Iw⟩ := Iw
      have nfw : ∀ j, Dl ∉ fpw j := fun j hj => (Iw.fpOk hj).1 hD
      -- the state ahead of the i-th turn
      let Pv : Nat → Hp → Prop := fun i H' => ∃ fpb Hdb ρb acc accd, Inv K C fpb Hdb H' (L2.wipe σ vs) ρb ∧ Stp fpw Hd1 H1 fpb Hdb H' ∧ H' Dl = some (.dK acc) ∧ Repk K Hdb accd acc ∧ Hdb Dl = none ∧ (∀ j, Dl ∉ fpb j) ∧ dcD vs t ft fk fe accd (ds.drop i) ρb = .ok ys0 ρ2
      have P0 : Pv 0 (upd H1 Dl (.dK [])) := by
        refine ⟨fpw, Hd1, wipeE ρ1 vs, [], [], Iw.loose hd1 hc nfw, ⟨.refl _, fun _ h => .inl h, fun b o h _ => ?_, fun b h => ?_, fun j _ h => .inl ⟨j, h⟩⟩, upd_same, .nil, hd1, nfw, el⟩
        · rw [upd_ne (ne_of_none h hD)]; exact h
        · by_cases z : b = Dl
          · rw [z, upd_same]; intro w; cases w
          · rw [upd_ne z]; exact h
      have still : ∀ i H', Pv i H' → ∃ fp Hd σ ρ, Inv K C fp Hd H' σ ρ ∧ Le Hd1 Hd := fun i H' ⟨fpb, Hdb, ρb, _, _, Ib, sb, _⟩ => ⟨fpb, Hdb, _, ρb, Ib, sb.hd⟩
      refine ⟨fun i left H' => left + i = ds.length ∧ Pv i H', ⟨ds.length, rfl, P0⟩, fun i left H' ⟨hl, P⟩ => ?_⟩
      have st := still i H' P
      by_cases hlt : i < ds.length
      · refine .inr ⟨w.goes i H' hlt st, Pv (i + 1), fun H2 P2 => ⟨left - 1, by omega, by omega, P2⟩, fun x H'' y => ?_⟩
        obtain ⟨d, hd, hy⟩ := w.yields i H' x H'' hlt st y
        obtain ⟨fpb, Hdb, ρb, acc, accd, Ib, sb, hl, ra, hdn, nf, el2⟩ := P
        obtain ⟨Hd2, s2, I2, r2⟩ := Ib.newD (hy fpb Hdb _ ρb Ib sb.hd)
        have e1 : ds.drop i = d :: ds.drop (i + 1) := by
          obtain ⟨hl, e⟩ := List.getElem?_eq_some_iff.mp hd
          rw [← e]; exact (List.drop_eq_getElem_cons hl)
        rw [e1] at el2
        simp only [dcD] at el2
        cases ek : takeT t d ρb with
        | none => simp only [ek] at el2; cases el2
        | some ρ3 =>
          simp only [ek] at el2
          refine hg C fpb Hd2 H'' _ ρb ρ3 d x I2 r2 ek _ fun σ3 fp3 m3 s3 I3 => ?_
          have w3 : L2.wipe σ3 vs = L2.wipe σ vs := (m3 vs hv).trans wipe_wipe
          refine ⟨w3, ?_⟩
          have s23 := s2.trans s3
          have thru : ∀ {fp' : Fp} {Hd' H3 : Hp}, Stp fpb Hdb H' fp' Hd' H3 → H3 Dl = some (.dK acc) ∧ Hd' Dl = none ∧ (∀ j, Dl ∉ fp' j) ∧ Repk K Hd' accd acc := fun {fp' Hd' H3} s => by
            refine ⟨s.keep _ _ hl nf, ?_, fun j hj => ?_, ra.mono s.hd⟩
            · cases e : Hd' Dl with
              | none => rfl
              | some u =>
                rcases s.fr Dl (by rw [e]; intro z; cases z) with z | z | ⟨j, z⟩
                · exact absurd hdn z
                · rw [hl] at z; cases z
                · exact absurd z (nf j)
            · rcases s.fpx j Dl hj with ⟨k, z⟩ | z
              · exact nf k z
              · rw [hl] at z; cases z
          refine ht C fp3 Hd2 H'' σ3 ρ3 I3 _ ?_
          cases et : ft ρ3 with
          | no => simp only [et] at el2; cases el2
          | ex c ρ4 => simp only [et] at el2; cases el2
          | ok b ρ4 =>
            simp only [et] at el2
            intro b' fp4 Hd4 H4 s4 I4 eb
            have eb : b' = b := eb
            subst eb
            have s24 := s23.trans s4
            cases b' with
            | false =>
              simp only at el2
              obtain ⟨fp5, I5, s5⟩ := I4.wipe vs
              have s25 := s24.trans s5
              obtain ⟨q1, q2, q3, q4⟩ := thru s25
              rw [w3] at I5
              exact ⟨fp5, Hd4, _, acc, accd, I5, sb.trans s25, q1, q4, q2, q3, el2⟩
            | true =>
              simp only at el2
              refine hk.fz C fp4 Hd4 H4 σ3 ρ4 I4 _ ?_
              show Post K W0 C (rD K) fp4 Hd4 H4 σ3 ((fk ρ4).bind O.fz) _
              cases ey : (fk ρ4).bind fz with
              | no => simp only [ey] at el2; cases el2
              | ex c ρ5 => simp only [ey] at el2; cases el2
              | ok y ρ5 =>
                simp only [ey] at el2
                intro yv fp5 Hd5 H5 s5 I5 ry
                have ry : Rep K Hd5 y yv := ry
                cases ekk : keyD y with
                | none => simp only [ekk] at el2; cases el2
                | some k =>
                  simp only [ekk] at el2
                  have eyv : yv = L2.kV k := key_v (H := H5) (.rep ry) ekk
                  refine he.fz C fp5 Hd5 H5 σ3 ρ5 I5 _ ?_
                  show Post K W0 C (rD K) fp5 Hd5 H5 σ3 ((fe ρ5).bind O.fz) _
                  cases ee : (fe ρ5).bind fz with
                  | no => simp only [ee] at el2; cases el2
                  | ex c ρ6 => simp only [ee] at el2; cases el2
                  | ok z ρ6 =>
                    simp only [ee] at el2
                    by_cases hz : accd.length < sizeLine
                    · rw [if_pos hz] at el2
                      intro zv fp6 Hd6 H6 s6 I6 rz
                      have rz : Rep K Hd6 z zv := rz
                      have s26 := (s24.trans s5).trans s6
                      obtain ⟨q1, q2, q3, q4⟩ := thru s26
                      refine ⟨acc, k, eyv, q1, by rw [ra.length]; exact hz, ?_⟩
                      obtain ⟨fp7, I7, s7⟩ := I6.wipe vs
                      rw [w3] at I7
                      have s27 := s26.trans s7
                      obtain ⟨_, _, q3', _⟩ := thru s27
                      refine ⟨fp7, Hd6, _, _, putD accd k z, I7.loose q2 hc q3', ?_, upd_same, q4.put rz, q2, q3', el2⟩
                      have s16 := sb.trans s27
                      refine ⟨s16.hd, s16.fr, fun b o h n => ?_, fun b h => ?_, s16.fpx⟩
                      · rw [upd_ne (ne_of_none h hD)]; exact s16.keep b o h n
                      · by_cases z : b = Dl
                        · rw [z, upd_same]; intro w; cases w
                        · rw [upd_ne z]; exact s16.dom b h
                    · rw [if_neg hz] at el2; cases el2
      · have e : i = ds.length := by
          have : i ≤ ds.length := by omega
          omega
        subst e
        refine .inl ⟨w.stops H' st, ?_⟩
        obtain ⟨fpb, Hdb, ρb, acc, accd, Ib, sb, hl, ra, hdn, nf, el2⟩ := P
        rw [List.drop_length] at el2
        simp only [dcD] at el2
        cases el2
        obtain ⟨fp', I', s', f'⟩ := Inv.rest vs I1 hw sb Ib
        refine p _ fp' Hdb H' (s1.trans s') I' ⟨[Dl], .dic hl ra, by simp, fun a ha => ?_⟩
        have e : a = Dl := by simpa using ha
        subst e
        refine ⟨hdn, hc, fun j hj => ?_, none_back s1.dom hD⟩
        rcases f' j _ hj with z | z
        · exact nf j z
        · exact (I1.fpOk z).1 hD
end
section
variable {X : Cx} {W : St → XK} {iter tg kx vx : Expr} {pos : Pos} {tt : TT} {ft : O.Env → Res Bool} {tk te : TE} {fk fe : O.Env → Res RV}
theorem jdc {ifs : List Expr} {scope : Scope} {wi : TI} {fw : O.Env → Res (List D)} {g : TG} {tgt : Tg} (own : List (Str × Nat)) (hc : X.calm = true) (hN : X.N.Nodup) (hi : JI X W tg iter wi fw) (ok : L2.blkC X.N X.env.scope scope own = true)
    (hg : ∀ (s : Shared) (H : Hp) (C : Addr) (cl : List (Str × Addr)) (fp : List Addr), JG (X.blk s H scope (PySem.compEnvC scope cl C X.env) fp) tg g tgt) (ht : ∀ (s : Shared) (H : Hp) (C : Addr) (cl : List (Str × Addr)) (fp : List Addr), JTs (X.blk s H scope (PySem.compEnvC scope cl C X.env) fp) W0 ifs tt ft)
    (hk : ∀ (s : Shared) (H : Hp) (C : Addr) (cl : List (Str × Addr)) (fp : List Addr), JE (X.blk s H scope (PySem.compEnvC scope cl C X.env) fp) W0 kx tk fk) (he : ∀ (s : Shared) (H : Hp) (C : Addr) (cl : List (Str × Addr)) (fp : List Addr), JE (X.blk s H scope (PySem.compEnvC scope cl C X.env) fp) W0 vx te fe)
    (hv : ∀ u ∈ slotsT tgt, u ∈ own.map (·.2) := by decide) (hs : ∀ x, foldedSetIterable iter X.env x = pure x := by intro _; rfl) :
    JE X W (.DictComp kx vx [⟨tg, iter, ifs, 0⟩] scope pos) (L2.tDc wi g tt tk te (own.map (·.2))) (fDc fw (own.map (·.2)) tgt ft fk fe) :=
  ⟨L2.pe_dc hc hN hi.pi (L2.blkOk_by ok) (fun s H C cl fp => (hg s H C cl fp).pg) (fun s H C cl fp => (ht s H C cl fp).pts) (fun s H C cl fp => (hk s H C cl fp).pe) (fun s H C cl fp => (he s H C cl fp).pe) hs, sd_dc hi.si (hg {} (fun _ => none) 0 [] []).gt hv (ht {} (fun _ => none) 0 [] []).st (hk {} (fun _ => none) 0 [] []).se (he {} (fun _ => none) 0 [] []).se⟩
end
/-! d.get(k, c), c a written int -/
section
variable {K : PySem.W.Frag} {W : St → XK}
def isDic : Option D → Bool
  | some (.dic _) => true
  | some (.dlk _) => true
  | _ => false
def gGetC (c : Int) : D → D → Option RV
  | .dic kvs, k => (keyD k).map fun q => .val ((getD kvs q).getD (.int c))
  | .dlk kvs, k => (keyD k).map fun q => .val ((getD kvs q).getD (.int c))
  | _, _ => none
def fGetC (c : Int) (fo fk : O.Env → Res RV) : O.Env → Res RV := fun ρ => (fo ρ).bind fun r1 ρ1 => if isDic (rd r1 ρ1) = true then (fk ρ1).bind fun r2 ρ2 => match rd r1 ρ2, rd r2 ρ2 with
    | some d1, some d2 => match gGetC c d1 d2 with
      | some z => .ok z ρ2
      | none => .no
    | _, _ => .no
  else .no
theorem getC_ok {Hd H : Hp} {c : Int} {d1 d2 : D} {x y : V} {z : RV} (l : Le Hd H) (t1 : Top K Hd H d1 x) (t2 : Top K Hd H d2 y) (e : gGetC c d1 d2 = some z) : ∃ a d o, z = .val d ∧ x = .ref a ∧ L2.DGet H a y o ∧ Rep K Hd d (o.getD (.int c)) := by
  have go : ∀ {kvs : KD} {a : Addr} {kws : List (L2.Key × V)}, x = .ref a → Rd H a (.dK kws) → Repk K Hd kvs kws → ((keyD d2).map fun q => RV.val ((getD kvs q).getD (.int c))) = some z → ∃ a d o, z = .val d ∧ x = .ref a ∧ L2.DGet H a y o ∧ Rep K Hd d (o.getD (.int c)) := fun {kvs a kws} ex h1 r1 eg => by
    cases ek : keyD d2 with
    | none => rw [ek] at eg; cases eg
    | some k =>
      rw [ek] at eg
      cases eg
      rcases r1.get (k := k) with ⟨q1, q2⟩ | ⟨d, v, q1, q2, q3⟩
      · exact ⟨a, _, none, rfl, ex, .inl ⟨kws, k, h1, key_v t2 ek, q2.symm⟩, by rw [q1]; exact .int c⟩
      · exact ⟨a, _, some v, rfl, ex, .inl ⟨kws, k, h1, key_v t2 ek, q2.symm⟩, by rw [q1]; exact q3⟩
  cases d1 with
  | dic kvs =>
    obtain ⟨a, kws, ex, h1, r1⟩ := t1.dicD l
    exact go ex h1 r1 e
  | dlk kvs =>
    obtain ⟨a, o, kws, ex, h1, r1⟩ := t1.dlkD l
    exact go ex (.inr ⟨o, h1⟩) r1 e
  | _ => cases e
theorem isDic_ok {Hd H : Hp} {d : D} {x : V} (l : Le Hd H) (t : Top K Hd H d x) (e : isDic (some d) = true) : ∃ a, x = .ref a ∧ L2.IsD H a := by
  cases d with
  | dic kvs =>
    obtain ⟨a, kws, ex, h1, r1⟩ := t.dicD l
    exact ⟨a, ex, .inl ⟨_, h1⟩⟩
  | dlk kvs =>
    obtain ⟨a, o, kws, ex, h1, r1⟩ := t.dlkD l
    exact ⟨a, ex, .inl ⟨_, .inr ⟨o, h1⟩⟩⟩
  | _ => cases e
theorem sd_getC {c : Int} {to tk : TE} {fo fk : O.Env → Res RV} (ho : Sd K W (rV K) to fo) (hk : Sd K W (rV K) tk fk) : Sd K W (rV K) (L2.tDGet2 to tk (tC (.int c))) (fGetC c fo fk) := fun C fp Hd H σ ρ I Q p =>
  ho.run I p fun r1 v1 fp0 Hd0 H0 ρ0 s0 I0 h1 p => by
    have h1 := rV_loose h1
    by_cases hd : isDic (rd r1 ρ0) = true
    · rw [if_pos hd] at p
      cases e0 : rd r1 ρ0 with
      | none => rw [e0] at hd; cases hd
      | some d0 =>
        rw [e0] at hd
        obtain ⟨a, ea, isd⟩ := isDic_ok I0.le (I0.rdTop h1 e0) hd
        refine ⟨a, ea, isd, hk.run I0 p fun r2 v2 fp1 Hd1 H1 ρ1 s1 I1 h2 p => ?_⟩
        have h1 := h1.stp s1
        have h2 := rV_loose h2
        cases e1 : rd r1 ρ1 with
        | none => simp only [e1] at p; exact p.elim
        | some d1 =>
          cases e2 : rd r2 ρ1 with
          | none => simp only [e1, e2] at p; exact p.elim
          | some d2 =>
            simp only [e1, e2] at p
            cases eg : gGetC c d1 d2 with
            | none => simp only [eg] at p; exact p.elim
            | some z =>
              simp only [eg] at p
              obtain ⟨a', d, o, ez, ea', dg, r⟩ := getC_ok I1.le (I1.rdTop h1 e1) (I1.rdTop h2 e2) eg
              subst ez
              rw [ea] at ea'
              cases ea'
              exact ⟨o, dg, p.new I1 (newR_here I1.le r)⟩
    · rw [if_neg hd] at p; exact p.elim
/-! range(a, b, c) -/
def stepD (lo c : Int) (n : Nat) : List D := (List.range n).map fun i => .int (lo + (i : Nat) * c)
def fRng3 (fa : O.Env → Res (List RV)) : O.Env → Res (List D) := fun ρ => (fa ρ).bind fun rs ρ1 => match rds rs ρ1 with
  | some [.int i, .int j, .int c] => if c = -1 ∧ -(2 ^ 62) ≤ i ∧ i < 2 ^ 62 ∧ -(2 ^ 62) ≤ j ∧ j < 2 ^ 62 then .ok (stepD i (-1) (i - j).toNat) ρ1 else .no
  | _ => .no
theorem walkD_step {C : Cn} {Hd0 : Hp} {lo c : Int} {n : Nat} : WalkD K C Hd0 (L2.Itc lo c n) (stepD lo c n) := by
  unfold WalkD
  have hl : (stepD lo c n).length = n := by simp [stepD]
  rw [hl]
  exact L2.walk_rangeC.mono (fun _ _ => trivial) fun i H x H' hi _ ⟨e1, e2⟩ => by
    subst e1
    subst e2
    exact ⟨.int (lo + i * c), by simp [stepD, hi], fun _ _ _ _ I _ => newR_here I.le (.int _)⟩
theorem tops3 {Hd H : Hp} {a b c : D} {vs : List V} (t : Tops K Hd H [a, b, c] vs) : ∃ x y z, vs = [x, y, z] ∧ Top K Hd H a x ∧ Top K Hd H b y ∧ Top K Hd H c z := by
  cases t with
  | cons t1 t =>
    cases t with
    | cons t2 t =>
      cases t with
      | cons t3 t => cases t; exact ⟨_, _, _, rfl, t1, t2, t3⟩
theorem si_rng3 {ta : TA} {fa : O.Env → Res (List RV)} (ha : Sd K W (rA K) ta fa) : Si K W (L2.iRng3 ta) (fRng3 fa) := fun C fp Hd H σ ρ I R p => by
  refine ha C fp Hd H σ ρ I _ ?_
  unfold fRng3 at p
  cases e : fa ρ with
  | no => rw [e] at p; exact p
  | ex c ρ1 => rw [e] at p; exact p
  | ok rs ρ1 =>
    simp only [e, Res.bind] at p
    intro vs fp1 Hd1 H1 s1 I1 hr
    split at p
    · rename_i i j c ed
      by_cases hj : c = -1 ∧ -(2 ^ 62) ≤ i ∧ i < 2 ^ 62 ∧ -(2 ^ 62) ≤ j ∧ j < 2 ^ 62
      · rw [if_pos hj] at p
        obtain ⟨x, y, z, rfl, t, u, w⟩ := tops3 (tops_of I1 hr ed)
        rw [t.intD, u.intD, w.intD, hj.1]
        exact ⟨i, j, -1, _, rfl, L2.RgC.neg hj.2.1 hj.2.2.1 hj.2.2.2.1 hj.2.2.2.2, p _ fp1 Hd1 H1 s1 I1 walkD_step⟩
      · rw [if_neg hj] at p; exact p.elim
    · exact p.elim
end
section
variable {X : Cx} {W : St → XK} {a b c o e tg : Expr} {pos p p2 : Pos} {ta to te tk : TE} {fa fo fk : O.Env → Res RV} {t : TA} {f : O.Env → Res (List RV)}
theorem jgetC {apos : Pos} {n : Int} {k : Nat} (hu : X.A.units + 64 < cLine) (ho : JE X W o to fo) (hk : JE X W e tk fk) (m : L2.M2 X o "get" apos e (.Constant (.int n) k p) pos := by exact ⟨by rfl, by rfl, by rfl, by rfl⟩) :
    JE X W (.Call (.Attribute o "get" apos) [e, .Constant (.int n) k p] [] pos) (L2.tDGet2 to tk (tC (.int n))) (fGetC n fo fk) := ⟨L2.pe_dget2 (by omega) ho.pe hk.pe L2.pe_int m, sd_getC ho.se hk.se⟩
theorem jr3 (hm : X.mg "range" = none) (ha : JA X W [a, b, c] t f) (hg : Gl X "range" := by rfl) (hs : starEach [a, b, c] X.env = (false, eval a X.env) :: starEach [b, c] X.env := by rfl) (hpl : (backTo pos (starEach [b, c] X.env)).any (·.1) = false := by rfl) :
    JI X W tg (.Call (.Name "range" p) [a, b, c] [] pos) (L2.iRng3 t) (fRng3 f) := ⟨L2.pi_range3 hg hm ha.pa hs hpl, si_rng3 ha.sa⟩
end
end O

/-! Own42: the greatest of tuples of ints -/
namespace O
open PySem
open L2 (V Hp HO Rd SqL SqT upd upd_same upd_ne ne_of ne_of_none TE TT TA TS TG TGs TI TO It VK XK Ends St PE PT PW PA PS PSs PG PGs PI PO PTs Cx OpR UnR CallR IxR SlR MtR R2 tOp tUn tVar tC tCons tNil tTup tLst tTest tB tAnd tOr tNot tAndV tOrV tNotV tIf tCB Sp FnOk Gl Vis Loc Room)
section
variable {prog : Program} {w : World} {A : Around} {E : Value → Shared → Prop}
theorem gt_at {s : Shared} {a b : Addr} {its jts : List Value} {ns ms : List Int} {Q : Value → Shared → Prop} (p1 : PyProof.Rows.IsTup s.heap a its.toArray) (p2 : PyProof.Rows.IsTup s.heap b jts.toArray) (i1 : PyProof.Rows.IntsAre its ns) (i2 : PyProof.Rows.IntsAre jts ms) (hu : A.units + 62 < cLine)
    (q : Q (.bool (HT.lexLt ms ns)) s) : wpAny (model prog w) A (richCompare .Gt (.ref a) (.ref b)) Q E s := by
  have n1 : its.toArray.size = ns.length := by rw [List.size_toArray]; exact i1.length
  have n2 : jts.toArray.size = ms.length := by rw [List.size_toArray]; exact i2.length
  have g1 : ∀ j (hj : j < its.toArray.size), ∃ t, its.toArray[j] = .int (ns.getD j 0) t := fun j hj => i1.int_at _ _ (by simpa using hj)
  have g2 : ∀ j (hj : j < jts.toArray.size), ∃ t, jts.toArray[j] = .int (ms.getD j 0) t := fun j hj => i2.int_at _ _ (by simpa using hj)
  have R := Ob.RcOp.tuples_gt (A := A) (s := s) (e := fun j => decide (ns.getD j 0 = ms.getD j 0)) (r := fun j => decide (ms.getD j 0 < ns.getD j 0)) p1 p2 (by omega)
    (fun j k1 k2 => by
      obtain ⟨t, w1⟩ := g1 j k1
      obtain ⟨t', w2⟩ := g2 j k2
      rw [w1, w2]
      have same : decide (ns.getD j 0 = ms.getD j 0) = (ns.getD j 0 == ms.getD j 0) := by
        generalize ns.getD j 0 = n0
        generalize ms.getD j 0 = m0
        by_cases c : n0 = m0 <;> simp [c]
      show SeqAt.EqAt _ _ _ _ (decide (ns.getD j 0 = ms.getD j 0))
      rw [same]
      exact SeqAt.EqAt.int_int _ _ _ _)
    (fun j k1 k2 _ => by
      obtain ⟨t, w1⟩ := g1 j k1
      obtain ⟨t', w2⟩ := g2 j k2
      rw [w1, w2]
      exact Ob.RcOp.gt_int _ _ _ _)
  rw [n1, n2, lex_gt] at R
  exact R prog w E Q q
end
/-! the loop of max where the items are compared in a heap that keeps h0 -/
section
variable {prog : Program} {w : World} {A : Around} {R : Result → Shared → Prop} {I S : Addr} {fp wr : List Addr} {n : Nat} {P : Nat → Value → Prop} {St : Nat → Heap → Prop} {h0 : Heap} {bt : Nat → Nat → Bool}
theorem best_le (bt : Nat → Nat → Bool) : ∀ k, argBest bt k ≤ k
  | 0 => Nat.le_refl _
  | k + 1 => by
    have := best_le bt k
    unfold argBest
    split <;> omega
def CmpG (prog : Program) (w : World) (A : Around) (h0 : Heap) (n : Nat) (P : Nat → Value → Prop) (bt : Nat → Nat → Bool) : Prop :=
  ∀ i j vi vj (s : Shared) (Q : Value → Shared → Prop) (E : Value → Shared → Prop), j < i → i < n → (∀ b o, h0.get? b = some o → s.heap.get? b = some o) → P i vi → P j vj → Q (.bool (bt i j)) s → wpAny (model prog w) A (richCompare .Gt vi vj) Q E s
def lstS (vs : Array Value) (c : Nat) : Obj := { cls := .type "list", dict := none, data := .seq vs c, slots := #[] }
abbrev maxArgs (I S : Addr) : Args := ⟨[.ref I, .none, .ref S], []⟩
theorem loop_next (W : Walks prog w A.in1 I fp wr n P St) (hc : CmpG prog w A.in1 h0 n P bt) (hSf : S ∉ fp) (hS0 : h0.get? S = none) (hw0 : ∀ b ∈ wr, h0.get? b = none) (k : Nat) :
    ∀ (j : Nat) (s : Shared) (vb : Value) (c : Nat), n - (j + 1) = k → j + 1 ≤ n → St (j + 1) s.heap → (∀ b o, h0.get? b = some o → s.heap.get? b = some o) → P (argBest bt j) vb → s.heap.get? S = some (lstS #[vb, vb] c) →
      (∀ v h' tk, P (argBest bt (n - 1)) v → (∀ b o, b ∉ wr → b ≠ S → s.heap.get? b = some o → h'.get? b = some o) → R (.ok (.ret v)) { s with heap := h', toks := tk }) → codeAny (model prog w) A (.builtin "max.loop" (maxArgs I S)) R s := by
  have hSw : S ∉ wr := fun h => hSf (W.sub _ h)
  have nm : (toString "max" ++ toString ".loop" : String) = "max.loop" := by decide
  have spread : ∀ {t : Sem PySem.Fin} {Q : PySem.Fin → Shared → Prop} {s : Shared} {c : Nat} {vb : Value}, s.heap.get? S = some (lstS #[vb, vb] c) → True := fun _ => trivial
  induction k with
  | zero =>
    intro j s vb c ek hj st hk0 hP hS hR
    have en : j + 1 = n := by omega
    refine codeAny_builtin F.entry_max_loop (?_)
    rw [show A.under (.builtin "max.loop" (maxArgs I S)) = A.in1 from Around.under_plainId F.plain_max_loop _]
    refine wpAny_bind (wpAny_seqItems hS rfl (wpAny_bind (wpAny_tryCatch (W.done s _ _ (en ▸ st) fun h1 tk k1 => ?_))))
    have hS1 := k1 S _ hSw hS
    refine wpAny_bind (wpAny_updateSeq hS1 rfl (wpAny_bind (wpAny_letGo (wpAny_pure (hR vb _ tk (by rw [← en]; exact hP) fun b o n1 n2 e => ?_)))))
    exact (Heap.get?_update_other _ _ (Ne.symm n2)).trans (k1 b o n1 e)
  | succ k ih =>
    intro j s vb c ek hj st hk0 hP hS hR
    have hlt : j + 1 < n := by omega
    refine codeAny_builtin F.entry_max_loop (?_)
    rw [show A.under (.builtin "max.loop" (maxArgs I S)) = A.in1 from Around.under_plainId F.plain_max_loop _]
    refine wpAny_bind (wpAny_seqItems hS rfl (wpAny_bind (wpAny_tryCatch (W.item (j + 1) s _ _ hlt st fun v h1 tk hv st1 k1 => ?_))))
    have hS1 := k1 S _ hSw hS
    have up : ∀ b o, h0.get? b = some o → h1.get? b = some o := fun b o e => k1 b o (fun hb => by rw [hw0 b hb] at e; cases e) (hk0 b o e)
    refine wpAny_bind (wpAny_pure ?_)
    have cmp := fun Q E s (h : ∀ b o, h0.get? b = some o → s.heap.get? b = some o) q => hc (j + 1) (argBest bt j) v vb s Q E (Nat.lt_succ_of_le (best_le bt j)) hlt h hv hP q
    refine wpAny_bind (wpAny_tryCatch (wpAny_holding (wpAny_bind (cmp _ _ _ up (wpAny_bind (wpAny_holding (wpAny_truthy_bool (wpAny_bind (wpAny_letGo (wpAny_pure ?_))))))))))
    cases hb : bt (j + 1) (argBest bt j) with
    | true =>
      simp only [if_true]
      refine wpAny_bind (wpAny_updateSeq hS1 rfl (wpAny_bind (wpAny_letGo ?_)))
      rw [nm]
      have st2 : St (j + 1 + 1) (h1.update S (Obj.mapSeq fun _ => #[v, v])) := W.frame _ _ _ st1 fun b hbf o e => (Heap.get?_update_other _ _ (fun z : S = b => hSf (z ▸ hbf))).trans e
      refine wpAny_pure ⟨plainId_quiet F.plain_max_loop _, ih (j + 1) _ v _ (by omega) hlt st2 (fun b o e => ?_) (by simp only [argBest, hb, if_true]; exact hv) (Heap.get?_update_self _ hS1 rfl) fun v' h2 tk2 hP2 k2 => ?_⟩
      · exact (Heap.get?_update_other _ _ (fun z : S = b => by rw [← z, hS0] at e; cases e)).trans (up b o e)
      · exact hR v' h2 tk2 hP2 fun b o n1 n2 e => k2 b o n1 n2 ((Heap.get?_update_other _ _ (Ne.symm n2)).trans (k1 b o n1 e))
    | false =>
      simp only [Bool.false_eq_true, if_false]
      refine wpAny_bind (wpAny_letGo ?_)
      rw [nm]
      exact wpAny_pure ⟨plainId_quiet F.plain_max_loop _, ih (j + 1) _ vb c (by omega) hlt st1 up (by simp only [argBest, hb, Bool.false_eq_true, if_false]; exact hP) hS1 fun v' h2 tk2 hP2 k2 => hR v' h2 tk2 hP2 fun b o n1 n2 e => k2 b o n1 n2 (k1 b o n1 e)⟩
theorem loop_start (W : Walks prog w A.in1 I fp wr n P St) (hc : CmpG prog w A.in1 h0 n P bt) (hSf : S ∉ fp) (hS0 : h0.get? S = none) (hw0 : ∀ b ∈ wr, h0.get? b = none) (hn : 0 < n) {s : Shared} {c : Nat} (st : St 0 s.heap) (hk0 : ∀ b o, h0.get? b = some o → s.heap.get? b = some o) (hS : s.heap.get? S = some (lstS #[] c))
    (hR : ∀ v h' tk, P (argBest bt (n - 1)) v → (∀ b o, b ∉ wr → b ≠ S → s.heap.get? b = some o → h'.get? b = some o) → R (.ok (.ret v)) { s with heap := h', toks := tk }) : codeAny (model prog w) A (.builtin "max.loop" (maxArgs I S)) R s := by
  have hSw : S ∉ wr := fun h => hSf (W.sub _ h)
  have nm : (toString "max" ++ toString ".loop" : String) = "max.loop" := by decide
  refine codeAny_builtin F.entry_max_loop (?_)
  rw [show A.under (.builtin "max.loop" (maxArgs I S)) = A.in1 from Around.under_plainId F.plain_max_loop _]
  refine wpAny_bind (wpAny_seqItems hS rfl (wpAny_bind (wpAny_tryCatch (W.item 0 s _ _ hn st fun v h1 tk hv st1 k1 => ?_))))
  have hS1 := k1 S _ hSw hS
  have up : ∀ b o, h0.get? b = some o → h1.get? b = some o := fun b o e => k1 b o (fun hb => by rw [hw0 b hb] at e; cases e) (hk0 b o e)
  refine wpAny_bind (wpAny_pure (wpAny_bind (wpAny_updateSeq hS1 rfl ?_)))
  rw [nm]
  have st2 : St 1 (h1.update S (Obj.mapSeq fun _ => #[v, v])) := W.frame _ _ _ st1 fun b hbf o e => (Heap.get?_update_other _ _ (fun z : S = b => hSf (z ▸ hbf))).trans e
  refine wpAny_pure ⟨plainId_quiet F.plain_max_loop _, loop_next W hc hSf hS0 hw0 _ 0 _ v _ rfl hn st2 (fun b o e => ?_) hv (Heap.get?_update_self _ hS1 rfl) fun v' h2 tk2 hP2 k2 => ?_⟩
  · exact (Heap.get?_update_other _ _ (fun z : S = b => by rw [← z, hS0] at e; cases e)).trans (up b o e)
  · exact hR v' h2 tk2 hP2 fun b o n1 n2 e => k2 b o n1 n2 ((Heap.get?_update_other _ _ (Ne.symm n2)).trans (k1 b o n1 e))
end
section
variable {prog : Program} {w : World} {A : Around} {E : Value → Shared → Prop} {s : Shared}
theorem gone {h0 : Heap} {b : Addr} (h : h0.objs.size ≤ b) : h0.get? b = none := by
  cases e : h0.get? b with
  | none => rfl
  | some o => exact absurd (Nat.lt_of_lt_of_le (Heap.lt_size e) h) (Nat.lt_irrefl _)
/-- max(a, b) of any two values that can be compared -/
theorem max_two_G {a b : Value} {bb : Bool} {Q : Value → Shared → Prop} (hh : A.handled = none) (hc : ∀ (s' : Shared) (Q : Value → Shared → Prop) (E : Value → Shared → Prop), (∀ c o, s.heap.get? c = some o → s'.heap.get? c = some o) → Q (.bool bb) s' → wpAny (model prog w) A.in1 (richCompare .Gt b a) Q E s')
    (h : ∀ h' tk, (∀ c o, s.heap.get? c = some o → h'.get? c = some o) → Q (if bb = true then b else a) { s with heap := h', toks := tk }) : wpAny (model prog w) A (call (.builtin "max") [a, b]) Q E s := by
  have nm : (toString "max" ++ toString ".loop" : String) = "max.loop" := by decide
  have hT : (s.heap.push { cls := .type "tuple", data := .seq #[a, b] }).IsTuple s.heap.objs.size #[a, b] := ⟨_, Heap.get?_push_size _ rfl, rfl, 0, rfl⟩
  have z1 : (s.heap.push { cls := .type "tuple", data := .seq #[a, b] }).objs.size = s.heap.objs.size + 1 := Heap.size_push ..
  refine call_function_tree F.kind_max F.plain_max F.entry_max (F.args_max2 a b) (wpAny_bind (wpAny_of_eq (a := ([none, none] : List (Option Value))) rfl (wpAny_bind (wpAny_newObj_type (wpAny_bind (wpAny_pyIter_tuple hT (wpAny_bind (wpAny_newObj_type ?_)))))))) 
  rw [nm]
  refine wpAny_pure ⟨plainId_quiet F.plain_max_loop _, ?_⟩
  have W : Walks prog w A.in1 (s.heap.push { cls := .type "tuple", data := .seq #[a, b] }).objs.size [(s.heap.push { cls := .type "tuple", data := .seq #[a, b] }).objs.size, s.heap.objs.size] [(s.heap.push { cls := .type "tuple", data := .seq #[a, b] }).objs.size] 2 (fun i v => #[a, b][i]? = some v) _ := Walks.tuple (A := A.in1) hh _ s.heap.objs.size (by rw [z1]; exact Nat.ne_of_lt (Nat.lt_succ_self _)) #[a, b]
  have cmp : CmpG prog w A.in1 s.heap 2 (fun i v => #[a, b][i]? = some v) (fun i j => bb) := fun i j vi vj s' Q' E' hji hi hk h1 h2 q => by
    obtain ⟨rfl, rfl⟩ : i = 1 ∧ j = 0 := by omega
    cases h1
    cases h2
    exact hc s' Q' E' hk q
  have out : ∀ c, s.heap.objs.size ≤ c → s.heap.get? c = none := fun c hc => gone hc
  have z2 : ((s.heap.push { cls := .type "tuple", data := .seq #[a, b] }).push { cls := .type "tuple_iterator", data := .fields #[.ref s.heap.objs.size, .int 0 0] }).objs.size = s.heap.objs.size + 2 := by rw [Heap.size_push, z1]
  refine loop_start W cmp ?_ (out _ ?_) (fun c hc => out _ ?_) (by decide) ?_ (fun c o e => ?_) (Heap.get?_push_size _ rfl) fun v h' tk hv hk => ?_
  · show ((s.heap.push { cls := .type "tuple", data := .seq #[a, b] }).push { cls := .type "tuple_iterator", data := .fields #[.ref s.heap.objs.size, .int 0 0] }).objs.size ∉ _
    rw [z2, z1]
    intro hm
    simp at hm
  · show s.heap.objs.size ≤ ((s.heap.push { cls := .type "tuple", data := .seq #[a, b] }).push { cls := .type "tuple_iterator", data := .fields #[.ref s.heap.objs.size, .int 0 0] }).objs.size
    rw [z2]; exact Nat.le_add_right _ _
  · rw [z1] at hc
    simp at hc
    rw [hc]; exact Nat.le_succ _
  · exact ⟨⟨_, Heap.get?_push_of_some _ (Heap.get?_push_size _ rfl), rfl, rfl⟩, (hT.push _).push _⟩
  · exact Heap.get?_push_of_some _ (Heap.get?_push_of_some _ (Heap.get?_push_of_some _ e))
  · have ev : v = if bb = true then b else a := by
      cases bb with
      | true => simp [argBest] at hv; simp [hv]
      | false => simp [argBest] at hv; simp [hv]
    rw [ev]
    refine h h' tk fun c o e => hk c o (fun hm => ?_) (fun z => ?_) (Heap.get?_push_of_some _ (Heap.get?_push_of_some _ (Heap.get?_push_of_some _ e)))
    · rw [z1] at hm
      simp at hm
      have := Heap.lt_size e
      rw [hm] at this
      exact absurd (Nat.lt_of_succ_lt this) (Nat.lt_irrefl _)
    · have := Heap.lt_size e
      rw [z] at this
      have q : ((s.heap.push { cls := .type "tuple", data := .seq #[a, b] }).push { cls := .type "tuple_iterator", data := .fields #[.ref s.heap.objs.size, .int 0 0] }).objs.size < s.heap.objs.size := this
      rw [z2] at q
      exact absurd (Nat.lt_of_le_of_lt (Nat.le_add_right _ 2) q) (Nat.lt_irrefl _)
end
theorem intsD_rep : ∀ {ds : List D} {ns : List Int}, intsD ds = some ns → ds = ns.map .int
  | [], ns, e => by cases e; rfl
  | d :: ds, ns, e => by
    cases d with
    | int i =>
      simp only [intsD] at e
      cases e1 : intsD ds with
      | none => rw [e1] at e; cases e
      | some ms => rw [e1] at e; cases e; rw [intsD_rep e1]; rfl
    | _ => cases e
theorem top_tup {K : PySem.W.Frag} {Hd H : Hp} {ds : List D} {v : V} (t : Top K Hd H (.tup ds) v) : Rep K Hd (.tup ds) v := by
  cases t with
  | rep r => exact r
/-! max of two tuples of ints; of two ints -/
section
variable {X : Cx}
def gMaxT : List D → Option RV
  | [.tup ds, .tup es] => match intsD ds, intsD es with
    | some ns, some ms => some (.val (.tup ((if HT.lexLt ns ms = true then ms else ns).map .int)))
    | _, _ => none
  | xs => gMax xs
theorem cb_maxT (hc : X.calm = true) (hu : X.A.units + 64 < cLine) : CallR X (.builtin "max") (rGC X.K gMaxT) := by
  intro pins s σ H xs us Q I r ⟨Hd, ds, z, l, t, eg, q⟩
  by_cases hT : ∃ d1 d2, ds = [.tup d1, .tup d2]
  · obtain ⟨d1, d2, rfl⟩ := hT
    simp only [gMaxT] at eg
    cases f1 : intsD d1 with
    | none => rw [f1] at eg; cases eg
    | some ns =>
      cases f2 : intsD d2 with
      | none => rw [f1, f2] at eg; cases eg
      | some ms =>
        rw [f1, f2] at eg
        cases eg
        obtain ⟨x, y, rfl, t1, t2⟩ := tops2 t
        obtain ⟨a, rfl, h1⟩ := intsT l t1 f1
        obtain ⟨b, rfl, h2⟩ := intsT l t2 f2
        have e1 := intsD_rep f1
        have e2 := intsD_rep f2
        subst e1 e2
        obtain ⟨u1, u2, rfl, r1, r2⟩ := L2.vals2 r
        have ea : u1 = Value.ref a := r1
        have eb : u2 = Value.ref b := r2
        subst ea eb
        obtain ⟨its, v1, p1, _⟩ := I.tuple h1
        obtain ⟨jts, v2, p2, _⟩ := I.tuple h2
        refine max_two_G (bb := HT.lexLt ns ms) (I.ok.hd hc) (fun s' Q' E' hk q' => ?_) fun h' tk hk => ?_
        · have k1 : PyProof.Rows.IsTup s'.heap a its.toArray := by obtain ⟨o, e, r⟩ := p1; exact ⟨o, hk _ _ e, r⟩
          have k2 : PyProof.Rows.IsTup s'.heap b jts.toArray := by obtain ⟨o, e, r⟩ := p2; exact ⟨o, hk _ _ e, r⟩
          exact gt_at k2 k1 (L2.Vals.ints v2) (L2.Vals.ints v1) (by show X.A.units + 1 + 62 < cLine; omega) q'
        · have I2 : L2.Inv X pins σ H { s with heap := h', toks := tk } := I.kept (t' := tk) hk
          cases hb : HT.lexLt ns ms with
          | true =>
            simp only [if_true]
            rw [hb] at q
            exact ⟨.ref b, H, I2, rfl, q _ _ (newR_here l (top_tup t2))⟩
          | false =>
            simp only [Bool.false_eq_true, if_false]
            rw [hb] at q
            exact ⟨.ref a, H, I2, rfl, q _ _ (newR_here l (top_tup t1))⟩
  · have e : gMaxT ds = gMax ds := by
      unfold gMaxT
      split
      · exact absurd ⟨_, _, rfl⟩ hT
      · rfl
    rw [e] at eg
    exact cb_max hc pins s σ H xs us Q I r ⟨Hd, ds, z, l, t, eg, q⟩
end
end O

/-! Own43a: the heap never has fewer places -/
namespace O
open PySem
theorem hz_up {h : Heap} {a : Addr} {f : Obj → Obj} : (h.update a f).objs.size = h.objs.size := by
  unfold Heap.update
  split <;> simp
theorem runs_hz {M : Model} {Γ : Ctx} {p : Pos} {t : Sem PySem.Fin} {fs : List Frame} {s s' : Shared} {e : End} (h : Runs M Γ p t fs s e s') : s.heap.objs.size ≤ s'.heap.objs.size := by
  induction h <;> (try simp only [Shared.setGen, hz_up, Heap.size_push] at *) <;> omega
theorem wakes_hz {M : Model} {Γ : Ctx} {p : Pos} {g : Nat} {r : Resume} {s s' : Shared} {res : GenResult} (h : Wakes M Γ p g r s res s') : s.heap.objs.size ≤ s'.heap.objs.size := by
  unfold Wakes at h
  split at h
  · exact h.elim
  all_goals try (obtain ⟨e1, s1, hr, k1, k2, k3⟩ := h; subst k3; have q := runs_hz hr; exact q)
  all_goals try (obtain ⟨k1, k2⟩ := h; subst k2; exact Nat.le_refl _)
  split at h
  all_goals try (obtain ⟨e1, s1, hr, k1, k2, k3⟩ := h; subst k3; have q := runs_hz hr; exact q)
  all_goals try (obtain ⟨k1, k2⟩ := h; subst k2; exact Nat.le_refl _)
theorem wp_hz {α : Type} (M : Model) (Γ : Ctx) (n : Nat) (t : Sem α) : ∀ (Q : α → Pos → Shared → Prop) (E : Value → Pos → Shared → Prop) (p : Pos) (s : Shared), n ≤ s.heap.objs.size → Sem.wp M Γ t Q E p s →
    Sem.wp M Γ t (fun a p' s' => n ≤ s'.heap.objs.size ∧ Q a p' s') (fun e p' s' => n ≤ s'.heap.objs.size ∧ E e p' s') p s := by
  induction t <;> intro Q E p s hn h
  case call k ih => obtain ⟨r, s1, hr, q⟩ := h; exact ⟨r, s1, hr, ih r Q E p s1 (Nat.le_trans hn (runs_hz hr)) q⟩
  case resume k ih => obtain ⟨r, s1, hr, q⟩ := h; exact ⟨r, s1, hr, ih r Q E p s1 (Nat.le_trans hn (wakes_hz hr)) q⟩
  case genState k ih => obtain ⟨st, e, q⟩ := h; exact ⟨st, e, ih _ Q E p s hn q⟩
  case load k ih => obtain ⟨o, e, q⟩ := h; exact ⟨o, e, ih o Q E p s hn q⟩
  case update k ih => exact ⟨h.1, ih () Q E p _ (by rw [hz_up]; exact hn) h.2⟩
  case choose k ih => exact ⟨h.1, ih _ Q E p _ hn h.2⟩
  case alloc k ih => exact ih _ Q E p _ (Nat.le_trans hn (Nat.le_trans (Nat.le_succ _) (Nat.le_of_eq (Heap.size_push ..).symm))) h
  all_goals first | exact h | exact ⟨hn, h⟩ | (rename_i ih; exact ih _ Q E _ _ hn h)
theorem wpAny_hz {α : Type} {M : Model} {A : Around} {s : Shared} {t : Sem α} {Q : α → Shared → Prop} {E : Value → Shared → Prop} (h : wpAny M A t (fun a s' => s.heap.objs.size ≤ s'.heap.objs.size → Q a s') E s) : wpAny M A t Q E s :=
  wpAny_mono (fun Γ p hΓ => wp_hz M Γ s.heap.objs.size t _ _ p s (Nat.le_refl _) (h Γ p hΓ) : wpAny M A t (fun a s' => s.heap.objs.size ≤ s'.heap.objs.size ∧ (s.heap.objs.size ≤ s'.heap.objs.size → Q a s')) (fun e s' => s.heap.objs.size ≤ s'.heap.objs.size ∧ E e s') s)
    (fun _ _ x => x.2 x.1) fun _ _ x => x.2
end O

/-! Own43: *xs, y = a tuple; n1, n2, .. , d[k] = a tuple -/
namespace O
open PySem
open L2 (V Hp HO Rd SqL SqT upd upd_same upd_ne ne_of ne_of_none TE TT TA TS TG TGs TI TO It VK XK Ends St PE PT PW PA PS PSs PG PGs PI PO PTs Cx OpR UnR CallR IxR SlR MtR R2 tOp tUn tVar tC tCons tNil tTup tLst tTest tB tAnd tOr tNot tAndV tOrV tNotV tIf tCB Sp FnOk Gl Vis Loc Room)
section
variable {prog : Program} {w : World} {A : Around} {E : Value → Shared → Prop} {s : Shared}
theorem star_items {t : Addr} {xs : List Value} {y : Value} {Q : List Value → Shared → Prop} (hh : A.handled = none) (ht : s.heap.IsTuple t (xs ++ [y]).toArray) (hz : xs.length + 1 ≤ sizeLine)
    (hQ : ∀ (s' : Shared) (p : Addr), (∀ b o, s.heap.get? b = some o → s'.heap.get? b = some o) → s'.os = s.os → s'.gens = s.gens → s'.drawn = s.drawn → s.heap.objs.size ≤ p → s'.heap.get? p = some { cls := .type "list", data := .seq xs.toArray } → Q [.ref p, y] s') :
    wpAny (model prog w) A (unpackItems (.ref t) 2 (some 0)) Q E s := by
  have tt : t < s.heap.objs.size := by obtain ⟨o, ho, _⟩ := ht; exact Heap.lt_size ho
  have z1 : (s.heap.push { cls := .type "tuple_iterator", data := .fields #[.ref t, .int 0 0] }).objs.size = s.heap.objs.size + 1 := Heap.size_push ..
  unfold unpackItems notIterableAtAll
  refine wpAny_bind (wpAny_bind (wpAny_specialOf ht.typeIs F.slot_tuple_iter.lookup (wpAny_pure ?_)))
  simp only [Bool.false_eq_true, if_false]
  refine wpAny_bind (wpAny_holding (wpAny_pyIter_tuple ht (wpAny_bind (wpAny_holding (wpAny_pure ?_)))))
  simp only [List.length_nil, Nat.lt_irrefl, if_false]
  have W := (Walks.tuple (prog := prog) (w := w) (A := A.in1) hh s.heap.objs.size t (Nat.ne_of_lt tt) (xs ++ [y]).toArray).toS
  refine wpAny_bind (wpAny_holding (wpAny_hz (wpAny_collect_iter (T := "tuple_iterator") (.inr (.inr (.inr rfl))) W (fun i s' st => ?_) ⟨⟨_, Heap.get?_push_size _ rfl, rfl, rfl⟩, ht.push _⟩ (fun b hb => ?_) (by simp) (fun s' acc mv it hsz => ?_) (by simpa using hz))))
  · obtain ⟨⟨o, e, c, _⟩, _⟩ := st
    exact ⟨o, e, c⟩
  · show b < (s.heap.push _).objs.size
    rw [Heap.size_push]
    simp at hb
    rcases hb with rfl | rfl
    · exact Nat.lt_succ_self _
    · exact Nat.lt_succ_of_lt tt
  · have ea : acc.toList = xs ++ [y] := by
      obtain ⟨e1, e2⟩ := it
      refine List.ext_getElem? fun i => ?_
      cases e : acc[i]? with
      | none =>
        have h1 : acc.size ≤ i := by simpa using e
        rw [List.getElem?_eq_none (by simpa using h1), List.getElem?_eq_none (by rw [e1] at h1; simpa using h1)]
      | some v =>
        have := e2 i v e
        simp at this
        rw [this]
        simpa using e
    rw [ea]
    have l1 : ¬ (xs ++ [y]).length < 1 := by simp
    rw [if_neg (show ¬ (xs ++ [y]).length < 2 - 1 - 0 from l1)]
    show wpAny _ A (newList ((xs ++ [y]).take ((xs ++ [y]).length - 1)) >>= _) _ _ _
    have l0 : (xs ++ [y]).length - 1 = xs.length := by simp
    have l2 : (xs ++ [y]).take ((xs ++ [y]).length - 1) = xs := by rw [l0]; exact List.take_left
    have l3 : (xs ++ [y]).drop ((xs ++ [y]).length - 1) = [y] := by rw [l0]; exact List.drop_left
    rw [l2]
    have old : ∀ b o, s.heap.get? b = some o → s'.heap.get? b = some o := fun b o e => mv.heap b o (fun hm => by
      simp at hm
      have := Heap.lt_size e
      rw [hm] at this
      exact absurd this (Nat.lt_irrefl _)) (Heap.get?_push_of_some _ e)
    have l4 : ([] ++ [Value.ref s'.heap.objs.size] ++ (xs ++ [y]).drop ((xs ++ [y]).length - (2 - 1 - 0))) = [Value.ref s'.heap.objs.size, y] := congrArg (fun z => [Value.ref s'.heap.objs.size] ++ z) l3
    have fin := hQ { s' with heap := s'.heap.push { cls := .type "list", data := .seq xs.toArray } } s'.heap.objs.size (fun b o e => Heap.get?_push_of_some _ (old b o e)) mv.os mv.gens mv.drawn (Nat.le_trans (by rw [Heap.size_push]; exact Nat.le_succ _) hsz) (Heap.get?_push_size _ rfl)
    exact wpAny_bind (wpAny_newObj_type (wpAny_pure (by rw [l4]; exact fin)) (show xs.toArray.size ≤ sizeLine by rw [List.size_toArray]; omega))
end
/-- *xs, y = a tuple -/
def gStar (K : PySem.W.Frag) (i j : Nat) : TG := fun v σ H Q => ∃ a xs y, v = .ref a ∧ SqT K H a (xs ++ [y]) ∧ ∀ p, H p = none → Q ((σ.set i (some (.ref p))).set j (some y)) (upd H p (.lst xs))
section
variable {X : Cx} {pos p1 p2 p3 : Pos} {x y : Str} {i j : Nat}
theorem pg_star {k : Nat} (hc : X.calm = true) (h1 : PG X (.Name x p1) (L2.gName i)) (h2 : PG X (.Name y p2) (L2.gName j))
    (hs1 : (assignEach [.Name x p1, .Name y p2] X.env).map (·.2) = assign (.Name x p1) X.env :: (assignEach [.Name y p2] X.env).map (·.2) := by rfl) (hs2 : (assignEach [.Name y p2] X.env).map (·.2) = assign (.Name y p2) X.env :: (assignEach [] X.env).map (·.2) := by rfl) :
    PG X (.Tuple [.Starred (.Name x p1) p3, .Name y p2] k pos) (gStar X.K i j) := by
  have G := L2.pgs_cons h1 (L2.pgs_cons h2 L2.pgs_nil hs2) hs1
  refine ⟨fun pins s σ H v u Q I r hw => ?_⟩
  obtain ⟨a, xs, z, ev, hq, q⟩ := hw
  subst ev
  have eu : u = Value.ref a := r
  subst eu
  obtain ⟨its, rv, ht, hz⟩ := I.tuple hq
  obtain ⟨us, ur, e, ru, rz⟩ := StX.vals_split rv
  obtain ⟨w, rfl, rw⟩ := rz.one
  subst e
  rw [PyProof.Rows.assign_Tuple]
  refine wpAny_bind (wpAny_standAt ?_)
  unfold unpack
  have el : (assignEach [.Starred (.Name x p1) p3, .Name y p2] X.env).length = 2 := rfl
  have ef : (assignEach [.Starred (.Name x p1) p3, .Name y p2] X.env).findIdx? (·.1) = some 0 := rfl
  have em : (assignEach [.Starred (.Name x p1) p3, .Name y p2] X.env).map (·.2) = (assignEach [.Name x p1, .Name y p2] X.env).map (·.2) := rfl
  rw [el, ef, em]
  have hz' : us.length + 1 ≤ sizeLine := by
    have := ru.length
    rw [List.length_append, List.length_singleton] at hz
    omega
  refine wpAny_bind (wpAny_holding (star_items (I.ok.hd hc) ht hz' fun s' p hk ho hg hd hp hl => ?_))
  have es : s' = { s with heap := s'.heap, toks := s'.toks } := by
    obtain ⟨h', g', d', t', o'⟩ := s'
    simp only at ho hg hd
    subst ho hg hd
    rfl
  have free := I.hok.fresh hp
  have I2 : L2.Inv X pins σ (upd H p (.lst xs)) s' := by
    rw [es]
    exact I.laid (t' := s'.toks) hk hp ⟨by have := ru.length; omega, us, 0, ru, hl⟩
  have vv : L2.Vals [V.ref p, z] [Value.ref p, w] := .cons rfl (.cons rw .nil)
  exact G.run pins s' σ _ _ _ Q I2 vv ⟨_, _, rfl, _, _, rfl, rfl, q p free⟩
end
section
variable {K : PySem.W.Frag} {W : St → XK}
def gAsgStar (i j : Nat) (fe : O.Env → Res RV) : O.Env → SR := fun ρ => ((fe ρ).bind fz).thn fun d ρ1 => match d with
  | .tup ds => match ds.getLast? with
    | some z => match putSlot i (.own (.lst ds.dropLast)) ρ1 with
      | some ρ2 => match putSlot j (.val z) ρ2 with
        | some ρ3 => .nx ρ3
        | none => .no
      | none => .no
    | none => .no
  | _ => .no
theorem ss_asgStar {i j : Nat} {te : TE} {fe : O.Env → Res RV} (he : Sd K W (rV K) te fe) : Ss K W (L2.tAsg te (gStar K i j)) (gAsgStar i j fe) := fun C fp Hd H σ ρ I D p =>
  he.fz.runS I p fun d v fp1 Hd1 H1 ρ1 s1 I1 hd p1 => by
    have hd : Rep K Hd1 d v := hd
    cases d with
    | tup ds =>
      simp only at p1
      cases el : ds.getLast? with
      | none => simp only [el] at p1; exact p1.elim
      | some z =>
        simp only [el] at p1
        have eds : ds = ds.dropLast ++ [z] := by
          obtain ⟨ys, rfl⟩ := List.getLast?_eq_some_iff.mp el
          rw [List.dropLast_concat]
        cases hd with
        | tup ht r =>
          rename_i a vs
          rw [eds] at r
          obtain ⟨xs, ys, exy, r1, r2⟩ : ∃ xs ys, vs = xs ++ ys ∧ Reps K Hd1 ds.dropLast xs ∧ Reps K Hd1 [z] ys := by
            have hl := r.length
            refine ⟨vs.take ds.dropLast.length, vs.drop ds.dropLast.length, (List.take_append_drop _ _).symm, ?_, ?_⟩
            · have := r.take ds.dropLast.length
              rwa [List.take_left] at this
            · have := r.drop ds.dropLast.length
              rwa [List.drop_left] at this
          cases r2 with
          | cons rz r0 =>
            rename_i y _
            cases r0
            refine ⟨a, xs, y, rfl, by rw [← exy]; exact I1.le.sqT ht, fun q hq => ?_⟩
            cases e1 : putSlot i (.own (.lst ds.dropLast)) ρ1 with
            | none => simp only [e1] at p1; exact p1.elim
            | some ρ2 =>
              simp only [e1] at p1
              cases e2 : putSlot j (.val z) ρ2 with
              | none => simp only [e2] at p1; exact p1.elim
              | some ρ3 =>
                simp only [e2] at p1
                obtain ⟨Hd2, s2, I2, h2⟩ := (newR_lst I1.le hq r1).at I1
                obtain ⟨fp3, s3, I3⟩ := put_ok s2 I2 h2 e1
                obtain ⟨fp4, s4, I4⟩ := put_ok (Stp.refl fp3 Hd2 _) I3 (r := .val z) (v := y) (show Rep K Hd2 z y from rz.mono s2.hd) e2
                exact p1 _ fp4 Hd2 _ (s3.trans s4) I4
    | _ => exact p1.elim
end
section
variable {X : Cx} {W : St → XK} {e : Expr} {te : TE} {fe : O.Env → Res RV} {pos p1 p2 p3 p4 : Pos} {x y : Str} {i j k : Nat}
theorem jasgStar {K : PySem.W.Frag} (hc : X.calm = true) (h1 : JG X (.Name x p1) (L2.gName i) (.name i)) (h2 : JG X (.Name y p2) (L2.gName j) (.name j)) (he : JE X W e te fe) (hs : swapsWithSole [.Tuple [.Starred (.Name x p1) p3, .Name y p2] k p4] e pos.line X.env = pure false := by rfl) (hw : swappedStores [.Tuple [.Starred (.Name x p1) p3, .Name y p2] k p4] e X.env = pure none := by rfl)
    (h3 : (assignEach [.Tuple [.Starred (.Name x p1) p3, .Name y p2] k p4] X.env).map (·.2) = [assign (.Tuple [.Starred (.Name x p1) p3, .Name y p2] k p4) X.env] := by rfl) (hK : X.K = K := by rfl) :
    JS X W (.Assign [.Tuple [.Starred (.Name x p1) p3, .Name y p2] k p4] e pos) (L2.tAsg te (gStar K i j)) (gAsgStar i j fe) := by
  subst hK
  exact ⟨L2.ps_asg he.pe (pg_star hc h1.pg h2.pg) hs hw h3, ss_asgStar he.se⟩
end
end O

/-! Own51: calls with keywords alone -/
namespace O
open PySem
open PyProof.Rows (envOfC AllBare)
open L2 (V Hp HO Rd SqL SqT upd upd_same upd_ne ne_of ne_of_none TE TT TA TS TG TGs TI TO It VK XK Ends St PE PA PK Cx tCons tNil Sp Gl Room Vals RelV Env0)
/-- in another sequence -/
def permL {α : Type} (π : List Nat) (xs : List α) : List α := π.filterMap fun i => xs[i]?
theorem perm_vals {π : List Nat} {vs : List V} {us : List Value} (r : Vals vs us) : Vals (permL π vs) (permL π us) := by
  induction π with
  | nil => exact .nil
  | cons i π ih =>
    unfold permL at ih ⊢
    rw [List.filterMap_cons, List.filterMap_cons]
    cases e : vs[i]? with
    | none =>
      have : us[i]? = none := by
        rw [List.getElem?_eq_none_iff] at e ⊢
        rw [← r.length]; exact e
      simp only [this]
      exact ih
    | some v =>
      obtain ⟨u, hu, rv⟩ := r.get e
      simp only [hu]
      exact .cons rv ih
section
variable {K : PySem.W.Frag} {W : St → XK}
theorem RVs.at {Hd : Hp} {σ : St} : ∀ {rs : List RV} {vs : List V} (i : Nat), RVs K Hd σ rs vs → ∀ r, rs[i]? = some r → ∃ v, vs[i]? = some v ∧ RVs K Hd σ [r] [v]
  | _, _, _, .nil, _, e => by simp at e
  | _, _, 0, .val h q, _, e => by simp at e; subst e; exact ⟨_, rfl, .val h .nil⟩
  | _, _, 0, .bor h q, _, e => by simp at e; subst e; exact ⟨_, rfl, .bor h .nil⟩
  | _, _, i + 1, .val h q, r, e => by simpa using RVs.at i q r (by simpa using e)
  | _, _, i + 1, .bor h q, r, e => by simpa using RVs.at i q r (by simpa using e)
theorem RVs.perm {Hd : Hp} {σ : St} {rs : List RV} {vs : List V} (q : RVs K Hd σ rs vs) (π : List Nat) : RVs K Hd σ (permL π rs) (permL π vs) := by
  induction π with
  | nil => exact .nil
  | cons i π ih =>
    unfold permL at ih ⊢
    rw [List.filterMap_cons, List.filterMap_cons]
    cases e : rs[i]? with
    | none =>
      have : vs[i]? = none := by
        rw [List.getElem?_eq_none_iff] at e ⊢
        rw [← q.length]; exact e
      simp only [this]
      exact ih
    | some r =>
      obtain ⟨v, hv, rv⟩ := q.at i r e
      simp only [hv]
      exact RVs.app (rs := [r]) (vs := [v]) rv ih
def tPerm (m : Nat) (π : List Nat) (t : TA) : TA := fun σ H Q => t σ H fun zs H1 => zs.length = m ∧ Q (permL π zs) H1
def fPerm (m : Nat) (π : List Nat) (f : O.Env → Res (List RV)) : O.Env → Res (List RV) := fun ρ => (f ρ).bind fun rs ρ1 => if rs.length = m then .ok (permL π rs) ρ1 else .no
theorem sd_perm {m : Nat} {π : List Nat} {t : TA} {f : O.Env → Res (List RV)} (h : Sd K W (rA K) t f) : Sd K W (rA K) (tPerm m π t) (fPerm m π f) := fun C fp Hd H σ ρ I Q p =>
  h.run I p fun rs vs fp1 Hd1 H1 ρ1 s1 I1 r1 p => by
    have r1 : RVs K Hd1 σ rs vs := r1
    by_cases hm : rs.length = m
    · rw [if_pos hm] at p
      exact ⟨by rw [← r1.length]; exact hm, p _ fp1 Hd1 H1 (.refl _ _ _) I1 (r1.perm π)⟩
    · rw [if_neg hm] at p; exact p.elim
end
section
variable {P : Program} {w : World} {K : PySem.W.Frag} {mg : Str → Option Value} {base : Heap}
/-- a def that is called with the keywords ks; π: where each parameter stands among them -/
structure CalK (P : Program) (w : World) (K : PySem.W.Frag) (mg : Str → Option Value) (base : Heap) (x : Str) (k n : Nat) (ks : List Str) (π : List Nat) (F : List Ar → FO) : Prop where
  ex : ∃ fA : Addr, (∀ (A : Around) (outer : List PySem.Env) (s : Shared) (H : Hp) (ws : List Value) (zs : List V) (Q : VK) (E : XK), RoomG k A → Env0 P w K mg base A outer s H → Vals zs ws → zs.length = ks.length → spF K n F (permL π zs) H Q E →
    codeAny (model P w) A (.call (.ref fA) ⟨[], ks.zip ws⟩) (L2.CR (L2.CX P w) outer P w H s Q E) s) ∧ mg x = some (.ref fA) ∧ PySem.W.keepIn K (.ref fA) = true
theorem calK_of {x : Str} {k n : Nat} {fA : Addr} {fd : FuncData} {ps : List Str} {st : Stmt} {F : List Ar → FO} (ks : List Str) (π : List Nat) (U : L2.Fun K x x st fA fd) (gm : mg x = some (.ref fA)) (G : FnG P w K mg base k fA fd ps (spF K n F))
    (hb : ∀ (kV doc pm : Value) (an : Option Addr) (cdv ct : Value) (ws : List Value), ws.length = ks.length → bindArgs (PySem.W.fnOf x x (L2.defArgs st) (L2.defBody st) (L2.defScope st) .none kV doc pm an cdv ct) ⟨[], ks.zip ws⟩ = pure (ps.zip (permL π ws))) : CalK P w K mg base x k n ks π F := by
  refine ⟨fA, fun A outer s H ws zs Q E room e0 r many prom => ?_, gm, U.kp⟩
  obtain ⟨oc, od, kV, doc, pm, an, cdv, ct, osl, rfl, look, code⟩ := U.ex
  exact G.go A outer s H ⟨[], ks.zip ws⟩ (permL π ws) (permL π zs) Q E room e0 (.of_eq (hb kV doc pm an cdv ct ws (by rw [← r.length]; exact many))) (perm_vals r) prom
/-- a def with a star parameter, its m others by keyword -/
structure CalSK (P : Program) (w : World) (K : PySem.W.Frag) (mg : Str → Option Value) (base : Heap) (x : Str) (k m : Nat) (ks : List Str) (π : List Nat) (F : List Ar → FO) : Prop where
  ex : ∃ fA : Addr, (∀ (A : Around) (outer : List PySem.Env) (s : Shared) (H : Hp) (ws : List Value) (zs : List V) (Q : VK) (E : XK), RoomG k A → Env0 P w K mg base A outer s H → Vals zs ws → zs.length = ks.length → spS K m F (permL π zs) H Q E →
    codeAny (model P w) A (.call (.ref fA) ⟨[], ks.zip ws⟩) (L2.CR (L2.CX P w) outer P w H s Q E) s) ∧ mg x = some (.ref fA) ∧ PySem.W.keepIn K (.ref fA) = true
theorem perm_len {α : Type} {π : List Nat} {xs : List α} (h : ∀ i ∈ π, i < xs.length) : (permL π xs).length = π.length := by
  induction π with
  | nil => rfl
  | cons i π ih =>
    have hi := h i (by simp)
    have q := ih fun j hj => h j (by simp [hj])
    unfold permL at q ⊢
    rw [List.filterMap_cons, List.getElem?_eq_getElem hi]
    simp only [List.length_cons, q]
theorem calSK_of {x pv : Str} {fA : Addr} {N ps : List Str} {k n m : Nat} {st : Stmt} {params : Arguments} {g : O.Env → SR} {oc kV doc pm cdv ct : Value} {an od : Option Addr} {osl : Array (Option Value)} (ks : List Str) (π : List Nat)
    (lk : K.lookup fA = some ⟨oc, od, .func (PySem.W.fnOf x x params (L2.defBody st) (L2.defScope st) .none kV doc pm an cdv ct), osl⟩) (hcd : PySem.W.codeIn K cdv x = true) (kp : PySem.W.keepIn K (.ref fA) = true) (S : L2.FnScope N (ps ++ [pv]) (L2.defScope st)) (gm : mg x = some (.ref fA)) (hN : N.length = n) (hp : ps.length = m) (hmn : m + 1 ≤ n) (hπ : ∀ i ∈ π, i < ks.length) (hl : π.length = m)
    (hb : ∀ ws : List Value, ws.length = ks.length → bindArgs (PySem.W.fnOf x x params (L2.defBody st) (L2.defScope st) .none kV doc pm an cdv ct) ⟨[], ks.zip ws⟩ = (newTuple [] >>= fun t => pure (ps.zip (permL π ws) ++ [(pv, t)])))
    (hB : ∀ (A : Around) (outer : List PySem.Env) (s : Shared) (H : Hp) (E : XK), RoomG k (A.deeper (envOfC x (L2.defScope st) s.heap.objs.size fA cdv)) → ∃ t, JB (bx P w K mg base N x st fA cdv A outer s H E) (fun _ => E) (L2.defBody st) t g) :
    CalSK P w K mg base x (k + 1) m ks π (runF n g) := by
  refine ⟨fA, fun A outer s H ws zs Q E room e0 r many ⟨vs, rest, ev, hv, _, hq⟩ => ?_, gm, kp⟩
  have free : H s.heap.objs.size = none := e0.hok.fresh (Nat.le_refl _)
  have many' : ws.length = ks.length := by rw [← r.length]; exact many
  have lz : (permL π zs).length = m := by rw [perm_len (by rw [many]; exact hπ), hl]
  have lw : (permL π ws).length = m := by rw [perm_len (by rw [many']; exact hπ), hl]
  have er : rest = [] := by
    have := congrArg List.length ev
    rw [List.length_append, lz, hv] at this
    exact List.length_eq_zero_iff.mp (by omega)
  subst er
  rw [List.append_nil] at ev
  subst ev
  have rr := perm_vals (π := π) r
  refine StX.run_bnd lk hcd S room.room e0 (G := fun xs H2 => ∃ p, H p = none ∧ xs = permL π zs ++ [V.ref p] ∧ H2 = upd H p (.tup [])) (fun A' Ex Q' h => ?_) fun s2 H2 xs ⟨p, hpn, ex, eH⟩ hr' => ?_
  · rw [hb ws many']
    refine wpAny_bind (wpAny_newTuple (wpAny_pure ?_) (Nat.zero_le _))
    have put : L2.ObjOk P w (upd H s.heap.objs.size (.tup [])) (s.heap.push ({ cls := .type "tuple", data := .seq ([] : List Value).toArray } : Obj)) s.heap.objs.size (.tup []) := ⟨Nat.zero_le _, [], .nil, ⟨_, Heap.get?_push_size _ rfl, rfl, _, rfl⟩⟩
    have grown := StX.un_laid (fs := L2.frs outer) (s := s) (o := ({ cls := .type "tuple", data := .seq ([] : List Value).toArray } : Obj)) (u := .tup []) free
    have got := h _ _ (permL π zs ++ [V.ref s.heap.objs.size]) (permL π ws ++ [Value.ref s.heap.objs.size]) (StX.env0_laid e0 put) grown rfl (fun e s' => StX.cxUp outer s H _ _ E e s' grown (fun b o q => Heap.get?_push_of_some _ q) rfl) (rr.append (.cons rfl .nil))
      (by rw [List.length_append, List.length_append, lz, hp]; rfl) ⟨_, free, rfl, rfl⟩
    rw [List.zip_append (by rw [lw, hp])] at got
    exact got
  · subst ex eH
    obtain ⟨t, jb⟩ := hB A outer s2 _ E ⟨hr', room.gd⟩
    exact ⟨t, jb.pss, body_ok hN hmn jb.ss (hq p hpn)⟩
end
structure JK (X : Cx) (W : St → XK) (kws : List Keyword) (t : TA) (f : O.Env → Res (List RV)) : Prop where
  pk : PK X kws t
  sa : Sd X.K W (rA X.K) t f
section
variable {X : Cx} {W : St → XK} {e : Expr} {kws : List Keyword} {nm : Option Str} {kpos p pos : Pos} {te : TE} {fe : O.Env → Res RV} {t : TA} {f : O.Env → Res (List RV)}
theorem jknil : JK X W [] tNil aNil := ⟨L2.pk_nil, sa_nil⟩
theorem jkcons (ha : JE X W e te fe) (hr : JK X W kws t f) : JK X W (⟨nm, e, kpos⟩ :: kws) (tCons te t) (aCons fe f) := ⟨L2.pk_cons ha.pe hr.pk, sa_cons ha.se hr.sa⟩
theorem jcalK {K : PySem.W.Frag} {x : Str} {k j n : Nat} {ks : List Str} {π : List Nat} {F : List Ar → FO} (ms : List Md) (c : CalK X.prog X.w X.K X.mg X.base x k n ks π F) (hr : RoomG j X.A) (tk : ∀ σ, L2.PassesAt (L2.CX X.prog X.w) X σ (W σ)) (ha : JK X W kws t f) (hj : k ≤ j := by first | decide | omega) (hl : ms.length = n := by rfl) (hg : Gl X x := by rfl)
    (hdb : (x == ("__debug__" : Str)) = false := by decide) (hall : (backToKw pos (keywordEach kws X.env)).all (·.1.isSome) = true := by rfl) (hks : (backToKw pos (keywordEach kws X.env)).filterMap (·.1) = ks := by rfl)
    (hpl : ((backTo pos (starEach [] X.env)).any (·.1) || (backToKw pos (keywordEach kws X.env)).any (·.1.isNone)) = false := by rfl) (hK : X.K = K := by rfl) :
    JE X W (.Call (.Name x p) [] kws pos) (L2.tCallSD (spF K n F) [] W (tPerm ks.length π t)) (fCall ms [] F (fPerm ks.length π f)) := by
  subst hK
  obtain ⟨fA, go, h2, h3⟩ := c.ex
  refine ⟨⟨fun pins s σ H Q I h => ?_⟩, sd_call hl (fun _ => .nil) (sd_perm ha.sa)⟩
  refine wpAny_Call_Name_kw (L2.ld_glob I hg h2 ?_ hdb)
  refine PySem.W.callWith_KW0 (h₀ := X.base) I.ok.mod.kin h3 hall (L2.thn (ha.pk.run pos pins s σ H _ I h) fun ws s1 ⟨zs, H1, I1, r, many, q⟩ => ⟨I1.kIn, ?_⟩) hpl
  rw [hks]
  have q : spF X.K n F (permL π zs ++ []) H1 Q (W σ) := q
  rw [List.append_nil] at q
  refine wpAny_call (codeAny_mono (go X.A X.stack s1 H1 ws zs Q (W σ) (hr.mono hj) I1.env0 r many q) fun r s' hq => ?_)
  rcases r with e | fl
  · exact tk σ pins H1 s1 e s' I1 hq
  · cases fl with
    | ret u => exact I1.after hq
    | next => exact hq.elim
    | brk => exact hq.elim
    | cont => exact hq.elim
theorem jcalSK {K : PySem.W.Frag} {x : Str} {k j m : Nat} {ks : List Str} {π : List Nat} {F : List Ar → FO} (ms : List Md) (c : CalSK X.prog X.w X.K X.mg X.base x k m ks π F) (hr : RoomG j X.A) (tk : ∀ σ, L2.PassesAt (L2.CX X.prog X.w) X σ (W σ)) (ha : JK X W kws t f) (hj : k ≤ j := by first | decide | omega) (hl : ms.length = m + 1 := by rfl) (hg : Gl X x := by rfl)
    (hdb : (x == ("__debug__" : Str)) = false := by decide) (hall : (backToKw pos (keywordEach kws X.env)).all (·.1.isSome) = true := by rfl) (hks : (backToKw pos (keywordEach kws X.env)).filterMap (·.1) = ks := by rfl)
    (hpl : ((backTo pos (starEach [] X.env)).any (·.1) || (backToKw pos (keywordEach kws X.env)).any (·.1.isNone)) = false := by rfl) (hK : X.K = K := by rfl) :
    JE X W (.Call (.Name x p) [] kws pos) (L2.tCallSD (spF K (m + 1) F) [] W (tStarA m (tPerm ks.length π t))) (fCall ms [] F (fStarA m (fPerm ks.length π f))) := by
  subst hK
  obtain ⟨fA, go, h2, h3⟩ := c.ex
  refine ⟨⟨fun pins s σ H Q I h => ?_⟩, sd_call hl (fun _ => .nil) (sd_starA (sd_perm ha.sa))⟩
  refine wpAny_Call_Name_kw (L2.ld_glob I hg h2 ?_ hdb)
  refine PySem.W.callWith_KW0 (h₀ := X.base) I.ok.mod.kin h3 hall (L2.thn (ha.pk.run pos pins s σ H _ I h) fun ws s1 ⟨zs, H1, I1, r, many, q⟩ => ⟨I1.kIn, ?_⟩) hpl
  rw [hks]
  have q' : spS X.K m F (permL π zs) H1 Q (W σ) := by
    obtain ⟨vs, rest, e1, e2, e3, q⟩ := q
    refine ⟨vs, rest, e1, e2, e3, fun b hb => ?_⟩
    have z : spF X.K (m + 1) F ((vs ++ [V.ref b]) ++ []) (upd H1 b (HO.tup rest)) Q (W σ) := q b hb
    rwa [List.append_nil] at z
  refine wpAny_call (codeAny_mono (go X.A X.stack s1 H1 ws zs Q (W σ) (hr.mono hj) I1.env0 r many q') fun r s' hq => ?_)
  rcases r with e | fl
  · exact tk σ pins H1 s1 e s' I1 hq
  · cases fl with
    | ret u => exact I1.after hq
    | next => exact hq.elim
    | brk => exact hq.elim
    | cont => exact hq.elim
end
end O

/-! Own53: sets of ints, frozen; a reversed copy -/
namespace O
open PySem
open L2 (V Hp HO Rd SqL SqT upd upd_same upd_ne ne_of ne_of_none TE TT TA TS TG TI It VK XK Ends St PE PI Cx CallR OpR R2 tOp tCons tNil)
theorem firstMet_in (ns : List Int) (j : Int) : ((PyProof.Rows.firstMet (fun i => ns.getD i 0) ns.length).any (· == j)) = decide (j ∈ ns) := by
  have e : (List.range ns.length).map (fun i => ns.getD i 0) = ns := by
    refine List.ext_getElem (by simp) fun i h1 h2 => ?_
    simp [List.getD_eq_getElem?_getD, List.getElem?_eq_getElem h2]
  unfold PyProof.Rows.firstMet
  rw [e]
  obtain ⟨a, b⟩ := dedup_ok ns [] (by simp)
  rw [Bool.eq_iff_iff, List.any_eq_true, decide_eq_true_iff]
  constructor
  · rintro ⟨z, hz, q⟩
    have hz := (b z).mp hz
    have q : z = j := by simpa using q
    subst q
    simpa using hz
  · intro hj
    exact ⟨j, (b j).mpr (by simpa using hj), by simp⟩
def rSetNew (K : PySem.W.Frag) : List V → Hp → VK → Prop := fun xs H Q => ∃ (l : Addr) (ns : List Int), xs = [V.ref l] ∧ (SqT K H l (ns.map V.int) ∨ SqL K H l (ns.map V.int)) ∧ ns.length < 4000 ∧ ∀ p S n, H p = none → (∀ j, S j = decide (j ∈ ns)) → Q (.ref p) (upd H p (.set S n))
theorem cr_setNew {X : Cx} (hc : X.calm = true) : CallR X (.type "set") (rSetNew X.K) := by
  intro pins s σ H xs us Q I r h
  obtain ⟨l, ns, rfl, hq, many, q⟩ := h
  rw [L2.Vals.ref1 r]
  have free := I.hok.fresh (Nat.le_refl _)
  rcases hq with hq | hq
  · obtain ⟨its, rv, pt, hz⟩ := I.tuple hq
    have hi : PyProof.Rows.IntsAre its.toArray.toList ns := by simpa using L2.ints_of_vals rv
    exact L2.call_set_tupI ns (I.ok.hd hc) (show s.heap.IsTuple l its.toArray from pt) hi (by unfold scanBound; omega) fun h' tk c R1 _ k =>
      ⟨.ref s.heap.objs.size, _, I.laid (t' := tk) k (Nat.le_refl _) (o := .set (fun j => decide (j ∈ ns)) c) (L2.SetR.setOf R1), rfl, q _ _ _ free fun j => rfl⟩
  · obtain ⟨its, rv, pl, hz⟩ := I.list hq
    have hl : its.toArray.size = ns.length := by rw [List.size_toArray, ← rv.length, List.length_map]
    have hi : PyProof.Rows.IntsAre its.toArray.toList ns := by simpa using L2.ints_of_vals rv
    refine PySem.call_set_list (I.ok.hd hc) pl.isList hi (by rw [hl]; unfold scanBound; omega) fun h' tk hS hk => ?_
    rw [hl] at hS
    exact ⟨.ref s.heap.objs.size, _, I.laid (t' := tk) (fun b o e => hk b o (Heap.lt_size e) e) (Nat.le_refl _) (o := .set _ _) hS, rfl, q _ _ _ free (firstMet_in ns)⟩
def gSetOf : List D → Option RV
  | [.lst ds] => (intsD ds).bind fun ns => if ns.length < 4000 then some (.val (.set ns)) else none
  | [.tup ds] => (intsD ds).bind fun ns => if ns.length < 4000 then some (.val (.set ns)) else none
  | _ => none
section
variable {K : PySem.W.Frag} {Hd H : Hp}
theorem newR_set {p : Addr} {S : Int → Bool} {n : Nat} {ns : List Int} (l : Le Hd H) (h : H p = none) (hS : ∀ j, S j = decide (j ∈ ns)) : NewR K Hd H (.val (.set ns)) (.ref p) (upd H p (.set S n)) :=
  ⟨upd Hd p (.set S n), ext_frozen l h, .set (.of upd_same) hS⟩
end
theorem cb_setOf {X : Cx} (hc : X.calm = true) : CallR X (.type "set") (rGC X.K gSetOf) := cb_imp (cr_setNew hc) fun xs H Q ⟨Hd, ds, z, l, t, eg, q⟩ => by
  match ds, t, eg with
  | [.lst es], t, eg =>
    simp only [gSetOf] at eg
    cases e1 : intsD es with
    | none => rw [e1] at eg; cases eg
    | some ns =>
      rw [e1] at eg
      simp only [Option.bind_some] at eg
      by_cases hn : ns.length < 4000
      · rw [if_pos hn] at eg
        cases eg
        obtain ⟨x, rfl, w⟩ := tops1 t
        obtain ⟨a, ys, rfl, h1, r1⟩ := w.lstD l
        have ey := intsD_ok r1 e1
        subst ey
        exact ⟨a, ns, rfl, .inr (.inl h1), hn, fun p S n hp hS => q _ _ (newR_set l hp hS)⟩
      · rw [if_neg hn] at eg; cases eg
  | [.tup es], t, eg =>
    simp only [gSetOf] at eg
    cases e1 : intsD es with
    | none => rw [e1] at eg; cases eg
    | some ns =>
      rw [e1] at eg
      simp only [Option.bind_some] at eg
      by_cases hn : ns.length < 4000
      · rw [if_pos hn] at eg
        cases eg
        obtain ⟨x, rfl, w⟩ := tops1 t
        obtain ⟨a, ys, rfl, h1, r1⟩ := w.tupD l
        have ey := intsD_ok r1 e1
        subst ey
        exact ⟨a, ns, rfl, .inl h1, hn, fun p S n hp hS => q _ _ (newR_set l hp hS)⟩
      · rw [if_neg hn] at eg; cases eg
/-- k in a set, k an int -/
def rInS : R2 := fun x y H Q => ∃ k a S n, x = V.int k ∧ y = V.ref a ∧ Rd H a (.set S n) ∧ Q (.bl (S k)) H
def rNotInS : R2 := fun x y H Q => ∃ k a S n, x = V.int k ∧ y = V.ref a ∧ Rd H a (.set S n) ∧ Q (.bl (!S k)) H
theorem theSet {X : Cx} {pins : List (Addr × Obj)} {σ : St} {H : Hp} {s : Shared} {a : Addr} {S : Int → Bool} {n : Nat} (I : L2.Inv X pins σ H s) (h : Rd H a (.set S n)) : s.heap.SetOf (intKind X.prog X.w) a S n := h.ok I.hok
theorem op_inS {X : Cx} : OpR X (compareOp .In) rInS := by
  intro pins s σ H x y v u Q I rx ry h
  obtain ⟨k, a, S, n, rfl, rfl, ha, q⟩ := h
  obtain ⟨tk, rfl⟩ := rx
  cases ry
  exact wpAny_inSet_of (intKind_is _ _ _ _) rfl (theSet I ha) ⟨.bl (S k), H, I.tok _, rfl, q⟩
theorem op_notInS {X : Cx} : OpR X (compareOp .NotIn) rNotInS := by
  intro pins s σ H x y v u Q I rx ry h
  obtain ⟨k, a, S, n, rfl, rfl, ha, q⟩ := h
  obtain ⟨tk, rfl⟩ := rx
  cases ry
  exact wpAny_notInSet_of (intKind_is _ _ _ _) rfl (theSet I ha) ⟨.bl (!S k), H, I.tok _, rfl, q⟩
def gInS : D → D → Option RV
  | .int k, .set xs => some (.val (.bl (decide (k ∈ xs))))
  | _, _ => none
def gNotInS : D → D → Option RV
  | .int k, .set xs => some (.val (.bl (!decide (k ∈ xs))))
  | _, _ => none
theorem Top.setD {K : PySem.W.Frag} {Hd H : Hp} {xs : List Int} {v : V} (l : Le Hd H) (t : Top K Hd H (.set xs) v) : ∃ a S n, v = .ref a ∧ Rd H a (.set S n) ∧ ∀ j, S j = decide (j ∈ xs) := by
  cases t with
  | rep r => cases r with | set h e => exact ⟨_, _, _, rfl, l _ _ h, e⟩
theorem op_gInS {X : Cx} : OpR X (compareOp .In) (rG X.K gInS) := op_imp op_inS fun x y H Q ⟨Hd, d1, d2, z, l, t1, t2, eg, q⟩ => by
  match d1, d2, eg with
  | .int k, .set xs, eg =>
    cases eg
    obtain ⟨a, S, n, rfl, h, e⟩ := t2.setD l
    exact ⟨k, a, S, n, t1.intD, rfl, h, by rw [e]; exact q _ _ (newR_here l (.bl _))⟩
theorem op_gNotInS {X : Cx} : OpR X (compareOp .NotIn) (rG X.K gNotInS) := op_imp op_notInS fun x y H Q ⟨Hd, d1, d2, z, l, t1, t2, eg, q⟩ => by
  match d1, d2, eg with
  | .int k, .set xs, eg =>
    cases eg
    obtain ⟨a, S, n, rfl, h, e⟩ := t2.setD l
    exact ⟨k, a, S, n, t1.intD, rfl, h, by rw [e]; exact q _ _ (newR_here l (.bl _))⟩
/-! ### l[::-1] -/
def gRevL : D → Option RV
  | .lst ds => some (.own (.lst ds.reverse))
  | _ => none
def rRevL (K : PySem.W.Frag) : V → Hp → VK → Prop := fun x H Q => ∃ a xs, x = .ref a ∧ SqL K H a xs ∧ ∀ p, H p = none → Q (.ref p) (upd H p (.lst xs.reverse))
section
variable {K : PySem.W.Frag} {W : St → XK}
theorem sd_op1' {r : V → Hp → VK → Prop} {g : D → Option RV} (hr : ∀ x H Q, rG1 K g x H Q → r x H Q) {ta : TE} {fa : O.Env → Res RV} (ha : Sd K W (rV K) ta fa) : Sd K W (rV K) (L2.tUn r ta) (f1 fa g) := fun C fp Hd H σ ρ I Q p =>
  ha.run I p fun r1 v1 fp0 Hd0 H0 ρ0 s0 I0 h1 p => by
    refine hr _ _ _ ?_
    have h1 := rV_loose h1
    cases e1 : rd r1 ρ0 with
    | none => simp only [e1] at p; exact p.elim
    | some d1 =>
      simp only [e1] at p
      cases eg : g d1 with
      | none => simp only [eg] at p; exact p.elim
      | some z =>
        simp only [eg] at p
        exact ⟨Hd0, d1, z, I0.le, I0.rdTop h1 e1, eg, fun v H' n => p.new I0 n⟩
theorem sd_revL {te : TE} {fe : O.Env → Res RV} (he : Sd K W (rV K) te fe) : Sd K W (rV K) (L2.tRevL K te) (f1 fe gRevL) := sd_op1' (r := rRevL K) (fun x H Q h => by
  obtain ⟨Hd1, d, z, l, t, eg, k⟩ := h
  cases d with
  | lst es =>
    cases eg
    obtain ⟨a, ys, rfl, h1, r1⟩ := t.lstD l
    exact ⟨a, ys, rfl, .inl h1, fun p hp => k _ _ (newR_lst l hp r1.reverse)⟩
  | _ => cases eg) he
end
theorem jrevL {X : Cx} {W : St → XK} {e : Expr} {te : TE} {fe : O.Env → Res RV} {k : Nat} {p1 p2 p3 pos : Pos} {K : PySem.W.Frag} (he : JE X W e te fe) (hK : X.K = K := by rfl) : JE X W (.Subscript e (.Slice none none (some (.UnaryOp .USub (.Constant (.int 1) k p1) p2)) p3) pos) (L2.tRevL K te) (f1 fe gRevL) := by
  subst hK
  exact ⟨L2.pe_revL he.pe, sd_revL he.se⟩
end O

/-! Own54: n1, n2, n3, d[k] = a tuple; f(a, .., k = b, ..) -/
namespace O
open PySem
open PyProof.Rows (envOfC AllBare)
open L2 (V Hp HO Rd SqL SqT upd upd_same upd_ne ne_of ne_of_none TE TT TA TS TG TGs TI It VK XK Ends St PE PA PK PS PG PGs Cx OpR tVar tCons tNil Gl Room Vals RelV Env0)
def setD : L2.TSet := fun o y v H Q => ∃ a H4, o = .ref a ∧ L2.DPut H a y v H4 ∧ Q H4
theorem pset_d {X : Cx} (hu : X.A.units + 64 < cLine) : L2.PSet X setD := fun pins s σ H o i v ov iv u Q I ro ri rv ⟨a, H4, eo, g, q⟩ => by
  subst eo
  obtain rfl : ov = Value.ref a := ro
  exact L2.d_setItem (by omega) I g ri rv fun s4 I4 => ⟨H4, I4, q⟩
def putAt (i : Nat) (fi : O.Env → Res RV) (d : D) (ρ1 : O.Env) : SR := match ownAt i ρ1 with
  | some _ => (fi ρ1).thn fun r ρ2 => match (rd r ρ2).bind keyD, ownAt i ρ2 with
    | some k, some (.dic kvs) => if kvs.length < sizeLine then .nx (setOw i (.dic (putD kvs k d)) ρ2) else .no
    | _, _ => .no
  | none => .no
section
variable {K : PySem.W.Frag} {W : St → XK}
theorem putAt_ok {i : Nat} {ti : TE} {fi : O.Env → Res RV} (hi : Sd K W (rV K) ti fi) {C : Cn} {fp : Fp} {Hd H : Hp} {σ : St} {ρ : O.Env} (I : Inv K C fp Hd H σ ρ) {d : D} {v : V} (hd : Rep K Hd d v) {Dn : Ends} (p : PostS K W C fp Hd H (putAt i fi d ρ) Dn) {Q : St → Hp → Prop} (hQ : ∀ σ H, Dn.nx σ H → Q σ H) : L2.gSub (tVar i) ti setD v σ H Q := by
  unfold putAt at p
  cases eo : ownAt i ρ with
  | none => simp only [eo] at p; exact p.elim
  | some o =>
    simp only [eo] at p
    obtain ⟨w, hw, ow0, nd0, hn0⟩ := ownAt_ok I eo
    refine ⟨w, hw, ?_⟩
    refine hi.runS I p fun r x fp2 Hd2 H2 ρ2 s2 I2 hr p2 => ?_
    cases er : rd r ρ2 with
    | none => simp only [er, Option.bind] at p2; exact p2.elim
    | some dk =>
      cases ek : keyD dk with
      | none => simp only [er, Option.bind, ek] at p2; exact p2.elim
      | some k =>
        cases eo2 : ownAt i ρ2 with
        | none => simp only [er, Option.bind, ek, eo2] at p2; exact p2.elim
        | some o2 =>
          cases o2 with
          | fz d => simp only [er, Option.bind, ek, eo2] at p2; exact p2.elim
          | lst d => simp only [er, Option.bind, ek, eo2] at p2; exact p2.elim
          | ins c d => simp only [er, Option.bind, ek, eo2] at p2; exact p2.elim
          | dic kvs =>
            simp only [er, Option.bind, ek, eo2] at p2
            by_cases hz : kvs.length < sizeLine
            · rw [if_pos hz] at p2
              obtain ⟨v2, hv2, ow2, nd2, hn2⟩ := ownAt_ok I2 eo2
              rw [hw] at hv2
              cases hv2
              generalize hA2 : fp2 i = A2 at ow2
              cases ow2 with
              | dic h2 r2 =>
                rename_i a kws
                obtain ⟨s3, I3⟩ := I2.mutate (o' := .dic (putD kvs k d)) (u := .dK (L2.putK kws k v)) eo2 hw (by rw [hA2]; exact List.mem_singleton.mpr rfl) (by rw [hA2]; exact .dic upd_same (r2.put (hd.mono s2.hd)))
                have := key_v (I2.rdTop (rV_loose hr) er) ek
                subst this
                exact ⟨a, _, rfl, L2.DPut.k h2 (by rw [r2.length]; exact hz), hQ _ _ (p2 σ fp2 Hd2 _ s3 I3)⟩
            · rw [if_neg hz] at p2; exact p2.elim
/-- n1, n2, n3, d[k] = a tuple -/
def gAsgP3 (i j l n : Nat) (fk fe : O.Env → Res RV) : O.Env → SR := fun ρ => ((fe ρ).bind fz).thn fun d ρ1 => match d with
  | .tup [a, b, c, e] => match putSlot i (.val a) ρ1 with
    | some ρ2 => match putSlot j (.val b) ρ2 with
      | some ρ3 => match putSlot l (.val c) ρ3 with
        | some ρ4 => putAt n fk e ρ4
        | none => .no
      | none => .no
    | none => .no
  | _ => .no
def tP3 (K : PySem.W.Frag) (i j l n : Nat) (tk : TE) : TG := L2.gTup K 4 (L2.gCons (L2.gName i) (L2.gCons (L2.gName j) (L2.gCons (L2.gName l) (L2.gCons (L2.gSub (tVar n) tk setD) L2.gNil))))
theorem ss_asgP3 {i j l n : Nat} {tk te : TE} {fk fe : O.Env → Res RV} (hk : Sd K W (rV K) tk fk) (he : Sd K W (rV K) te fe) : Ss K W (L2.tAsg te (tP3 K i j l n tk)) (gAsgP3 i j l n fk fe) := fun C fp Hd H σ ρ I Dn p =>
  he.fz.runS I p fun d v fp1 Hd1 H1 ρ1 s1 I1 hd p1 => by
    have hd : Rep K Hd1 d v := hd
    match d, hd, p1 with
    | .tup [a, b, c, e], hd, p1 =>
      cases hd with
      | tup ht r =>
        cases r with
        | cons ra r => cases r with
          | cons rb r => cases r with
            | cons rc r => cases r with
              | cons re r =>
                cases r
                simp only at p1
                cases e1 : putSlot i (.val a) ρ1 with
                | none => simp only [e1] at p1; exact p1.elim
                | some ρ2 =>
                  simp only [e1] at p1
                  obtain ⟨fp2, s2, I2⟩ := put_ok (r := .val a) (.refl fp1 Hd1 H1) I1 ra e1
                  cases e2 : putSlot j (.val b) ρ2 with
                  | none => simp only [e2] at p1; exact p1.elim
                  | some ρ3 =>
                    simp only [e2] at p1
                    obtain ⟨fp3, s3, I3⟩ := put_ok (r := .val b) (.refl fp2 Hd1 H1) I2 rb e2
                    cases e3 : putSlot l (.val c) ρ3 with
                    | none => simp only [e3] at p1; exact p1.elim
                    | some ρ4 =>
                      simp only [e3] at p1
                      obtain ⟨fp4, s4, I4⟩ := put_ok (r := .val c) (.refl fp3 Hd1 H1) I3 rc e3
                      refine ⟨_, _, rfl, I1.le.sqT ht, rfl, _, _, rfl, _, _, rfl, _, _, rfl, _, _, rfl, ?_⟩
                      exact putAt_ok hk I4 re (PostS.stp (s2.trans (s3.trans s4)) p1) fun σ H h => ⟨rfl, h⟩
end
section
variable {X : Cx} {W : St → XK} {e ek : Expr} {pos ppos q1 q2 q3 q4 q5 : Pos} {te tk : TE} {fe fk : O.Env → Res RV} {kk : Nat} {x y z d : Str}
theorem jasgP3 {K : PySem.W.Frag} (i j l n : Nat) (hu : X.A.units + 64 < cLine) (hc : X.calm = true) (hN : X.N.Nodup) (he : JE X W e te fe) (hk : JE X W ek tk fk) (hd : PE X (.Name d q4) (tVar n)) (hi : X.N[i]? = some x := by rfl) (hj : X.N[j]? = some y := by rfl) (hl : X.N[l]? = some z := by rfl)
    (lx : X.env.scope.names.lookup x = some .local := by rfl) (ly : X.env.scope.names.lookup y = some .local := by rfl) (lz : X.env.scope.names.lookup z = some .local := by rfl)
    (a1 : (assignEach [.Name x q1, .Name y q2, .Name z q3, .Subscript (.Name d q4) ek q5] X.env).map (·.2) = assign (.Name x q1) X.env :: (assignEach [.Name y q2, .Name z q3, .Subscript (.Name d q4) ek q5] X.env).map (·.2) := by rfl)
    (a2 : (assignEach [.Name y q2, .Name z q3, .Subscript (.Name d q4) ek q5] X.env).map (·.2) = assign (.Name y q2) X.env :: (assignEach [.Name z q3, .Subscript (.Name d q4) ek q5] X.env).map (·.2) := by rfl)
    (a3 : (assignEach [.Name z q3, .Subscript (.Name d q4) ek q5] X.env).map (·.2) = assign (.Name z q3) X.env :: (assignEach [.Subscript (.Name d q4) ek q5] X.env).map (·.2) := by rfl)
    (a4 : (assignEach [.Subscript (.Name d q4) ek q5] X.env).map (·.2) = assign (.Subscript (.Name d q4) ek q5) X.env :: (assignEach [] X.env).map (·.2) := by rfl)
    (s1 : (assignEach [.Name x q1, .Name y q2, .Name z q3, .Subscript (.Name d q4) ek q5] X.env).length = 4 := by rfl) (s2 : (assignEach [.Name x q1, .Name y q2, .Name z q3, .Subscript (.Name d q4) ek q5] X.env).findIdx? (·.1) = none := by rfl)
    (ha : ∀ v, assign (.Subscript (.Name d q4) ek q5) X.env v = (do
      let ov ← holding [v] (eval (.Name d q4) X.env)
      let iv ← holding [v, ov] (eval ek X.env)
      standAt q5
      holding [v, ov, iv] (setItem ov iv v)
      release [v, ov, iv] []) := by intro _; rfl)
    (b1 : swapsWithSole [.Tuple [.Name x q1, .Name y q2, .Name z q3, .Subscript (.Name d q4) ek q5] kk ppos] e pos.line X.env = pure false := by rfl) (b2 : swappedStores [.Tuple [.Name x q1, .Name y q2, .Name z q3, .Subscript (.Name d q4) ek q5] kk ppos] e X.env = pure none := by rfl)
    (b3 : (assignEach [.Tuple [.Name x q1, .Name y q2, .Name z q3, .Subscript (.Name d q4) ek q5] kk ppos] X.env).map (·.2) = [assign (.Tuple [.Name x q1, .Name y q2, .Name z q3, .Subscript (.Name d q4) ek q5] kk ppos) X.env] := by rfl) (hK : X.K = K := by rfl) :
    JS X W (.Assign [.Tuple [.Name x q1, .Name y q2, .Name z q3, .Subscript (.Name d q4) ek q5] kk ppos] e pos) (L2.tAsg te (tP3 K i j l n tk)) (gAsgP3 i j l n fk fe) := by
  subst hK
  exact ⟨L2.ps_asg he.pe (L2.pg_tup hc (L2.pgs_cons (L2.pg_name hN hi (.inl lx) (.inr lx)) (L2.pgs_cons (L2.pg_name hN hj (.inl ly) (.inr ly)) (L2.pgs_cons (L2.pg_name hN hl (.inl lz) (.inr lz)) (L2.pgs_cons (L2.pg_sub hd hk.pe (pset_d hu) ha) L2.pgs_nil a4) a3) a2) a1) s1 s2) b1 b2 b3, ss_asgP3 hk.se he.se⟩
end
/-! ### values by position, then by keyword -/
section
variable {K : PySem.W.Frag} {W : St → XK}
def tPK (m mk : Nat) (π : List Nat) (t tk : TA) : TA := fun σ H Q => t σ H fun vs H1 => tk σ H1 fun zs H2 => vs.length = m ∧ zs.length = mk ∧ Q (permL π (vs ++ zs)) H2
def fPK (m mk : Nat) (π : List Nat) (f fk : O.Env → Res (List RV)) : O.Env → Res (List RV) := fun ρ => (f ρ).bind fun rs ρ1 => (fk ρ1).bind fun ws ρ2 => if rs.length = m ∧ ws.length = mk then .ok (permL π (rs ++ ws)) ρ2 else .no
theorem sd_pk {m mk : Nat} {π : List Nat} {t tk : TA} {f fk : O.Env → Res (List RV)} (h : Sd K W (rA K) t f) (hk : Sd K W (rA K) tk fk) : Sd K W (rA K) (tPK m mk π t tk) (fPK m mk π f fk) := fun C fp Hd H σ ρ I Q p =>
  h.run I p fun rs vs fp1 Hd1 H1 ρ1 s1 I1 r1 p => hk.run I1 p fun ws zs fp2 Hd2 H2 ρ2 s2 I2 r2 p => by
    have r1 : RVs K Hd1 σ rs vs := r1
    have r2 : RVs K Hd2 σ ws zs := r2
    by_cases hm : rs.length = m ∧ ws.length = mk
    · rw [if_pos hm] at p
      exact ⟨by rw [← r1.length]; exact hm.1, by rw [← r2.length]; exact hm.2, p _ fp2 Hd2 H2 (.refl _ _ _) I2 (RVs.perm (RVs.app (r1.mono s2.hd) r2) π)⟩
    · rw [if_neg hm] at p; exact p.elim
end
section
variable {P : Program} {w : World} {K : PySem.W.Frag} {mg : Str → Option Value} {base : Heap}
structure CalPK (P : Program) (w : World) (K : PySem.W.Frag) (mg : Str → Option Value) (base : Heap) (x : Str) (k n m : Nat) (ks : List Str) (π : List Nat) (F : List Ar → FO) : Prop where
  ex : ∃ fA : Addr, (∀ (A : Around) (outer : List PySem.Env) (s : Shared) (H : Hp) (us ws : List Value) (vs zs : List V) (Q : VK) (E : XK), RoomG k A → Env0 P w K mg base A outer s H → Vals vs us → Vals zs ws → vs.length = m → zs.length = ks.length → spF K n F (permL π (vs ++ zs)) H Q E →
    codeAny (model P w) A (.call (.ref fA) ⟨us, ks.zip ws⟩) (L2.CR (L2.CX P w) outer P w H s Q E) s) ∧ mg x = some (.ref fA) ∧ PySem.W.keepIn K (.ref fA) = true
theorem calPK_of {x : Str} {k n : Nat} {fA : Addr} {fd : FuncData} {ps : List Str} {st : Stmt} {F : List Ar → FO} (m : Nat) (ks : List Str) (π : List Nat) (U : L2.Fun K x x st fA fd) (gm : mg x = some (.ref fA)) (G : FnG P w K mg base k fA fd ps (spF K n F))
    (hb : ∀ (kV doc pm : Value) (an : Option Addr) (cdv ct : Value) (us ws : List Value), us.length = m → ws.length = ks.length → bindArgs (PySem.W.fnOf x x (L2.defArgs st) (L2.defBody st) (L2.defScope st) .none kV doc pm an cdv ct) ⟨us, ks.zip ws⟩ = pure (ps.zip (permL π (us ++ ws)))) : CalPK P w K mg base x k n m ks π F := by
  refine ⟨fA, fun A outer s H us ws vs zs Q E room e0 r1 r2 m1 m2 prom => ?_, gm, U.kp⟩
  obtain ⟨oc, od, kV, doc, pm, an, cdv, ct, osl, rfl, look, code⟩ := U.ex
  exact G.go A outer s H ⟨us, ks.zip ws⟩ (permL π (us ++ ws)) (permL π (vs ++ zs)) Q E room e0 (.of_eq (hb kV doc pm an cdv ct us ws (by rw [← r1.length]; exact m1) (by rw [← r2.length]; exact m2))) (perm_vals (r1.append r2)) prom
end
section
variable {X : Cx} {W : St → XK} {e : Expr} {es : List Expr} {kws : List Keyword} {p pos : Pos} {t tk : TA} {f fk : O.Env → Res (List RV)}
theorem jcalPK {K : PySem.W.Frag} {x : Str} {k j n m : Nat} {ks : List Str} {π : List Nat} {F : List Ar → FO} (ms : List Md) (c : CalPK X.prog X.w X.K X.mg X.base x k n m ks π F) (hr : RoomG j X.A) (tk' : ∀ σ, L2.PassesAt (L2.CX X.prog X.w) X σ (W σ)) (ha : JA X W (e :: es) t f) (hk : JK X W kws tk fk) (hj : k ≤ j := by first | decide | omega) (hl : ms.length = n := by rfl) (hg : Gl X x := by rfl)
    (hdb : (x == ("__debug__" : Str)) = false := by decide) (hall : (backToKw pos (keywordEach kws X.env)).all (·.1.isSome) = true := by rfl) (hks : (backToKw pos (keywordEach kws X.env)).filterMap (·.1) = ks := by rfl)
    (he : starEach (e :: es) X.env = (false, eval e X.env) :: starEach es X.env := by rfl)
    (hpl : ((backTo pos (starEach (e :: es) X.env)).any (·.1) || (backToKw pos (keywordEach kws X.env)).any (·.1.isNone)) = false := by rfl) (hK : X.K = K := by rfl) :
    JE X W (.Call (.Name x p) (e :: es) kws pos) (L2.tCallSD (spF K n F) [] W (tPK m ks.length π t tk)) (fCall ms [] F (fPK m ks.length π f fk)) := by
  subst hK
  obtain ⟨fA, go, h2, h3⟩ := c.ex
  refine ⟨⟨fun pins s σ H Q I h => ?_⟩, sd_call hl (fun _ => .nil) (sd_pk ha.sa hk.sa)⟩
  refine wpAny_Call_Name_kw (L2.ld_glob I hg h2 ?_ hdb)
  refine PySem.W.callWith_KW (h₀ := X.base) I.ok.mod.kin h3 hall (L2.thn (ha.pa.run pos pins s σ H _ I h) fun us s1 ⟨vs, H1, I1, r, q⟩ => ?_) hpl he
  refine L2.thn (hk.pk.run pos pins s1 σ H1 _ I1 q) fun ws s2 ⟨zs, H2, I2, rz, m1, m2, q2⟩ => ⟨I2.kIn, ?_⟩
  rw [hks]
  have q2 : spF X.K n F (permL π (vs ++ zs) ++ []) H2 Q (W σ) := q2
  rw [List.append_nil] at q2
  refine wpAny_call (codeAny_mono (go X.A X.stack s2 H2 us ws vs zs Q (W σ) (hr.mono hj) I2.env0 r rz m1 m2 q2) fun r s' hq => ?_)
  rcases r with e | fl
  · exact tk' σ pins H2 s2 e s' I2 hq
  · cases fl with
    | ret u => exact I2.after hq
    | next => exact hq.elim
    | brk => exact hq.elim
    | cont => exact hq.elim
end
end O

/-! Own55: max of a list of tuples of ints; the place of a tuple in a list; l[1::2] -/
namespace O
open PySem
open L2 (V Hp HO Rd SqL SqT upd upd_same upd_ne ne_of ne_of_none TE TT TA TS TG TI It VK XK Ends St PE PI Cx CallR OpR MtR R2 tOp tCons tNil)
section
variable {prog : Program} {w : World} {A : Around} {E : Value → Shared → Prop} {s : Shared}
/-- max(l), any items that can be compared -/
theorem max_list_G {l : Addr} {vs : Array Value} {bt : Nat → Nat → Bool} {Q : Value → Shared → Prop} (hh : A.handled = none) (hl : s.heap.IsList l vs) (hn : 0 < vs.size)
    (hc : ∀ i j vi vj (s' : Shared) (Q : Value → Shared → Prop) (E : Value → Shared → Prop), j < i → i < vs.size → (∀ c o, s.heap.get? c = some o → s'.heap.get? c = some o) → vs[i]? = some vi → vs[j]? = some vj → Q (.bool (bt i j)) s' → wpAny (model prog w) A.in1 (richCompare .Gt vi vj) Q E s')
    (h : ∀ v h' tk, vs[argBest bt (vs.size - 1)]? = some v → (∀ c o, s.heap.get? c = some o → h'.get? c = some o) → Q v { s with heap := h', toks := tk }) : wpAny (model prog w) A (call (.builtin "max") [.ref l]) Q E s := by
  have nm : (toString "max" ++ toString ".loop" : String) = "max.loop" := by decide
  have ll : l < s.heap.objs.size := by obtain ⟨o, e, _⟩ := hl; exact Heap.lt_size e
  have z1 : (s.heap.push { cls := .type "list_iterator", data := .fields #[.ref l, .int 0 0] }).objs.size = s.heap.objs.size + 1 := Heap.size_push ..
  refine call_function_tree F.kind_max F.plain_max F.entry_max (F.args_max1 _) (wpAny_bind (wpAny_of_eq (a := ([none, none] : List (Option Value))) rfl (wpAny_bind (wpAny_pure (wpAny_bind (wpAny_pyIter_list hl (wpAny_bind (wpAny_newObj_type ?_))))))))
  rw [nm]
  refine wpAny_pure ⟨plainId_quiet F.plain_max_loop _, ?_⟩
  have W := Walks.list (prog := prog) (w := w) (A := A.in1) hh s.heap.objs.size l (Nat.ne_of_lt ll) vs
  have out : ∀ c, s.heap.objs.size ≤ c → s.heap.get? c = none := fun c hc => gone hc
  refine loop_start W (h0 := s.heap) (bt := bt) (fun i j vi vj s' Q' E' hji hi hk h1 h2 q => ?_) ?_ (out _ ?_) (fun c hc => out _ ?_) hn ?_ (fun c o e => ?_) (Heap.get?_push_size _ rfl) fun v h' tk hv hk => ?_
  · exact hc i j vi vj s' Q' E' hji hi hk h1 h2 q
  · rw [z1]
    intro hm
    have e := List.mem_cons.mp hm
    rcases e with e | e
    · exact absurd e (Nat.succ_ne_self _)
    · have := List.mem_singleton.mp e
      rw [← this] at ll
      exact absurd (Nat.lt_of_succ_lt ll) (Nat.lt_irrefl _)
  · rw [z1]; exact Nat.le_succ _
  · simp at hc
    rw [hc]; exact Nat.le_refl _
  · exact ⟨⟨_, Heap.get?_push_of_some _ (Heap.get?_push_size _ rfl), rfl, rfl⟩, (hl.at fun o e => Heap.get?_push_of_some _ (Heap.get?_push_of_some _ e))⟩
  · exact Heap.get?_push_of_some _ (Heap.get?_push_of_some _ e)
  · refine h v h' tk hv fun c o e => hk c o (fun hm => ?_) (fun z => ?_) (Heap.get?_push_of_some _ (Heap.get?_push_of_some _ e))
    · simp at hm
      have := Heap.lt_size e
      rw [hm] at this
      exact absurd this (Nat.lt_irrefl _)
    · have := Heap.lt_size e
      rw [z, z1] at this
      exact absurd (Nat.lt_of_succ_lt this) (Nat.lt_irrefl _)
end
theorem ints_back {K : PySem.W.Frag} {H : Hp} : ∀ {ns : List Int} {vs : List V}, Reps K H (ns.map D.int) vs → vs = ns.map V.int
  | [], _, r => by cases r; rfl
  | n :: ns, _, r => by
    cases r with
    | cons h r => cases h; rw [ints_back r]; rfl
/-- the greatest row; of equal ones the first -/
def bestRow : List Int → List (List Int) → List Int
  | b, [] => b
  | b, r :: rs => bestRow (if HT.lexLt b r = true then r else b) rs
theorem bestRow_snoc : ∀ (rs : List (List Int)) (b r : List Int), bestRow b (rs ++ [r]) = (if HT.lexLt (bestRow b rs) r = true then r else bestRow b rs)
  | [], b, r => rfl
  | x :: rs, b, r => bestRow_snoc rs _ r
theorem arg_row (b : List Int) (rs : List (List Int)) : ∀ k, k ≤ rs.length → (b :: rs)[argBest (fun i j => HT.lexLt ((b :: rs).getD j []) ((b :: rs).getD i [])) k]? = some (bestRow b (rs.take k))
  | 0, _ => by simp [argBest, bestRow]
  | k + 1, hk => by
    have ih := arg_row b rs k (by omega)
    have hr : (b :: rs)[k + 1]? = some (rs[k]'(by omega)) := by simp
    have e : rs.take (k + 1) = rs.take k ++ [rs[k]'(by omega)] := by rw [List.take_add_one, List.getElem?_eq_getElem (by omega)]; rfl
    rw [e, bestRow_snoc]
    have g1 : (b :: rs).getD (argBest (fun i j => HT.lexLt ((b :: rs).getD j []) ((b :: rs).getD i [])) k) [] = bestRow b (rs.take k) := by rw [List.getD_eq_getElem?_getD, ih]; rfl
    have g2 : (b :: rs).getD (k + 1) [] = rs[k]'(by omega) := by rw [List.getD_eq_getElem?_getD, hr]; rfl
    simp only [argBest, g1, g2]
    by_cases c : HT.lexLt (bestRow b (rs.take k)) (rs[k]'(by omega)) = true
    · rw [if_pos c, if_pos c]; exact hr
    · rw [if_neg c, if_neg c]; exact ih
def gMaxL : List D → Option RV
  | [.lst ds] => match rowsD ds with
    | some (r :: rs) => some (.val (rowT (bestRow r rs)))
    | _ => none
  | _ => none
theorem rows_back : ∀ {ds : List D} {rows : List (List Int)}, rowsD ds = some rows → ds = rows.map rowT
  | [], _, e => by cases e; rfl
  | d :: ds, rows, e => by
    cases d with
    | tup xs =>
      simp only [rowsD] at e
      cases e1 : intsD xs with
      | none => rw [e1] at e; cases e
      | some ns =>
        cases ns with
        | nil => rw [e1] at e; cases e
        | cons n ns =>
          cases e2 : rowsD ds with
          | none => rw [e1, e2] at e; cases e
          | some rest =>
            rw [e1, e2] at e
            cases e
            rw [List.map_cons, ← rows_back e2, intsD_back e1]
            rfl
    | _ => simp [rowsD] at e
theorem row_at {X : Cx} {pins : List (Addr × Obj)} {σ : St} {H Hd : Hp} {s : Shared} {its : List Value} {ys : List V} {rows : List (List Int)} {i : Nat} {u : Value} (I : L2.Inv X pins σ H s) (l : Le Hd H) (r1 : Reps X.K Hd (rows.map rowT) ys) (rv : L2.Vals ys its) (hu : its[i]? = some u) :
    ∃ row y, rows[i]? = some row ∧ L2.RelV y u ∧ Rep X.K Hd (rowT row) y ∧ ∃ b jts, u = .ref b ∧ PyProof.Rows.IsTup s.heap b jts ∧ PyProof.Rows.IntsAre jts.toList row := by
  have hi : i < its.length := (List.getElem?_eq_some_iff.mp hu).1
  have hy : i < ys.length := by rw [rv.length]; exact hi
  obtain ⟨u', hu', ru⟩ := rv.get (List.getElem?_eq_getElem hy)
  rw [hu] at hu'
  cases hu'
  obtain ⟨d, hd, rd⟩ := r1.get' (List.getElem?_eq_getElem hy)
  rw [List.getElem?_map] at hd
  cases er : rows[i]? with
  | none => rw [er] at hd; cases hd
  | some row =>
    rw [er] at hd
    cases hd
    generalize ys[i] = y at ru rd
    refine ⟨row, y, rfl, ru, rd, ?_⟩
    unfold rowT at rd
    generalize ez : row.map D.int = ds at rd
    cases rd with
    | tup ht rr =>
      subst ez
      rename_i b vs
      have ev : vs = row.map V.int := ints_back rr
      subst ev
      obtain ⟨jts, v1, p1, _⟩ := I.tuple (l.sqT ht)
      exact ⟨b, jts.toArray, ru, p1, by simpa using L2.Vals.ints v1⟩
theorem cb_maxL {X : Cx} (hc : X.calm = true) (hu : X.A.units + 64 < cLine) : CallR X (.builtin "max") (rGC X.K gMaxL) := by
  intro pins s σ H xs us Q I r ⟨Hd, ds, z, l, t, eg, q⟩
  match ds, t, eg with
  | [.lst es], t, eg =>
    simp only [gMaxL] at eg
    cases e1 : rowsD es with
    | none => rw [e1] at eg; cases eg
    | some rows =>
      cases rows with
      | nil => rw [e1] at eg; cases eg
      | cons row rs =>
        rw [e1] at eg
        cases eg
        obtain ⟨x, rfl, w⟩ := tops1 t
        obtain ⟨a, ys, rfl, h1, r1⟩ := w.lstD l
        have ee := rows_back e1
        subst ee
        rw [L2.Vals.ref1 r]
        obtain ⟨its, rv, pl, hz⟩ := I.list (.inl h1)
        have many : its.length = rs.length + 1 := by
          rw [← rv.length, r1.length, List.length_map]; rfl
        have ns : its.toArray.size = rs.length + 1 := by rw [List.size_toArray, many]
        refine max_list_G (bt := fun i j => HT.lexLt ((row :: rs).getD j []) ((row :: rs).getD i [])) (I.ok.hd hc) pl.isList (by omega) (fun i j vi vj s' Q' E' hji hi hk h1' h2' q' => ?_) fun v h' tk hv hk => ?_
        · obtain ⟨ri, _, gi, _, _, bi, ti, rfl, pi', ii⟩ := row_at I l r1 rv (by simpa using h1')
          obtain ⟨rj, _, gj, _, _, bj, tj, rfl, pj', ij⟩ := row_at I l r1 rv (by simpa using h2')
          have k1 : PyProof.Rows.IsTup s'.heap bi ti.toList.toArray := by obtain ⟨o, e, r⟩ := pi'; exact ⟨o, hk _ _ e, by simpa using r⟩
          have k2 : PyProof.Rows.IsTup s'.heap bj tj.toList.toArray := by obtain ⟨o, e, r⟩ := pj'; exact ⟨o, hk _ _ e, by simpa using r⟩
          have g1 : (row :: rs).getD i [] = ri := by rw [List.getD_eq_getElem?_getD, gi]; rfl
          have g2 : (row :: rs).getD j [] = rj := by rw [List.getD_eq_getElem?_getD, gj]; rfl
          rw [g1, g2] at q'
          exact gt_at k1 k2 ii ij (by show X.A.units + 1 + 62 < cLine; omega) q'
        · have I2 : L2.Inv X pins σ H { s with heap := h', toks := tk } := I.kept (t' := tk) hk
          rw [ns, Nat.add_sub_cancel] at hv
          rw [List.getElem?_toArray] at hv
          obtain ⟨rk, y, gk, ry, rep, _⟩ := row_at I l r1 rv hv
          have := arg_row row rs rs.length (Nat.le_refl _)
          rw [List.take_length, gk] at this
          cases this
          exact ⟨y, H, I2, ry, q _ _ (newR_here l rep)⟩
end O

/-! Own56: the place of a tuple of ints in a list; l[a::2] -/
namespace O
open PySem
open L2 (V Hp HO Rd SqL SqT upd upd_same upd_ne ne_of ne_of_none TE TT TA TS TG TI TO It VK XK Ends St PE PI PO Cx CallR OpR MtR R2 tOp tCons tNil tC tPart tUn Vals)
/-! ### l.index(a tuple) -/
def rowP (r : List Int) : PyData := .tuple (r.map .int)
theorem toPy_row (r : List Int) : toPy (rowT r) = some (rowP r) := by simp [rowT, rowP, toPy, toPys_ints]
theorem toPys_rows : ∀ rows : List (List Int), toPys (rows.map rowT) = some (rows.map rowP)
  | [] => rfl
  | r :: rows => by simp [toPys, toPy_row, toPys_rows rows]
theorem eqv_row (a b : List Int) : PyData.eqv (rowP a) (rowP b) = decide (a = b) := by simp [rowP, PyData.eqv, eqvAll_ints]
theorem lay_rows : ∀ rows : List (List Int), PyData.canLayAll0 (rows.map rowP) = true ∧ PyData.depthAll (rows.map rowP) ≤ 1
  | [] => ⟨rfl, by simp [PyData.depthAll]⟩
  | r :: rows => by
    obtain ⟨a, b⟩ := lay_rows rows
    have c := shaped_tup r
    unfold SeqAt.shaped at c
    rw [Bool.and_eq_true] at c
    refine ⟨by simp only [List.map_cons, PyData.canLayAll0, Bool.and_eq_true]; exact ⟨c.1, a⟩, ?_⟩
    have d : PyData.depth (rowP r) ≤ 1 := by simp [rowP, PyData.depth, depth_ints]
    simp only [List.map_cons, PyData.depthAll]
    exact Nat.max_le.mpr ⟨d, b⟩
theorem shaped_rows (rows : List (List Int)) : SeqAt.shaped (.list (rows.map rowP)) = true := by
  obtain ⟨a, b⟩ := lay_rows rows
  simp only [SeqAt.shaped, PyData.canLay0, PyData.depth, Bool.and_eq_true, decide_eq_true_eq]
  refine ⟨a, decide_eq_true ?_⟩
  omega
def gIndexT : D → List D → Option RV
  | .lst ds, [.tup xs] => match rowsD ds, intsD xs with
    | some rows, some r => if r ∈ rows then some (.val (.int (rows.idxOf r : Nat))) else none
    | _, _ => none
  | _, _ => none
theorem mt_gIndexT {X : Cx} (hu : X.A.units + 65 < cLine) : MtR X "list.index" (rGB X.K gIndexT) := mt_imp (L2.mt_indexD hu) fun x xs H Q ⟨Hd, d, es, z, l, t, ts, eg, q⟩ => by
  match d, es, ts, eg with
  | .lst ds, [.tup ys], ts, eg =>
    simp only [gIndexT] at eg
    cases e1 : rowsD ds with
    | none => rw [e1] at eg; cases eg
    | some rows =>
      cases e2 : intsD ys with
      | none => rw [e1, e2] at eg; cases eg
      | some r =>
        rw [e1, e2] at eg
        simp only at eg
        by_cases hm : r ∈ rows
        · rw [if_pos hm] at eg
          cases eg
          obtain ⟨w, rfl, ty⟩ := tops1 ts
          obtain ⟨a, vs, rfl, _⟩ := t.lstD l
          have ed := rows_back e1
          have ey := intsD_back e2
          subst ed ey
          have p1 := (t.all l).dp (p := .list (rows.map rowP)) (by simp [toPy, toPys_rows])
          have p2 := (ty.all l).dp (p := rowP r) (toPy_row r)
          have hi := List.idxOf_lt_length_of_mem hm
          refine ⟨a, w, rowP r, rows.map rowP, rows.idxOf r, rowP r, rfl, rfl, p1, p2, shaped_rows rows, shaped_tup r, ?_, by rw [eqv_row]; simp, fun m z' hm' hz' => ?_, q _ _ (newR_here l (.int _))⟩
          · rw [List.getElem?_map, List.getElem?_eq_getElem hi]
            simp
          · rw [List.getElem?_map] at hz'
            have hml : m < rows.length := by omega
            rw [List.getElem?_eq_getElem hml] at hz'
            cases hz'
            rw [eqv_row]
            have := List.not_of_lt_findIdx (p := (· == r)) (xs := rows) (i := m) hm'
            simpa using this
        · rw [if_neg hm] at eg; cases eg
/-! ### l[a::2] -/
def pickIx (n : Nat) (lo : Option Int) : List Nat := let b := sliceBounds lo none (some 2) n; sliceRange b.1 b.2.1 b.2.2
def pickG {α : Type} (xs : List α) (lo : Option Int) : List α := (pickIx xs.length lo).filterMap fun i => xs[i]?
theorem pick_vals {vs : List V} {us : List Value} (r : Vals vs us) : ∀ is : List Nat, Vals (is.filterMap fun i => vs[i]?) (is.filterMap fun i => us[i]?) := fun is => perm_vals (π := is) r
theorem pick_reps {K : PySem.W.Frag} {H : Hp} {ds : List D} {vs : List V} (r : Reps K H ds vs) : ∀ is : List Nat, Reps K H (is.filterMap fun i => ds[i]?) (is.filterMap fun i => vs[i]?)
  | [] => .nil
  | i :: is => by
    have ih := pick_reps r is
    rw [List.filterMap_cons, List.filterMap_cons]
    cases e : ds[i]? with
    | none =>
      have : vs[i]? = none := by
        rw [List.getElem?_eq_none_iff] at e ⊢
        rw [r.length]; exact e
      simp only [this]
      exact ih
    | some d =>
      obtain ⟨v, hv, rv⟩ := r.get e
      simp only [hv]
      exact .cons rv ih
def gStep (lo : Option Int) : D → Option RV
  | .lst ds => some (.own (.lst (pickG ds lo)))
  | _ => none
def rStep (K : PySem.W.Frag) (lo : Option Int) : V → Hp → VK → Prop := fun x H Q => ∃ a xs, x = .ref a ∧ SqL K H a xs ∧ ∀ p, H p = none → Q (.ref p) (upd H p (.lst (pickG xs lo)))
theorem pe_step {X : Cx} {e : Expr} {te : TE} {lo : Option Expr} {tl : TO} {l0 : Option Int} {k : Nat} {p1 p3 pos : Pos} (he : PE X e te) (hl : PO X lo tl) (hlo : ∀ σ H (Q : Option Int → Hp → Prop), Q l0 H → tl σ H Q) : PE X (.Subscript e (.Slice lo none (some (.Constant (.int 2) k p1)) p3) pos) (tUn (rStep X.K l0) te) := by
  refine ⟨fun pins s σ H Q I h => ?_⟩
  refine PyProof.Rows.Subscript_ (L2.thn (he.run pins s σ H _ I h) fun v s1 ⟨x, H1, I1, r1, a, xs, ex, hx, q⟩ => ?_)
  subst ex
  obtain rfl : v = Value.ref a := r1
  refine wpAny_Slice (L2.thn (hl.run pins s1 σ H1 (fun o H2 => o = l0 ∧ H2 = H1) I1 (hlo _ _ _ ⟨rfl, rfl⟩)) fun vl s2 ⟨o1, H2, I2, pl, e1, e2⟩ => ?_)
  subst e1 e2
  refine L2.thn (L2.po_none.run pins s2 σ H2 (fun o H3 => o = none ∧ H3 = H2) I2 ⟨rfl, rfl⟩) fun vu s3 ⟨o2, H3, I3, pu, e1, e2⟩ => ?_
  subst e1 e2
  refine L2.thn ((L2.po_some (L2.pe_int (i := 2))).run pins s3 σ H3 (fun o H4 => o = some 2 ∧ H4 = H3) I3 ⟨2, rfl, rfl, rfl⟩) fun vs s4 ⟨o3, H4, I4, ps, e1, e2⟩ => ?_
  subst e1 e2
  have I5 : L2.Inv X pins σ H4 { s4 with heap := s4.heap.push { cls := .type "slice", data := .fields #[vl, vu, vs] } } := I4.kept (t' := s4.toks) fun b ob q => Heap.get?_push_of_some _ q
  obtain ⟨its, r, ht, hz⟩ := I5.list hx
  have many := r.length
  show wpAny (model X.prog X.w) X.A (PyProof.Rows.subscriptTail e (.Slice lo none (some (.Constant (.int 2) k p1)) p3) (.ref a) (.ref s4.heap.objs.size)) (L2.EP X pins σ Q) X.xe _
  refine PyProof.Rows.tail_any (ops := [.ref a, .ref s4.heap.objs.size]) ht.isList.typeIs (PySem.slot_list_getitem.lookup) ?_ (by with_unfolding_all rfl)
  refine wpAny_getItem_list_slice ht.isList (Heap.IsSliceOf.new _ vl vu vs) pl pu ps (by decide) ?_ (by rw [List.size_toArray]; omega)
  have small := slicePick_size_le its.toArray o1 none (some 2)
  have shape : slicePick its.toArray o1 none (some 2) = ((pickIx xs.length o1).filterMap fun i => its[i]?).toArray := by
    unfold slicePick pickIx
    rw [List.size_toArray, many]
    simp
  rw [shape] at small ⊢
  rw [List.size_toArray, List.size_toArray, ← many] at small
  have rr := pick_vals r (pickIx xs.length o1)
  refine ⟨.ref _, _, I5.laid (t' := s4.toks) (o := .lst (pickG xs o1)) (fun b ob q => Heap.get?_push_of_some _ q) (Nat.le_refl _) ⟨?_, _, 0, rr, Heap.get?_push_size _ rfl⟩, rfl, q _ (I5.hok.fresh (Nat.le_refl _))⟩
  have := rr.length
  unfold pickG
  omega
section
variable {X : Cx} {W : St → XK} {e : Expr} {te : TE} {fe : O.Env → Res RV} {k k2 : Nat} {p1 p2 p3 pos : Pos} {K : PySem.W.Frag}
theorem step_r {lo : Option Int} : ∀ x H Q, rG1 K (gStep lo) x H Q → rStep K lo x H Q := fun x H Q ⟨Hd1, d, z, l, t, eg, k⟩ => by
  cases d with
  | lst es =>
    cases eg
    obtain ⟨a, ys, rfl, h1, r1⟩ := t.lstD l
    refine ⟨a, ys, rfl, .inl h1, fun p hp => k _ _ (newR_lst l hp ?_)⟩
    unfold pickG
    rw [r1.length]
    exact pick_reps r1 _
  | _ => cases eg
/-- l[::2] -/
theorem jstep0 (he : JE X W e te fe) (hK : X.K = K := by rfl) : JE X W (.Subscript e (.Slice none none (some (.Constant (.int 2) k p1)) p3) pos) (tUn (rStep K none) te) (f1 fe (gStep none)) := by
  subst hK
  exact ⟨pe_step he.pe L2.po_none fun _ _ _ h => h, sd_op1' step_r he.se⟩
/-- l[1::2] -/
theorem jstep1 (he : JE X W e te fe) (hK : X.K = K := by rfl) : JE X W (.Subscript e (.Slice (some (.Constant (.int 1) k2 p2)) none (some (.Constant (.int 2) k p1)) p3) pos) (tUn (rStep K (some 1)) te) (f1 fe (gStep (some 1))) := by
  subst hK
  exact ⟨pe_step he.pe (L2.po_some (L2.pe_int (i := 1))) fun _ _ _ h => ⟨1, rfl, h⟩, sd_op1' step_r he.se⟩
end
end O

/-! Own57: list.index of a tuple of ints, the joined rule -/
namespace O
open PySem
open L2 (V Hp HO Rd TE TT TA St PE PA Cx)
theorem lt65 {k : Nat} {A : Around} (r : L2.Room k A) : A.units + 65 < cLine := by have := r.un; omega
section
variable {X : Cx} {W : St → L2.XK} {a o : Expr} {pos : Pos} {te : TE} {fe : O.Env → Res RV} {t : TA} {f : O.Env → Res (List RV)}
theorem jindexT {K : PySem.W.Frag} {apos : Pos} (hu : X.A.units + 65 < cLine) (ho : JE X W o te fe) (ha : JA X W [a] t f) (hbase : attributeBase o "index" X.env (eval o X.env) = eval o X.env := by rfl)
    (hfew : ((backTo pos (starEach [a] X.env)).all (fun z => !z.1) && (backToKw pos (keywordEach [] X.env)).all (fun z => z.1.isSome) && decide ([a].length + ([] : List Keyword).length + (if ([] : List Keyword).isEmpty then 0 else 1) < 30)) = true := by rfl)
    (hline : (apos.endLine == pos.line) = true := by rfl) (hs : starEach [a] X.env = (false, eval a X.env) :: starEach [] X.env := by rfl) (hplain : (backTo pos (starEach [] X.env)).any (·.1) = false := by rfl) (hK : X.K = K := by rfl) :
    JE X W (.Call (.Attribute o "index" apos) [a] [] pos) (L2.tBM K "list" (rGB K gIndexT) te t) (fBM fe f gIndexT) := by
  subst hK
  exact ⟨L2.pe_bm PySem.F.plainAttrs_list PySem.F.slot_list_index PySem.F.type_list_index (mt_gIndexT hu) ho.pe ha.pa hbase hfew hline hs hplain, sd_bm ho.se ha.sa⟩
end
end O

/-! Own58: // by large numbers; what the tape's texts share -/
namespace O
open PySem
open L2 (V Hp HO Rd Cx OpR)
def bigJ : Int := 100000000000000000000000000000000000000000000000000000000000000
theorem bigJ_lt {j : Int} (h0 : 0 < j) (h : j < bigJ) : j.natAbs.log2 < 9000 := by
  have h' : j < 100000000000000000000000000000000000000000000000000000000000000 := h
  have hn : j.natAbs < 2 ^ 256 := by
    have e : (2 : Nat) ^ 256 = 115792089237316195423570985008687907853269984665640564039457584007913129639936 := by decide
    rw [e]; omega
  have := (Nat.log2_lt (by omega : j.natAbs ≠ 0)).mpr hn
  omega
def gFdivX : D → D → Option RV := gII (fun _ j => decide (0 < j ∧ j < bigJ)) fun i j => .int (i / j)
theorem op_fdivX {X : Cx} : OpR X (binaryOp .FloorDiv) (L2.rI (fun _ j => 0 < j ∧ j < bigJ) fun i j => .int (i / j)) := L2.opI fun i j _ _ _ _ _ hc q => by
  have h1 : (0 : Int) < j := hc.1
  exact PyProof.Rows.floordiv_int (by omega) (by rw [Int.fdiv_eq_ediv_of_nonneg i (by omega)]; exact q) (.inl (PyProof.noPylong_of_log2 (bigJ_lt h1 hc.2)))
theorem op_gFdivX {X : Cx} : OpR X (binaryOp .FloorDiv) (rG X.K gFdivX) := op_gII op_fdivX (fun _ _ h => of_decide_eq_true h) fun _ _ _ _ => .int _
theorem gFdivX_ii {i j : Int} (h : 0 < j) (h2 : j < bigJ) : gFdivX (.int i) (.int j) = some (.val (.int (i / j))) := by simp [gFdivX, gII, h, h2]
theorem lt_big {j : Int} (h : j < 100000000000000000000000000000000000000000000000000000000000000) : j < bigJ := h
def ten59v : Int := 100000000000000000000000000000000000000000000000000000000000
theorem ten59v_pos : 0 < ten59v := by decide
theorem ten59v_lt : ten59v < bigJ := by decide
theorem ten59 : gPow (.int 10) (.int 59) = some (.val (.int ten59v)) := by
  have b : Builtin.Int.intBits 10 ≤ 4 := PyProof.Rows.intBits_le (by decide)
  have := gPow_ii (i := 10) 59 (by omega)
  exact this
theorem bits_tape {z m : Int} {n : Nat} (hz : Builtin.Int.intBits z ≤ n) (hn : 64 ≤ n) (h0 : 0 ≤ m) (h1 : m < 4294967296) : Builtin.Int.intBits (m * 30011 + z * z + 7) ≤ n + n + 1 := by
  apply PyProof.Rows.intBits_le
  have a : z.natAbs < 2 ^ n := Nat.lt_of_lt_of_le (PyProof.Rows.natAbs_lt_pow_bits z) (Nat.pow_le_pow_right (by omega) hz)
  have b : z.natAbs * z.natAbs < 2 ^ n * 2 ^ n := Nat.mul_lt_mul'' a a
  rw [← Nat.pow_add] at b
  have c : (2 : Nat) ^ 64 ≤ 2 ^ (n + n) := Nat.pow_le_pow_right (by omega) (by omega)
  have c' : (2 : Nat) ^ 64 = 18446744073709551616 := by decide
  have e : (z * z).natAbs = z.natAbs * z.natAbs := Int.natAbs_mul z z
  have f : (2 : Nat) ^ (n + n + 1) = 2 ^ (n + n) * 2 := Nat.pow_succ ..
  rw [f]
  generalize (2 : Nat) ^ (n + n) = P at *
  generalize z * z = w at *
  omega
end O

/-! Own59: the words of Own37 .. Own57 as simp lemmas -/
namespace O
open PySem
section
variable {α β : Type} {ρ : O.Env} {i j n k : Nat} {d : D} {fa fb fc fe fi fk fv : O.Env → Res RV} {as ar : O.Env → Res (List RV)} {C : Addr} {fl m : Str} {fs : List (Str × OD)} {o : OD}
/-! ### fields -/
def insO (C : Addr) : Option OD → Option (List (Str × OD))
  | some (.ins C' fs) => if C' = C then some fs else none
  | _ => none
@[simp] theorem insO_ins : insO C (some (.ins C fs)) = some fs := if_pos rfl
theorem u_insAt : insAt C i ρ = insO C (ownAt i ρ) := by unfold insAt insO; rfl
/-- a field's answer -/
def aFd (ρ : O.Env) : Option OD → Res RV
  | some (.fz d) => .ok (.val d) ρ
  | _ => .no
@[simp] theorem aFd_fz : aFd ρ (some (.fz d)) = .ok (.val d) ρ := id rfl
def aFld (f : Str) (ρ : O.Env) : Option (List (Str × OD)) → Res RV
  | some fs => aFd ρ (fs.lookup f)
  | none => .no
@[simp] theorem aFld_some : aFld fl ρ (some fs) = aFd ρ (fs.lookup fl) := id rfl
@[simp] theorem u_fFld : fFld C i fl ρ = aFld fl ρ (insO C (ownAt i ρ)) := by
  unfold fFld
  rw [u_insAt]
  cases insO C (ownAt i ρ) with
  | none => rfl
  | some fs =>
    show _ = aFd ρ (fs.lookup fl)
    simp only [Option.bind_some]
    cases fs.lookup fl with
    | none => rfl
    | some o => cases o <;> rfl
def rdO : Option OD → Option D
  | some o => o.top
  | none => none
@[simp] theorem rdO_fz : rdO (some (.fz d)) = some d := id rfl
@[simp] theorem rdO_lst {ds : List D} : rdO (some (.lst ds)) = some (.lst ds) := id rfl
@[simp] theorem rdO_dic {ds : List (L2.Key × D)} : rdO (some (.dic ds)) = some (.dic ds) := id rfl
def rdFs (f : Str) : Option (List (Str × OD)) → Option D
  | some fs => rdO (fs.lookup f)
  | none => none
@[simp] theorem rdFs_some : rdFs fl (some fs) = rdO (fs.lookup fl) := id rfl
theorem u_rdF : rdF C i fl ρ = rdFs fl (insO C (ownAt i ρ)) := by
  unfold rdF
  rw [u_insAt]
  cases insO C (ownAt i ρ) with
  | none => rfl
  | some fs =>
    show (fs.lookup fl).bind OD.top = rdO (fs.lookup fl)
    cases fs.lookup fl <;> rfl
def aFB (g : List D → Option RV) (ρ : O.Env) : Option D → Res RV
  | some d => az ρ (g [d])
  | none => .no
@[simp] theorem aFB_some {g : List D → Option RV} : aFB g ρ (some d) = az ρ (g [d]) := id rfl
@[simp] theorem u_fFldB {g : List D → Option RV} : fFldB C i fl g ρ = aFB g ρ (rdFs fl (insO C (ownAt i ρ))) := by
  unfold fFldB
  rw [u_rdF]
  cases rdFs fl (insO C (ownAt i ρ)) with
  | none => rfl
  | some d =>
    show _ = az ρ (g [d])
    simp only []
    cases g [d] <;> rfl
def kFI (d : Option D) (r : RV) (ρ : O.Env) : Res RV := a2 gIx ρ d (rd r ρ)
@[simp] theorem u_kFI {d : Option D} {r : RV} : kFI d r ρ = a2 gIx ρ d (rd r ρ) := id rfl
@[simp] theorem u_fFldIx : fFldIx C i fl j ρ = (kVar j ρ ρ[j]?).bind (kFI (rdFs fl (insO C (ownAt i ρ)))) := by
  unfold fFldIx
  rw [u_rdF]
  have go : ∀ s, ρ[j]? = some s → s ≠ .un → (match Res.ok (RV.bor j) ρ with | .ok r ρ1 => (match rdFs fl (insO C (ownAt i ρ)), rd r ρ1 with | some d, some e => (match gIx d e with | some z => Res.ok z ρ1 | none => .no) | _, _ => .no) | _ => .no) = (Res.ok (RV.bor j) ρ).bind (kFI (rdFs fl (insO C (ownAt i ρ)))) := fun s hs hn => by
    show _ = a2 gIx ρ _ _
    simp only []
    cases rdFs fl (insO C (ownAt i ρ)) with
    | none => rfl
    | some d => cases rd (.bor j) ρ with
      | none => rfl
      | some e =>
        show _ = az ρ (gIx d e)
        simp only []
        cases gIx d e <;> rfl
  unfold fVar
  cases hs : ρ[j]? with
  | none => rfl
  | some s => cases s with
    | un => rfl
    | sh d => exact go _ hs (by simp)
    | br d => exact go _ hs (by simp)
    | ow d => exact go _ hs (by simp)
    | io d => exact go _ hs (by simp)
def aSFl (i : Nat) (C : Addr) (fs : List (Str × OD)) (f : Str) (ds : List D) (d : D) (ρ : O.Env) : Option Nat → SR
  | some n => .nx (setOw i (.ins C (putO f (.lst (ds.set n d)) fs)) ρ)
  | none => .no
@[simp] theorem aSFl_some {ds : List D} : aSFl i C fs fl ds d ρ (some n) = .nx (setOw i (.ins C (putO fl (.lst (ds.set n d)) fs)) ρ) := id rfl
def bSFl (i : Nat) (C : Addr) (fs : List (Str × OD)) (f : Str) (k : Int) (d : D) (ρ : O.Env) : Option OD → SR
  | some (.lst ds) => aSFl i C fs f ds d ρ (L2.ixN ds.length k)
  | _ => .no
@[simp] theorem bSFl_some {k : Int} {ds : List D} : bSFl i C fs fl k d ρ (some (.lst ds)) = aSFl i C fs fl ds d ρ (L2.ixN ds.length k) := id rfl
def aSF (i : Nat) (C : Addr) (f : Str) (d : D) (ρ : O.Env) : Option (List (Str × OD)) → Option D → SR
  | some fs, some (.int k) => bSFl i C fs f k d ρ (fs.lookup f)
  | _, _ => .no
@[simp] theorem aSF_some {k : Int} : aSF i C fl d ρ (some fs) (some (.int k)) = bSFl i C fs fl k d ρ (fs.lookup fl) := id rfl
def kSF (i : Nat) (C : Addr) (f : Str) (j : Nat) (d : D) (ρ : O.Env) : SR := aSF i C f d ρ (insO C (ownAt i ρ)) (rd (.bor j) ρ)
@[simp] theorem u_kSF : kSF i C fl j d ρ = aSF i C fl d ρ (insO C (ownAt i ρ)) (rd (.bor j) ρ) := id rfl
@[simp] theorem u_gSetFI : gSetFI C i fl j fe ρ = ((fe ρ).bind fz).thn (kSF i C fl j) := by
  unfold gSetFI
  congr 1
def kO (d : D) (ρ : O.Env) : Res OD := .ok (.fz d) ρ
@[simp] theorem u_kO : kO d ρ = .ok (.fz d) ρ := id rfl
@[simp] theorem fOD_val : fOD (.val d) ρ = .ok (.fz d) ρ := id rfl
@[simp] theorem fOD_lst {ds : List D} : fOD (.own (.lst ds)) ρ = .ok (.lst ds) ρ := id rfl
@[simp] theorem fOD_dic {ds : List (L2.Key × D)} : fOD (.own (.dic ds)) ρ = .ok (.dic ds) ρ := id rfl
@[simp] theorem fOD_bor : fOD (.bor i) ρ = (fz (.bor i) ρ).bind kO := id rfl
def aSO (i : Nat) (C : Addr) (f : Str) (o : OD) (ρ : O.Env) : Option (List (Str × OD)) → SR
  | some fs => if fs.length < 1000 then .nx (setOw i (.ins C (putO f o fs)) ρ) else .no
  | none => .no
@[simp] theorem aSO_some : aSO i C fl o ρ (some fs) = if fs.length < 1000 then .nx (setOw i (.ins C (putO fl o fs)) ρ) else .no := id rfl
def kSO (i : Nat) (C : Addr) (f : Str) (o : OD) (ρ : O.Env) : SR := aSO i C f o ρ (insO C (ownAt i ρ))
@[simp] theorem u_kSO : kSO i C fl o ρ = aSO i C fl o ρ (insO C (ownAt i ρ)) := id rfl
@[simp] theorem u_gSetF : gSetF C i fl fe ρ = ((fe ρ).bind fOD).thn (kSO i C fl) := by
  unfold gSetF
  congr 1
/-! ### methods, making -/
def nX : FO → FO
  | .exc _ _ => .no
  | r => r
@[simp] theorem nX_ret {r : RV} {os : List (Option OD)} : nX (.ret r os) = .ret r os := id rfl
@[simp] theorem u_noX {F : List Ar → FO} {as : List Ar} : noX F as = nX (F as) := by unfold noX nX; cases F as <;> rfl
def aMt (m : Str) (i : Nat) (ms : List Md) (F : List Ar → FO) (f : O.Env → Res (List RV)) (ρ : O.Env) : Option (List (Str × OD)) → Res RV
  | some fs => if (fs.lookup m).isNone = true then ((aCons (fVar i) f) ρ).bind (callR ms (noX F)) else .no
  | none => .no
@[simp] theorem aMt_some {ms : List Md} {F : List Ar → FO} : aMt m i ms F as ρ (some fs) = if (fs.lookup m).isNone = true then ((aCons (fVar i) as) ρ).bind (callR ms (noX F)) else .no := id rfl
@[simp] theorem u_fMeth {ms : List Md} {F : List Ar → FO} : fMeth C m i ms F as ρ = aMt m i ms F as ρ (insO C (ownAt i ρ)) := by
  unfold fMeth
  rw [u_insAt]
  cases insO C (ownAt i ρ) <;> rfl
def aMk2 (C : Addr) (ρ : O.Env) : FO → Res RV
  | .ret (.val .non) (some (.ins C' fs) :: os) => if C' = C then .ok (.own (.ins C fs)) ρ else .no
  | _ => .no
@[simp] theorem aMk2_ok {os : List (Option OD)} : aMk2 C ρ (.ret (.val .non) (some (.ins C fs) :: os)) = .ok (.own (.ins C fs)) ρ := if_pos rfl
def aMk (C : Addr) (F : List Ar → FO) (ρ : O.Env) : Option (List Ar) → Res RV
  | some as => aMk2 C ρ (F (.io (.ins C []) :: as))
  | none => .no
@[simp] theorem aMk_some {F : List Ar → FO} {rs : List Ar} : aMk C F ρ (some rs) = aMk2 C ρ (F (.io (.ins C []) :: rs)) := id rfl
def kMk (C : Addr) (ms : List Md) (F : List Ar → FO) (rs : List RV) (ρ : O.Env) : Res RV := if ioIx ms rs = [] then aMk C F ρ (mkArs [] ms rs ρ) else .no
@[simp] theorem u_kMk {ms : List Md} {F : List Ar → FO} {rs : List RV} : kMk C ms F rs ρ = if ioIx ms rs = [] then aMk C F ρ (mkArs [] ms rs ρ) else .no := id rfl
@[simp] theorem u_fMake {ms : List Md} {F : List Ar → FO} : fMake C ms F as ρ = (as ρ).bind (kMk C ms F) := by
  unfold fMake
  congr 1
@[simp] theorem put_ins : putSlot i (.own (.ins C fs)) ρ = fre (ρ.set i (.ow (.ins C fs))) ρ[i]? := put_fre rfl
@[simp] theorem put_setv {ds : List Int} : putSlot i (.val (.set ds)) ρ = fre (ρ.set i (.sh (.set ds))) ρ[i]? := put_fre rfl
def r1n (os : Option (List (Option OD))) : FO := match os with
  | some os => .ret (.val .non) os
  | none => .no
@[simp] theorem r1n_some {os : List (Option OD)} : r1n (some os) = .ret (.val .non) os := id rfl
@[simp] theorem run1_nx {as : List Ar} : run1 as (.nx ρ) = r1n (outsOf as ρ) := by unfold run1 r1n; rfl
/-! ### x op= e -/
def aAu2 (i : Nat) (g : Int → Int → Int) (a : Int) (ρ : O.Env) : Option D → SR
  | some (.int b) => aN (putSlot i (.val (.int (g a b))) ρ)
  | _ => .no
@[simp] theorem aAu2_some {g : Int → Int → Int} {a b : Int} : aAu2 i g a ρ (some (.int b)) = aN (putSlot i (.val (.int (g a b))) ρ) := id rfl
def kAu (i : Nat) (g : Int → Int → Int) (a : Int) (r : RV) (ρ : O.Env) : SR := aAu2 i g a ρ (rd r ρ)
@[simp] theorem u_kAu {g : Int → Int → Int} {a : Int} {r : RV} : kAu i g a r ρ = aAu2 i g a ρ (rd r ρ) := id rfl
def aAu (i : Nat) (g : Int → Int → Int) (fe : O.Env → Res RV) (ρ : O.Env) : Option D → SR
  | some (.int a) => (fe ρ).thn (kAu i g a)
  | _ => .no
@[simp] theorem aAu_some {g : Int → Int → Int} {a : Int} : aAu i g fe ρ (some (.int a)) = (fe ρ).thn (kAu i g a) := id rfl
@[simp] theorem u_gAug {g : Int → Int → Int} : gAug i g fe ρ = aAu i g fe ρ (rd (.bor i) ρ) := by
  unfold gAug
  cases rd (.bor i) ρ with
  | none => rfl
  | some d => cases d with
    | int a =>
      show _ = (fe ρ).thn (kAu i g a)
      simp only []
      congr 1
    | _ => rfl
@[simp] theorem gBitAnd_ii {a b : Int} : gBitAnd (.int a) (.int b) = some (.val (.int (Builtin.bitAnd a b))) := id rfl
/-! ### d.get(k, c) -/
def aGc (c : Int) (r1 : RV) (ρ : O.Env) : Option D → Option D → Res RV
  | some d1, some d2 => az ρ (gGetC c d1 d2)
  | _, _ => .no
@[simp] theorem aGc_some {c : Int} {r1 : RV} {d1 d2 : D} : aGc c r1 ρ (some d1) (some d2) = az ρ (gGetC c d1 d2) := id rfl
def kGc2 (c : Int) (r1 r2 : RV) (ρ : O.Env) : Res RV := aGc c r1 ρ (rd r1 ρ) (rd r2 ρ)
@[simp] theorem u_kGc2 {c : Int} {r1 r2 : RV} : kGc2 c r1 r2 ρ = aGc c r1 ρ (rd r1 ρ) (rd r2 ρ) := id rfl
def kGc (c : Int) (fk : O.Env → Res RV) (r1 : RV) (ρ : O.Env) : Res RV := if isDic (rd r1 ρ) = true then (fk ρ).bind (kGc2 c r1) else .no
@[simp] theorem u_kGc {c : Int} {r1 : RV} : kGc c fk r1 ρ = if isDic (rd r1 ρ) = true then (fk ρ).bind (kGc2 c r1) else .no := id rfl
@[simp] theorem isDic_dic {kvs : KD} : isDic (some (.dic kvs)) = true := id rfl
@[simp] theorem u_fGetC {c : Int} : fGetC c fa fk ρ = (fa ρ).bind (kGc c fk) := by
  unfold fGetC
  congr 1
@[simp] theorem getC_int {c n : Int} {kvs : KD} : gGetC c (.dic kvs) (.int n) = some (.val ((getD kvs (.inl n)).getD (.int c))) := id rfl
@[simp] theorem isN_int {n : Int} : gIsN (.int n) .non = some (.val (.bl false)) := id rfl
@[simp] theorem isN_non : gIsN .non .non = some (.val (.bl true)) := id rfl
@[simp] theorem isN_dic {kvs : KD} : gIsN (.dic kvs) .non = some (.val (.bl false)) := id rfl
/-! ### a dict from a walk -/
def aDc (ρ1 : O.Env) (vs : List Nat) : Res KD → Res RV
  | .ok ys ρ2 => .ok (.own (.dic ys)) (restE ρ1 vs ρ2)
  | _ => .no
@[simp] theorem aDc_ok {ρ1 ρ2 : O.Env} {vs : List Nat} {ys : KD} : aDc ρ1 vs (.ok ys ρ2) = .ok (.own (.dic ys)) (restE ρ1 vs ρ2) := id rfl
def kDc (vs : List Nat) (t : Tg) (ft : O.Env → Res Bool) (fk fe : O.Env → Res RV) (ds : List D) (ρ1 : O.Env) : Res RV := aDc ρ1 vs (dcD vs t ft fk fe [] ds (wipeE ρ1 vs))
@[simp] theorem u_kDc {vs : List Nat} {t : Tg} {ft : O.Env → Res Bool} {ds : List D} : kDc vs t ft fk fe ds ρ = aDc ρ vs (dcD vs t ft fk fe [] ds (wipeE ρ vs)) := id rfl
@[simp] theorem u_fDc {vs : List Nat} {t : Tg} {ft : O.Env → Res Bool} {fi : O.Env → Res (List D)} : fDc fi vs t ft fk fe ρ = (fi ρ).bind (kDc vs t ft fk fe) := by
  unfold fDc; congr 1
/-! ### range(a, b, -1) -/
def aR3 (ρ : O.Env) : Option (List D) → Res (List D)
  | some [.int i, .int j, .int c] => if c = -1 ∧ -(2 ^ 62) ≤ i ∧ i < 2 ^ 62 ∧ -(2 ^ 62) ≤ j ∧ j < 2 ^ 62 then .ok (stepD i (-1) (i - j).toNat) ρ else .no
  | _ => .no
@[simp] theorem aR3_some {i j c : Int} : aR3 ρ (some [.int i, .int j, .int c]) = if c = -1 ∧ -(2 ^ 62) ≤ i ∧ i < 2 ^ 62 ∧ -(2 ^ 62) ≤ j ∧ j < 2 ^ 62 then .ok (stepD i (-1) (i - j).toNat) ρ else .no := id rfl
def kR3 (rs : List RV) (ρ : O.Env) : Res (List D) := aR3 ρ (rds rs ρ)
@[simp] theorem u_kR3 {rs : List RV} : kR3 rs ρ = aR3 ρ (rds rs ρ) := id rfl
@[simp] theorem u_fRng3 : fRng3 as ρ = (as ρ).bind kR3 := by unfold fRng3; congr 1
/-! ### a star target, three names and an item -/
def kSt2 (i j : Nat) (ds : List D) (ρ : O.Env) : Option D → SR
  | some z => aN ((putSlot i (.own (.lst ds.dropLast)) ρ).bind fun ρ2 => putSlot j (.val z) ρ2)
  | none => .no
@[simp] theorem kSt2_some {ds : List D} : kSt2 i j ds ρ (some d) = aN ((putSlot i (.own (.lst ds.dropLast)) ρ).bind fun ρ2 => putSlot j (.val d) ρ2) := id rfl
def kStar (i j : Nat) (d : D) (ρ : O.Env) : SR := match d with
  | .tup ds => kSt2 i j ds ρ ds.getLast?
  | _ => .no
@[simp] theorem kStar_tup {ds : List D} : kStar i j (.tup ds) ρ = kSt2 i j ds ρ ds.getLast? := id rfl
@[simp] theorem u_gAsgStar : gAsgStar i j fe ρ = ((fe ρ).bind fz).thn (kStar i j) := by
  unfold gAsgStar
  congr 1
  funext d ρ1
  cases d with
  | tup ds =>
    show _ = kSt2 i j ds ρ1 ds.getLast?
    simp only []
    cases ds.getLast? with
    | none => rfl
    | some z =>
      simp only [kSt2_some]
      cases putSlot i (.own (.lst ds.dropLast)) ρ1 with
      | none => rfl
      | some ρ2 =>
        simp only [Option.bind_some]
        cases putSlot j (.val z) ρ2 <;> rfl
  | _ => rfl
def kPt2 (i : Nat) (d : D) (r : RV) (ρ : O.Env) : SR := aPu i d ρ ((rd r ρ).bind keyD) (ownAt i ρ)
@[simp] theorem u_kPt2 {r : RV} : kPt2 i d r ρ = aPu i d ρ ((rd r ρ).bind keyD) (ownAt i ρ) := id rfl
def aPt (i : Nat) (fi : O.Env → Res RV) (d : D) (ρ : O.Env) : Option OD → SR
  | some _ => (fi ρ).thn (kPt2 i d)
  | none => .no
@[simp] theorem aPt_some : aPt i fi d ρ (some o) = (fi ρ).thn (kPt2 i d) := id rfl
@[simp] theorem u_putAt : putAt i fi d ρ = aPt i fi d ρ (ownAt i ρ) := by
  unfold putAt
  cases ownAt i ρ with
  | none => rfl
  | some o =>
    show _ = (fi ρ).thn (kPt2 i d)
    simp only []
    congr 1
def kA3 (n : Nat) (fk : O.Env → Res RV) (e : D) : Option O.Env → SR
  | some ρ => putAt n fk e ρ
  | none => .no
@[simp] theorem kA3_some {e : D} : kA3 n fk e (some ρ) = putAt n fk e ρ := id rfl
def kP4 (i j l n : Nat) (fk : O.Env → Res RV) (d : D) (ρ : O.Env) : SR := match d with
  | .tup [a, b, c, e] => kA3 n fk e ((putSlot i (.val a) ρ).bind fun ρ2 => (putSlot j (.val b) ρ2).bind fun ρ3 => putSlot l (.val c) ρ3)
  | _ => .no
@[simp] theorem kP4_tup {l : Nat} {a b c e : D} : kP4 i j l n fk (.tup [a, b, c, e]) ρ = kA3 n fk e ((putSlot i (.val a) ρ).bind fun ρ2 => (putSlot j (.val b) ρ2).bind fun ρ3 => putSlot l (.val c) ρ3) := id rfl
@[simp] theorem u_gAsgP3 {l : Nat} : gAsgP3 i j l n fk fe ρ = ((fe ρ).bind fz).thn (kP4 i j l n fk) := by
  unfold gAsgP3
  congr 1
  funext d ρ1
  cases d with
  | tup ds =>
    match ds with
    | [] => rfl
    | [_] => rfl
    | [_, _] => rfl
    | [_, _, _] => rfl
    | [a, b, c, e] =>
      simp only [kP4]
      cases putSlot i (.val a) ρ1 with
      | none => rfl
      | some ρ2 =>
        simp only [Option.bind_some]
        cases putSlot j (.val b) ρ2 with
        | none => rfl
        | some ρ3 =>
          simp only [Option.bind_some]
          cases putSlot l (.val c) ρ3 <;> rfl
    | _ :: _ :: _ :: _ :: _ :: _ => rfl
  | _ => rfl
/-! ### arguments by position and by keyword -/
def kPk2 (m mk : Nat) (π : List Nat) (rs ws : List RV) (ρ : O.Env) : Res (List RV) := if rs.length = m ∧ ws.length = mk then .ok (permL π (rs ++ ws)) ρ else .no
@[simp] theorem u_kPk2 {m mk : Nat} {π : List Nat} {rs ws : List RV} : kPk2 m mk π rs ws ρ = if rs.length = m ∧ ws.length = mk then .ok (permL π (rs ++ ws)) ρ else .no := id rfl
def kPk (m mk : Nat) (π : List Nat) (ar : O.Env → Res (List RV)) (rs : List RV) (ρ : O.Env) : Res (List RV) := (ar ρ).bind (kPk2 m mk π rs)
@[simp] theorem u_kPk {m mk : Nat} {π : List Nat} {rs : List RV} : kPk m mk π ar rs ρ = (ar ρ).bind (kPk2 m mk π rs) := id rfl
@[simp] theorem u_fPK {m mk : Nat} {π : List Nat} : fPK m mk π as ar ρ = (as ρ).bind (kPk m mk π ar) := id rfl
/-! ### operators on data -/
@[simp] theorem gInt_int {n : Int} : gInt [.int n] = some (.val (.int n)) := id rfl
@[simp] theorem gInt_bl {b : Bool} : gInt [.bl b] = some (.val (.int (if b then 1 else 0))) := id rfl
@[simp] theorem gMaxT_rows {a b : List Int} : gMaxT [rowT a, rowT b] = some (.val (rowT (if HT.lexLt a b = true then b else a))) := by simp [gMaxT, rowT]
@[simp] theorem gMaxT_ints {a b : Int} : gMaxT [.int a, .int b] = gMax [.int a, .int b] := id rfl
@[simp] theorem gRevL_l {ds : List D} : gRevL (.lst ds) = some (.own (.lst ds.reverse)) := id rfl
@[simp] theorem gStep_l {lo : Option Int} {ds : List D} : gStep lo (.lst ds) = some (.own (.lst (pickG ds lo))) := id rfl
@[simp] theorem gInS_i {k : Int} {xs : List Int} : gInS (.int k) (.set xs) = some (.val (.bl (decide (k ∈ xs)))) := id rfl
theorem rowsD_rowT : ∀ rows : List (List Int), (∀ r ∈ rows, r ≠ []) → rowsD (rows.map rowT) = some rows
  | [], _ => rfl
  | [] :: rs, h => absurd rfl (h [] (by simp))
  | (n :: r) :: rs, h => by
    have ih := rowsD_rowT rs fun x hx => h x (by simp [hx])
    have e : intsD ((n :: r).map D.int) = some (n :: r) := intsD_map _
    simp only [List.map_cons, rowsD, rowT] at ih ⊢
    simp only [List.map_cons] at e
    rw [e, ih]
theorem gMaxL_rows {r : List Int} {rs : List (List Int)} (hn : ∀ x ∈ r :: rs, x ≠ []) : gMaxL [.lst ((r :: rs).map rowT)] = some (.val (rowT (bestRow r rs))) := by simp only [gMaxL, rowsD_rowT _ hn]
theorem gIndexT_rows {r : List Int} {rows : List (List Int)} (hn : ∀ x ∈ rows, x ≠ []) (h : r ∈ rows) : gIndexT (.lst (rows.map rowT)) [rowT r] = some (.val (.int (rows.idxOf r : Nat))) := by
  have e : intsD (r.map D.int) = some r := intsD_map _
  simp only [gIndexT, rowT] at *
  rw [rowsD_rowT rows hn, e]
  simp only [if_pos h]
end
end O

/-! Own60: defs with keyword-only defaults, called by position -/
namespace O
open PySem
open L2 (V Hp HO Rd SqT TE TA St PE PA Cx VK XK Vals RelV Env0 Gl)
section
variable {P : Program} {w : World} {K : PySem.W.Frag} {mg : Str → Option Value} {base : Heap}
structure CalD (P : Program) (w : World) (K : PySem.W.Frag) (mg : Str → Option Value) (base : Heap) (x : Str) (k n : Nat) (ps : List Str) (dvs : List V) (dds : List D) (F : List Ar → FO) : Prop where
  ex : ∃ (fA : Addr) (fd : FuncData) (ds : List Value), FnG P w K mg base k fA fd ps (spF K n F) ∧ mg x = some (.ref fA) ∧ PySem.W.keepIn K (.ref fA) = true ∧ L2.Binds K fd ps ds ∧ Vals dvs ds ∧ ∀ Hd : Hp, Reps K Hd dds dvs
theorem funD_mk {x : Str} {st : Stmt} {fA D : Addr} {oc doc pm cdv ct : Value} {od an : Option Addr} {osl : Array (Option Value)} {kws : List (Str × V)}
    (lk : K.lookup fA = some ⟨oc, od, .func (PySem.W.fnOf x x (L2.defArgs st) (L2.defBody st) (L2.defScope st) .none (.ref D) doc pm an cdv ct), osl⟩) (hc : PySem.W.codeIn K cdv x = true) (hk : PySem.W.keepIn K (.ref fA) = true) (hq : ∀ q ∈ kws, ∃ u, PySem.W.nsIn K D q.1 = some (some u) ∧ RelV q.2 u) :
    L2.FunD K x x (L2.defArgs st) (L2.defBody st) (L2.defScope st) [] kws fA (PySem.W.fnOf x x (L2.defArgs st) (L2.defBody st) (L2.defScope st) .none (.ref D) doc pm an cdv ct) :=
  ⟨⟨_, _, _, _, _, _, _, _, _, _, rfl, lk, hc, .inl ⟨rfl, rfl⟩, .inr ⟨D, rfl, hq⟩⟩, hk⟩
theorem calD_of {x : Str} {k n : Nat} {fA : Addr} {fd : FuncData} {ps : List Str} {dds : List D} {kws : List (Str × V)} {st : Stmt} {F : List Ar → FO} (U : L2.FunD K x x (L2.defArgs st) (L2.defBody st) (L2.defScope st) [] kws fA fd) (gm : mg x = some (.ref fA)) (G : FnG P w K mg base k fA fd ps (spF K n F)) (hr : ∀ Hd : Hp, Reps K Hd dds (kws.map (·.2)))
    (m : Nat) (hk : kws ≠ []) (hn : m + kws.length = ps.length)
    (h : ∀ (D : Addr) (doc pm : Value) (an : Option Addr) (cdv ct : Value) (us ks : List Value), us.length = m → ks.length = kws.length →
      L2.KwChain D ((kws.map (·.1)).zip ks) (bindArgs (PySem.W.fnOf x x (L2.defArgs st) (L2.defBody st) (L2.defScope st) .none (.ref D) doc pm an cdv ct) ⟨us, []⟩) (ps.zip (us ++ ks))) : CalD P w K mg base x k n ps (kws.map (·.2)) dds F := by
  obtain ⟨ds, r, b⟩ := U.binds0 m hk hn h
  exact ⟨⟨fA, fd, ds, G, gm, U.kp, b, r, hr⟩⟩
end
section
variable {X : Cx} {W : St → XK} {e : Expr} {es : List Expr} {pos p : Pos} {t : TA} {f : O.Env → Res (List RV)}
theorem jcalD {K : PySem.W.Frag} {x : Str} {k j n : Nat} {ps : List Str} {dvs : List V} {dds : List D} {F : List Ar → FO} (ms : List Md) (c : CalD X.prog X.w X.K X.mg X.base x k n ps dvs dds F) (hr : RoomG j X.A) (tk : ∀ σ, L2.PassesAt (L2.CX X.prog X.w) X σ (W σ)) (ha : JA X W (e :: es) t f) (hj : k ≤ j := by first | decide | omega) (hl : ms.length = n := by rfl) (hg : Gl X x := by rfl)
    (hdb : (x == ("__debug__" : Str)) = false := by decide) (he : starEach (e :: es) X.env = (false, eval e X.env) :: starEach es X.env := by rfl) (hpl : (backTo pos (starEach es X.env)).any (·.1) = false := by rfl) (hK : X.K = K := by rfl) :
    JE X W (.Call (.Name x p) (e :: es) [] pos) (L2.tCallSD (spF K n F) dvs W t) (fCall ms dds F f) := by
  subst hK
  obtain ⟨fA, fd, ds, h1, h2, h3, h4, h5, h6⟩ := c.ex
  exact ⟨pe_callG h1 (hr.mono hj) hg h2 h3 h4 h5 tk ha.pa hdb he hpl, sd_call hl h6 ha.sa⟩
end
/-- rows of defaults: None, () -/
theorem reps_nt {K : PySem.W.Frag} {T : Addr} {o : Obj} {n : Nat} (lk : K.lookup T = some o) (hc : o.cls = .type "tuple") (hd : o.data = .seq #[] n) (Hd : Hp) : Reps K Hd [.non, .tup []] [.non, .ref T] :=
  .cons .non (.cons (.tup (.inr ⟨o, #[], n, lk, hc, hd, Nat.zero_le _, .nil⟩) .nil) .nil)
theorem reps_n {K : PySem.W.Frag} (Hd : Hp) : Reps K Hd [.non] [.non] := .cons .non .nil
/-- values with defaults behind them -/
def kCD (ms : List Md) (dds : List D) (F : List Ar → FO) (rs : List RV) (ρ : O.Env) : Res RV := callR ms F (rs ++ dds.map .val) ρ
@[simp] theorem u_kCD {ms : List Md} {dds : List D} {F : List Ar → FO} {rs : List RV} {ρ : O.Env} : kCD ms dds F rs ρ = callR ms F (rs ++ dds.map .val) ρ := id rfl
@[simp] theorem u_fCallD {ms : List Md} {d : D} {dds : List D} {F : List Ar → FO} {as : O.Env → Res (List RV)} {ρ : O.Env} : fCall ms (d :: dds) F as ρ = (as ρ).bind (kCD ms (d :: dds) F) := id rfl
end O

/-! Own61: > of lists of any depth -/
namespace O
open PySem
open L2 (V Hp HO Rd Cx OpR)
def pyNon : PyData → Bool
  | .none => true
  | _ => false
def gGtD : D → D → Option RV := fun d e => match toPy d, toPy e with
  | some a, some b => if PySem.W.alike a b = true ∧ pyNon a = false ∧ a.depth ≤ 50 then some (.val (.bl (PySem.W.dataLt b a))) else none
  | _, _ => none
theorem op_gGtD {X : Cx} (hu : X.A.units + 64 < cLine) : OpR X (compareOp .Gt) (rG X.K gGtD) := by
  intro pins s σ H x y v u Q I rx ry ⟨Hd, d1, d2, z, l, t1, t2, eg, q⟩
  unfold gGtD at eg
  cases e1 : toPy d1 with
  | none => rw [e1] at eg; cases eg
  | some a => cases e2 : toPy d2 with
    | none => rw [e1, e2] at eg; cases eg
    | some b =>
      rw [e1, e2] at eg
      simp only at eg
      by_cases c : PySem.W.alike a b = true ∧ pyNon a = false ∧ a.depth ≤ 50
      · rw [if_pos c] at eg
        cases eg
        obtain ⟨as, r1⟩ := L2.Dp.reads I a x v ((t1.all l).dp e1) rx
        obtain ⟨bs, r2⟩ := L2.Dp.reads I b y u ((t2.all l).dp e2) ry
        exact PySem.W.gt_data r1 r2 c.1 (fun h => by rw [h] at c; exact absurd c.2.1 (by simp [pyNon])) (by have := c.2.2; omega) ⟨.bl _, H, I, rfl, q _ _ (newR_here l (.bl _))⟩
      · rw [if_neg c] at eg; cases eg
/-! what it says of [a, b, [..]] -/
def flat : List Int → List Int
  | [] => [0]
  | x :: xs => 1 :: x :: flat xs
theorem toks_ints : ∀ xs : List Int, PySem.W.keyToksAll (xs.map PyData.int) = (flat xs).map Sum.inl
  | [] => rfl
  | x :: xs => by simp [PySem.W.keyToksAll, PySem.W.keyToks, toks_ints xs, flat]
theorem lex_inl : ∀ xs ys : List Int, PyProof.Rows.lexLt PyProof.Rows.itemOrd (xs.map Sum.inl) (ys.map Sum.inl) = HT.lexLt xs ys
  | [], [] => rfl
  | [], _ :: _ => rfl
  | _ :: _, [] => rfl
  | x :: xs, y :: ys => by
    rw [List.map_cons, List.map_cons, HT.lexLt_cons]
    by_cases h : x = y
    · subst h
      rw [if_pos rfl, ← lex_inl xs ys]
      exact PyProof.Rows.lex_self (O := PyProof.Rows.itemOrd) (Sum.inl x) _ _
    · rw [if_neg h]
      have hne : (Sum.inl x : Int ⊕ List Nat) ≠ Sum.inl y := fun e => h (by cases e; rfl)
      exact PyProof.Rows.lex_diff (O := PyProof.Rows.itemOrd) hne
theorem lex_flat (k l : List Int) : ∀ xs ys : List Int, HT.lexLt (flat xs ++ k) (flat ys ++ l) = if xs = ys then HT.lexLt k l else HT.lexLt xs ys
  | [], [] => by simp [flat, HT.lexLt]
  | [], _ :: _ => by simp [flat, HT.lexLt]
  | _ :: _, [] => by simp [flat, HT.lexLt]
  | x :: xs, y :: ys => by
    simp only [flat, List.cons_append, HT.lexLt, if_true, lex_flat k l xs ys]
    by_cases h : x = y
    · subst h
      by_cases h2 : xs = ys
      · simp [h2]
      · simp [h2]
    · have : ¬ (x :: xs = y :: ys) := fun e => h (by cases e; rfl)
      simp [h]
theorem lex_irr : ∀ xs : List Int, HT.lexLt xs xs = false
  | [] => rfl
  | x :: xs => by simp [HT.lexLt, lex_irr xs]
theorem gGtD_3 (a b a' b' : Int) (xs ys : List Int) : gGtD (.lst [.int a, .int b, .lst (xs.map .int)]) (.lst [.int a', .int b', .lst (ys.map .int)]) = some (.val (.bl (HT.lexLt (a' :: b' :: ys) (a :: b :: xs)))) := by
  have e : ∀ (a b : Int) (xs : List Int), toPy (.lst [.int a, .int b, .lst (xs.map .int)]) = some (.list [.int a, .int b, .list (xs.map .int)]) := fun a b xs => by simp [toPy, toPys, toPys_ints]
  have al : ∀ xs ys : List Int, PySem.W.alikeAll (xs.map PyData.int) (ys.map PyData.int) = true := by
    intro xs
    induction xs with
    | nil => intro ys; rfl
    | cons x xs ih => intro ys; cases ys with
      | nil => rfl
      | cons y ys => simp [PySem.W.alikeAll, PySem.W.alike, ih ys]
  have dl : PySem.W.dataLt (.list [.int a', .int b', .list (ys.map .int)]) (.list [.int a, .int b, .list (xs.map .int)]) = HT.lexLt (a' :: b' :: ys) (a :: b :: xs) := by
    unfold PySem.W.dataLt
    have k : ∀ (a b : Int) (xs : List Int), PySem.W.keyToks (.list [.int a, .int b, .list (xs.map .int)]) = (1 :: a :: 1 :: b :: 1 :: (flat xs ++ [0])).map Sum.inl := fun a b xs => by simp [PySem.W.keyToks, PySem.W.keyToksAll, toks_ints]
    rw [k, k, lex_inl]
    simp only [HT.lexLt, if_true, lex_flat]
    by_cases h : ys = xs
    · subst h; simp [lex_irr]
    · simp [h]
  simp only [gGtD, e, dl]
  rw [if_pos ⟨by simp [PySem.W.alike, PySem.W.alikeAll, al], rfl, by simp [PyData.depth, PyData.depthAll, depth_ints]⟩]
end O

/-! Own62: sorted(list or tuple of ints) -/
namespace O
open PySem
open PyProof.Rows
open L2 (V Hp HO Rd SqT SqL upd Cx CallR VK Vals)
def rSortedTu (K : PySem.W.Frag) : List V → Hp → VK → Prop := fun vs H Q => ∃ (a : Addr) (ns : List Int), vs = [V.ref a] ∧ SqT K H a (ns.map V.int) ∧ ns.length < 64 ∧
  ∀ (ns' : List Int) (p : Addr), ns'.Perm ns → ns'.Pairwise (· ≤ ·) → H p = none → Q (.ref p) (upd H p (.lst (ns'.map V.int)))
theorem cr_sortedTu {X : Cx} : CallR X (.builtin "sorted") (rSortedTu X.K) := by
  intro pins s σ H vs us Q I r h
  obtain ⟨a, ks, rfl, hs, h64, q⟩ := h
  rw [L2.Vals.ref1 r]
  obtain ⟨its, rv, ⟨o, ho, hc, n, hdt⟩, hz⟩ := I.tuple hs
  have hS : IntsAre its ks := rv.ints
  have hal : its.length = ks.length := hS.length
  refine Calls.call_function_entry PyProof.Rows.kind_sorted PyProof.Rows.plain_sorted PyProof.Rows.entry_sorted (PyProof.Rows.args_sorted1 _) ?_
  unfold Builtin.«sorted»
  refine wpAny_bind (m := checkCount "sorted" 1 1 _) (wpAny_pure ?_)
  refine wpAny_bind (PySem.wpAny_collect_seq a (T := "tuple") (.inr rfl) ho hc hdt (fun h' hk => ?_) (by rw [List.size_toArray, hal]; exact Nat.le_trans (Nat.le_of_lt h64) (by decide)))
  have I1 : L2.Inv X pins σ H { s with heap := h', toks := s.toks } := I.kept hk
  refine wpAny_bind (wpAny_newList ?_ (by rw [hal]; exact Nat.le_trans (Nat.le_of_lt h64) (by decide)))
  have hoL : (h'.push (seqObj "list" its.toArray 0)).get? h'.objs.size = some (seqObj "list" its.toArray 0) := Heap.get?_push_size _ rfl
  show wpAny _ _ _ _ _ { s with heap := h'.push (seqObj "list" its.toArray 0), toks := s.toks }
  refine wpAny_bind (wpAny_holding (wpAny_call_entry PyProof.Rows.slot_list_sort ⟨_, hoL, rfl⟩ PyProof.Rows.entry_list_sort
    (PyProof.Rows.list_sort_tree (s := { s with heap := h'.push (seqObj "list" its.toArray 0), toks := s.toks }) hoL hS (by rw [hal]; exact h64) fun out ys g1 g2 g3 => ⟨_, rfl, ?_⟩) (PyProof.Rows.args_list_sort _)))
  obtain ⟨e', he'⟩ := PyProof.Rows.sortedHeap_at (vs := its) (out := out) hoL
  have hlen : (ys.map V.int).length ≤ sizeLine := by
    rw [List.length_map, g2.length_eq]
    exact Nat.le_trans (Nat.le_of_lt h64) (by decide)
  refine wpAny_pure ⟨_, rfl, .ref h'.objs.size, upd H h'.objs.size (.lst (ys.map V.int)), I1.laid (t' := s.toks) (fun b u e => ?_) (Nat.le_refl _)
    (show L2.ObjOk X.prog X.w _ _ _ (.lst (ys.map V.int)) from ⟨hlen, out.toList, e', L2.vals_of_ints g1, by rw [Array.toArray_toList]; exact he'⟩), rfl, q ys _ g2 g3 (I1.hok.fresh (Nat.le_refl _))⟩
  have hb : b < h'.objs.size := Heap.lt_size e
  rw [PyProof.Rows.sortedHeap_old (Nat.ne_of_lt hb) (by rw [Heap.size_push]; exact Nat.lt_succ_of_lt hb)]
  exact Heap.get?_push_of_some _ e
/-- sorted(list or tuple) -/
def gSortedU : List D → Option RV
  | [.tup ds] => (intsD ds).bind fun ns => if ns.length < 64 then some (.own (.lst ((sortI ns).map .int))) else none
  | xs => gSorted xs
theorem cb_sortedU {X : Cx} : CallR X (.builtin "sorted") (rGC X.K gSortedU) := by
  intro pins s σ H xs us Q I r ⟨Hd, ds, z, l, t, eg, q⟩
  by_cases h : ∃ es, ds = [.tup es]
  · obtain ⟨es, rfl⟩ := h
    simp only [gSortedU] at eg
    cases e1 : intsD es with
    | none => rw [e1] at eg; cases eg
    | some ns =>
      rw [e1] at eg
      simp only [Option.bind_some] at eg
      by_cases h64 : ns.length < 64
      · rw [if_pos h64] at eg
        cases eg
        obtain ⟨x, rfl, w⟩ := tops1 t
        obtain ⟨a, rfl, h1⟩ := intsT l w e1
        refine cr_sortedTu pins s σ H _ us Q I r ⟨a, ns, rfl, h1, h64, fun ns' p hp hs hn => ?_⟩
        have e : ns' = sortI ns := sorted_uniq (hp.trans (sortI_perm ns).symm) hs (sortI_sorted ns)
        subst e
        exact q _ _ (newR_lst l hn (ints_reps _))
      · rw [if_neg h64] at eg; cases eg
  · have eg' : gSorted ds = some z := by
      have : gSortedU ds = gSorted ds := by
        match ds with
        | [] => rfl
        | [.tup es] => exact absurd ⟨es, rfl⟩ h
        | [.non] => rfl
        | [.bl _] => rfl
        | [.int _] => rfl
        | [.str _] => rfl
        | [.lst _] => rfl
        | [.dic _] => rfl
        | [.dlk _] => rfl
        | [.scr _] => rfl
        | [.set _] => rfl
        | x :: _ :: _ => cases x <;> rfl
      rw [← this]; exact eg
    exact cb_sorted pins s σ H xs us Q I r ⟨Hd, ds, z, l, t, eg', q⟩
theorem gSortedU_l (ns : List Int) : gSortedU [.lst (ns.map .int)] = some (.own (.lst ((sortI ns).map .int))) := by simp [gSortedU, gSorted]
theorem gSortedU_t (ns : List Int) (h : ns.length < 64) : gSortedU [.tup (ns.map .int)] = some (.own (.lst ((sortI ns).map .int))) := by simp [gSortedU, h]
end O

/-! Own63: l.count(k) of ints; d.clear(); dicts from ints to ints compared -/
namespace O
open PySem
open L2 (V Hp HO Rd SqT SqL upd upd_same TE TA St PE PA Cx OpR MtR VK)
def gCountI : D → List D → Option RV
  | .lst ds, [.int k] => (intsD ds).map fun ns => .val (.int (ns.count k : Nat))
  | _, _ => none
theorem mt_gCountI {X : Cx} : MtR X "list.count" (rGB X.K gCountI) := mt_imp L2.mt_lcount fun x xs H Q ⟨Hd, d, es, z, l, t, ts, eg, q⟩ => by
  match d, es, ts, eg with
  | .lst ds, [.int k], ts, eg =>
    simp only [gCountI] at eg
    cases e1 : intsD ds with
    | none => rw [e1] at eg; cases eg
    | some ns =>
      rw [e1] at eg
      cases eg
      obtain ⟨w, rfl, ty⟩ := tops1 ts
      obtain ⟨a, vs, rfl, h1, r1⟩ := t.lstD l
      have ey := intsD_ok r1 e1
      subst ey
      exact ⟨a, ns, k, rfl, by rw [ty.intD], .inl h1, q _ _ (newR_here l (.int _))⟩
section
variable {X : Cx} {W : St → L2.XK} {a o : Expr} {pos : Pos} {te : TE} {fe : O.Env → Res RV} {t : TA} {f : O.Env → Res (List RV)}
theorem jcountI {K : PySem.W.Frag} {apos : Pos} (ho : JE X W o te fe) (ha : JA X W [a] t f) (hbase : attributeBase o "count" X.env (eval o X.env) = eval o X.env := by rfl)
    (hfew : ((backTo pos (starEach [a] X.env)).all (fun z => !z.1) && (backToKw pos (keywordEach [] X.env)).all (fun z => z.1.isSome) && decide ([a].length + ([] : List Keyword).length + (if ([] : List Keyword).isEmpty then 0 else 1) < 30)) = true := by rfl)
    (hline : (apos.endLine == pos.line) = true := by rfl) (hs : starEach [a] X.env = (false, eval a X.env) :: starEach [] X.env := by rfl) (hplain : (backTo pos (starEach [] X.env)).any (·.1) = false := by rfl) (hK : X.K = K := by rfl) :
    JE X W (.Call (.Attribute o "count" apos) [a] [] pos) (L2.tBM K "list" (rGB K gCountI) te t) (fBM fe f gCountI) := by
  subst hK
  exact ⟨L2.pe_bm PySem.F.plainAttrs_list PySem.F.slot_list_count PySem.F.type_list_count mt_gCountI ho.pe ha.pa hbase hfew hline hs hplain, sd_bm ho.se ha.sa⟩
end
theorem gCountI_l (ns : List Int) (k : Int) : gCountI (.lst (ns.map .int)) [.int k] = some (.val (.int (ns.count k : Nat))) := by simp [gCountI]
/-! ### d.clear() -/
def aCl (i : Nat) (ρ : O.Env) : Option OD → Res RV
  | some (.dic _) => .ok (.val .non) (setOw i (.dic []) ρ)
  | _ => .no
@[simp] theorem aCl_some {i : Nat} {ρ : O.Env} {kvs : List (L2.Key × D)} : aCl i ρ (some (.dic kvs)) = .ok (.val .non) (setOw i (.dic []) ρ) := id rfl
def fClear (i : Nat) : O.Env → Res RV := fun ρ => aCl i ρ (ownAt i ρ)
@[simp] theorem u_fClear {i : Nat} {ρ : O.Env} : fClear i ρ = aCl i ρ (ownAt i ρ) := id rfl
theorem sd_clear {K : PySem.W.Frag} {W : St → L2.XK} {i : Nat} : Sd K W (rV K) (L2.tBM0 K "dict" L2.rDClear (L2.tVar i)) (fClear i) := fun C fp Hd H σ ρ I Q p => by
  have p : Post K W C (rV K) fp Hd H σ (aCl i ρ (ownAt i ρ)) Q := p
  cases eo : ownAt i ρ with
  | none => rw [eo] at p; exact p.elim
  | some o =>
    cases o with
    | fz d => rw [eo] at p; exact p.elim
    | lst d => rw [eo] at p; exact p.elim
    | ins c d => rw [eo] at p; exact p.elim
    | dic kvs =>
      rw [eo] at p
      obtain ⟨v, hv, ow, nd, hn⟩ := ownAt_ok I eo
      generalize hA : fp i = A at ow nd hn
      cases ow with
      | dic h r =>
        refine ⟨_, hv, .inr (.inr (.inl ⟨rfl, .inl ⟨_, h⟩⟩)), _, _, rfl, rfl, h, ?_⟩
        obtain ⟨s2, I2⟩ := I.mutate (o' := .dic []) (u := .dK []) eo hv (by rw [hA]; exact List.mem_singleton.mpr rfl) (by rw [hA]; exact .dic upd_same .nil)
        exact p .non fp Hd _ s2 I2 .non
section
variable {X : Cx} {W : St → L2.XK} {x : Str} {p apos cpos : Pos} {i : Nat}
theorem jclear {K : PySem.W.Frag} (ho : JE X W (.Name x p) (L2.tVar i) (fVar i)) (hbase : attributeBase (.Name x p) "clear" X.env (eval (.Name x p) X.env) = eval (.Name x p) X.env := by rfl) (hline : (apos.endLine == cpos.line) = true := by rfl) (hK : X.K = K := by rfl) :
    JE X W (.Call (.Attribute (.Name x p) "clear" apos) [] [] cpos) (L2.tBM0 K "dict" L2.rDClear (L2.tVar i)) (fClear i) := by
  subst hK
  exact ⟨L2.pe_dclear ho.pe hbase hline, sd_clear⟩
end
/-! ### dicts of ints compared -/
def intKV : List (L2.Key × D) → Option (List (Int × Int))
  | [] => some []
  | (.inl n, .int z) :: kvs => (intKV kvs).map ((n, z) :: ·)
  | _ :: _ => none
def kvI (l : List (Int × Int)) : List (L2.Key × D) := l.map fun p => (.inl p.1, .int p.2)
theorem intKV_kvI : ∀ l : List (Int × Int), intKV (kvI l) = some l
  | [] => rfl
  | p :: l => by
    have : intKV (kvI (p :: l)) = (intKV (kvI l)).map (p :: ·) := rfl
    rw [this, intKV_kvI l]
    rfl
theorem kvI_back {K : PySem.W.Frag} {H : Hp} : ∀ {kvs : List (L2.Key × D)} {kws : List (L2.Key × V)} {l : List (Int × Int)}, Repk K H kvs kws → intKV kvs = some l → kws = l.map fun p => (.inl p.1, .int p.2)
  | _, _, l, .nil, e => by cases e; rfl
  | _, _, l, .cons (k := k) (d := d) h r, e => by
    cases k with
    | inr s => cases e
    | inl n =>
      cases d with
      | int z =>
        cases h
        rename_i kvs kws
        have e : (intKV kvs).map ((n, z) :: ·) = some l := e
        cases e1 : intKV kvs with
        | none => rw [e1] at e; cases e
        | some m =>
          rw [e1] at e
          cases e
          rw [kvI_back r e1]
          rfl
      | _ => cases e
def gNeDD : D → D → Option RV
  | .dic a, .dic b => match intKV a, intKV b with
    | some l, some m => if l = m ∧ (l.map (·.1)).Nodup then some (.val (.bl false)) else none
    | _, _ => none
  | _, _ => none
theorem valV_one : ∀ {l : List (Int × Int)}, (l.map (·.1)).Nodup → ∀ q ∈ l, L2.valV (l.map fun p => ((Sum.inl p.1 : L2.Key), V.int p.2)) (Sum.inl q.1) = some (V.int q.2)
  | [], _, q, hq => by cases hq
  | x :: l, hn, q, hq => by
    have hn' := List.nodup_cons.mp hn
    unfold L2.valV
    rw [List.map_cons, List.find?_cons]
    rcases List.mem_cons.mp hq with rfl | h
    · simp
    · have hne : ¬ (Sum.inl x.1 : L2.Key) = Sum.inl q.1 := fun e => hn'.1 (by
        have e' : x.1 = q.1 := Sum.inl.inj e
        have hm : q.1 ∈ l.map (·.1) := List.mem_map.mpr ⟨q, h, rfl⟩
        rw [← e'] at hm
        exact hm)
      have := valV_one hn'.2 q h
      unfold L2.valV at this
      simp only [hne, decide_false]
      exact this
theorem valV_in {l : List (Int × Int)} (hn : (l.map (·.1)).Nodup) : ∀ p ∈ l.map (fun p => ((Sum.inl p.1 : L2.Key), V.int p.2)), L2.valV (l.map fun p => ((Sum.inl p.1 : L2.Key), V.int p.2)) p.1 = some p.2 ∧ L2.flatB p.2 = true := by
  intro p hp
  obtain ⟨q, hq, rfl⟩ := List.mem_map.mp hp
  exact ⟨valV_one hn q hq, rfl⟩
theorem op_gNeDD {X : Cx} (hu : X.A.units + 64 < cLine) : OpR X (compareOp .NotEq) (rG X.K gNeDD) := by
  intro pins s σ H x y v u Q I rx ry ⟨Hd, d1, d2, z, l, t1, t2, eg, q⟩
  have gd : ∃ a b, d1 = .dic a ∧ d2 = .dic b := by
    cases d1 with
    | dic a => cases d2 with
      | dic b => exact ⟨a, b, rfl, rfl⟩
      | _ => cases eg
    | _ => cases d2 <;> cases eg
  obtain ⟨a, b, rfl, rfl⟩ := gd
  · simp only [gNeDD] at eg
    cases e1 : intKV a with
    | none => rw [e1] at eg; cases eg
    | some la => cases e2 : intKV b with
      | none => rw [e1, e2] at eg; cases eg
      | some lb =>
        rw [e1, e2] at eg
        simp only at eg
        by_cases c : la = lb ∧ (la.map (·.1)).Nodup
        · rw [if_pos c] at eg
          cases eg
          obtain ⟨rfl, hn⟩ := c
          obtain ⟨aa, kwa, rfl, ha, ra⟩ := t1.dicD l
          obtain ⟨ab, kwb, rfl, hb, rb⟩ := t2.dicD l
          have ea := kvI_back ra e1
          have eb := kvI_back rb e2
          subst ea eb
          obtain rfl : v = Value.ref aa := rx
          obtain rfl : u = Value.ref ab := ry
          obtain ⟨_, ya, va, ra', da⟩ := L2.dk_rd I.hok ha
          obtain ⟨_, yb, vb, rb', db⟩ := L2.dk_rd I.hok hb
          have hl : va.length = vb.length := by rw [← ra'.length, ← rb'.length]
          exact PySem.W.keq_ne (knd := L2.mixKind X.prog X.w) (r := true) ya yb da db (by omega) (fun _ => L2.hits_all rb' ra' (valV_in hn)) (L2.fin_bl I (q _ _ (newR_here l (.bl _))) (by simp [hl]))
        · rw [if_neg c] at eg; cases eg
end O

/-! Own64: sorted(d.items()) of a dict from ints to ints -/
namespace O
open PySem
open PyProof.Rows
open L2 (V Hp HO Rd SqT SqL upd upd_same upd_ne ne_of_none Cx CallR VK Vals RelV)
def kvV (L : List (Int × Int)) : List (L2.Key × V) := L.map fun p => (.inl p.1, .int p.2)
def rSortedIK : List V → Hp → VK → Prop := fun xs H Q => ∃ (p d : Addr) (L : List (Int × Int)), xs = [V.ref p] ∧ H p = some (L2.DX.itemsO p d) ∧ Rd H d (.dK (kvV L)) ∧
  ∀ (H' : Hp) (l : Addr) (zs : List (Addr × Int × Int)), (∀ b o, H b = some o → H' b = some o) → H l = none → (∀ z ∈ zs, H z.1 = none ∧ z.1 ≠ l ∧ H' z.1 = some (.tup [.int z.2.1, .int z.2.2])) → (zs.map (·.2)).Perm L →
    (zs.map (·.2)).Pairwise (fun p q => SrtO.lexB q p = false) → H' l = some (.lst (zs.map fun z => V.ref z.1)) → Q (.ref l) H'
theorem pgetR {α β : Type} {F : α → β → Prop} : ∀ {xs : List α} {ys : List β}, Paired F xs ys → ∀ {j : Nat} {y : β}, ys[j]? = some y → ∃ x, xs[j]? = some x ∧ F x y
  | _, _, .nil, _, _, h => by cases h
  | _, _, .cons f r, 0, y, h => by
    have e := Option.some.inj h
    subst e
    exact ⟨_, rfl, f⟩
  | _, _, .cons f r, j + 1, y, h => pgetR r h
theorem cr_sortedIK {X : Cx} (hc : X.calm = true) : CallR X (.builtin "sorted") rSortedIK := by
  intro pins s σ H xs us Q I r ⟨p, d, L, ex, hp, hd, q⟩
  subst ex
  rw [L2.Vals.ref1 r]
  have view : s.heap.IsItemsView p d := (show L2.ObjOk X.prog X.w H s.heap p (L2.DX.itemsO p d) from I.hok p _ hp).1
  obtain ⟨z, lo, vs, rel, dd⟩ := L2.dk_rd I.hok hd
  obtain ⟨ep, hat⟩ := dd.dictAt
  have ll : (kvV L).length = vs.length := Paired.length rel
  have lL : (kvV L).length = L.length := by simp [kvV]
  have hh : X.A.handled = none := I.ok.hd hc
  refine Calls.call_function_entry kind_sorted plain_sorted entry_sorted (args_sorted1 _) ?_
  unfold Builtin.«sorted»
  refine wpAny_bind (m := checkCount "sorted" 1 1 _) (wpAny_pure ?_)
  refine wpAny_bind (PySem.W.kdx_collect (A := X.A.in1) (knd := L2.mixKind X.prog X.w) (kvs := vs) (ep := ep) hh view hat (by omega) fun h' tk as hk hl hG => ?_)
  have nd : as.Nodup := List.Pairwise.imp (fun {a b} (h : a < b) => Nat.ne_of_lt h) hG.rise
  have pr : ∀ (j : Nat) (b : Addr), as[j]? = some b → ∃ (n y : Int) (t u : Tok), L[j]? = some (n, y) ∧ h'.get? b = some { cls := .type "tuple", data := .seq #[.int n t, .int y u] } := fun j b hj => by
    obtain ⟨key, k, x, e1, e2, e3⟩ := hG.pairs j b hj
    obtain ⟨e0, he0, r1, r2⟩ := pgetR rel e1
    unfold kvV at he0
    rw [List.getElem?_map] at he0
    cases hj2 : L[j]? with
    | none => rw [hj2] at he0; cases he0
    | some w =>
      rw [hj2] at he0
      cases he0
      obtain ⟨u, rfl⟩ := (show ∃ u, x = Value.int w.2 u from r2)
      have e2 : L2.keyIs k key = true := e2
      have r1 : (Sum.inl w.1 : L2.Key) = k := r1
      subst r1
      rcases L2.keyIs_shape e2 with ⟨i, t, ek, ev⟩ | ⟨y, t, ek, ev⟩
      · cases ek
        subst ev
        exact ⟨w.1, w.2, t, u, rfl, e3⟩
      · cases ek
  have I1 : L2.Inv X pins σ H { s with heap := h', toks := tk } := I.kept (t' := tk) hk
  obtain ⟨H2, I2, kp2, at2⟩ := L2.DX.takeT (P := fun a ws => ∃ (j : Nat) (n y : Int), as[j]? = some a ∧ L[j]? = some (n, y) ∧ ws = [V.int n, V.int y]) I as H I1 nd fun a ha => by
    obtain ⟨j, hj⟩ := List.mem_iff_getElem?.mp ha
    obtain ⟨n, y, t, u, e1, e2⟩ := pr j a hj
    exact ⟨Nat.le_of_lt (hG.above a ha), I.hok.fresh (Nat.le_of_lt (hG.above a ha)), [.int n, .int y], ⟨j, n, y, hj, e1, rfl⟩, fun H2 => ⟨by show 2 ≤ sizeLine; decide, [.int n t, .int y u], .cons ⟨t, rfl⟩ (.cons ⟨u, rfl⟩ .nil), ⟨_, e2, rfl, _, rfl⟩⟩⟩
  have hlen : (as.map Value.ref).length ≤ sizeLine := by rw [List.length_map, hl]; omega
  refine wpAny_bind (wpAny_newList ?_ hlen)
  have hob : (h'.push (seqObj "list" (as.map Value.ref).toArray 0)).get? h'.objs.size = some (seqObj "list" (as.map Value.ref).toArray 0) := Heap.get?_push_size _ rfl
  show wpAny _ _ _ _ _ { s with heap := h'.push (seqObj "list" (as.map Value.ref).toArray 0), toks := tk }
  let kf : Value → Int × Int := fun v => match v with
    | .ref a => (L[as.idxOf a]?).getD (0, 0)
    | _ => (0, 0)
  have ixj : ∀ (j : Nat) (a : Addr), as[j]? = some a → as.idxOf a = j := fun j a hj => by
    obtain ⟨hlt, e⟩ := List.getElem?_eq_some_iff.mp hj
    rw [← e]
    exact nd.idxOf_getElem j hlt
  have kfa : ∀ (j : Nat) (a : Addr) (w : Int × Int), as[j]? = some a → L[j]? = some w → kf (.ref a) = w := fun j a w h1 h2 => by
    show (L[as.idxOf a]?).getD (0, 0) = w
    rw [ixj j a h1, h2]
    rfl
  have hpr : ∀ v ∈ as.map Value.ref, Srt.IsPair (h'.push (seqObj "list" (as.map Value.ref).toArray 0)) v (kf v).1 (kf v).2 := fun v hv => by
    obtain ⟨a, ha, rfl⟩ := List.mem_map.mp hv
    obtain ⟨j, hj⟩ := List.mem_iff_getElem?.mp ha
    obtain ⟨n, y, t, u, e1, e2⟩ := pr j a hj
    rw [kfa j a _ hj e1]
    exact ⟨a, _, t, u, _, rfl, Heap.get?_push_of_some _ e2, rfl, rfl⟩
  refine wpAny_bind (wpAny_holding (wpAny_call_entry slot_list_sort ⟨_, hob, rfl⟩ entry_list_sort
    (SrtO.list_sort_ord (s := { s with heap := h'.push (seqObj "list" (as.map Value.ref).toArray 0), toks := tk }) (SrtO.swo_lex kf) hob hlen (fun h2 => SrtO.pairs_sortableO (by omega) hpr fun o e => ?_) fun out g1 g2 => ⟨_, rfl, ?_⟩) (args_list_sort _)))
  · have e' : some o = some (seqObj "list" (as.map Value.ref).toArray 0) := e.symm.trans hob
    cases e'
    intro c
    exact absurd (Value.type.inj c) (by decide)
  · obtain ⟨e', he'⟩ := sortedHeap_at (vs := as.map Value.ref) (out := out.toArray) hob
    have mem : ∀ v ∈ out, ∃ a ∈ as, v = Value.ref a := fun v hv => by
      obtain ⟨a, ha, e⟩ := List.mem_map.mp (g2.perm.mem_iff.mp hv)
      exact ⟨a, ha, e.symm⟩
    have olen : (out.map L2.backV).length ≤ sizeLine := by rw [List.length_map, g2.perm.length_eq]; exact hlen
    have fresh2 : H2 h'.objs.size = none := I2.hok.fresh (Nat.le_refl _)
    have back : ∀ us : List Value, (∀ v ∈ us, ∃ a, v = Value.ref a) → Vals (us.map L2.backV) us := by
      intro us
      induction us with
      | nil => intro _; exact .nil
      | cons v us ih =>
        intro h
        obtain ⟨a, rfl⟩ := h v (by simp)
        exact .cons rfl (ih fun w hw => h w (by simp [hw]))
    let adr : Value → Addr := fun v => match v with
      | .ref a => a
      | _ => 0
    refine wpAny_pure ⟨_, rfl, .ref h'.objs.size, upd H2 h'.objs.size (.lst (out.map L2.backV)), I2.laid (t' := tk) (fun b u e => ?_) (Nat.le_refl _)
      (show L2.ObjOk X.prog X.w _ _ _ (.lst (out.map L2.backV)) from ⟨olen, out, e', back out fun v hv => let ⟨a, _, e⟩ := mem v hv; ⟨a, e⟩, he'⟩), rfl, ?_⟩
    · have hb : b < h'.objs.size := Heap.lt_size e
      rw [sortedHeap_old (Nat.ne_of_lt hb) (by rw [Heap.size_push]; exact Nat.lt_succ_of_lt hb)]
      exact Heap.get?_push_of_some _ e
    · refine q _ h'.objs.size (out.map fun v => (adr v, kf v)) (fun b o e => ?_) ?_ (fun w hw => ?_) ?_ ?_ ?_
      · rw [upd_ne (ne_of_none (kp2 b o e) fresh2)]; exact kp2 b o e
      · cases e : H h'.objs.size with
        | none => rfl
        | some o => rw [kp2 _ _ e] at fresh2; cases fresh2
      · obtain ⟨v, hv, rfl⟩ := List.mem_map.mp hw
        obtain ⟨a, ha, rfl⟩ := mem v hv
        obtain ⟨ws, ⟨j, n, y, h1, h2, h3⟩, h4⟩ := at2 a ha
        have hne : a ≠ h'.objs.size := Nat.ne_of_lt (hG.there ha)
        refine ⟨I.hok.fresh (Nat.le_of_lt (hG.above a ha)), hne, ?_⟩
        show upd H2 h'.objs.size (.lst (out.map L2.backV)) a = some (.tup [.int (kf (.ref a)).1, .int (kf (.ref a)).2])
        rw [upd_ne hne, h4, h3, kfa j a _ h1 h2]
      · rw [List.map_map]
        have e1 : (out.map ((fun x => x.2) ∘ fun v => (adr v, kf v))) = out.map kf := rfl
        rw [e1]
        have e2 := g2.perm.map kf
        have e3 : (as.map Value.ref).map kf = L := by
          rw [List.map_map]
          refine List.ext_getElem? fun j => ?_
          rw [List.getElem?_map]
          cases hj : as[j]? with
          | none =>
            have : L[j]? = none := by
              rw [List.getElem?_eq_none_iff] at hj ⊢
              omega
            rw [this]; rfl
          | some a =>
            obtain ⟨n, y, t, u, h1, h2⟩ := pr j a hj
            rw [h1]
            show some (kf (.ref a)) = _
            rw [kfa j a _ hj h1]
        rw [e3] at e2
        exact e2
      · rw [List.map_map]
        exact List.pairwise_map.mpr (g1.imp fun {x y} h => h)
      · rw [upd_same, List.map_map]
        congr 2
        refine List.map_congr_left fun v hv => ?_
        obtain ⟨a, ha, rfl⟩ := mem v hv
        rfl
end O

/-! Own65: sorted(d.items()), on data -/
namespace O
open PySem
open L2 (V Hp HO Rd SqT SqL upd upd_same upd_ne ne_of_none TE TA St PE PA Cx CallR MtR VK XK Vals tCB tCons tNil Gl)
def rItemsK : V → List V → Hp → VK → Prop := fun x xs H Q => ∃ (a : Addr) (kvs : List (L2.Key × V)), x = .ref a ∧ xs = [] ∧ Rd H a (.dK kvs) ∧ ∀ p, H p = none → Q (.ref p) (upd H p (L2.DX.itemsO p a))
theorem mt_itemsK {X : Cx} : MtR X "dict.items" rItemsK := by
  intro pins s σ H x xs v us Q I rx rxs h
  obtain ⟨a, kvs, rfl, rfl, ha, q⟩ := h
  cases rx
  cases rxs
  obtain ⟨z, lo, vs, rel, dd⟩ := L2.dk_rd I.hok ha
  refine call_meetsIn PySem.F.slot_dict_items dd.typeIs PySem.F.entry_dict_items (PySem.F.args_dict_items_1 _) (meets_dict_items (L2.mixKind X.prog X.w) a lo) ⟨⟨vs, dd⟩, ?_⟩
  have hf : H s.heap.objs.size = none := I.hok.fresh (Nat.le_refl _)
  exact ⟨.ref s.heap.objs.size, upd H s.heap.objs.size (L2.DX.itemsO s.heap.objs.size a), I.laid (t' := s.toks) (fun b u e => Heap.get?_push_of_some _ e) (Nat.le_refl _) (L2.DX.itemsO_ok (Heap.get?_push_size _ rfl)), rfl, q _ hf⟩
theorem ext_many {Hd H H' : Hp} {as : List Addr} (l : Le Hd H) (keep : ∀ b o, H b = some o → H' b = some o) (hn : ∀ a ∈ as, H a = none) : Ext Hd H (fun b => if b ∈ as then H' b else Hd b) H' where
  hd := .of_ext fun b u e => by
    have : b ∉ as := fun z => by rw [l.noneB (hn b z)] at e; cases e
    rw [if_neg this]; exact e
  le := by
    refine ⟨fun a u r => ?_, fun a o u r => ?_⟩
    · by_cases h : a ∈ as
      · unfold Rd at r ⊢
        simp only [if_pos h] at r
        exact r
      · have r' : Rd Hd a u := by
          unfold Rd at r ⊢
          simp only [if_neg h] at r
          exact r
        rcases l a u r' with q | ⟨o, q⟩
        · exact .inl (keep _ _ q)
        · exact .inr ⟨o, keep _ _ q⟩
    · by_cases h : a ∈ as
      · simp only [if_pos h] at r
        exact r
      · simp only [if_neg h] at r
        exact keep _ _ (l.fr a o u r)
  fr := fun b h => by
    by_cases hb : b ∈ as
    · exact .inr (hn b hb)
    · simp only [if_neg hb] at h
      exact .inl h
  keep := keep
def rwP (p : Int × Int) : List Int := [p.1, p.2]
theorem lex_rwP (p q : Int × Int) : HT.lexLt (rwP p) (rwP q) = SrtO.lexB p q := by
  unfold rwP SrtO.lexB
  simp only [HT.lexLt]
  split
  · split
    · rename_i h1 h2; simp [h2]
    · rfl
  · rfl
theorem sortP_is {M L : List (Int × Int)} (hp : M.Perm L) (hs : M.Pairwise fun p q => SrtO.lexB q p = false) : M.map rwP = sortR (L.map rwP) := by
  refine rows_uniq ((hp.map rwP).trans (sortR_perm _).symm) ?_ (sortR_sorted _)
  exact List.pairwise_map.mpr (hs.imp fun {x y} h => by rw [lex_rwP]; exact h)
def aSI (ρ : O.Env) : Option (List (Int × Int)) → Res RV
  | some L => .ok (.own (.lst ((sortR (L.map rwP)).map rowT))) ρ
  | none => .no
@[simp] theorem aSI_some {ρ : O.Env} {L : List (Int × Int)} : aSI ρ (some L) = .ok (.own (.lst ((sortR (L.map rwP)).map rowT))) ρ := id rfl
def kSI (ρ : O.Env) : Option OD → Res RV
  | some (.dic kvs) => aSI ρ (intKV kvs)
  | _ => .no
@[simp] theorem kSI_some {ρ : O.Env} {kvs : List (L2.Key × D)} : kSI ρ (some (.dic kvs)) = aSI ρ (intKV kvs) := id rfl
def fSortIt (i : Nat) : O.Env → Res RV := fun ρ => kSI ρ (ownAt i ρ)
@[simp] theorem u_fSortIt {i : Nat} {ρ : O.Env} : fSortIt i ρ = kSI ρ (ownAt i ρ) := id rfl
def tSortIt (K : PySem.W.Frag) (te : TE) : TE := tCB rSortedIK (tCons (L2.tBM0 K "dict" rItemsK te) tNil)
theorem sd_sortIt {K : PySem.W.Frag} {W : St → XK} {i : Nat} : Sd K W (rV K) (tSortIt K (L2.tVar i)) (fSortIt i) := fun C fp Hd1 H1 σ1 ρ1 I1 Q p1 => by
    have p1 : Post K W C (rV K) fp Hd1 H1 σ1 (kSI ρ1 (ownAt i ρ1)) Q := p1
    cases eo : ownAt i ρ1 with
    | none => rw [eo] at p1; exact p1.elim
    | some o =>
      cases o with
      | fz d => rw [eo] at p1; exact p1.elim
      | lst d => rw [eo] at p1; exact p1.elim
      | ins c d => rw [eo] at p1; exact p1.elim
      | dic kvs =>
        rw [eo, kSI_some] at p1
        cases e2 : intKV kvs with
        | none => rw [e2] at p1; exact p1.elim
        | some L =>
          rw [e2, aSI_some] at p1
          obtain ⟨vv, hvv, ow, _, _⟩ := ownAt_ok I1 eo
          have hx : ∃ a kws, vv = V.ref a ∧ H1 a = some (.dK kws) ∧ Repk K Hd1 kvs kws := by
            generalize fp i = A at ow
            cases ow with
            | dic h r => exact ⟨_, _, rfl, h, r⟩
          obtain ⟨a, kws, rfl, ha0, ra⟩ := hx
          have ek := kvI_back ra e2
          subst ek
          have ha : Rd H1 a (.dK (L.map fun p => (.inl p.1, .int p.2))) := .inl ha0
          refine ⟨_, hvv, .inr (.inr (.inl ⟨rfl, .inl ⟨_, ha0⟩⟩)), a, _, rfl, rfl, ha, fun v hv => ⟨v, a, L, rfl, upd_same, ?_, fun H' l zs k1 k2 k3 k4 k5 k6 => ?_⟩⟩
          · rcases ha with h | ⟨o, h⟩
            · exact .inl (by rw [upd_ne (ne_of_none h hv)]; exact h)
            · exact .inr ⟨o, by rw [upd_ne (ne_of_none h hv)]; exact h⟩
          · have none1 : ∀ b, upd H1 v (L2.DX.itemsO v a) b = none → H1 b = none := fun b h => by
              by_cases hb : b = v
              · subst hb; exact hv
              · rw [upd_ne hb] at h; exact h
            have keep : ∀ b o, H1 b = some o → H' b = some o := fun b o e => k1 b o (by rw [upd_ne (ne_of_none e hv)]; exact e)
            have hn : ∀ c ∈ zs.map (·.1), H1 c = none := fun c hc => by
              obtain ⟨z, hz, rfl⟩ := List.mem_map.mp hc
              exact none1 _ (k3 z hz).1
            have hl : l ∉ zs.map (·.1) := fun hc => by
              obtain ⟨z, hz, e⟩ := List.mem_map.mp hc
              exact (k3 z hz).2.1 e
            have er : (sortR (L.map rwP)).map rowT = zs.map fun z => rowT (rwP z.2) := by
              rw [← sortP_is k4 k5, List.map_map, List.map_map]
              rfl
            rw [er] at p1
            refine p1.new I1 ⟨_, ext_many I1.le keep hn, [l], .lst k6 ?_, by simp, fun c hc => ?_⟩
            · have go : ∀ ys : List (Addr × Int × Int), (∀ z ∈ ys, z ∈ zs) → Reps K (fun b => if b ∈ zs.map (·.1) then H' b else Hd1 b) (ys.map fun z => rowT (rwP z.2)) (ys.map fun z => V.ref z.1) := by
                intro ys
                induction ys with
                | nil => intro _; exact .nil
                | cons z ys ih =>
                  intro h
                  have hz := h z (by simp)
                  refine .cons (.tup (vs := [.int z.2.1, .int z.2.2]) (.inl (.inl ?_)) (.cons (.int _) (.cons (.int _) .nil))) (ih fun w hw => h w (by simp [hw]))
                  show (if z.1 ∈ zs.map (·.1) then H' z.1 else Hd1 z.1) = _
                  rw [if_pos (List.mem_map.mpr ⟨z, hz, rfl⟩)]
                  exact (k3 z hz).2.2
              exact go zs fun z h => h
            · simp at hc
              subst hc
              exact ⟨none1 _ k2, by show (if c ∈ zs.map (·.1) then H' c else Hd1 c) = none; rw [if_neg hl]; exact I1.le.noneB (none1 _ k2)⟩
section
variable {X : Cx} {W : St → XK} {x : Str} {p p2 apos cpos pos : Pos} {i : Nat}
theorem jsortIt {K : PySem.W.Frag} (hc : X.calm = true) (hm : X.mg "sorted" = none) (he : JE X W (.Name x p2) (L2.tVar i) (fVar i)) (hbase : attributeBase (.Name x p2) "items" X.env (eval (.Name x p2) X.env) = eval (.Name x p2) X.env := by rfl) (hline : (apos.endLine == cpos.line) = true := by rfl) (hg : Gl X "sorted" := by rfl)
    (hs : starEach [.Call (.Attribute (.Name x p2) "items" apos) [] [] cpos] X.env = (false, eval (.Call (.Attribute (.Name x p2) "items" apos) [] [] cpos) X.env) :: starEach [] X.env := by rfl) (hpl : (backTo pos (starEach [] X.env)).any (·.1) = false := by rfl) (hK : X.K = K := by rfl) :
    JE X W (.Call (.Name "sorted" p) [.Call (.Attribute (.Name x p2) "items" apos) [] [] cpos] [] pos) (tSortIt K (L2.tVar i)) (fSortIt i) := by
  subst hK
  exact ⟨L2.pe_callB (cr_sortedIK hc) hg hm (by decide +kernel) (L2.pa_cons (L2.pe_bm0 PySem.F.plainAttrs_dict PySem.F.slot_dict_items PySem.F.type_dict_items mt_itemsK he.pe hbase hline) L2.pa_nil hs) (by decide) (by decide) hs hpl, sd_sortIt⟩
end
end O

/-! Own66: max of a list of ints; ints of many digits are shown -/
namespace O
open PySem
open L2 (V Hp HO Rd Cx CallR)
theorem bigI_ok {i : Int} (h : i.natAbs < 10 ^ 90) : intOk i = true := by
  unfold intOk
  have a : (PyData.shown (.int i)).length ≤ 91 := by
    have e := int_text_length_le10 (k := 90) (by decide) h
    show (Str.ofString (toString i)).length ≤ 91
    rw [ofString_length]; exact e
  have b : i.natAbs.log2 < 1920 := by
    by_cases h0 : i.natAbs = 0
    · rw [h0]; decide
    · have e1 : ((10 : Nat) ^ 3) ^ 30 < (2 ^ 10) ^ 30 := Nat.pow_lt_pow_left (by decide) (by decide)
      rw [← Nat.pow_mul, ← Nat.pow_mul] at e1
      have e2 : (2 : Nat) ^ (10 * 30) ≤ 2 ^ 1920 := Nat.pow_le_pow_right (by omega) (by omega)
      exact (Nat.log2_lt h0).mpr (Nat.lt_of_lt_of_le (Nat.lt_trans h e1) e2)
  simp only [Bool.and_eq_true, decide_eq_true_eq]
  exact ⟨by omega, b⟩
def gMaxI : List D → Option RV
  | [.lst ds] => match intsD ds with
    | some (n :: ns) => some (.val (.int ((n :: ns).foldl max n)))
    | _ => none
  | xs => gMax xs
theorem fold_max : ∀ (ns : List Int) (b : Int), (ns.foldl max b = b ∨ ns.foldl max b ∈ ns) ∧ b ≤ ns.foldl max b ∧ ∀ y ∈ ns, y ≤ ns.foldl max b
  | [], b => ⟨.inl rfl, Int.le_refl _, by simp⟩
  | x :: ns, b => by
    obtain ⟨h1, h2, h3⟩ := fold_max ns (max b x)
    refine ⟨?_, ?_, fun y hy => ?_⟩
    · show (ns.foldl max (max b x) = b ∨ ns.foldl max (max b x) ∈ x :: ns)
      rcases h1 with h | h
      · rw [h]
        by_cases c : b ≤ x
        · rw [Int.max_eq_right c]; simp
        · rw [Int.max_eq_left (by omega)]; simp
      · simp [h]
    · show b ≤ ns.foldl max (max b x)
      omega
    · show y ≤ ns.foldl max (max b x)
      rcases List.mem_cons.mp hy with rfl | hy
      · omega
      · exact h3 y hy
theorem cb_maxI {X : Cx} (hc : X.calm = true) : CallR X (.builtin "max") (rGC X.K gMaxI) := by
  intro pins s σ H xs us Q I r ⟨Hd, ds, z, l, t, eg, q⟩
  by_cases h : ∃ es, ds = [.lst es]
  · obtain ⟨es, rfl⟩ := h
    simp only [gMaxI] at eg
    cases e1 : intsD es with
    | none => rw [e1] at eg; cases eg
    | some ns =>
      cases ns with
      | nil => rw [e1] at eg; cases eg
      | cons n ns =>
        rw [e1] at eg
        cases eg
        obtain ⟨x, rfl, w⟩ := tops1 t
        obtain ⟨a, ys, rfl, h1, r1⟩ := w.lstD l
        have ey := intsD_ok r1 e1
        subst ey
        refine L2.cr_max hc pins s σ H _ us Q I r ⟨a, n :: ns, rfl, .inl h1, by simp, fun m hm hy => ?_⟩
        obtain ⟨k1, k2, k3⟩ := fold_max (n :: ns) n
        have mm : m = (n :: ns).foldl max n := by
          have a1 := k3 m hm
          rcases k1 with k | k
          · have := hy n (by simp); omega
          · have := hy _ k; omega
        rw [mm]
        exact q _ _ (newR_here l (.int _))
  · have eg' : gMax ds = some z := by
      have : gMaxI ds = gMax ds := by
        match ds with
        | [] => rfl
        | [.lst es] => exact absurd ⟨es, rfl⟩ h
        | [.non] => rfl
        | [.bl _] => rfl
        | [.int _] => rfl
        | [.str _] => rfl
        | [.tup _] => rfl
        | [.dic _] => rfl
        | [.dlk _] => rfl
        | [.scr _] => rfl
        | [.set _] => rfl
        | x :: _ :: _ => cases x <;> rfl
      rw [← this]; exact eg
    exact cb_max hc pins s σ H xs us Q I r ⟨Hd, ds, z, l, t, eg', q⟩
end O

/-! Own67: walks over the items and over the values of a locked dict -/
namespace O
open PySem
open L2 (V Hp HO Rd upd TE TI St Cx)
section
variable {K : PySem.W.Frag} {W : St → L2.XK}
def gItKV : D → Option (List D)
  | .dlk kvs => some (kvs.map fun kv => .tup [kDD kv.1, kv.2])
  | _ => none
def gItVs : D → Option (List D)
  | .dlk kvs => some (kvs.map fun kv => kv.2)
  | _ => none
theorem Repk.at_ {H : Hp} {k : L2.Key} {v : V} : ∀ {i : Nat} {kvs : List (L2.Key × D)} {kws : List (L2.Key × V)}, Repk K H kvs kws → kws[i]? = some (k, v) → ∃ d, kvs[i]? = some (k, d) ∧ Rep K H d v
  | _, _, _, .nil, e => by cases e
  | 0, _, _, .cons h r, e => by cases e; exact ⟨_, rfl, h⟩
  | i + 1, _, _, .cons h r, e => Repk.at_ (i := i) r e
theorem si_items {te : TE} {fe : O.Env → Res RV} (he : Sd K W (rV K) te fe) : Si K W (L2.iItems te) (fWalk fe gItKV) :=
  si_of (k := fun x H1 R => ∃ d o kvs, x = V.ref d ∧ H1 d = some (.frz o (.dK kvs)) ∧ R (L2.Iti d o kvs) H1) he rfl fun C Hs fp Hd H σ ρ d ds v I hr eg R p => by
    cases d with
    | dlk kvs =>
      cases eg
      have h := rWk_rep rfl hr
      have h0 := h _ _ _ _ _ I (.refl _)
      cases h0 with
      | dlk hH rk =>
        rename_i a o kws
        refine ⟨a, o, kws, rfl, I.le.fr _ _ _ hH, p _ ?_⟩
        unfold WalkD
        have hl : (kvs.map fun kv => D.tup [kDD kv.1, kv.2]).length = kws.length := by rw [List.length_map, rk.length]
        rw [hl]
        refine L2.walk_items.mono (fun H' ⟨fp', Hd', σ', ρ', I', l'⟩ => I'.le.fr _ _ _ (l'.fr _ _ _ hH)) fun i H' x H'' hi ⟨fp', Hd', σ', ρ', I', l'⟩ ⟨T, x1, y1, e0, e3, e4, g1, g2⟩ => ?_
        subst e0 e4
        obtain ⟨k, w, e1, rfl, rfl⟩ : ∃ k w, kws[i]? = some (k, w) ∧ x1 = L2.kV k ∧ y1 = w := by
          have g1 : (kws[i]?.map fun kv => L2.kV kv.1) = some x1 := g1
          have g2 : (kws[i]?.map fun kv => kv.2) = some y1 := g2
          cases hk : kws[i]? with
          | none => rw [hk] at g1; cases g1
          | some q =>
            rw [hk] at g1 g2
            exact ⟨q.1, q.2, rfl, (Option.some.inj g1).symm, (Option.some.inj g2).symm⟩
        obtain ⟨d, e5, rd⟩ := rk.at_ e1
        refine ⟨.tup [kDD k, d], by rw [List.getElem?_map, e5]; rfl, fun fp3 Hd3 σ3 ρ3 I3 l3 => ?_⟩
        exact newR_tup I3.le e3 (.cons (kDD_rep k) (.cons (rd.mono l3) .nil))
    | _ => cases eg
theorem si_vals {te : TE} {fe : O.Env → Res RV} (he : Sd K W (rV K) te fe) : Si K W (L2.iVals te) (fWalk fe gItVs) :=
  si_of (k := fun x H1 R => ∃ d o kvs, x = V.ref d ∧ H1 d = some (.frz o (.dK kvs)) ∧ R (L2.Itd d o kvs) H1) he rfl fun C Hs fp Hd H σ ρ d ds v I hr eg R p => by
    cases d with
    | dlk kvs =>
      cases eg
      have h := rWk_rep rfl hr
      have h0 := h _ _ _ _ _ I (.refl _)
      cases h0 with
      | dlk hH rk =>
        rename_i a o kws
        refine ⟨a, o, kws, rfl, I.le.fr _ _ _ hH, p _ ?_⟩
        unfold WalkD
        have hl : (kvs.map fun kv => kv.2).length = kws.length := by rw [List.length_map, rk.length]
        rw [hl]
        refine L2.walk_values.mono (fun H' ⟨fp', Hd', σ', ρ', I', l'⟩ => I'.le.fr _ _ _ (l'.fr _ _ _ hH)) fun i H' x H'' hi ⟨fp', Hd', σ', ρ', I', l'⟩ ⟨e1, k, e2⟩ => ?_
        subst e1
        obtain ⟨d, e5, rd⟩ := rk.at_ e2
        refine ⟨d, by rw [List.getElem?_map, e5]; rfl, fun fp3 Hd3 σ3 ρ3 I3 l3 => ?_⟩
        exact newR_here I3.le (rd.mono l3)
    | _ => cases eg
end
section
variable {X : Cx} {W : St → L2.XK} {tg e : Expr} {te : TE} {fe : O.Env → Res RV} {apos cpos : Pos}
theorem jitems {elts : List Expr} {kk : Nat} {tpos : Pos} (he : JE X W e te fe) (hbase : attributeBase e "items" X.env (eval e X.env) = eval e X.env := by rfl) (hline : (apos.endLine == cpos.line) = true := by rfl) : JI X W (.Tuple elts kk tpos) (.Call (.Attribute e "items" apos) [] [] cpos) (L2.iItems te) (fWalk fe gItKV) := ⟨L2.pi_items he.pe hbase hline, si_items he.se⟩
theorem jvalues (he : JE X W e te fe) (hbase : attributeBase e "values" X.env (eval e X.env) = eval e X.env := by rfl) (hline : (apos.endLine == cpos.line) = true := by rfl) : JI X W tg (.Call (.Attribute e "values" apos) [] [] cpos) (L2.iVals te) (fWalk fe gItVs) := ⟨L2.pi_values he.pe hbase hline, si_vals he.se⟩
end
end O

/-! Own68: a dict's values in a display, list(d.values()) -/
namespace O
open PySem
open L2 (V Hp HO Rd SqT SqL upd upd_same upd_ne ne_of_none TE TA St PE PA Cx CallR VK XK Vals RelV Gl KV)
/-- what d.values() gives, told to what walks it -/
theorem run_vals {X : Cx} {e : Expr} {td : TE} {apos cpos : Pos} (he : PE X e td) (hbase : attributeBase e "values" X.env (eval e X.env) = eval e X.env) (hline : (apos.endLine == cpos.line) = true) {T : List (L2.Key × V) → Hp → Prop}
    {pins : List (Addr × Obj)} {s : Shared} {σ : St} {H : Hp} {R : Value → Shared → Prop} (I : L2.Inv X pins σ H s) (h : td σ H fun x H1 => ∃ a kvs, x = V.ref a ∧ Rd H1 a (.dK kvs) ∧ T kvs H1)
    (k : ∀ (s1 : Shared) (p a : Addr) (kvs : List (L2.Key × V)) (vs : List (L2.Key × Value)) (ep : Nat) (H1 : Hp), L2.Inv X pins σ H1 s1 → T kvs H1 → KV kvs vs → s1.heap.IsValuesView p a → s1.heap.DictAt (L2.mixKind X.prog X.w) a vs ep → kvs.length ≤ sizeLine → R (.ref p) s1) :
    wpAny (model X.prog X.w) X.A (eval (.Call (.Attribute e "values" apos) [] [] cpos) X.env) R X.xe s := by
  refine wpAny_Call_method (T := "dict") (id := "dict.values") hbase rfl hline F.plainAttrs_dict F.slot_dict_values F.type_dict_values (L2.thn (he.run pins s σ H _ I h) fun u s1 ⟨x, H1, I1, rx, a, kvs, ex, hd, t⟩ => ?_)
  subst ex
  obtain rfl : u = Value.ref a := rx
  obtain ⟨hl, hs, vs, kv, dof⟩ := L2.dk_rd I1.hok hd
  obtain ⟨ep, dat⟩ := dof.dictAt
  refine ⟨dof.typeIs, dof.mapOf.noDict, ?_⟩
  have I2 : L2.Inv X pins σ H1 { s1 with heap := s1.heap.push { cls := .type "dict_values", data := .fields #[.ref a] } } := I1.kept (t' := s1.toks) fun b ob q => Heap.get?_push_of_some _ q
  have d2 := dat.push ({ cls := .type "dict_values", data := .fields #[.ref a] } : Obj)
  show wpAny _ _ (callWith cpos (.builtin "dict.values") [.ref a] [] []) _ X.xe s1
  exact method_meetsIn F.slot_dict_values F.entry_dict_values rfl (PySem.evalArgs_none ⟨rfl, dof.typeIs, F.args_dict_values_1 _, _, meets_dict_values (L2.mixKind X.prog X.w) a hs, ⟨vs, dof⟩, k _ _ a kvs vs ep H1 I2 t kv ⟨_, Heap.get?_push_size _ rfl, rfl, rfl⟩ d2 hl⟩)
theorem kv_len : ∀ {kvs : List (L2.Key × V)} {vs : List (L2.Key × Value)}, KV kvs vs → kvs.length = vs.length := fun r => Paired.length r
theorem kv_vals : ∀ {kvs : List (L2.Key × V)} {vs : List (L2.Key × Value)}, KV kvs vs → Vals (kvs.map (·.2)) (vs.map (·.2))
  | [], [], _ => .nil
  | _ :: _, _ :: _, .cons a r => .cons a.2 (kv_vals r)
theorem items_vals {vs : List (L2.Key × Value)} {acc : Array Value} (h : ItemsOf (fun i v => ∃ k, vs[i]? = some (k, v)) acc vs.length) : acc.toList = vs.map (·.2) := by
  refine List.ext_getElem? fun j => ?_
  rw [Array.getElem?_toList, List.getElem?_map]
  by_cases hj : j < acc.size
  · obtain ⟨k, e⟩ := h.2 j _ (Array.getElem?_eq_getElem hj)
    rw [e, Array.getElem?_eq_getElem hj]
    rfl
  · rw [Array.getElem?_eq_none (Nat.le_of_not_lt hj), List.getElem?_eq_none (by rw [← h.1]; exact Nat.le_of_not_lt hj)]
    rfl
/-! ### [*d.values(), ..] -/
def tStarV (td : TE) (t : TA) : TA := fun σ H Q => td σ H fun x H1 => ∃ a kvs, x = V.ref a ∧ Rd H1 a (.dK kvs) ∧ t σ H1 fun ys H2 => Q (kvs.map (·.2) ++ ys) H2
section
variable {X : Cx} {W : St → XK} {e : Expr} {es : List Expr} {td : TE} {t : TA} {fe : O.Env → Res RV} {fr : O.Env → Res (List RV)} {p apos cpos pos : Pos}
theorem pa_starV (hc : X.calm = true) (he : PE X e td) (hr : PA X es t) (hbase : attributeBase e "values" X.env (eval e X.env) = eval e X.env) (hline : (apos.endLine == cpos.line) = true)
    (hs : starEach (.Starred (.Call (.Attribute e "values" apos) [] [] cpos) p :: es) X.env = (true, eval (.Call (.Attribute e "values" apos) [] [] cpos) X.env) :: starEach es X.env) : PA X (.Starred (.Call (.Attribute e "values" apos) [] [] cpos) p :: es) (tStarV td t) := by
  refine ⟨fun pos pins s σ H Q I h => ?_⟩
  refine PySem.W.items_star (run_vals (T := fun kvs H1 => t σ H1 fun ys H2 => Q (kvs.map (·.2) ++ ys) H2) he hbase hline I h fun s1 p a kvs vs ep H1 I1 q kv hv hat hl => ?_) hs
  unfold PySem.W.StarOf notIterableAtAll
  refine wpAny_bind (wpAny_specialOf hv.typeIs PySem.F.slot_dict_values_iter.lookup (wpAny_pure ⟨rfl, ?_⟩))
  refine PySem.W.kdu_collect (PySem.W.kdl_values (knd := L2.mixKind X.prog X.w) (r := p) (d := a) (kvs := vs) (ep := ep)) (I1.ok.hd hc) ⟨hv, hat⟩ (by rw [← kv_len kv]; exact hl) fun h' tk acc hk hacc => ?_
  have I2 : L2.Inv X pins σ H1 { s1 with heap := h', toks := tk } := I1.kept (t' := tk) hk
  have rv : Vals (kvs.map (·.2)) acc.toList := by rw [items_vals hacc]; exact kv_vals kv
  exact L2.thn (hr.run pos pins _ σ H1 _ I2 q) fun ws s3 ⟨ys, H3, I3, r3, q3⟩ => ⟨kvs.map (·.2) ++ ys, H3, I3, rv.append r3, q3⟩
def dvsK : D → Option (List (L2.Key × D))
  | .dlk kvs => some kvs
  | .dic kvs => some kvs
  | _ => none
def aStarV (fe : O.Env → Res RV) (fr : O.Env → Res (List RV)) : O.Env → Res (List RV) := fun ρ => (fe ρ).bind fun r ρ1 => match (rd r ρ1).bind dvsK with
  | some kvs => (fr ρ1).bind fun rs ρ2 => .ok (kvs.map (fun kv => .val kv.2) ++ rs) ρ2
  | none => .no
theorem Repk.reps {K : PySem.W.Frag} {H : Hp} : ∀ {kvs : List (L2.Key × D)} {kws : List (L2.Key × V)}, Repk K H kvs kws → Reps K H (kvs.map (·.2)) (kws.map (·.2))
  | _, _, .nil => .nil
  | _, _, .cons h r => .cons h (Repk.reps r)
theorem Top.dvs {K : PySem.W.Frag} {Hd H : Hp} {d : D} {kvs : List (L2.Key × D)} {v : V} (l : Le Hd H) (t : Top K Hd H d v) (e : dvsK d = some kvs) : ∃ a kws, v = .ref a ∧ Rd H a (.dK kws) ∧ Repk K Hd kvs kws := by
  cases d with
  | dlk ks =>
    cases e
    obtain ⟨a, o, kws, rfl, h, r⟩ := t.dlkD l
    exact ⟨a, kws, rfl, .inr ⟨_, h⟩, r⟩
  | dic ks =>
    cases e
    exact t.dicD l
  | _ => cases e
theorem sa_starV {K : PySem.W.Frag} (he : Sd K W (rV K) td fe) (hr : Sd K W (rA K) t fr) : Sd K W (rA K) (tStarV td t) (aStarV fe fr) := fun C fp Hd H σ ρ I Q p =>
  he.run I p fun r v fp0 Hd0 H0 ρ0 s0 I0 h p => by
    have h := rV_loose h
    cases e1 : (rd r ρ0).bind dvsK with
    | none => simp only [e1] at p; exact p.elim
    | some kvs =>
      simp only [e1] at p
      cases e2 : rd r ρ0 with
      | none => rw [e2] at e1; cases e1
      | some d =>
        rw [e2] at e1
        obtain ⟨a, kws, rfl, ha, rk⟩ := (I0.rdTop h e2).dvs I0.le e1
        refine ⟨a, kws, rfl, ha, hr.run I0 p fun rs ys fp1 Hd1 H1 ρ1 s1 I1 hs p => p.now I1 ?_⟩
        have e3 : (kvs.map fun kv => RV.val kv.2) = (kvs.map (·.2)).map RV.val := by rw [List.map_map]; rfl
        rw [e3]
        exact (rvs_vals (rk.reps.mono s1.hd)).append hs
theorem jstarV (hc : X.calm = true) (he : JE X W e td fe) (hr : JA X W es t fr) (hbase : attributeBase e "values" X.env (eval e X.env) = eval e X.env := by rfl) (hline : (apos.endLine == cpos.line) = true := by rfl)
    (hs : starEach (.Starred (.Call (.Attribute e "values" apos) [] [] cpos) p :: es) X.env = (true, eval (.Call (.Attribute e "values" apos) [] [] cpos) X.env) :: starEach es X.env := by rfl) : JA X W (.Starred (.Call (.Attribute e "values" apos) [] [] cpos) p :: es) (tStarV td t) (aStarV fe fr) :=
  ⟨pa_starV hc he.pe hr.pa hbase hline hs, sa_starV he.se hr.sa⟩
/-! ### list(d.values()) -/
def tListV (td : TE) : TE := fun σ H Q => td σ H fun x H1 => ∃ a kvs, x = V.ref a ∧ Rd H1 a (.dK kvs) ∧ ∀ l, H1 l = none → Q (.ref l) (upd H1 l (.lst (kvs.map (·.2))))
theorem pe_listV (hc : X.calm = true) (he : PE X e td) (hm : X.mg "list" = none) (hbase : attributeBase e "values" X.env (eval e X.env) = eval e X.env) (hline : (apos.endLine == cpos.line) = true) (hg : Gl X "list")
    (hs : starEach [.Call (.Attribute e "values" apos) [] [] cpos] X.env = (false, eval (.Call (.Attribute e "values" apos) [] [] cpos) X.env) :: starEach [] X.env) : PE X (.Call (.Name "list" p) [.Call (.Attribute e "values" apos) [] [] cpos] [] pos) (tListV td) := by
  refine ⟨fun pins s σ H Q I hq => ?_⟩
  refine wpAny_Call_Name_kw (L2.ld_blt I hg hm (u := .type "list") (by decide +kernel) ?_)
  refine PyProof.Rows.callWith_type1 ?_ hs rfl
  rw [hs]
  show wpAny _ _ (spliced ((false, eval (.Call (.Attribute e "values" apos) [] [] cpos) X.env) :: backTo pos (starEach [] X.env))) _ _ s
  refine Calls.spliced_cons ?_
  refine run_vals (T := fun (kvs : List (L2.Key × V)) H1 => ∀ l, H1 l = none → Q (.ref l) (upd H1 l (.lst (kvs.map fun kv : L2.Key × V => kv.2)))) he hbase hline I hq fun s1 p a kvs vs ep H1 I1 q kv hv hat hl => ?_
  refine Calls.spliced_nil ?_
  refine PySem.W.kdl_call (PySem.W.kdl_values (knd := L2.mixKind X.prog X.w) (r := p) (d := a) (kvs := vs) (ep := ep)) (I1.ok.hd hc) ⟨hv, hat⟩ (by rw [← kv_len kv]; exact hl) fun h' tk acc c hk hS hacc => ?_
  have rv : Vals (kvs.map (·.2)) acc.toList := by rw [items_vals hacc]; exact kv_vals kv
  exact ⟨.ref s1.heap.objs.size, _, I1.laid (t' := tk) hk (Nat.le_refl _) (o := .lst (kvs.map (·.2)))
    (show L2.ObjOk X.prog X.w _ _ _ (.lst (kvs.map (·.2))) from ⟨by rw [List.length_map]; exact hl, acc.toList, c, rv, by rw [Array.toArray_toList]; exact hS⟩), rfl, q _ (I1.hok.fresh (Nat.le_refl _))⟩
def gListV (d : D) : Option RV := (dvsK d).map fun kvs => .own (.lst (kvs.map (·.2)))
theorem sd_listV {K : PySem.W.Frag} (he : Sd K W (rV K) td fe) : Sd K W (rV K) (tListV td) (f1 fe gListV) := fun C fp Hd H σ ρ I Q p =>
  he.run I p fun r v fp0 Hd0 H0 ρ0 s0 I0 h p => by
    have h := rV_loose h
    cases e1 : rd r ρ0 with
    | none => simp only [e1] at p; exact p.elim
    | some d =>
      simp only [e1] at p
      unfold gListV at p
      cases e2 : dvsK d with
      | none => simp only [e2, Option.map_none] at p; exact p.elim
      | some kvs =>
        simp only [e2, Option.map_some] at p
        obtain ⟨a, kws, rfl, ha, rk⟩ := (I0.rdTop h e1).dvs I0.le e2
        exact ⟨a, kws, rfl, ha, fun l hl => p.new I0 (newR_lst I0.le hl rk.reps)⟩
theorem jlistV (hc : X.calm = true) (hm : X.mg "list" = none) (he : JE X W e td fe) (hbase : attributeBase e "values" X.env (eval e X.env) = eval e X.env := by rfl) (hline : (apos.endLine == cpos.line) = true := by rfl) (hg : Gl X "list" := by rfl)
    (hs : starEach [.Call (.Attribute e "values" apos) [] [] cpos] X.env = (false, eval (.Call (.Attribute e "values" apos) [] [] cpos) X.env) :: starEach [] X.env := by rfl) : JE X W (.Call (.Name "list" p) [.Call (.Attribute e "values" apos) [] [] cpos] [] pos) (tListV td) (f1 fe gListV) :=
  ⟨pe_listV hc he.pe hm hbase hline hg hs, sd_listV he.se⟩
end
end O

/-! Own69: sorted(set(l)), l a list of ints -/
namespace O
open PySem PySem.Spec PyProof.Rows
open L2 (V Hp HO Rd SqT SqL upd upd_same upd_ne ne_of_none TE TA St PE PA Cx CallR VK XK Vals RelV Gl SetR tCB tCons tNil)
abbrev bareSet (w : World) : Obj := { cls := .type "set", dict := none, data := .set #[] 0 (.fresh 0 0 (!w.params.followText "set-order")) }
set_option maxHeartbeats 3200000 in
/-- set(l): the members, at most as many as l is long, a table that can be gone through in order -/
theorem set_of_ints {P : Program} {w : World} {A : Around} {E : Value → Shared → Prop} {s : Shared} {l : Addr} {its : Array Value} (ns : List Int) {Q : Value → Shared → Prop} (free : A.handled = none) (isl : s.heap.IsList l its) (rIs : IntsAre its.toList ns) (few : ns.length + 1 < scanBound)
    (fin : ∀ (h2 : Heap) (t2 m : Nat), SetR w h2 s.heap.objs.size (fun j => decide (j ∈ ns)) m → m ≤ ns.length → (∀ b o, s.heap.get? b = some o → h2.get? b = some o) → Q (.ref s.heap.objs.size) { s with heap := h2, toks := t2 }) : wpAny (model P w) A (call (.type "set") [.ref l]) Q E s := by
  have size_eq : its.size = ns.length := by have z := rIs.length; rwa [Array.length_toList] at z
  have called := F.called_set
  obtain ⟨c0, tl0, mro0⟩ := called.mro
  have made0 := called.made; have sub0 := called.sub; have nt0 := called.notType; have cc0 := called.canCreate
  have tc0 := F.typeCall_set_1 (.ref l)
  refine wpAny_call (codeAny_of_tree (show wpAny _ _ (callAny (.type "set") _) _ _ _ from wpAny_pure ⟨Code.quiet_builtin _ (by decide +kernel), codeAny_builtin F.entry_type_call ?_⟩))
  rw [Around.under_plain (weight_type_call_type "set" [.ref l] []) rfl]
  repeat any_goals first | assumption | wp_step
  -- the bare set
  refine codeAny_mono (L2.code_set_led1 (.ref l) (E := E) (Q₁ := fun ob s2 => ob = .ref s.heap.objs.size ∧ s2 = { s with heap := s.heap.push (bareSet w) }) ⟨rfl, rfl⟩) fun res s2 hres => ?_
  match res, hres with
  | .error e, hres => exact hres
  | .ok (.ret ob), hres =>
    obtain ⟨eo, es⟩ := hres
    subst eo es
    have at0 : (s.heap.push (bareSet w)).get? s.heap.objs.size = some (bareSet w) := Heap.get?_push_size _ rfl
    have ty0 : Shared.TypeIs { s with heap := s.heap.push (bareSet w) } (.ref s.heap.objs.size) "set" := ⟨_, at0, rfl⟩
    have lk0 := called.init.lookup
    have bd0 := called.init.bind (.ref s.heap.objs.size)
    repeat any_goals first | assumption | wp_step
    refine codeAny_mono (codeAny_call_builtin (R := wants (fun r s3 => r = .none ∧ ∃ h2 t2 m, s3 = { s with heap := h2, toks := t2 } ∧ SetR w h2 s.heap.objs.size (fun j => decide (j ∈ ns)) m ∧ m ≤ ns.length ∧ (∀ b o, s.heap.get? b = some o → h2.get? b = some o)) E)
      called.init.plain F.entry_set_init (check_set_init_1 ty0 ?_)) fun r3 s3 hr3 => ?_
    · obtain ⟨⟨ocls, odict, odata, oslots⟩, hol, hcl, nl, hdl⟩ := isl
      dsimp only at hcl hdl
      subst hcl hdl
      have there : l < s.heap.objs.size := Heap.lt_size hol
      have at1 : (s.heap.push (bareSet w)).get? l = some { cls := .type "list", dict := odict, data := .seq its nl, slots := oslots } := Heap.get?_push_of_some _ hol
      have sub1 := F.sub_list_set; have sub2 := F.sub_list_frozenset
      have ne1 : (Value.type "list" == Value.type "dict") = false := by decide
      have isl1 : (s.heap.push (bareSet w)).IsList l its := ⟨_, at1, rfl, nl, rfl⟩
      unfold Builtin.«set.__init__» noKeywords Builtin.Frozenset.updateFrom
      generalize hgen : pyIter = itr
      wp_walk
      subst hgen
      refine wpAny_pyIter_list isl1 (wpAny_bind (wpAny_runValue ?_))
      have sz1 : (s.heap.push (bareSet w)).objs.size = s.heap.objs.size + 1 := Heap.size_push ..
      have nel : l ≠ (s.heap.push (bareSet w)).objs.size := Nat.ne_of_lt (by rw [sz1]; exact Nat.lt_succ_of_lt there)
      have apart : s.heap.objs.size ∉ [(s.heap.push (bareSet w)).objs.size, l] := by
        intro z
        rcases List.mem_cons.mp z with z | z
        · exact absurd z (Nat.ne_of_lt (by rw [sz1]; exact Nat.lt_succ_self _))
        · exact absurd (List.mem_singleton.mp z) (Nat.ne_of_gt there)
      have vals : ∀ (i : Nat) (v : Value), its[i]? = some v → ∃ k t, ns[i]? = some k ∧ v = .int k t := fun i v hv => by
        have hi : i < ns.length := size_eq ▸ (Array.getElem?_eq_some_iff.mp hv).1
        obtain ⟨t, e⟩ := rIs.int_at i v (by rw [Array.getElem?_toList]; exact hv)
        exact ⟨ns[i], t, List.getElem?_eq_getElem hi, by rw [e, List.getD_eq_getElem?_getD, List.getElem?_eq_getElem hi]; rfl⟩
      have h3 : A.in1.in1.in1.handled = none := by simp [free]
      refine L2.set_update_ints ((Walks.list h3 _ l nel its).toS) s.heap.objs.size apart ns size_eq few vals its.size 0 _ (by omega) (Nat.zero_le _) ⟨⟨_, Heap.get?_push_size _ rfl, rfl, rfl⟩, isl1.push _⟩ ?start ?done
      case start => exact ⟨0, Nat.le_refl 0, L2.setR_new_at (Heap.get?_push_of_some _ at0)⟩
      case done =>
        rintro ⟨h2, g2, d2, t2, o2⟩ m mv hm hR
        cases mv.gens; cases mv.drawn; cases mv.os
        refine wpAny_pure (show wpAny _ _ (ret Value.none) _ _ _ from wpAny_pure ⟨rfl, h2, t2, m, rfl, hR, size_eq ▸ hm, fun b o e => ?_⟩)
        have lt : b < s.heap.objs.size := Heap.lt_size e
        refine mv.heap b o (fun z => ?_) (Heap.get?_push_of_some _ (Heap.get?_push_of_some _ e))
        rcases List.mem_cons.mp z with z | z
        · exact absurd z (Nat.ne_of_lt lt)
        · exact absurd (List.mem_singleton.mp z) (Nat.ne_of_lt (by rw [sz1]; exact Nat.lt_succ_of_lt lt))
    · match r3, hr3 with
      | .error e, hr3 => exact hr3
      | .ok (.ret r), hr3 =>
        obtain ⟨er, h2, t2, m, es, hR, hm, keep⟩ := hr3
        subst er es
        repeat any_goals first | assumption | wp_step
        exact fin _ _ _ hR hm keep
def rSetO (K : PySem.W.Frag) (w : World) : List V → Hp → VK → Prop := fun xs H Q => ∃ (l : Addr) (ns : List Int), xs = [V.ref l] ∧ SqL K H l (ns.map V.int) ∧ ns.length < 64 ∧ ∀ p n, H p = none → n ≤ ns.length → Q (.ref p) (upd H p (L2.SetO w p (fun j => decide (j ∈ ns)) n))
theorem cr_setO {X : Cx} (hc : X.calm = true) : CallR X (.type "set") (rSetO X.K X.w) := by
  intro pins s σ H xs us Q I r h
  obtain ⟨l, ns, rfl, hq, many, q⟩ := h
  rw [L2.Vals.ref1 r]
  obtain ⟨its, rv, pl, hz⟩ := I.list hq
  have hi : IntsAre its.toArray.toList ns := by simpa using L2.ints_of_vals rv
  exact set_of_ints ns (I.ok.hd hc) pl.isList hi (by unfold scanBound; omega) fun h' tk c R hcn k =>
    ⟨.ref s.heap.objs.size, _, I.laid (t' := tk) k (Nat.le_refl _) (o := L2.SetO X.w s.heap.objs.size (fun j => decide (j ∈ ns)) c) (L2.setO_new R), rfl, q _ _ (I.hok.fresh (Nat.le_refl _)) hcn⟩
end O

/-! Own70: sorted(set(l)) on data; zip of two lists; list(zip(..)) -/
namespace O
open PySem
open L2 (V Hp HO Rd SqT SqL upd upd_same upd_ne ne_of_none TE TA TI It St PE PA PI Cx CallR VK XK Vals RelV Gl tCB tCons tNil)
def insU (x : Int) : List Int → List Int
  | [] => [x]
  | y :: ys => if x < y then x :: y :: ys else if x = y then y :: ys else y :: insU x ys
def sortU : List Int → List Int
  | [] => []
  | x :: xs => insU x (sortU xs)
theorem insU_mem (x k : Int) : ∀ ys : List Int, k ∈ insU x ys ↔ k = x ∨ k ∈ ys
  | [] => by simp [insU]
  | y :: ys => by
    unfold insU
    split
    · simp
    · split
      · rename_i h; subst h; simp
      · rw [List.mem_cons, insU_mem x k ys, List.mem_cons]
        constructor
        · rintro (h | h | h) <;> simp [h]
        · rintro (h | h | h) <;> simp [h]
theorem insU_lt (x : Int) : ∀ {ys : List Int}, ys.Pairwise (· < ·) → (insU x ys).Pairwise (· < ·)
  | [], _ => by simp [insU]
  | y :: ys, h => by
    obtain ⟨h1, h2⟩ := List.pairwise_cons.mp h
    unfold insU
    split
    · rename_i hx
      refine List.pairwise_cons.mpr ⟨fun z hz => ?_, h⟩
      rcases List.mem_cons.mp hz with rfl | hz
      · exact hx
      · have := h1 z hz; omega
    · split
      · exact h
      · refine List.pairwise_cons.mpr ⟨fun z hz => ?_, insU_lt x h2⟩
        rcases (insU_mem x z ys).mp hz with rfl | hz
        · omega
        · exact h1 z hz
theorem sortU_mem (k : Int) : ∀ ns : List Int, k ∈ sortU ns ↔ k ∈ ns
  | [] => by simp [sortU]
  | n :: ns => by rw [sortU, insU_mem, sortU_mem k ns, List.mem_cons]
theorem sortU_lt : ∀ ns : List Int, (sortU ns).Pairwise (· < ·)
  | [] => .nil
  | n :: ns => insU_lt n (sortU_lt ns)
theorem pw_uniq {xs ys : List Int} (h1 : xs.Pairwise (· < ·)) (h2 : ys.Pairwise (· < ·)) (h : ∀ k, k ∈ xs ↔ k ∈ ys) : xs = ys := by
  have n1 : xs.Nodup := h1.imp fun z => by omega
  have n2 : ys.Nodup := h2.imp fun z => by omega
  exact sorted_uniq ((List.perm_ext_iff_of_nodup n1 n2).mpr h) (h1.imp fun z => by omega) (h2.imp fun z => by omega)
def gSortSet (d : D) : Option RV := match d with
  | .lst ds => (intsD ds).bind fun ns => if ns.length < 64 then some (.own (.lst ((sortU ns).map .int))) else none
  | _ => none
/-- what is read of sorted(set(e)) -/
def tSortSet (K : PySem.W.Frag) (w : World) (te : TE) : TE := tCB (L2.rSortedSet w) (tCons (tCB (rSetO K w) (tCons te tNil)) tNil)
theorem sd_sortSet {K : PySem.W.Frag} {W : St → XK} {w : World} {te : TE} {fe : O.Env → Res RV} (he : Sd K W (rV K) te fe) : Sd K W (rV K) (tSortSet K w te) (f1 fe gSortSet) := fun C fp Hd H σ ρ I Q p =>
  he.run I p fun r v fp0 Hd0 H0 ρ0 s0 I0 h p => by
    have h := rV_loose h
    cases e1 : rd r ρ0 with
    | none => simp only [e1] at p; exact p.elim
    | some d =>
      simp only [e1] at p
      cases d with
      | lst ds =>
        simp only [gSortSet] at p
        cases e2 : intsD ds with
        | none => simp only [e2, Option.bind_none] at p; exact p.elim
        | some ns =>
          simp only [e2, Option.bind_some] at p
          by_cases hn : ns.length < 64
          · rw [if_pos hn] at p
            obtain ⟨a, ys, rfl, h1, r1⟩ := (I0.rdTop h e1).lstD I0.le
            have ey := intsD_ok r1 e2
            subst ey
            refine ⟨a, ns, rfl, .inl h1, hn, fun q n hq hle => ?_⟩
            refine ⟨q, _, n, rfl, upd_same, by omega, fun xs l hx hmem _ hl => ?_⟩
            have e3 : xs = sortU ns := pw_uniq hx (sortU_lt ns) fun k => by rw [hmem k, sortU_mem, decide_eq_true_iff]
            subst e3
            have hlq : H0 l = none := by
              by_cases z : l = q
              · rw [z]; exact hq
              · rw [upd_ne z] at hl; exact hl
            have hne : l ≠ q := fun z => by rw [z, upd_same] at hl; cases hl
            refine p.new I0 ?_
            refine ⟨Hd0, ?_, [l], .lst (by rw [upd_same]) (ints_reps _), by simp, fun c hc => ?_⟩
            · refine ⟨.refl _, ?_, fun b hb => .inl hb, fun b o e => ?_⟩
              · refine Le.trans I0.le (Le.of_ext fun b o e => ?_)
                rw [upd_ne (ne_of_none e hlq), upd_ne (ne_of_none e hq)]; exact e
              · rw [upd_ne (ne_of_none e hlq), upd_ne (ne_of_none e hq)]; exact e
            · simp at hc; subst hc; exact ⟨hlq, I0.le.noneB hlq⟩
          · rw [if_neg hn] at p; exact p.elim
      | _ => exact p.elim
section
variable {X : Cx} {W : St → XK} {e e2 : Expr} {te te2 : TE} {fe fe2 : O.Env → Res RV} {p p2 pos cpos tpos : Pos}
theorem jsortSet {K : PySem.W.Frag} {w : World} (hc : X.calm = true) (hm : X.mg "sorted" = none) (hm2 : X.mg "set" = none) (he : JE X W e te fe) (hg : Gl X "sorted" := by rfl) (hg2 : Gl X "set" := by rfl) (hs : starEach [e] X.env = (false, eval e X.env) :: starEach [] X.env := by rfl)
    (hs2 : starEach [.Call (.Name "set" p2) [e] [] cpos] X.env = (false, eval (.Call (.Name "set" p2) [e] [] cpos) X.env) :: starEach [] X.env := by rfl) (hp1 : (backTo cpos (starEach [] X.env)).any (·.1) = false := by rfl) (hp2 : (backTo pos (starEach [] X.env)).any (·.1) = false := by rfl) (hK : X.K = K := by rfl) (hw : X.w = w := by rfl) :
    JE X W (.Call (.Name "sorted" p) [.Call (.Name "set" p2) [e] [] cpos] [] pos) (tSortSet K w te) (f1 fe gSortSet) := by
  subst hK hw
  exact ⟨L2.pe_callB (L2.cr_sortedSet hc) hg hm (by decide +kernel) (L2.pa_cons (L2.pe_callTy (cr_setO hc) hg2 hm2 (by decide +kernel) (L2.pa_cons he.pe L2.pa_nil hs) (by decide) (by decide) hs hp1) L2.pa_nil hs2) (by decide) (by decide) hs2 hp2, sd_sortSet he.se⟩
/-! ### zip -/
def zipD (as bs : List D) : List D := (as.zip bs).map fun x => .tup [x.1, x.2]
theorem zipD_len (as bs : List D) : (zipD as bs).length = min as.length bs.length := by simp [zipD]
theorem zipD_get {as bs : List D} {i : Nat} {a b : D} (h1 : as[i]? = some a) (h2 : bs[i]? = some b) : (zipD as bs)[i]? = some (.tup [a, b]) := by
  unfold zipD
  have : (as.zip bs)[i]? = some (a, b) := List.getElem?_zip_eq_some.mpr ⟨h1, h2⟩
  rw [List.getElem?_map, this]
  rfl
/-- both are lists that can be read -/
def zipW : D → D → Option (List D)
  | .lst as, .lst bs => some (zipD as bs)
  | _, _ => none
def fZip (fa fb : O.Env → Res RV) : O.Env → Res (List D) := fun ρ => ((fa ρ).bind fk).bind fun d1 ρ1 => ((fb ρ1).bind fk).bind fun d2 ρ2 => match zipW d1 d2 with
  | some ds => .ok ds ρ2
  | none => .no
end
theorem si_zip {K : PySem.W.Frag} {W : St → XK} {ta tb : TE} {fa fb : O.Env → Res RV} (ha : Sd K W (rV K) ta fa) (hb : Sd K W (rV K) tb fb) : Si K W (L2.iZip K (tCons ta (tCons tb tNil))) (fZip fa fb) := fun C fp Hd H σ ρ I R p => by
  refine ha.fk C fp Hd H σ ρ I _ ?_
  unfold fZip at p
  show Post K W C (rWk K) fp Hd H σ ((fa ρ).bind O.fk) _
  cases e : (fa ρ).bind O.fk with
  | no => rw [e] at p; exact p
  | ex c ρ1 => rw [e] at p; exact p
  | ok d1 ρ1 =>
    rw [e] at p
    intro v1 fp1 Hd1 H1 s1 I1 r1
    have p : PostI K W C fp Hd H σ (((fb ρ1).bind O.fk).bind fun d2 ρ2 => match zipW d1 d2 with | some ds => Res.ok ds ρ2 | none => .no) R := p
    refine hb.fk C fp1 Hd1 H1 σ ρ1 I1 _ ?_
    show Post K W C (rWk K) fp1 Hd1 H1 σ ((fb ρ1).bind O.fk) _
    cases e2 : (fb ρ1).bind O.fk with
    | no => rw [e2] at p; exact p
    | ex c ρ2 => rw [e2] at p; exact fun d fp2 Hd2 H2 s2 I2 hx => p d fp2 Hd2 H2 (s1.trans s2) I2 hx
    | ok d2 ρ2 =>
      rw [e2] at p
      intro v2 fp2 Hd2 H2 s2 I2 r2
      have p : PostI K W C fp Hd H σ (match zipW d1 d2 with | some ds => Res.ok ds ρ2 | none => .no) R := p
      cases ez : zipW d1 d2 with
      | none => rw [ez] at p; exact p.elim
      | some ds =>
        rw [ez] at p
        have p : ∀ J fp' Hd' H', Stp fp Hd H fp' Hd' H' → Inv K C fp' Hd' H' σ ρ2 → WalkD K C Hd' J ds → R J H' := p
        match d1, d2, ez with
        | .lst as, .lst bs, ez =>
          cases ez
          obtain ⟨a, xs, ea, hl1, k1⟩ := rWk_rd r1
          obtain ⟨b, ys, eb, hl2, k2⟩ := rWk_rd r2
          subst ea eb
          refine ⟨a, b, xs, ys, rfl, .inl (k1 _ _ _ _ _ I2 s2.hd).1, .inl (k2 _ _ _ _ _ I2 (.refl _)).1, p _ _ _ _ (s1.trans s2) I2 ?_⟩
          unfold WalkD
          rw [zipD_len]
          refine (L2.walk_zip (xs := xs) (ys := ys) (by rw [hl1, hl2])).mono (fun H' ⟨fp', Hd', σ', ρ', I', l'⟩ => ⟨.inl (k1 _ _ _ _ _ I' (s2.hd.trans l')).1, .inl (k2 _ _ _ _ _ I' l').1⟩) fun i H' x H'' hi ⟨fp', Hd', σ', ρ', I', l'⟩ ⟨T, x1, y1, e0, hT, e1, e3, e4⟩ => ?_
          subst e0 e1
          obtain ⟨da, ha', _⟩ := (k1 _ _ _ _ _ I' (s2.hd.trans l')).2.get' e3
          obtain ⟨db, hb', _⟩ := (k2 _ _ _ _ _ I' l').2.get' e4
          refine ⟨_, zipD_get ha' hb', fun fp3 Hd3 σ3 ρ3 I3 l3 => ?_⟩
          obtain ⟨da', ea', ra⟩ := (k1 _ _ _ _ _ I3 (s2.hd.trans l3)).2.get' e3
          obtain ⟨db', eb', rb⟩ := (k2 _ _ _ _ _ I3 l3).2.get' e4
          rw [ha'] at ea'; cases ea'
          rw [hb'] at eb'; cases eb'
          exact newR_tup I3.le hT (.cons ra (.cons rb .nil))
section
variable {X : Cx} {W : St → XK} {e e2 : Expr} {te te2 : TE} {fe fe2 : O.Env → Res RV} {p p2 pos cpos tpos : Pos}
theorem jzip {K : PySem.W.Frag} {elts : List Expr} {kk : Nat} (hm : X.mg "zip" = none) (ha : JE X W e te fe) (hb : JE X W e2 te2 fe2) (hg : Gl X "zip" := by rfl) (hs : starEach [e, e2] X.env = (false, eval e X.env) :: starEach [e2] X.env := by rfl) (hs2 : starEach [e2] X.env = (false, eval e2 X.env) :: starEach [] X.env := by rfl)
    (hpl : (backTo pos (starEach [e2] X.env)).any (·.1) = false := by rfl) (hK : X.K = K := by rfl) : JI X W (.Tuple elts kk tpos) (.Call (.Name "zip" p) [e, e2] [] pos) (L2.iZip K (tCons te (tCons te2 tNil))) (fZip fe fe2) := by
  subst hK
  exact ⟨L2.pi_zip hg hm (L2.pa_cons ha.pe (L2.pa_cons hb.pe L2.pa_nil hs2) hs) hs hpl, si_zip ha.se hb.se⟩
end
end O

/-! Own71: l.pop(); the words of Own67 .. Own70 as simp lemmas -/
namespace O
open PySem
open L2 (V Hp HO Rd TE TA St XK Cx MtR tVar tC tCons tNil)
/-- l.pop() -/
def gPop0 : List D → List D → Option (List D × D)
  | ds, [] => (ds[ds.length - 1]?).map fun y => (ds.dropLast, y)
  | _, _ => none
theorem Reps.dropLast {K : PySem.W.Frag} {H : Hp} {ds : List D} {vs : List V} (r : Reps K H ds vs) : Reps K H ds.dropLast vs.dropLast := by
  rw [List.dropLast_eq_take, List.dropLast_eq_take, r.length]
  exact r.take _
section
variable {X : Cx} {W : St → XK} {pos p : Pos}
theorem mt_gPop0 : MtR X "list.pop" (rGMut X.K gPop0) := mt_imp L2.mt_pop fun x vs H Q ⟨l, xs, Hd, ds, es, ds', z, ex, hl, r, re, eg, q⟩ => by
  match es, re, eg with
  | [], .nil, eg =>
    simp only [gPop0] at eg
    cases ey : ds[ds.length - 1]? with
    | none => rw [ey] at eg; cases eg
    | some y =>
      rw [ey] at eg
      cases eg
      obtain ⟨v, hv, rv⟩ := r.get ey
      exact ⟨l, xs, v, ex, rfl, hl, by rw [r.length]; exact hv, q _ _ r.dropLast rv⟩
theorem jpop0 {n : Nat} {apos : Pos} {x : Str} {K : PySem.W.Frag} (ho : JE X W (.Name x p) (tVar n) (fVar n)) (hbase : attributeBase (.Name x p) "pop" X.env (eval (.Name x p) X.env) = eval (.Name x p) X.env := by rfl)
    (hline : (apos.endLine == pos.line) = true := by rfl) (hK : X.K = K := by rfl) :
    JE X W (.Call (.Attribute (.Name x p) "pop" apos) [] [] pos) (L2.tBM0 K "list" (rGMut K gPop0) (tVar n)) (fMutL n aNil gPop0) := by
  subst hK
  exact ⟨L2.pe_bm0 PySem.F.plainAttrs_list PySem.F.slot_list_pop PySem.F.type_list_pop mt_gPop0 ho.pe hbase hline, sd_mut sa_nil⟩
end
/-- a op b op' c as a test -/
theorem jchainT {X : Cx} {W : St → XK} {a b c : Expr} {pos : Pos} {ta tb tc : TE} {fa fb fc : O.Env → Res RV} {K : PySem.W.Frag} {op op' : CmpOp} {g g' : D → D → Option RV} (ho : L2.OpR X (compareOp op) (rG K g)) (ho' : L2.OpR X (compareOp op') (rG K g')) (ha : JE X W a ta fa) (hb : JE X W b tb fb) (hc : JE X W c tc fc)
    (hK : X.K = K := by rfl) (hm : lastMarks [op, op'] [b, c] = false := by with_unfolding_all rfl) : JT X W (.Compare a [op, op'] [b, c] pos) (L2.tTest (L2.tChain (rG K g) (rG K g') ta tb tc)) (fB (fChain fa fb fc g g')) := by
  subst hK
  exact ⟨L2.pt_chain ho ho' ha.pe hb.pe hc.pe hm, sd_tTest (sd_chain ha.se hb.se hc.se)⟩
section
variable {ρ : O.Env} {i : Nat} {d : D} {fa fb fe : O.Env → Res RV} {fr : O.Env → Res (List RV)}
@[simp] theorem gPop0_last {ds : List D} : gPop0 (ds ++ [d]) [] = some (ds, d) := by simp [gPop0]
theorem gPop0_cons {a : D} {ds : List D} (z : D) (h : (a :: ds).getLast? = some z) : gPop0 (a :: ds) [] = some ((a :: ds).dropLast, z) := by
  have : (a :: ds)[(a :: ds).length - 1]? = some z := by rw [← List.getLast?_eq_getElem?]; exact h
  simp only [gPop0, this, Option.map_some]
/-! the values of a dict -/
def aVs (ρ : O.Env) (fr : O.Env → Res (List RV)) : Option (List (L2.Key × D)) → Res (List RV)
  | some kvs => (fr ρ).bind fun rs ρ2 => .ok (kvs.map (fun kv => .val kv.2) ++ rs) ρ2
  | none => .no
def kVs2 (kvs : List (L2.Key × D)) (rs : List RV) (ρ : O.Env) : Res (List RV) := .ok (kvs.map (fun kv => .val kv.2) ++ rs) ρ
@[simp] theorem u_kVs2 {kvs : List (L2.Key × D)} {rs : List RV} : kVs2 kvs rs ρ = .ok (kvs.map (fun kv => .val kv.2) ++ rs) ρ := id rfl
@[simp] theorem aVs_some {kvs : List (L2.Key × D)} : aVs ρ fr (some kvs) = (fr ρ).bind (kVs2 kvs) := id rfl
def kVs (fr : O.Env → Res (List RV)) (r : RV) (ρ : O.Env) : Res (List RV) := aVs ρ fr ((rd r ρ).bind dvsK)
@[simp] theorem u_kVs {r : RV} : kVs fr r ρ = aVs ρ fr ((rd r ρ).bind dvsK) := id rfl
@[simp] theorem u_aStarV : aStarV fe fr ρ = (fe ρ).bind (kVs fr) := by
  unfold aStarV
  congr 1
@[simp] theorem dvsK_dlk {kvs : List (L2.Key × D)} : dvsK (.dlk kvs) = some kvs := id rfl
@[simp] theorem dvsK_dic {kvs : List (L2.Key × D)} : dvsK (.dic kvs) = some kvs := id rfl
@[simp] theorem gListV_dlk {kvs : List (L2.Key × D)} : gListV (.dlk kvs) = some (.own (.lst (kvs.map (·.2)))) := id rfl
@[simp] theorem gListV_dic {kvs : List (L2.Key × D)} : gListV (.dic kvs) = some (.own (.lst (kvs.map (·.2)))) := id rfl
@[simp] theorem gItKV_dlk {kvs : List (L2.Key × D)} : gItKV (.dlk kvs) = some (kvs.map fun kv => .tup [kDD kv.1, kv.2]) := id rfl
@[simp] theorem gItVs_dlk {kvs : List (L2.Key × D)} : gItVs (.dlk kvs) = some (kvs.map fun kv => kv.2) := id rfl
theorem gSortSet_int {ns : List Int} (h : ns.length < 64) : gSortSet (.lst (ns.map .int)) = some (.own (.lst ((sortU ns).map .int))) := by simp [gSortSet, h]
/-! zip -/
def aZp (ρ : O.Env) : Option (List D) → Res (List D)
  | some ds => .ok ds ρ
  | none => .no
@[simp] theorem aZp_some {ds : List D} : aZp ρ (some ds) = .ok ds ρ := id rfl
def kZp2 (d1 d2 : D) (ρ : O.Env) : Res (List D) := aZp ρ (zipW d1 d2)
@[simp] theorem u_kZp2 {d1 d2 : D} : kZp2 d1 d2 ρ = aZp ρ (zipW d1 d2) := id rfl
def kZp (fb : O.Env → Res RV) (d1 : D) (ρ : O.Env) : Res (List D) := ((fb ρ).bind O.fk).bind (kZp2 d1)
@[simp] theorem u_kZp {d1 : D} : kZp fb d1 ρ = ((fb ρ).bind O.fk).bind (kZp2 d1) := id rfl
@[simp] theorem u_fZip : fZip fa fb ρ = ((fa ρ).bind O.fk).bind (kZp fb) := by
  unfold fZip
  congr 1
@[simp] theorem zipW_ll {as bs : List D} : zipW (.lst as) (.lst bs) = some (zipD as bs) := id rfl
/-! a dict that is locked where it is stored -/
def aStL (i : Nat) (r : RV) (ρ : O.Env) : SR := match r with
  | .own (.dic kvs) => aN (fre (ρ.set i (.sh (.dlk kvs))) ρ[i]?)
  | _ => .no
@[simp] theorem aStL_dic {kvs : List (L2.Key × D)} : aStL i (.own (.dic kvs)) ρ = aN (fre (ρ.set i (.sh (.dlk kvs))) ρ[i]?) := id rfl
@[simp] theorem u_gSetL : gSetL i fa ρ = (fa ρ).thn (aStL i) := by
  unfold gSetL
  congr 1
  funext r ρ1
  cases r with
  | own o =>
    cases o with
    | dic kvs =>
      show (if free i ρ1 = true then SR.nx (ρ1.set i (.sh (.dlk kvs))) else .no) = aN (fre (ρ1.set i (.sh (.dlk kvs))) ρ1[i]?)
      unfold free
      cases ρ1[i]? with
      | none => rfl
      | some s => cases s <;> rfl
    | _ => rfl
  | _ => rfl
end
end O

/-! Own72: level covers, in plain lists -/
namespace O
/-! ### top levels -/
section
variable (pb : Int → Nat) (wt : Int → Int)
def below (x : Int) : List (Int × Int) → Int
  | [] => 0
  | p :: T => if pb p.1 < pb x then max p.2 (below x T) else below x T
def topsA : List (Int × Int) → List Int → List (Int × Int)
  | acc, [] => acc
  | acc, x :: g => topsA (acc ++ [(x, below pb x acc + wt x)]) g
def tops (g : List Int) : List (Int × Int) := topsA pb wt [] g
end
def tpOf (T : List (Int × Int)) (x : Int) : Int := ((T.find? fun p => decide (p.1 = x)).map (·.2)).getD 0
section
variable {pb : Int → Nat} {wt : Int → Int}
theorem below_nn (x : Int) : ∀ T, 0 ≤ below pb x T
  | [] => Int.le_refl 0
  | p :: T => by
    have := below_nn x T
    unfold below
    split <;> omega
theorem below_le {x : Int} {p : Int × Int} (h : pb p.1 < pb x) : ∀ {T}, p ∈ T → p.2 ≤ below pb x T
  | q :: T, hp => by
    unfold below
    rcases List.mem_cons.mp hp with rfl | hp
    · rw [if_pos h]; omega
    · have := below_le h hp
      split <;> omega
theorem below_is (x : Int) : ∀ T, below pb x T = 0 ∨ ∃ p ∈ T, pb p.1 < pb x ∧ below pb x T = p.2
  | [] => .inl rfl
  | q :: T => by
    have ih := below_is x T
    unfold below
    by_cases h : pb q.1 < pb x
    · rw [if_pos h]
      by_cases c : below pb x T ≤ q.2
      · exact .inr ⟨q, by simp, h, by omega⟩
      · rcases ih with e | ⟨p, hp, h2, e⟩
        · exact .inl (by have := below_nn (pb := pb) x T; omega)
        · exact .inr ⟨p, by simp [hp], h2, by omega⟩
    · rw [if_neg h]
      rcases ih with e | ⟨p, hp, h2, e⟩
      · exact .inl e
      · exact .inr ⟨p, by simp [hp], h2, e⟩
theorem topsA_keys : ∀ (g : List Int) (acc : List (Int × Int)), (topsA pb wt acc g).map (·.1) = acc.map (·.1) ++ g
  | [], acc => by simp [topsA]
  | x :: g, acc => by rw [topsA, topsA_keys g]; simp
theorem tops_keys (g : List Int) : (tops pb wt g).map (·.1) = g := topsA_keys g []
theorem tops_len (g : List Int) : (tops pb wt g).length = g.length := by
  have := congrArg List.length (tops_keys (pb := pb) (wt := wt) g)
  rwa [List.length_map] at this
/-- each top level is its weight more than the greatest below -/
def TopsOk (pb : Int → Nat) (wt : Int → Int) (T : List (Int × Int)) : Prop := ∀ A x t B, T = A ++ (x, t) :: B → t = below pb x A + wt x
theorem topsA_ok : ∀ (g : List Int) (acc : List (Int × Int)), TopsOk pb wt acc → TopsOk pb wt (topsA pb wt acc g)
  | [], _, h => h
  | x :: g, acc, h => by
    refine topsA_ok g _ fun A y t B e => ?_
    rcases List.eq_nil_or_concat B with rfl | ⟨B', b, rfl⟩
    · have e2 := List.append_inj' e rfl
      obtain ⟨rfl, e3⟩ := e2
      cases e3
      rfl
    · have e2 : acc ++ [(x, below pb x acc + wt x)] = (A ++ (y, t) :: B') ++ [b] := by rw [e]; simp
      have e3 := List.append_inj' e2 rfl
      exact h A y t B' e3.1
theorem tops_ok (g : List Int) : TopsOk pb wt (tops pb wt g) := topsA_ok g [] fun A x t B e => by
  have := congrArg List.length e
  simp at this
theorem tp_at {T : List (Int × Int)} (nd : (T.map (·.1)).Nodup) : ∀ {p : Int × Int}, p ∈ T → tpOf T p.1 = p.2 := by
  induction T with
  | nil => intro p hp; cases hp
  | cons q T ih =>
    intro p hp
    obtain ⟨h1, h2⟩ := List.nodup_cons.mp (by rw [List.map_cons] at nd; exact nd)
    unfold tpOf
    rw [List.find?_cons]
    rcases List.mem_cons.mp hp with rfl | hp
    · simp
    · have : q.1 ≠ p.1 := fun e => h1 (by rw [e]; exact List.mem_map.mpr ⟨p, hp, rfl⟩)
      rw [decide_eq_false this]
      exact ih h2 hp
end
/-! ### runs between bounds -/
def runsB (ids : Int → Int → List Int) : List Int → List (Int × List Int)
  | lo :: hi :: r => (hi - lo, ids lo hi) :: runsB ids (hi :: r)
  | _ => []
def pushR (R : List (Int × List Int)) (l : List Int) : List (Int × List Int) := match R.getLast? with
  | some q => if q.2 = l then R.dropLast ++ [(q.1 + 1, l)] else R ++ [(1, l)]
  | none => [(1, l)]
theorem pushR_cons (q q' : Int × List Int) (R : List (Int × List Int)) (l : List Int) : pushR (q :: q' :: R) l = q :: pushR (q' :: R) l := by
  unfold pushR
  rw [List.getLast?_cons_cons]
  cases h : (q' :: R).getLast? with
  | none => simp at h
  | some z =>
    simp only []
    split
    · simp
    · simp
/-- the runs of the levels up to n -/
def cutR (ids : Int → Int → List Int) (n : Int) : List Int → List (Int × List Int)
  | lo :: hi :: r => if lo < n then (min hi n - lo, ids lo hi) :: cutR ids n (hi :: r) else []
  | _ => []
section
variable {g : List Int} {bt tp : Int → Int}
def idsF (g : List Int) (bt tp : Int → Int) (lo hi : Int) : List Int := g.filter fun x => decide (bt x ≤ lo) && decide (hi ≤ tp x)
/-- the ids of a level -/
def lvl (g : List Int) (bt tp : Int → Int) (n : Int) : List Int := g.filter fun x => decide (bt x < n) && decide (n ≤ tp x)
/-- B: what the bounds are -/
structure Bds (g : List Int) (bt tp : Int → Int) (P : Int → Prop) : Prop where
  lt : ∀ x ∈ g, bt x < tp x
  b : ∀ x ∈ g, P (bt x)
  t : ∀ x ∈ g, P (tp x)
  all : ∀ c, P c → ∃ x ∈ g, bt x = c ∨ tp x = c
theorem cut_nil {n lo : Int} {r : List Int} (h : ¬ lo < n) : cutR (idsF g bt tp) n (lo :: r) = [] := by
  cases r with
  | nil => rfl
  | cons hi r => rw [cutR, if_neg h]
theorem seg_of {P : Int → Prop} {lo hi : Int} {r : List Int} (hs : (lo :: hi :: r).Pairwise (· < ·)) (hP : ∀ c, P c → c ≤ lo ∨ c ∈ hi :: r) : ∀ c, P c → c ≤ lo ∨ hi ≤ c := fun c hc => by
  rcases hP c hc with h | h
  · exact .inl h
  · refine .inr ?_
    rcases List.mem_cons.mp h with rfl | h
    · exact Int.le_refl _
    · have := (List.pairwise_cons.mp (List.pairwise_cons.mp hs).2).1 c h
      omega
theorem lvl_is {P : Int → Prop} (D : Bds g bt tp P) {lo hi n : Int} (hP : ∀ c, P c → c ≤ lo ∨ hi ≤ c) (h1 : lo ≤ n) (h2 : n < hi) : lvl g bt tp (n + 1) = idsF g bt tp lo hi := by
  refine List.filter_congr fun x hx => ?_
  have a := hP _ (D.b x hx)
  have b := hP _ (D.t x hx)
  congr 1
  · rw [decide_eq_decide]; omega
  · rw [decide_eq_decide]; omega
theorem ids_ne {P : Int → Prop} (D : Bds g bt tp P) {lo hi h2 : Int} (hl : lo < hi) (hh : hi < h2) (hP : ∀ c, P c → c ≤ lo ∨ hi ≤ c) (hP2 : ∀ c, P c → c ≤ hi ∨ h2 ≤ c) (hhi : P hi) : idsF g bt tp lo hi ≠ idsF g bt tp hi h2 := fun e => by
  obtain ⟨x, hx, hc⟩ := D.all hi hhi
  have m1 : x ∈ idsF g bt tp lo hi ↔ bt x ≤ lo ∧ hi ≤ tp x := by simp [idsF, hx]
  have m2 : x ∈ idsF g bt tp hi h2 ↔ bt x ≤ hi ∧ h2 ≤ tp x := by simp [idsF, hx]
  rw [e] at m1
  have m3 := m1.symm.trans m2
  have a := hP _ (D.b x hx)
  have b := hP2 _ (D.t x hx)
  have c := D.lt x hx
  omega
theorem cut_step {P : Int → Prop} (D : Bds g bt tp P) {n : Int} : ∀ (r : List Int) (lo : Int), (lo :: r).Pairwise (· < ·) → (∀ c, P c → c ≤ lo ∨ c ∈ r) → (∀ c ∈ r, P c) → lo ≤ n → (∃ c ∈ r, n < c) →
    pushR (cutR (idsF g bt tp) n (lo :: r)) (lvl g bt tp (n + 1)) = cutR (idsF g bt tp) (n + 1) (lo :: r)
  | [], _, _, _, _, _, h => by obtain ⟨c, hc, _⟩ := h; cases hc
  | hi :: r, lo, hs, hP, hr, hn, hx => by
    have hs' := (List.pairwise_cons.mp hs).2
    have lh : lo < hi := (List.pairwise_cons.mp hs).1 hi (by simp)
    have sg := seg_of hs hP
    have hP' : ∀ c, P c → c ≤ hi ∨ c ∈ r := fun c hc => by
      rcases hP c hc with h | h
      · exact .inl (by omega)
      · rcases List.mem_cons.mp h with rfl | h
        · exact .inl (Int.le_refl _)
        · exact .inr h
    by_cases c0 : n < hi
    · -- this segment
      rw [lvl_is D sg hn c0]
      have e2 : cutR (idsF g bt tp) (n + 1) (hi :: r) = [] := cut_nil (by omega)
      by_cases c1 : lo < n
      · have e1 : cutR (idsF g bt tp) n (hi :: r) = [] := cut_nil (by omega)
        rw [cutR, if_pos c1, e1, cutR, if_pos (by omega), e2]
        have m1 : min hi n = n := by omega
        have m2 : min hi (n + 1) = n + 1 := by omega
        rw [m1, m2]
        unfold pushR
        simp
        omega
      · rw [cutR, if_neg c1, cutR, if_pos (by omega), e2]
        have m2 : min hi (n + 1) - lo = 1 := by omega
        rw [m2]
        rfl
    · -- later
      have hi_n : hi ≤ n := by omega
      have hx' : ∃ c ∈ r, n < c := by
        obtain ⟨c, hc, h⟩ := hx
        rcases List.mem_cons.mp hc with rfl | hc
        · omega
        · exact ⟨c, hc, h⟩
      have ih := cut_step D r hi hs' hP' (fun c hc => hr c (by simp [hc])) hi_n hx'
      rw [cutR, if_pos (by omega), cutR, if_pos (by omega)]
      have m1 : min hi n = hi := by omega
      have m2 : min hi (n + 1) = hi := by omega
      rw [m1, m2, ← ih]
      cases r with
      | nil => obtain ⟨c, hc, _⟩ := hx'; cases hc
      | cons h2 r =>
        have sg2 := seg_of hs' hP'
        have h12 : hi < h2 := (List.pairwise_cons.mp hs').1 h2 (by simp)
        by_cases c2 : hi < n
        · rw [cutR, if_pos c2, pushR_cons]
        · have en : n = hi := by omega
          subst en
          have e1 : cutR (idsF g bt tp) n (n :: h2 :: r) = [] := cut_nil (by omega)
          rw [e1, lvl_is D sg2 (Int.le_refl _) h12]
          have ne := ids_ne D lh h12 sg sg2 (hr n (by simp))
          unfold pushR
          simp only [List.getLast?_singleton, if_neg ne, List.getLast?_nil]
          rfl
theorem cutR_all (ids : Int → Int → List Int) (n : Int) : ∀ (r : List Int), r.Pairwise (· < ·) → (∀ c ∈ r, c ≤ n) → cutR ids n r = runsB ids r
  | [], _, _ => rfl
  | [_], _, _ => rfl
  | lo :: hi :: r, hs, h => by
    have lh : lo < hi := (List.pairwise_cons.mp hs).1 hi (by simp)
    have := h hi (by simp)
    rw [cutR, if_pos (by omega), runsB, cutR_all ids n (hi :: r) (List.pairwise_cons.mp hs).2 fun c hc => h c (by simp [hc])]
    have m1 : min hi n = hi := by omega
    rw [m1]
end
end O

/-! Own73: the bounds of top levels; one order twice; weights multiplied -/
namespace O
def btOf (wt : Int → Int) (T : List (Int × Int)) (x : Int) : Int := tpOf T x - wt x
def bdsN (wt : Int → Int) (T : List (Int × Int)) : List Int := T.map (·.2) ++ T.map fun p => p.2 - wt p.1
def bds (wt : Int → Int) (T : List (Int × Int)) : List Int := sortU (bdsN wt T)
/-- the level cover -/
def lcov (pb : Int → Nat) (wt : Int → Int) (g : List Int) : List (Int × List Int) := runsB (idsF g (btOf wt (tops pb wt g)) (tpOf (tops pb wt g))) (bds wt (tops pb wt g))
theorem T_eq {T : List (Int × Int)} (nd : (T.map (·.1)).Nodup) : T = (T.map (·.1)).map fun x => (x, tpOf T x) := by
  rw [List.map_map]
  refine (List.map_id T).symm.trans (List.map_congr_left fun p hp => ?_)
  show p = (p.1, tpOf T p.1)
  rw [tp_at nd hp]
section
variable {pb : Int → Nat} {wt : Int → Int} {g : List Int}
theorem tops_eq (nd : g.Nodup) : tops pb wt g = g.map fun x => (x, tpOf (tops pb wt g) x) := by
  have h := T_eq (T := tops pb wt g) (by rw [tops_keys]; exact nd)
  rw [tops_keys] at h
  exact h
theorem mem_bds {T : List (Int × Int)} (nd : (T.map (·.1)).Nodup) (c : Int) : c ∈ bds wt T ↔ ∃ x ∈ T.map (·.1), tpOf T x = c ∨ btOf wt T x = c := by
  unfold bds bdsN
  rw [sortU_mem, List.mem_append, List.mem_map, List.mem_map]
  constructor
  · rintro (⟨p, hp, e⟩ | ⟨p, hp, e⟩)
    · exact ⟨p.1, List.mem_map.mpr ⟨p, hp, rfl⟩, .inl (by rw [tp_at nd hp]; exact e)⟩
    · exact ⟨p.1, List.mem_map.mpr ⟨p, hp, rfl⟩, .inr (by unfold btOf; rw [tp_at nd hp]; exact e)⟩
  · rintro ⟨x, hx, h⟩
    obtain ⟨p, hp, rfl⟩ := List.mem_map.mp hx
    rcases h with h | h
    · exact .inl ⟨p, hp, by rw [← h, tp_at nd hp]⟩
    · refine .inr ⟨p, hp, ?_⟩
      unfold btOf at h
      rw [tp_at nd hp] at h
      exact h
/-- how a bottom comes about -/
theorem bot_is (nd : g.Nodup) {x : Int} (hx : x ∈ g) : ∃ A B, g = A ++ x :: B ∧ btOf wt (tops pb wt g) x = below pb x ((tops pb wt g).take A.length) ∧ ((tops pb wt g).take A.length).map (·.1) = A := by
  have hT := tops_keys (pb := pb) (wt := wt) g
  have ndT : ((tops pb wt g).map (·.1)).Nodup := by rw [hT]; exact nd
  rw [← hT] at hx
  obtain ⟨p, hp, rfl⟩ := List.mem_map.mp hx
  obtain ⟨A, B, e⟩ := List.append_of_mem hp
  have ok := tops_ok (pb := pb) (wt := wt) g A p.1 p.2 B e
  refine ⟨A.map (·.1), B.map (·.1), by rw [← hT, e]; simp, ?_, ?_⟩
  · unfold btOf
    rw [tp_at ndT hp, ok, List.length_map, e, List.take_left' rfl]
    omega
  · rw [List.length_map, e, List.take_left' rfl]
theorem bot_nn (nd : g.Nodup) {x : Int} (hx : x ∈ g) : 0 ≤ btOf wt (tops pb wt g) x := by
  obtain ⟨A, B, _, e, _⟩ := bot_is (pb := pb) (wt := wt) nd hx
  rw [e]; exact below_nn _ _
theorem bot_or (nd : g.Nodup) {x : Int} (hx : x ∈ g) : btOf wt (tops pb wt g) x = 0 ∨ ∃ y ∈ g, tpOf (tops pb wt g) y = btOf wt (tops pb wt g) x := by
  obtain ⟨A, B, eg, e, ek⟩ := bot_is (pb := pb) (wt := wt) nd hx
  have ndT : ((tops pb wt g).map (·.1)).Nodup := by rw [tops_keys]; exact nd
  rcases below_is (pb := pb) x ((tops pb wt g).take A.length) with h | ⟨p, hp, _, h⟩
  · exact .inl (by rw [e]; exact h)
  · refine .inr ⟨p.1, ?_, ?_⟩
    · have : p.1 ∈ A := by rw [← ek]; exact List.mem_map.mpr ⟨p, hp, rfl⟩
      rw [eg]; simp [this]
    · rw [e, h, tp_at ndT (List.mem_of_mem_take hp)]
/-- an id before another one in both orders is below it -/
theorem top_le (nd : g.Nodup) {A B : List Int} {x y : Int} (eg : g = A ++ x :: B) (hy : y ∈ A) (h : pb y < pb x) : tpOf (tops pb wt g) y ≤ btOf wt (tops pb wt g) x := by
  have hx : x ∈ g := by rw [eg]; simp
  obtain ⟨A', B', eg', e, ek⟩ := bot_is (pb := pb) (wt := wt) nd hx
  have hA : A = A' := by
    have n2 := nd
    rw [eg] at n2
    have hxA : x ∉ A := fun z => (List.nodup_append.mp n2).2.2 x z x (by simp) rfl
    have n3 := nd
    rw [eg'] at n3
    have hxA' : x ∉ A' := fun z => (List.nodup_append.mp n3).2.2 x z x (by simp) rfl
    have i1 : g.idxOf x = A.length := by rw [eg, List.idxOf_append, if_neg hxA]; simp
    have i2 : g.idxOf x = A'.length := by rw [eg', List.idxOf_append, if_neg hxA']; simp
    have t1 : g.take A.length = A := by rw [eg, List.take_left' rfl]
    have t2 : g.take A'.length = A' := by rw [eg', List.take_left' rfl]
    rw [← t1, ← t2, ← i1, ← i2]
  subst hA
  have ndT : ((tops pb wt g).map (·.1)).Nodup := by rw [tops_keys]; exact nd
  rw [← ek] at hy
  obtain ⟨p, hp, rfl⟩ := List.mem_map.mp hy
  rw [e, tp_at ndT (List.mem_of_mem_take hp)]
  exact below_le h hp
theorem bds_of (nd : g.Nodup) (hw : ∀ x ∈ g, 1 ≤ wt x) : Bds g (btOf wt (tops pb wt g)) (tpOf (tops pb wt g)) (· ∈ bds wt (tops pb wt g)) := by
  have ndT : ((tops pb wt g).map (·.1)).Nodup := by rw [tops_keys]; exact nd
  refine ⟨fun x hx => ?_, fun x hx => ?_, fun x hx => ?_, fun c hc => ?_⟩
  · have := hw x hx; unfold btOf; omega
  · exact (mem_bds ndT _).mpr ⟨x, by rw [tops_keys]; exact hx, .inr rfl⟩
  · exact (mem_bds ndT _).mpr ⟨x, by rw [tops_keys]; exact hx, .inl rfl⟩
  · obtain ⟨x, hx, h⟩ := (mem_bds ndT _).mp hc
    rw [tops_keys] at hx
    exact ⟨x, hx, h.symm⟩
/-- the bounds begin with 0 -/
theorem bds_head (nd : g.Nodup) (hw : ∀ x ∈ g, 1 ≤ wt x) (hg : g ≠ []) : ∃ r, bds wt (tops pb wt g) = 0 :: r ∧ (0 :: r).Pairwise (· < ·) := by
  have D := bds_of (pb := pb) nd hw
  have hs : (bds wt (tops pb wt g)).Pairwise (· < ·) := sortU_lt _
  have h0 : (0 : Int) ∈ bds wt (tops pb wt g) := by
    cases g with
    | nil => exact absurd rfl hg
    | cons x g =>
      obtain ⟨A, B, eg, e, ek⟩ := bot_is (pb := pb) (wt := wt) nd (x := x) (by simp)
      have : A = [] := by
        cases A with
        | nil => rfl
        | cons a A =>
          injection eg with e1 e2
          subst e1
          rw [e2] at nd
          exact absurd (List.nodup_cons.mp nd).1 (by simp)
      subst this
      rw [List.length_nil, List.take_zero] at e
      rw [show (0 : Int) = btOf wt (tops pb wt (x :: g)) x from e.symm]
      exact D.b x (by simp)
  have hnn : ∀ c ∈ bds wt (tops pb wt g), 0 ≤ c := fun c hc => by
    obtain ⟨x, hx, h⟩ := D.all c hc
    have a := bot_nn (pb := pb) (wt := wt) nd hx
    have b := D.lt x hx
    rcases h with h | h <;> omega
  cases e : bds wt (tops pb wt g) with
  | nil => rw [e] at h0; cases h0
  | cons b r =>
    rw [e] at h0 hs hnn
    have hb : b = 0 := by
      rcases List.mem_cons.mp h0 with h | h
      · exact h.symm
      · have := (List.pairwise_cons.mp hs).1 0 h
        have := hnn b (by simp)
        omega
    subst hb
    exact ⟨r, rfl, hs⟩
theorem tp_pos (nd : g.Nodup) (hw : ∀ x ∈ g, 1 ≤ wt x) {x : Int} (hx : x ∈ g) : 1 ≤ tpOf (tops pb wt g) x := by
  have a := bot_nn (pb := pb) (wt := wt) nd hx
  have b := hw x hx
  unfold btOf at a
  omega
theorem bds_len (T : List (Int × Int)) : (bds wt T).length ≤ 2 * T.length := by
  have go : ∀ ns : List Int, (sortU ns).length ≤ ns.length := by
    have ins : ∀ (x : Int) (ys : List Int), (insU x ys).length ≤ ys.length + 1 := by
      intro x ys
      induction ys with
      | nil => simp [insU]
      | cons y ys ih =>
        unfold insU
        split
        · simp
        · split
          · simp
          · simp; omega
    intro ns
    induction ns with
    | nil => simp [sortU]
    | cons n ns ih =>
      have := ins n (sortU ns)
      simp only [sortU, List.length_cons]
      omega
  have := go (bdsN wt T)
  unfold bds
  have e : (bdsN wt T).length = 2 * T.length := by simp [bdsN]; omega
  omega
theorem runsB_len (ids : Int → Int → List Int) : ∀ r : List Int, (runsB ids r).length ≤ r.length
  | [] => Nat.zero_le _
  | [_] => Nat.zero_le _
  | a :: b :: r => by
    have := runsB_len ids (b :: r)
    simp only [runsB, List.length_cons] at *
    omega
theorem cutR_len (ids : Int → Int → List Int) (n : Int) : ∀ r : List Int, (cutR ids n r).length ≤ r.length
  | [] => Nat.zero_le _
  | [_] => Nat.zero_le _
  | a :: b :: r => by
    have := cutR_len ids n (b :: r)
    unfold cutR
    split
    · simp only [List.length_cons] at *; omega
    · simp
/-! ### weights multiplied -/
def scT (f : Int) (p : Int × Int) : Int × Int := (p.1, p.2 * f)
theorem below_sc {f : Int} (hf : 0 < f) (x : Int) : ∀ T, below pb x (T.map (scT f)) = below pb x T * f
  | [] => by simp [below]
  | p :: T => by
    rw [List.map_cons]
    unfold below
    rw [below_sc hf x T]
    show (if pb p.1 < pb x then max (p.2 * f) (below pb x T * f) else below pb x T * f) = _
    by_cases h : pb p.1 < pb x
    · rw [if_pos h, if_pos h]
      rcases Int.le_total p.2 (below pb x T) with c | c
      · have := Int.mul_le_mul_of_nonneg_right c (Int.le_of_lt hf)
        rw [Int.max_eq_right c, Int.max_eq_right this]
      · have := Int.mul_le_mul_of_nonneg_right c (Int.le_of_lt hf)
        rw [Int.max_eq_left c, Int.max_eq_left this]
    · rw [if_neg h, if_neg h]
theorem topsA_sc {f : Int} {wt' : Int → Int} (hf : 0 < f) : ∀ (g : List Int) (acc : List (Int × Int)), (∀ x ∈ g, wt' x = wt x * f) → topsA pb wt' (acc.map (scT f)) g = (topsA pb wt acc g).map (scT f)
  | [], _, _ => rfl
  | x :: g, acc, h => by
    rw [topsA, topsA, ← topsA_sc hf g _ fun y hy => h y (by simp [hy]), List.map_append, below_sc hf, h x (by simp)]
    congr 2
    show [(x, below pb x acc * f + wt x * f)] = [(x, (below pb x acc + wt x) * f)]
    rw [Int.add_mul]
theorem tp_sc (f : Int) (T : List (Int × Int)) (x : Int) : tpOf (T.map (scT f)) x = tpOf T x * f := by
  unfold tpOf
  induction T with
  | nil => simp
  | cons p T ih =>
    rw [List.map_cons, List.find?_cons, List.find?_cons]
    by_cases h : p.1 = x
    · have e : decide ((scT f p).1 = x) = true := decide_eq_true h
      rw [e, decide_eq_true h]
      rfl
    · have e : decide ((scT f p).1 = x) = false := decide_eq_false h
      rw [e, decide_eq_false h]
      exact ih
theorem sortU_sc {f : Int} (hf : 0 < f) (ns : List Int) : sortU (ns.map (· * f)) = (sortU ns).map (· * f) := by
  refine pw_uniq (sortU_lt _) (List.pairwise_map.mpr ((sortU_lt ns).imp fun {a b} h => Int.mul_lt_mul_of_pos_right h hf)) fun k => ?_
  rw [sortU_mem, List.mem_map, List.mem_map]
  constructor
  · rintro ⟨n, hn, e⟩; exact ⟨n, (sortU_mem n ns).mpr hn, e⟩
  · rintro ⟨n, hn, e⟩; exact ⟨n, (sortU_mem n ns).mp hn, e⟩
theorem runsB_sc {f : Int} (ids ids' : Int → Int → List Int) (h : ∀ a b, ids' (a * f) (b * f) = ids a b) : ∀ r : List Int, runsB ids' (r.map (· * f)) = (runsB ids r).map fun q => (q.1 * f, q.2)
  | [] => rfl
  | [_] => rfl
  | a :: b :: r => by
    have ih := runsB_sc ids ids' h (b :: r)
    rw [List.map_cons] at ih
    rw [List.map_cons, List.map_cons, runsB, runsB, ih, List.map_cons, h, Int.sub_mul]
theorem lcov_sc {f : Int} {wt' : Int → Int} (hf : 0 < f) (h : ∀ x ∈ g, wt' x = wt x * f) : lcov pb wt' g = (lcov pb wt g).map fun q => (q.1 * f, q.2) := by
  have eT : tops pb wt' g = (tops pb wt g).map (scT f) := topsA_sc hf g [] h
  have eB : bds wt' (tops pb wt' g) = (bds wt (tops pb wt g)).map (· * f) := by
    unfold bds
    rw [← sortU_sc hf]
    congr 1
    unfold bdsN
    rw [eT, List.map_append, List.map_map, List.map_map, List.map_map, List.map_map]
    congr 1
    refine List.map_congr_left fun p hp => ?_
    have hp1 : p.1 ∈ g := by rw [← tops_keys (pb := pb) (wt := wt) g]; exact List.mem_map.mpr ⟨p, hp, rfl⟩
    show p.2 * f - wt' p.1 = (p.2 - wt p.1) * f
    rw [h p.1 hp1, Int.sub_mul]
  unfold lcov
  rw [eB]
  refine runsB_sc _ _ (fun a b => ?_) _
  refine List.filter_congr fun x hx => ?_
  unfold btOf
  rw [eT, tp_sc, h x hx, ← Int.sub_mul]
  congr 1
  · rw [decide_eq_decide]; exact ⟨fun q => Int.le_of_mul_le_mul_right q hf, fun q => Int.mul_le_mul_of_nonneg_right q (Int.le_of_lt hf)⟩
  · rw [decide_eq_decide]; exact ⟨fun q => Int.le_of_mul_le_mul_right q hf, fun q => Int.mul_le_mul_of_nonneg_right q (Int.le_of_lt hf)⟩
end
end O

/-! Own74: the level cover of an order with itself -/
namespace O
def upT : Int → List Int → List (Int × Int)
  | _, [] => []
  | k, x :: l => (x, k + 1) :: upT (k + 1) l
theorem upT_app : ∀ (a b : List Int) (k : Int), upT k (a ++ b) = upT k a ++ upT (k + a.length) b
  | [], b, k => by simp [upT]
  | x :: a, b, k => by
    rw [List.cons_append, upT, upT, upT_app a b (k + 1), List.cons_append]
    congr 3
    simp only [List.length_cons]
    omega
theorem below_up {pb : Int → Nat} {x : Int} : ∀ (l : List Int) (k : Int), 0 ≤ k → l ≠ [] → (∀ y ∈ l, pb y < pb x) → below pb x (upT k l) = k + l.length
  | [], _, _, h, _ => absurd rfl h
  | y :: l, k, hk, _, h => by
    unfold upT below
    rw [if_pos (h y (by simp))]
    by_cases hl : l = []
    · subst hl
      simp [upT, below]
      omega
    · rw [below_up l (k + 1) (by omega) hl fun z hz => h z (by simp [hz])]
      simp only [List.length_cons]
      omega
theorem tops_self {base : List Int} (nd : base.Nodup) : tops (fun x => base.idxOf x) (fun _ => 1) base = upT 0 base := by
  have go : ∀ (b a : List Int), a ++ b = base → topsA (fun x => base.idxOf x) (fun _ => 1) (upT 0 a) b = upT 0 base := by
    intro b
    induction b with
    | nil => intro a h; rw [List.append_nil] at h; subst h; rfl
    | cons x b ih =>
      intro a h
      have hx : x ∉ a := fun z => by
        rw [← h] at nd
        exact (List.nodup_append.mp nd).2.2 x z x (by simp) rfl
      have e : below (fun x => base.idxOf x) x (upT 0 a) = (a.length : Nat) := by
        by_cases ha : a = []
        · subst ha; rfl
        · rw [below_up a 0 (Int.le_refl 0) ha fun y hy => ?_]
          · omega
          · show base.idxOf y < base.idxOf x
            rw [← h, List.idxOf_append, List.idxOf_append, if_pos hy, if_neg hx]
            have := List.idxOf_lt_length_of_mem hy
            omega
      rw [topsA, e]
      have e2 : upT 0 a ++ [(x, ((a.length : Nat) : Int) + 1)] = upT 0 (a ++ [x]) := by
        rw [upT_app]
        simp [upT]
      rw [e2]
      exact ih (a ++ [x]) (by rw [List.append_assoc]; exact h)
  exact go base [] rfl
def upB : Int → List Int → List Int
  | k, [] => [k]
  | k, _ :: l => k :: upB (k + 1) l
theorem upB_ge : ∀ (l : List Int) (k c : Int), c ∈ upB k l ↔ k ≤ c ∧ c ≤ k + l.length
  | [], k, c => by simp [upB]; omega
  | _ :: l, k, c => by
    rw [upB, List.mem_cons, upB_ge l (k + 1) c]
    simp only [List.length_cons]
    omega
theorem upB_lt : ∀ (l : List Int) (k : Int), (upB k l).Pairwise (· < ·)
  | [], _ => by simp [upB]
  | _ :: l, k => List.pairwise_cons.mpr ⟨fun c hc => by have := (upB_ge l (k + 1) c).mp hc; omega, upB_lt l (k + 1)⟩
theorem upT_mem : ∀ (l : List Int) (k : Int) (p : Int × Int), p ∈ upT k l → k + 1 ≤ p.2 ∧ p.2 ≤ k + l.length
  | [], _, _, h => by cases h
  | x :: l, k, p, h => by
    simp only [List.length_cons]
    rcases List.mem_cons.mp h with rfl | h
    · show k + 1 ≤ k + 1 ∧ k + 1 ≤ _; omega
    · have := upT_mem l (k + 1) p h; omega
theorem upT_at : ∀ (l : List Int) (k c : Int), k + 1 ≤ c → c ≤ k + l.length → ∃ p ∈ upT k l, p.2 = c
  | [], k, c, h1, h2 => by simp at h2; omega
  | x :: l, k, c, h1, h2 => by
    by_cases e : c = k + 1
    · exact ⟨(x, k + 1), by simp [upT], e.symm⟩
    · simp only [List.length_cons] at h2
      obtain ⟨p, hp, h⟩ := upT_at l (k + 1) c (by omega) (by omega)
      exact ⟨p, by simp [upT, hp], h⟩
theorem upT_keys : ∀ (l : List Int) (k : Int), (upT k l).map (·.1) = l
  | [], _ => rfl
  | x :: l, k => by rw [upT, List.map_cons, upT_keys l]
theorem tp_up {base : List Int} (nd : base.Nodup) {a b : List Int} {x : Int} (h : a ++ x :: b = base) : tpOf (upT 0 base) x = (a.length : Nat) + 1 := by
  have hp : (x, ((a.length : Nat) : Int) + 1) ∈ upT 0 base := by rw [← h, upT_app]; simp [upT]
  exact tp_at (by rw [upT_keys]; exact nd) hp
theorem filter_one {l : List Int} {p : Int → Bool} {x : Int} (nd : l.Nodup) (hx : x ∈ l) (hp : ∀ y ∈ l, p y = true ↔ y = x) : l.filter p = [x] := by
  have e : l.filter p = l.filter (· == x) := List.filter_congr fun y hy => by rw [Bool.eq_iff_iff, hp y hy, beq_iff_eq]
  rw [e, List.filter_beq, nd.count, if_pos hx]
  rfl
theorem lcov_self {base : List Int} (nd : base.Nodup) : lcov (fun x => base.idxOf x) (fun _ => 1) base = base.map fun x => (1, [x]) := by
  unfold lcov
  rw [tops_self nd]
  by_cases hb : base = []
  · subst hb; rfl
  have eb : bds (fun _ => 1) (upT 0 base) = upB 0 base := by
    refine pw_uniq (sortU_lt _) (upB_lt _ _) fun k => ?_
    have hl : 1 ≤ base.length := List.length_pos_iff.mpr hb
    rw [upB_ge]
    unfold bds bdsN
    rw [sortU_mem, List.mem_append, List.mem_map, List.mem_map]
    constructor
    · rintro (⟨p, hp, e⟩ | ⟨p, hp, e⟩)
      · have := upT_mem base 0 p hp; omega
      · have e : p.2 - 1 = k := e
        have := upT_mem base 0 p hp; omega
    · rintro ⟨h1, h2⟩
      by_cases e : k = 0
      · obtain ⟨p, hp, h⟩ := upT_at base 0 1 (by omega) (by omega)
        exact .inr ⟨p, hp, (by omega : p.2 - 1 = k)⟩
      · obtain ⟨p, hp, h⟩ := upT_at base 0 k (by omega) (by omega)
        exact .inl ⟨p, hp, h⟩
  rw [eb]
  have go : ∀ (b a : List Int), a ++ b = base → runsB (idsF base (btOf (fun _ => 1) (upT 0 base)) (tpOf (upT 0 base))) (upB (a.length : Nat) b) = b.map fun x => (1, [x]) := by
    intro b
    induction b with
    | nil => intro a _; rfl
    | cons x b ih =>
      intro a h
      have ih := ih (a ++ [x]) (by rw [List.append_assoc]; exact h)
      have e1 : (((a ++ [x]).length : Nat) : Int) = (a.length : Nat) + 1 := by simp
      rw [e1] at ih
      have hids : idsF base (btOf (fun _ => 1) (upT 0 base)) (tpOf (upT 0 base)) (a.length : Nat) ((a.length : Nat) + 1) = [x] := by
        refine filter_one nd (by rw [← h]; simp) fun y hy => ?_
        rw [Bool.and_eq_true, decide_eq_true_iff, decide_eq_true_iff]
        obtain ⟨a', b', e⟩ := List.append_of_mem hy
        have ty := tp_up nd e.symm
        unfold btOf
        rw [ty]
        show ((a'.length : Nat) : Int) + 1 - 1 ≤ _ ∧ _ ↔ _
        constructor
        · rintro ⟨h1, h2⟩
          have hl : a'.length = a.length := by omega
          have e2 : a ++ x :: b = a' ++ y :: b' := by rw [h, e]
          have := (List.append_inj e2 hl.symm).2
          injection this with e3 _
          exact e3.symm
        · rintro rfl
          have ty2 := tp_up nd h
          rw [ty] at ty2
          omega
      cases b with
      | nil =>
        show runsB _ [((a.length : Nat) : Int), (a.length : Nat) + 1] = _
        rw [runsB, hids]
        simp [runsB]
        omega
      | cons z b =>
        show runsB _ (((a.length : Nat) : Int) :: ((a.length : Nat) + 1) :: upB ((a.length : Nat) + 1 + 1) b) = _
        rw [runsB, hids]
        have ih : runsB _ (((a.length : Nat) + 1) :: upB ((a.length : Nat) + 1 + 1) b) = _ := ih
        rw [ih, List.map_cons]
        congr 2
        omega
  have := go base [] rfl
  simpa using this
end O

/-! Own75: dicts from ints to ints, as rows of pairs -/
namespace O
open PySem
theorem kvI_put (acc : List (Int × Int)) {x z : Int} (h : x ∉ acc.map (·.1)) : putD (kvI acc) (.inl x) (.int z) = kvI (acc ++ [(x, z)]) := by
  unfold putD
  have : ¬ ((kvI acc).any fun kv => decide (kv.1 = Sum.inl x)) = true := fun c => by
    obtain ⟨kv, h1, h2⟩ := List.any_eq_true.mp c
    unfold kvI at h1
    obtain ⟨p, hp, rfl⟩ := List.mem_map.mp h1
    have h2 := of_decide_eq_true h2
    have : p.1 = x := Sum.inl.inj h2
    exact h (List.mem_map.mpr ⟨p, hp, this⟩)
  rw [if_neg this]
  unfold kvI
  rw [List.map_append]
  rfl
theorem kvI_get (x : Int) : ∀ T : List (Int × Int), getD (kvI T) (.inl x) = if x ∈ T.map (·.1) then some (.int (tpOf T x)) else none
  | [] => rfl
  | p :: T => by
    have ih := kvI_get x T
    unfold getD kvI tpOf at *
    rw [List.map_cons, List.find?_cons, List.find?_cons, List.map_cons]
    by_cases h : p.1 = x
    · have e : decide ((Sum.inl p.1 : L2.Key) = Sum.inl x) = true := decide_eq_true (by rw [h])
      simp only [e, decide_eq_true h, h, List.mem_cons, true_or, if_true]
      rfl
    · have e : decide ((Sum.inl p.1 : L2.Key) = Sum.inl x) = false := decide_eq_false fun q => h (Sum.inl.inj q)
      simp only [e, decide_eq_false h]
      rw [ih]
      have : (x ∈ p.1 :: T.map (·.1)) = (x ∈ T.map (·.1)) := by
        rw [List.mem_cons]
        exact propext ⟨fun q => q.resolve_left fun z => h z.symm, .inr⟩
      simp only [this]
theorem kvI_at {T : List (Int × Int)} {x : Int} (h : x ∈ T.map (·.1)) : getD (kvI T) (.inl x) = some (.int (tpOf T x)) := by rw [kvI_get, if_pos h]
theorem kvI_len (T : List (Int × Int)) : (kvI T).length = T.length := by simp [kvI]
theorem kvI_snd (T : List (Int × Int)) : (kvI T).map (·.2) = (T.map (·.2)).map .int := by simp [kvI, List.map_map]
/-- gDGet at an int -/
theorem gDGet_at {kvs : List (L2.Key × D)} {x : Int} {d : D} (h : getD kvs (.inl x) = some d) : gDGet (.dic kvs) (.int x) = some (.val d) ∧ gDGet (.dlk kvs) (.int x) = some (.val d) := by
  constructor <;> simp [gDGet, keyD, h]
theorem idx_at {l : List Int} {x : Int} (h : x ∈ l) : gIndex (.lst (l.map .int)) [.int x] = some (.val (.int (l.idxOf x : Nat))) := by
  have : ∀ {l : List Int}, x ∈ l → (l.map L2.V.int).findIdx? (fun z => L2.eqV z (.int x)) = some (l.idxOf x) := by
    intro l
    induction l with
    | nil => intro h; cases h
    | cons y l ih =>
      intro h
      by_cases e : y = x
      · subst e
        simp [List.findIdx?_cons, L2.eqV]
      · have h' : x ∈ l := by
          rcases List.mem_cons.mp h with q | q
          · exact absurd q.symm e
          · exact q
        have e' : (y == x) = false := by simpa using e
        rw [List.map_cons, List.findIdx?_cons, ih h', List.idxOf_cons, e']
        simp [L2.eqV, e']
  simp only [gIndex, fv, fvs_ints, this h, Option.map_some]
theorem max_int {ns : List Int} {m : Int} (hm : m ∈ ns) (hall : ∀ y ∈ ns, y ≤ m) : gMaxI [.lst (ns.map .int)] = some (.val (.int m)) := by
  cases ns with
  | nil => cases hm
  | cons n ns =>
    obtain ⟨k1, _, k3⟩ := fold_max (n :: ns) n
    have e : (n :: ns).foldl max n = m := by
      have a := k3 m hm
      rcases k1 with k | k
      · have := hall n (by simp); omega
      · have := hall _ k; omega
    have ei : intsD ((n :: ns).map D.int) = some (n :: ns) := intsD_map _
    simp only [gMaxI, ei, e]
end O

/-! Own76: data equal to itself -/
namespace O
open PySem
mutual
/-- numbers, bools, None, in lists and tuples at most so deep -/
def nestD : Nat → D → Bool
  | _, .int _ => true
  | _, .bl _ => true
  | _, .non => true
  | n + 1, .tup ds => nestDs n ds
  | n + 1, .lst ds => nestDs n ds
  | _, _ => false
def nestDs : Nat → List D → Bool
  | _, [] => true
  | n, d :: ds => nestD n d && nestDs n ds
end
mutual
theorem nest_ok : ∀ {n : Nat} {d : D}, nestD n d = true → ∃ p, toPy d = some p ∧ p.canLay0 = true ∧ p.depth ≤ n
  | n, .int i, _ => ⟨.int i, rfl, rfl, Nat.zero_le _⟩
  | n, .bl i, _ => ⟨.bool i, rfl, rfl, Nat.zero_le _⟩
  | n, .non, _ => ⟨.none, rfl, rfl, Nat.zero_le _⟩
  | 0, .tup ds, h => by simp [nestD] at h
  | 0, .lst ds, h => by simp [nestD] at h
  | n + 1, .tup ds, h => by
    obtain ⟨ps, a, b, c⟩ := nests_ok (n := n) (ds := ds) (by simpa [nestD] using h)
    exact ⟨.tuple ps, by simp [toPy, a], by simpa [PyData.canLay0] using b, by simp only [PyData.depth]; omega⟩
  | n + 1, .lst ds, h => by
    obtain ⟨ps, a, b, c⟩ := nests_ok (n := n) (ds := ds) (by simpa [nestD] using h)
    exact ⟨.list ps, by simp [toPy, a], by simpa [PyData.canLay0] using b, by simp only [PyData.depth]; omega⟩
  | 0, .str _, h => by simp [nestD] at h
  | 0, .dic _, h => by simp [nestD] at h
  | 0, .dlk _, h => by simp [nestD] at h
  | 0, .scr _, h => by simp [nestD] at h
  | 0, .set _, h => by simp [nestD] at h
  | n + 1, .str _, h => by simp [nestD] at h
  | n + 1, .dic _, h => by simp [nestD] at h
  | n + 1, .dlk _, h => by simp [nestD] at h
  | n + 1, .scr _, h => by simp [nestD] at h
  | n + 1, .set _, h => by simp [nestD] at h
theorem nests_ok : ∀ {n : Nat} {ds : List D}, nestDs n ds = true → ∃ ps, toPys ds = some ps ∧ PyData.canLayAll0 ps = true ∧ PyData.depthAll ps ≤ n
  | n, [], _ => ⟨[], rfl, rfl, Nat.zero_le _⟩
  | n, d :: ds, h => by
    simp only [nestDs, Bool.and_eq_true] at h
    obtain ⟨p, a, b, c⟩ := nest_ok h.1
    obtain ⟨ps, a', b', c'⟩ := nests_ok h.2
    exact ⟨p :: ps, by simp [toPys, a, a'], by simp [PyData.canLayAll0, b, b'], by simp only [PyData.depthAll]; omega⟩
end
theorem eqB_self {d : D} (h : nestD 64 d = true) : eqB d d = some true := by
  obtain ⟨p, a, b, c⟩ := nest_ok h
  have s : SeqAt.shaped p = true := by simp [SeqAt.shaped, b, c]
  have e : PyData.eqv p p = true := SeqAt.eqv_refl_plain p (PyData.plain_of_canLay0 p b)
  simp [eqB, a, s, e]
theorem eqE_self {d : D} (h : nestD 64 d = true) : eqE d d = some true := by
  have b := eqB_self h
  cases d with
  | tup ds => cases ds with
    | nil => rfl
    | cons x xs => exact b
  | lst ds => cases ds with
    | nil => rfl
    | cons x xs => exact b
  | str x => simp [nestD] at h
  | _ => exact b
theorem gNeE_self {d : D} (h : nestD 64 d = true) : gNeE d d = some (.val (.bl false)) := by rw [gNeE_some (eqE_self h)]; rfl
theorem eqE_tt (a b : List Int) : eqE (.tup (a.map .int)) (.tup (b.map .int)) = some (decide (a = b)) := by
  cases b with
  | nil => cases a <;> simp [eqE]
  | cons y b => exact eqB_tup a (y :: b)
theorem nestDs_all {n : Nat} : ∀ {ds : List D}, (∀ d ∈ ds, nestD n d = true) → nestDs n ds = true
  | [], _ => by cases n <;> rfl
  | d :: ds, h => by
    have a := h d (by simp)
    have b := nestDs_all (n := n) (ds := ds) fun x hx => h x (by simp [hx])
    cases n <;> simp [nestDs, a, b]
theorem nestD_int {n : Nat} {i : Int} : nestD n (.int i) = true := by cases n <;> rfl
theorem nestD_tup {n : Nat} {ds : List D} (h : ∀ d ∈ ds, nestD n d = true) : nestD (n + 1) (.tup ds) = true := by simp [nestD, nestDs_all h]
theorem nestD_lst {n : Nat} {ds : List D} (h : ∀ d ∈ ds, nestD n d = true) : nestD (n + 1) (.lst ds) = true := by simp [nestD, nestDs_all h]
theorem nestD_ints {n : Nat} (l : List Int) : ∀ d ∈ l.map D.int, nestD n d = true := fun d hd => by
  obtain ⟨i, _, rfl⟩ := List.mem_map.mp hd
  exact nestD_int
/-! range(a, b) -/
section
variable {ρ : O.Env} {as : O.Env → Res (List RV)}
def aR2 (ρ : O.Env) : Option (List D) → Res (List D)
  | some [.int i, .int j] => if -(2 ^ 62) ≤ i ∧ i < 2 ^ 62 ∧ -(2 ^ 62) ≤ j ∧ j < 2 ^ 62 then .ok (rngD i (j - i).toNat) ρ else .no
  | _ => .no
@[simp] theorem aR2_some {i j : Int} : aR2 ρ (some [.int i, .int j]) = if -(2 ^ 62) ≤ i ∧ i < 2 ^ 62 ∧ -(2 ^ 62) ≤ j ∧ j < 2 ^ 62 then .ok (rngD i (j - i).toNat) ρ else .no := id rfl
def kR2 (rs : List RV) (ρ : O.Env) : Res (List D) := aR2 ρ (rds rs ρ)
@[simp] theorem u_kR2 {rs : List RV} : kR2 rs ρ = aR2 ρ (rds rs ρ) := id rfl
@[simp] theorem u_fRng2 : fRng2 as ρ = (as ρ).bind kR2 := by
  unfold fRng2
  congr 1
end
end O

/-! Own77: level covers are shown; how great top levels are -/
namespace O
open PySem
theorem dp_all {N : Nat} : ∀ {ds : List D}, (∀ d ∈ ds, dpD d ≤ N) → dpDs ds ≤ N
  | [], _ => by rw [dp_nil]; omega
  | d :: ds, h => by
    have a := h d (by simp)
    have b := dp_all (N := N) (ds := ds) fun x hx => h x (by simp [hx])
    rw [dp_cons]; omega
theorem bk_all {N : Nat} : ∀ {ds : List D}, (∀ d ∈ ds, bkD d ≤ N) → bkDs ds ≤ (N + 1) * ds.length
  | [], _ => by rw [bk_nil]; omega
  | d :: ds, h => by
    have a := h d (by simp)
    have b := bk_all (N := N) (ds := ds) fun x hx => h x (by simp [hx])
    rw [bk_cons, List.length_cons, Nat.mul_add]; omega
section
variable {pb : Int → Nat} {wt : Int → Int} {g : List Int}
theorem below_ub {x K : Int} (h0 : 0 ≤ K) : ∀ {T : List (Int × Int)}, (∀ p ∈ T, p.2 ≤ K) → below pb x T ≤ K
  | [], _ => h0
  | p :: T, h => by
    have a := h p (by simp)
    have b := below_ub (x := x) h0 (T := T) fun q hq => h q (by simp [hq])
    unfold below
    split <;> omega
theorem topsA_le {K : Int} (h0 : 0 ≤ K) : ∀ (g : List Int) (acc : List (Int × Int)), (∀ x ∈ g, wt x ≤ K) → (∀ p ∈ acc, p.2 ≤ K * acc.length) → ∀ p ∈ topsA pb wt acc g, p.2 ≤ K * (acc.length + g.length : Nat)
  | [], acc, _, h, p, hp => by simpa using h p hp
  | x :: g, acc, hw, h, p, hp => by
    have hl : (acc ++ [(x, below pb x acc + wt x)]).length = acc.length + 1 := by simp
    have ek : K * ((acc.length + 1 : Nat) : Int) = K * (acc.length : Nat) + K := by
      rw [Int.natCast_add, Int.mul_add]; simp
    have := topsA_le h0 g (acc ++ [(x, below pb x acc + wt x)]) (fun y hy => hw y (by simp [hy])) (fun q hq => by
      rw [hl, ek]
      rcases List.mem_append.mp hq with hq | hq
      · have := h q hq; omega
      · simp at hq
        subst hq
        have a := below_ub (pb := pb) (x := x) (Int.mul_nonneg h0 (Int.natCast_nonneg acc.length)) h
        have b := hw x (by simp)
        show below pb x acc + wt x ≤ _
        omega) p hp
    rw [hl] at this
    rw [List.length_cons]
    have e : acc.length + 1 + g.length = acc.length + (g.length + 1) := by omega
    rw [← e]
    exact this
theorem tp_le {K : Int} (h0 : 0 ≤ K) (nd : g.Nodup) (hw : ∀ x ∈ g, wt x ≤ K) {x : Int} (hx : x ∈ g) : tpOf (tops pb wt g) x ≤ K * (g.length : Nat) := by
  have ndT : ((tops pb wt g).map (·.1)).Nodup := by rw [tops_keys]; exact nd
  rw [← tops_keys (pb := pb) (wt := wt) g] at hx
  obtain ⟨p, hp, rfl⟩ := List.mem_map.mp hx
  rw [tp_at ndT hp]
  have := topsA_le (pb := pb) (wt := wt) h0 g [] hw (by simp) p hp
  simpa using this
theorem runs_mem {ids : Int → Int → List Int} {M : Int} : ∀ {r : List Int}, r.Pairwise (· < ·) → (∀ c ∈ r, 0 ≤ c ∧ c ≤ M) → ∀ q ∈ runsB ids r, (0 < q.1 ∧ q.1 ≤ M) ∧ ∃ lo hi, q.2 = ids lo hi
  | [], _, _, q, hq => by cases hq
  | [_], _, _, q, hq => by cases hq
  | lo :: hi :: r, hs, h, q, hq => by
    rcases List.mem_cons.mp hq with rfl | hq
    · have a := h lo (by simp)
      have b := h hi (by simp)
      have c := (List.pairwise_cons.mp hs).1 hi (by simp)
      exact ⟨by show 0 < hi - lo ∧ hi - lo ≤ M; omega, lo, hi, rfl⟩
    · exact runs_mem (List.pairwise_cons.mp hs).2 (fun c hc => h c (by simp [hc])) q hq
/-- the runs of a level cover -/
theorem lcov_mem {M : Int} (nd : g.Nodup) (hw : ∀ x ∈ g, 1 ≤ wt x) (hM : ∀ x ∈ g, tpOf (tops pb wt g) x ≤ M) : ∀ q ∈ lcov pb wt g, (0 < q.1 ∧ q.1 ≤ M) ∧ q.2.Sublist g := fun q hq => by
  have Dd := bds_of (pb := pb) nd hw
  have hall : ∀ c ∈ bds wt (tops pb wt g), 0 ≤ c ∧ c ≤ M := fun c hc => by
    obtain ⟨x, hx, h⟩ := Dd.all c hc
    have a := hM x hx
    have b := Dd.lt x hx
    have d := bot_nn (pb := pb) (wt := wt) nd hx
    rcases h with h | h <;> omega
  obtain ⟨h1, lo, hi, e⟩ := runs_mem (sortU_lt _) hall q hq
  exact ⟨h1, by rw [e]; exact List.filter_sublist⟩
theorem lcov_len : (lcov pb wt g).length ≤ 2 * g.length := by
  have a := runsB_len (idsF g (btOf wt (tops pb wt g)) (tpOf (tops pb wt g))) (bds wt (tops pb wt g))
  have b := bds_len (wt := wt) (tops pb wt g)
  rw [tops_len] at b
  exact Nat.le_trans a b
end
/-- a run as data -/
def runD (q : Int × List Int) : D := .tup [.int q.1, .tup (q.2.map .int)]
theorem runD_mk (t : Int) (l : List Int) : runD (t, l) = .tup [.int t, .tup (l.map .int)] := rfl
theorem nest_runs (W : List (Int × List Int)) : nestD 64 (.lst (W.map runD)) = true := nestD_lst fun d hd => by
  obtain ⟨q, _, rfl⟩ := List.mem_map.mp hd
  exact nestD_tup fun d hd => by
    simp only [List.mem_cons, List.not_mem_nil, or_false] at hd
    rcases hd with rfl | rfl
    · exact nestD_int
    · exact nestD_tup (nestD_ints _)
theorem fine_run {q : Int × List Int} (h1 : q.1.natAbs < 10 ^ 90) (h2 : ∀ x ∈ q.2, smallI x) : fineD (runD q) = true ∧ dpD (runD q) ≤ 2 ∧ bkD (runD q) = q.2.length + 2 := by
  refine ⟨?_, ?_, ?_⟩
  · simp only [runD, fineD, fineDs, bigI_ok h1, fine_ints h2, Bool.and_self]
  · rw [runD, dp_tup, dp_cons, dp_cons, dp_nil, dp_int, dp_tup, dpD_ints]; omega
  · rw [runD, bk_tup, bk_cons, bk_cons, bk_nil, bk_int, bk_tup, bkD_ints]; omega
theorem repr_runs {W : List (Int × List Int)} {n : Nat} (h : ∀ q ∈ W, q.1.natAbs < 10 ^ 90 ∧ (∀ x ∈ q.2, smallI x) ∧ q.2.length ≤ n) (hl : (n + 3) * W.length ≤ 100000) : ∃ t, gReprA [.lst (W.map runD)] = some (.val (.str t)) := by
  refine ⟨_, fine_repr ?_ ?_ ?_⟩
  · rw [fineD, fine_all]
    intro d hd
    obtain ⟨q, hq, rfl⟩ := List.mem_map.mp hd
    exact (fine_run (h q hq).1 (h q hq).2.1).1
  · rw [dp_lst]
    have := dp_all (N := 2) (ds := W.map runD) fun d hd => by
      obtain ⟨q, hq, rfl⟩ := List.mem_map.mp hd
      exact (fine_run (h q hq).1 (h q hq).2.1).2.1
    omega
  · rw [bk_lst]
    have := bk_all (N := n + 2) (ds := W.map runD) fun d hd => by
      obtain ⟨q, hq, rfl⟩ := List.mem_map.mp hd
      have := (fine_run (h q hq).1 (h q hq).2.1).2.2
      have := (h q hq).2.2
      omega
    rw [List.length_map, show n + 2 + 1 = n + 3 from rfl] at this
    omega
end O

/-! Own78: what is shown of orders and weights -/
namespace O
open PySem
theorem fine_dk : ∀ {kvs : (List (L2.Key × D))}, (∀ kv ∈ kvs, ∃ n z : Int, kv = (.inl n, .int z) ∧ intOk n = true ∧ intOk z = true) → fineDk kvs = true ∧ PyData.depthKv (pyDk kvs) = 0 ∧ PyData.bulkKv (pyDk kvs) = 2 * kvs.length
  | [], _ => ⟨rfl, rfl, rfl⟩
  | kv :: kvs, h => by
    obtain ⟨n, z, rfl, h1, h2⟩ := h kv (by simp)
    obtain ⟨a, b, c⟩ := fine_dk (kvs := kvs) fun x hx => h x (by simp [hx])
    refine ⟨by simp [fineDk, keyOk, fineD, h1, h2, a], by simp [pyDk, PyData.depthKv, kD, pyD, PyData.depth, b], ?_⟩
    simp only [pyDk, PyData.bulkKv, kD, pyD, PyData.bulk, c, List.length_cons]
    omega
def LdOk (ld : D) : Prop := ld = .non ∨ ∃ kvs, ld = .dic kvs ∧ (∀ kv ∈ kvs, ∃ n z : Int, kv = (.inl n, .int z) ∧ intOk n = true ∧ intOk z = true) ∧ kvs.length ≤ 2000
theorem fine_ld {ld : D} (h : LdOk ld) : fineD ld = true ∧ dpD ld ≤ 1 ∧ bkD ld ≤ 4000 := by
  rcases h with rfl | ⟨kvs, rfl, h, hl⟩
  · exact ⟨rfl, by simp [dpD, pyD, PyData.depth], by simp [bkD, pyD, PyData.bulk]⟩
  · obtain ⟨a, b, c⟩ := fine_dk h
    refine ⟨by simpa [fineD] using a, ?_, ?_⟩
    · simp [dpD, pyD, PyData.depth, b]
    · simp only [bkD, pyD, PyData.bulk, c]; omega
theorem fine_li {l : List Int} (h : ∀ x ∈ l, smallI x) : fineD (.lst (l.map .int)) = true ∧ dpD (.lst (l.map .int)) = 1 ∧ bkD (.lst (l.map .int)) = l.length := by
  exact ⟨by simpa [fineD] using fine_ints h, by rw [dp_lst, dpD_ints], by rw [bk_lst, bkD_ints]⟩
theorem repr_bgl {base goal : List Int} {ld : D} (hb : ∀ x ∈ base, smallI x) (hg : ∀ x ∈ goal, smallI x) (hl : LdOk ld) (l1 : base.length ≤ 1000) (l2 : goal.length ≤ 1000) : ∃ t, gReprA [.tup [.lst (base.map .int), .lst (goal.map .int), ld]] = some (.val (.str t)) := by
  obtain ⟨a, b, c⟩ := fine_ld hl
  obtain ⟨a1, b1, c1⟩ := fine_li hb
  obtain ⟨a2, b2, c2⟩ := fine_li hg
  refine ⟨_, fine_repr (by simp only [fineD, fineDs] at a1 a2 ⊢; simp [a, a1, a2]) ?_ ?_⟩
  · rw [dp_tup, dp_cons, dp_cons, dp_cons, dp_nil]; omega
  · rw [bk_tup, bk_cons, bk_cons, bk_cons, bk_nil]; omega
end O

/-! Own79: comprehensions over rows; dict(pairs) -/
namespace O
open PySem
theorem lc_gen {α : Type} (emb : α → D) {vs : List Nat} {v : Nat} {fe : O.Env → Res RV} {ρ0 : O.Env} (K : α → O.Env) (y : α → D) (ht : ∀ a, takeT (.name v) (emb a) ρ0 = some (K a)) (hw : ∀ a, wipeE (K a) vs = ρ0) :
    ∀ (l : List α) (k : Nat), (∀ a ∈ l, (fe (K a)).bind fz = .ok (y a) (K a)) → k + l.length ≤ sizeLine → lcD vs (.name v) fYes fe k (l.map emb) ρ0 = .ok (l.map y) ρ0
  | [], _, _, _ => rfl
  | a :: l, k, hy, h => by
    rw [List.length_cons] at h
    have h1 : k < sizeLine := by omega
    have e2 := hy a (by simp)
    have ih := lc_gen emb K y ht hw l (k + 1) (fun m hm => hy m (by simp [hm])) (by omega)
    simp only [List.map_cons, lcD, ht, u_fYes, e2, if_pos h1, hw, ih]
theorem dict_pairs {T : List (Int × Int)} (nd : (T.map (·.1)).Nodup) : gDictP [.lst (T.map fun p => .tup [.int p.1, .int p.2])] = some (.own (.dic (kvI T))) := by
  have e1 : ∀ T : List (Int × Int), pairsD (T.map fun p => .tup [.int p.1, .int p.2]) = some (kvI T) := by
    intro T
    induction T with
    | nil => rfl
    | cons p T ih =>
      simp only [List.map_cons, pairsD, keyD, ih, kvI]
  have e2 : ∀ (T acc : List (Int × Int)), ((acc.map (·.1)) ++ (T.map (·.1))).Nodup → mergeD (kvI acc) (kvI T) = kvI (acc ++ T) := by
    intro T
    induction T with
    | nil => intro acc _; rw [List.append_nil]; rfl
    | cons p T ih =>
      intro acc h
      have hp : p.1 ∉ acc.map (·.1) := fun z => (List.nodup_append.mp h).2.2 _ z p.1 (by simp) rfl
      have := ih (acc ++ [p]) (by simpa using h)
      rw [List.append_assoc] at this
      show mergeD (putD (kvI acc) (.inl p.1) (.int p.2)) (kvI T) = _
      rw [kvI_put acc hp]
      exact this
  have e3 := e2 T [] (by simpa using nd)
  simp only [gDictP, e1, Option.map_some]
  exact congrArg (fun z => some (RV.own (.dic z))) e3
end O

namespace K12
open PySem O
/-! ### what each def computes -/
noncomputable def g_Greatest_init (cGreatest : Addr) : O.Env → SR := (gSeq (gSetF cGreatest 0 "least" (fVar 2))
  (gSetF cGreatest 0 "nodes" (fRep (fLst (iCons (fVar 2) aNil)) (f2 (fVar 1) (fC (.int 1)) gAdd))))
noncomputable def F_Greatest_init (cGreatest : Addr) : List Ar → FO := runF 3 (g_Greatest_init cGreatest)
noncomputable def g_Greatest_put (cGreatest : Addr) : O.Env → SR := (gSeq (gSet 3 (f2 (fVar 1) (fC (.int 1)) gAdd))
  (gWhile (fB (f2 (fVar 3) (fFldB cGreatest 0 "nodes" gLen) gLtT))
  (gSeq (gSetFI cGreatest 0 "nodes" 3 (fCB (aCons (fFldIx cGreatest 0 "nodes" 3) (aCons (fVar 2) aNil)) gMaxT))
    (gAug 3 (fun i j => i + j) (f2 (fVar 3) (f1 (fVar 3) gNeg) gBitAnd)))))
noncomputable def F_Greatest_put (cGreatest : Addr) : List Ar → FO := runF 4 (g_Greatest_put cGreatest)
noncomputable def g_Greatest_before (cGreatest : Addr) : O.Env → SR := (gSeq (gSet 2 (fFld cGreatest 0 "least"))
  (gSeq (gAsg (.name 3) (fVar 1))
  (gSeq (gWhile (fB (f2 (fVar 3) (fC (.int 0)) gGtT))
  (gSeq (gSet 2 (fCB (aCons (fVar 2) (aCons (fFldIx cGreatest 0 "nodes" 3) aNil)) gMaxT))
    (gAug 3 (fun i j => i - j) (f2 (fVar 3) (f1 (fVar 3) gNeg) gBitAnd))))
  (gRet (fVar 2)))))
noncomputable def F_Greatest_before (cGreatest : Addr) : List Ar → FO := runF 4 (g_Greatest_before cGreatest)
def g_places_of : O.Env → SR := (gRet (fDc (fWalk (fVar 0) gItE) [1, 2] (.tup [(.name 1), (.name 2)]) fYes (fVar 2) (fVar 1)))
def F_places_of : List Ar → FO := runF 3 g_places_of
def g_weight_of : O.Env → SR := (gRet (fIf (fB (f2 (fVar 1) (fC .non) gIsN)) (fC (.int 1)) (fGetC 1 (fVar 1) (fVar 0))))
def F_weight_of : List Ar → FO := runF 2 g_weight_of
noncomputable def g_top_levels (cGreatest : Addr) : O.Env → SR := (gSeq (gSet 3 (fCall [.br] [] F_places_of (aCons (fVar 0) aNil)))
  (gSeq (gSet 4 (fMake cGreatest [.br, .br] (F_Greatest_init cGreatest) (aCons (fCB (aCons (fVar 0) aNil) gLen) (aCons (fC (.int 0)) aNil))))
  (gSeq (gSet 5 fDict0)
  (gSeq (gFor (fWalk (fVar 1) gItL) (.name 6)
  (gSeq (gPutI 5 (fVar 6) (f2 (fMeth cGreatest "before" 4 [.io, .br] (F_Greatest_before cGreatest) (aCons (f2 (fVar 3) (fVar 6) gDGet) aNil)) (fCall [.br, .br] [] F_weight_of (aCons (fVar 6) (aCons (fVar 2) aNil))) gAdd))
    (gDrop (fMeth cGreatest "put" 4 [.io, .br, .br] (F_Greatest_put cGreatest) (aCons (f2 (fVar 3) (fVar 6) gDGet) (aCons (f2 (fVar 5) (fVar 6) gDGet) aNil))))))
  (gRet (fVar 5))))))
noncomputable def F_top_levels (cGreatest : Addr) : List Ar → FO := runF 7 (g_top_levels cGreatest)
noncomputable def g_level_cover (cGreatest : Addr) : O.Env → SR := (gSeq (gSetL 3 (fCall [.br, .br, .br] [] (F_top_levels cGreatest) (aCons (fVar 0) (aCons (fVar 1) (aCons (fVar 2) aNil)))))
  (gSeq (gSet 4 (fDc (fWalk (fVar 3) gItKV) [10, 11] (.tup [(.name 10), (.name 11)]) fYes (fVar 10) (f2 (fVar 11) (fCall [.br, .br] [] F_weight_of (aCons (fVar 10) (aCons (fVar 2) aNil))) gSubX)))
  (gSeq (gSet 5 (f1 (fLst (aStarV (fVar 3) (aStarV (fVar 4) aNil))) gSortSet))
  (gSeq (gSet 6 (fLst aNil))
  (gSeq (gFor (fZip (fVar 5) (fSl (fVar 5) (fPart (fC (.int 1))) fNoPart gSl)) (.tup [(.name 7), (.name 8)])
  (gSeq (gSet 9 (fLc (fWalk (fVar 1) gItL) [10] (.name 10) (fAnd (fB (f2 (f2 (fVar 4) (fVar 10) gDGet) (fVar 7) gLe)) (fB (f2 (fVar 8) (f2 (fVar 3) (fVar 10) gDGet) gLe))) (fVar 10)))
    (gDrop (fMutL 6 (iCons (fTup (iCons (f2 (fVar 8) (fVar 7) gSubX) (iCons (fCB (aCons (fVar 9) aNil) gTuple) aNil))) aNil) gAppend))))
  (gRet (fVar 6)))))))
noncomputable def F_level_cover (cGreatest : Addr) : List Ar → FO := runF 12 (g_level_cover cGreatest)
def g_law_tape : O.Env → SR := (gSeq (gSet 2 (f2 (fC (.int 97)) (f2 (fVar 1) (fC (.int 31)) gMulI) gAdd))
  (gSeq (gFor (fWalk (fVar 0) gItL) (.name 3)
  (gSet 2 (f2 (f2 (f2 (f2 (f2 (f2 (fVar 2) (fC (.int 30011)) gMulI) (f2 (fVar 3) (fVar 3) gMulI) gAdd) (fC (.int 7)) gAdd) (fC (.int 2)) gPow) (fC (.int 2147483563)) gMod) (fC (.int 2)) gAdd)))
  (gSeq (gSet 4 (fIf (fAnd (fB (f2 (fVar 1) (fCB (aCons (fVar 0) aNil) gLen) gLtT)) (fB (f2 (f2 (fVar 0) (fVar 1) gIx) (f2 (fC (.int 10)) (fC (.int 18)) gPow) gGe))) (f2 (f2 (fVar 0) (fVar 1) gIx) (f2 (fC (.int 10)) (fC (.int 18)) gPow) gSubX) (fC (.int 0))))
  (gRet (fDisp (pCons (fC (.str "digits")) (fVar 4) (pCons (fC (.str "mixed")) (fVar 2) pNil)))))))
def F_law_tape : List Ar → FO := runF 5 g_law_tape
def g_law_pick : O.Env → SR := (gSeq (gIf (fB (f2 (f2 (fVar 0) (fC (.str "digits")) gDGet) (fVar 1) gGe)) (gSeq (gSet 2 (f2 (f2 (fVar 0) (fC (.str "digits")) gDGet) (fVar 1) gMod))
    (gSeq (gPutI 0 (fC (.str "digits")) (f2 (f2 (fVar 0) (fC (.str "digits")) gDGet) (fVar 1) gFdivX))
    (gRet (fVar 2)))) gNext)
  (gSeq (gPutI 0 (fC (.str "mixed")) (f2 (f2 (f2 (f2 (fVar 0) (fC (.str "mixed")) gDGet) (fC (.int 40014)) gMulI) (fC (.int 1013)) gAdd) (fC (.int 2147483563)) gMod))
  (gRet (f2 (f2 (f2 (f2 (f2 (f2 (f2 (fVar 0) (fC (.str "mixed")) gDGet) (fC (.int 2)) gPow) (fC (.int 2147483399)) gMod) (fC (.int 3)) gPow) (fC (.int 998244353)) gMod) (fC (.int 5)) gFdivX) (fVar 1) gMod))))
def F_law_pick : List Ar → FO := runF 3 g_law_pick
def g_law_one_of : O.Env → SR := (gRet (f2 (fVar 1) (fCall [.io, .br] [] F_law_pick (aCons (fVar 0) (aCons (fCB (aCons (fVar 1) aNil) gLen) aNil))) gIx))
def F_law_one_of : List Ar → FO := runF 2 g_law_one_of
def g_law_shuffled : O.Env → SR := (gSeq (gSet 2 (fCB (aCons (fVar 1) aNil) gList))
  (gSeq (gSet 3 (fLst aNil))
  (gSeq (gWhile (fB (f2 (fVar 2) (fLst aNil) gNeE))
  (gDrop (fMutL 3 (iCons (fMutL 2 (iCons (fCall [.io, .br] [] F_law_pick (aCons (fVar 0) (aCons (fCB (aCons (fVar 2) aNil) gLen) aNil))) aNil) gPopAt) aNil) gAppend)))
  (gRet (fVar 3)))))
def F_law_shuffled : List Ar → FO := runF 4 g_law_shuffled
def g_law_ids : O.Env → SR := (gSeq (gSet 2 (fCall [.io, .br] [] F_law_one_of (aCons (fVar 0) (aCons (fLst (iCons (fC (.int 1)) (iCons (fC (.int 1)) (iCons (fC (.int 37)) (iCons (fC (.int 9999)) aNil))))) aNil))))
  (gRet (fCall [.io, .br] [] F_law_shuffled (aCons (fVar 0) (aCons (fLc (fRng1 (aCons (fVar 1) aNil)) [3] (.name 3) fYes (f2 (fC (.int 1)) (f2 (fVar 2) (fVar 3) gMulI) gAdd)) aNil)))))
def F_law_ids : List Ar → FO := runF 4 g_law_ids
def g_law_goal : O.Env → SR := (gSeq (gSet 2 (fCall [.io, .br] [] F_law_pick (aCons (fVar 0) (aCons (fC (.int 8)) aNil))))
  (gSeq (gIf (fOr (fB (f2 (fVar 2) (fC (.int 0)) gEqE)) (fB (f2 (fVar 1) (fLst aNil) gEqE))) (gRet (fCall [.io, .br] [] F_law_shuffled (aCons (fVar 0) (aCons (fVar 1) aNil)))) gNext)
  (gSeq (gIf (fB (f2 (fVar 2) (fC (.int 1)) gEqE)) (gRet (f1 (fVar 1) gRevL)) gNext)
  (gSeq (gIf (fB (f2 (fVar 2) (fC (.int 2)) gEqE)) (gRet (f2 (f1 (fVar 1) (gStep (some 1))) (f1 (fVar 1) (gStep none)) gAdd)) gNext)
  (gSeq (gSet 3 (fCB (aCons (fVar 1) aNil) gList))
  (gSeq (gFor (fRng1 (aCons (fCall [.io, .br] [] F_law_pick (aCons (fVar 0) (aCons (f2 (fC (.int 2)) (f2 (fCB (aCons (fVar 1) aNil) gLen) (fC (.int 2)) gFdivX) gAdd) aNil))) aNil)) (.name 4)
  (gSeq (gSet 5 (fMutL 3 (iCons (fCall [.io, .br] [] F_law_pick (aCons (fVar 0) (aCons (fCB (aCons (fVar 3) aNil) gLen) aNil))) aNil) gPopAt))
    (gDrop (fMutL 3 (iCons (fCall [.io, .br] [] F_law_pick (aCons (fVar 0) (aCons (f2 (fCB (aCons (fVar 3) aNil) gLen) (fC (.int 1)) gAdd) aNil))) (iCons (fVar 5) aNil)) gInsert))))
  (gRet (fVar 3))))))))
def F_law_goal : List Ar → FO := runF 6 g_law_goal
def g_law_loads : O.Env → SR := (gSeq (gSet 3 (fCall [.io, .br] [] F_law_pick (aCons (fVar 0) (aCons (fC (.int 4)) aNil))))
  (gSeq (gIf (fB (f2 (fVar 3) (fC (.int 0)) gEqE)) (gRet (fC .non)) gNext)
  (gSeq (gSet 4 fDict0)
  (gSeq (gFor (fWalk (f2 (fVar 1) (fLst (iCons (f2 (fC (.int 10)) (fC (.int 6)) gPow) aNil)) gAdd) gItL) (.name 5)
  (gIf (fOr (fB (f2 (fVar 3) (fC (.int 1)) gGtT)) (fB (f2 (fCall [.io, .br] [] F_law_pick (aCons (fVar 0) (aCons (fC (.int 2)) aNil))) (fC (.int 0)) gEqE))) (gPutI 4 (fVar 5) (fCall [.io, .br] [] F_law_one_of (aCons (fVar 0) (aCons (fLst (iCons (f2 (fC (.int 1)) (fCall [.io, .br] [] F_law_pick (aCons (fVar 0) (aCons (fC (.int 3)) aNil))) gAdd) (iCons (f2 (fC (.int 1)) (fCall [.io, .br] [] F_law_pick (aCons (fVar 0) (aCons (fVar 2) aNil))) gAdd) (iCons (fVar 2) aNil)))) aNil)))) gNext))
  (gRet (fVar 4))))))
def F_law_loads : List Ar → FO := runF 6 g_law_loads
def g_law_load : O.Env → SR := (gRet (fIf (fB (f2 (fVar 0) (fC .non) gIsN)) (fC (.int 1)) (fGetC 1 (fVar 0) (fVar 1))))
def F_law_load : List Ar → FO := runF 2 g_law_load
def g_law_tops : O.Env → SR := (gSeq (gSet 3 fDict0)
  (gSeq (gFor (fWalk (fVar 1) gItE) (.tup [(.name 4), (.name 5)])
  (gSeq (gSet 6 (fLc (fWalk (fSl (fVar 1) fNoPart (fPart (fVar 4)) gSl) gItL) [7] (.name 7) (fB (f2 (fBM (fVar 0) (aCons (fVar 7) aNil) gIndex) (fBM (fVar 0) (aCons (fVar 5) aNil) gIndex) gLtT)) (f2 (fVar 3) (fVar 7) gDGet)))
    (gPutI 3 (fVar 5) (f2 (fCB (aCons (f2 (fVar 6) (fLst (iCons (fC (.int 0)) aNil)) gAdd) aNil) gMaxI) (fCall [.br, .br] [] F_law_load (aCons (fVar 2) (aCons (fVar 5) aNil))) gAdd))))
  (gRet (fVar 3))))
def F_law_tops : List Ar → FO := runF 8 g_law_tops
def g_law_cover : O.Env → SR := (gSeq (gSet 3 (fCall [.br, .br, .br] [] F_law_tops (aCons (fVar 0) (aCons (fVar 1) (aCons (fVar 2) aNil)))))
  (gSeq (gSet 4 (fLst aNil))
  (gSeq (gFor (fRng2 (aCons (fC (.int 1)) (aCons (f2 (fCB (aCons (f2 (f1 (fVar 3) gListV) (fLst (iCons (fC (.int 0)) aNil)) gAdd) aNil) gMaxI) (fC (.int 1)) gAdd) aNil))) (.name 5)
  (gSeq (gSet 6 (fCB (aCons (fLc (fWalk (fVar 1) gItL) [8] (.name 8) (fB (fChain (f2 (f2 (fVar 3) (fVar 8) gDGet) (fCall [.br, .br] [] F_law_load (aCons (fVar 2) (aCons (fVar 8) aNil))) gSubX) (fVar 5) (f2 (fVar 3) (fVar 8) gDGet) gLtT gLe)) (fVar 8)) aNil) gTuple))
    (gIf (fAnd (fB (f2 (fVar 4) (fLst aNil) gNeE)) (fB (f2 (f2 (f2 (fVar 4) (f1 (fC (.int 1)) gNeg) gIx) (fC (.int 1)) gIx) (fVar 6) gEqE))) (gSeq (gSet 7 (f2 (fMutL 4 aNil gPop0) (fC (.int 0)) gIx))
      (gDrop (fMutL 4 (iCons (fTup (iCons (f2 (fVar 7) (fC (.int 1)) gAdd) (iCons (fVar 6) aNil))) aNil) gAppend))) (gDrop (fMutL 4 (iCons (fTup (iCons (fC (.int 1)) (iCons (fVar 6) aNil))) aNil) gAppend)))))
  (gRet (fVar 4)))))
def F_law_cover : List Ar → FO := runF 9 g_law_cover
noncomputable def b0_law (cGreatest : Addr) : O.Env → SR := (gSeq (gSet 12 (fCall [.br, .br, .br] [] (F_level_cover cGreatest) (fPK 2 1 [0, 1, 2] (aCons (fVar 4) (aCons (fVar 6) aNil)) (aCons (fVar 5) aNil))))
        (gSeq (gIf (fOr (fNot (fB (f1 (fVar 12) (gIsi "list")))) (fB (f2 (fCB (aCons (fVar 12) aNil) gReprA) (fCB (aCons (fVar 7) aNil) gReprA) gNeE))) (gRet (fC (.bl false))) gNext)
        (gDrop (fMutL 12 (iCons (fC .non) aNil) gAppend))))
noncomputable def b1_law (cGreatest : Addr) : O.Env → SR := (gSeq (gSet 4 (fCall [.io, .br] [] F_law_ids (aCons (fVar 2) (aCons (fCall [.io, .br] [] F_law_pick (aCons (fVar 2) (aCons (fC (.int 13)) aNil))) aNil))))
      (gSeq (gSet 5 (fCall [.io, .br, .br] [] F_law_loads (aCons (fVar 2) (aCons (fVar 4) (aCons (fC (.int 30)) aNil)))))
      (gSeq (gIf (fB (f2 (fVar 3) (fC (.int 3)) gEqE)) (gAsg (.tup [(.name 4), (.name 5)]) (fTup (iCons (fCall [.io, .br] [] F_law_ids (aCons (fVar 2) (aCons (f2 (fC (.int 12)) (fCall [.io, .br] [] F_law_pick (aCons (fVar 2) (aCons (fC (.int 19)) aNil))) gAdd) aNil))) (iCons (fC .non) aNil)))) gNext)
      (gSeq (gSet 6 (fCall [.io, .br] [] F_law_goal (aCons (fVar 2) (aCons (fVar 4) aNil))))
      (gSeq (gParN [7, 8] (hCons (fCall [.br, .br, .br] [] F_law_cover (aCons (fVar 4) (aCons (fVar 6) (aCons (fVar 5) aNil)))) (hCons (fCB (aCons (fTup (iCons (fVar 4) (iCons (fVar 6) (iCons (fVar 5) aNil)))) aNil) gReprA) hNil)))
      (gSeq (gFor (fRng1 (aCons (fC (.int 2)) aNil)) (.name 9)
      (b0_law cGreatest))
      (gSeq (gIf (fOr (fB (f2 (fCall [.br, .br, .br] [.non] (F_level_cover cGreatest) (aCons (fVar 4) (aCons (fVar 6) aNil))) (fCall [.br, .br, .br] [] F_law_cover (aCons (fVar 4) (aCons (fVar 6) (aCons (fC .non) aNil)))) gNeE)) (fB (f2 (fCB (aCons (fTup (iCons (fVar 4) (iCons (fVar 6) (iCons (fVar 5) aNil)))) aNil) gReprA) (fVar 8) gNeE))) (gRet (fC (.bl false))) gNext)
      (gSeq (gIf (fB (f2 (fCall [.br, .br, .br] [.non] (F_level_cover cGreatest) (aCons (fVar 4) (aCons (fVar 4) aNil))) (fLc (fWalk (fVar 4) gItL) [13] (.name 13) fYes (fTup (iCons (fC (.int 1)) (iCons (fTup (iCons (fVar 13) aNil)) aNil)))) gNeE)) (gRet (fC (.bl false))) gNext)
      (gSeq (gSet 10 (fCall [.io, .br] [] F_law_one_of (aCons (fVar 2) (aCons (fLst (iCons (fC (.int 2)) (iCons (f2 (fC (.int 10)) (fC (.int 6)) gPow) (iCons (f2 (fC (.int 10)) (fC (.int 57)) gPow) aNil)))) aNil))))
      (gSeq (gSet 11 (fCB (aCons (fLc (fWalk (fVar 4) gItL) [13] (.name 13) fYes (fTup (iCons (fVar 13) (iCons (f2 (fCall [.br, .br] [] F_law_load (aCons (fVar 5) (aCons (fVar 13) aNil))) (fVar 10) gMulI) aNil)))) aNil) gDictP))
      (gIf (fB (f2 (fCall [.br, .br, .br] [] (F_level_cover cGreatest) (fPK 2 1 [0, 1, 2] (aCons (fVar 4) (aCons (fVar 6) aNil)) (aCons (fVar 11) aNil))) (fLc (fWalk (fVar 7) gItL) [14] (.name 14) fYes (fTup (iCons (f2 (f2 (fVar 14) (fC (.int 0)) gIx) (fVar 10) gMulI) (iCons (f2 (fVar 14) (fC (.int 1)) gIx) aNil)))) gNeE)) (gRet (fC (.bl false))) gNext)))))))))))
noncomputable def b2_law (cGreatest : Addr) : O.Env → SR := (gSeq (gSet 2 (fCall [.br, .br] [] F_law_tape (aCons (fVar 0) (aCons (fVar 1) aNil))))
    (gFor (fRng1 (aCons (fC (.int 4)) aNil)) (.name 3)
    (b1_law cGreatest)))
noncomputable def g_law (cGreatest : Addr) : O.Env → SR := (gSeq (gFor (fRng1 (aCons (fCB (aCons (fC (.int 2)) (aCons (fCB (aCons (fC (.int 4)) (aCons (fCB (aCons (fVar 0) aNil) gLen) aNil)) gMin) aNil)) gMax) aNil)) (.name 1)
  (b2_law cGreatest))
  (gRet (fC (.bl true))))
noncomputable def F_law (cGreatest : Addr) : List Ar → FO := runF 15 (g_law cGreatest)
/-! ### and does -/
def top (i : Nat) : Stmt := PySem.Challenge.pw_handsorted_k12_level_covers.main.body.getD i (.Pass ⟨0, 0, 0, 0⟩)
abbrev s_Greatest_init : Stmt := clsAt (top 1) 0
abbrev s_Greatest_put : Stmt := clsAt (top 1) 1
abbrev s_Greatest_before : Stmt := clsAt (top 1) 2
abbrev s_places_of : Stmt := top 3
abbrev s_weight_of : Stmt := top 4
abbrev s_top_levels : Stmt := top 6
abbrev s_level_cover : Stmt := top 7
abbrev s_law_tape : Stmt := top 9
abbrev s_law_pick : Stmt := top 10
abbrev s_law_one_of : Stmt := top 11
abbrev s_law_shuffled : Stmt := top 12
abbrev s_law_ids : Stmt := top 13
abbrev s_law_goal : Stmt := top 14
abbrev s_law_loads : Stmt := top 15
abbrev s_law_load : Stmt := top 16
abbrev s_law_tops : Stmt := top 18
abbrev s_law_cover : Stmt := top 19
abbrev s_law : Stmt := top 20
section
variable {P : Program} {w : World} {K : PySem.W.Frag} {mg : PySem.Str → Option Value} {base : Heap} {fA : Addr} {fd : FuncData} {cGreatest : Addr}
theorem sc_Greatest_init : L2.FnScope ["self", "size", "least"] ["self", "size", "least"] (L2.defScope s_Greatest_init) := ⟨rfl, rfl, rfl, by decide +kernel, rfl, by decide +kernel, by decide +kernel⟩
theorem ok_Greatest_init (F : L2.Fun K "__init__" "Greatest.__init__" s_Greatest_init fA fd) (hC : L2.Cls K cGreatest) (n_least : L2.NoAttr K cGreatest "least") (n_nodes : L2.NoAttr K cGreatest "nodes") : L2.FnOk P w K mg base (L2.CX P w) 1 fA fd ["self", "size", "least"] (spF K 3 (F_Greatest_init cGreatest)) :=
  have sc := sc_Greatest_init
  def_ok (N := ["self", "size", "least"]) F sc rfl rfl (by decide) fun cdv A outer s H E hr => ⟨_, (jbcons (jsetF hC n_least (jv 0) (jv 2))
  (jb1 (jsetF hC n_nodes (jv 0) (jrep (jlst (jitem (jv 2) janil)) (jop op_gAdd (jv 1) ji)))))⟩
theorem sc_Greatest_put : L2.FnScope ["self", "place", "value", "node"] ["self", "place", "value"] (L2.defScope s_Greatest_put) := ⟨rfl, rfl, rfl, by decide +kernel, rfl, by decide +kernel, by decide +kernel⟩
theorem ok_Greatest_put (F : L2.Fun K "put" "Greatest.put" s_Greatest_put fA fd) (hC : L2.Cls K cGreatest) (n_least : L2.NoAttr K cGreatest "least") (n_nodes : L2.NoAttr K cGreatest "nodes") (m_len : mg "len" = none) (m_max : mg "max" = none) : L2.FnOk P w K mg base (L2.CX P w) 1 fA fd ["self", "place", "value"] (spF K 3 (F_Greatest_put cGreatest)) :=
  have sc := sc_Greatest_put
  def_ok (N := ["self", "place", "value", "node"]) F sc rfl rfl (by decide) fun cdv A outer s H E hr => ⟨_, (jbcons (jset 3 sc.nd (jop op_gAdd (jv 1) ji))
  (jb1 (jwhile psB (jcmpT (op_gLtT (by have := hr.units; exact this)) (jv 3) (jfldLen hC n_nodes m_len (jv 0)))
  (jbcons (jsetFI hC n_nodes (jv 0) (jv 3) (jcb (cb_maxT rfl (by have := hr.units; exact this)) m_max (jacons (jfldIx hC n_nodes (jv 0) (jv 3)) (jacons (jv 2) janil))))
    (jb1 (jaugA 3 sc.nd (jop op_gBitAnd (jv 3) (jneg (jv 3)))))))))⟩
theorem sc_Greatest_before : L2.FnScope ["self", "place", "found", "node"] ["self", "place"] (L2.defScope s_Greatest_before) := ⟨rfl, rfl, rfl, by decide +kernel, rfl, by decide +kernel, by decide +kernel⟩
theorem ok_Greatest_before (F : L2.Fun K "before" "Greatest.before" s_Greatest_before fA fd) (hC : L2.Cls K cGreatest) (n_least : L2.NoAttr K cGreatest "least") (n_nodes : L2.NoAttr K cGreatest "nodes") (m_max : mg "max" = none) : L2.FnOk P w K mg base (L2.CX P w) 1 fA fd ["self", "place"] (spF K 2 (F_Greatest_before cGreatest)) :=
  have sc := sc_Greatest_before
  def_ok (N := ["self", "place", "found", "node"]) F sc rfl rfl (by decide) fun cdv A outer s H E hr => ⟨_, (jbcons (jset 2 sc.nd (jfld hC n_least (jv 0)))
  (jbcons (jasg (jgn 3 sc.nd) (jv 1))
  (jbcons (jwhile psB (jcmpT (op_gGtT (by have := hr.units; exact this)) (jv 3) ji)
  (jbcons (jset 2 sc.nd (jcb (cb_maxT rfl (by have := hr.units; exact this)) m_max (jacons (jv 2) (jacons (jfldIx hC n_nodes (jv 0) (jv 3)) janil))))
    (jb1 (jaugS 3 sc.nd (jop op_gBitAnd (jv 3) (jneg (jv 3)))))))
  (jb1 (jret (jv 2))))))⟩
theorem sc_places_of : L2.FnScope ["order", "place", "row_id"] ["order"] (L2.defScope s_places_of) := ⟨rfl, rfl, rfl, by decide +kernel, rfl, by decide +kernel, by decide +kernel⟩
theorem ok_places_of (F : L2.Fun K "places_of" "places_of" s_places_of fA fd) (gm : mg "places_of" = some (.ref fA)) (m_enumerate : mg "enumerate" = none) : CalG P w K mg base "places_of" 1 1 ["order"] F_places_of :=
  have sc := sc_places_of
  cal_ofG (N := ["order", "place", "row_id"]) F sc gm rfl rfl (by decide) (F.binds (ps := ["order"]) fun _ _ _ _ _ _ us hl => match us, hl with | [_], _ => rfl) fun cdv A outer s H E hr => ⟨_, (jb1 (jret (jdc [("place", 1), ("row_id", 2)] rfl sc.nd (jenum m_enumerate (jv 0)) (by rfl) (fun s H C cl fp => (jgt (n := 2) rfl (jgcons (jgn 1 sc.nd) (jgcons (jgn 2 sc.nd) jgnil)))) (fun s H C cl fp => jts0) (fun s H C cl fp => (jv 2)) (fun s H C cl fp => (jv 1)))))⟩
theorem sc_weight_of : L2.FnScope ["row_id", "weights"] ["row_id", "weights"] (L2.defScope s_weight_of) := ⟨rfl, rfl, rfl, by decide +kernel, rfl, by decide +kernel, by decide +kernel⟩
theorem ok_weight_of (F : L2.Fun K "weight_of" "weight_of" s_weight_of fA fd) (gm : mg "weight_of" = some (.ref fA)) : CalG P w K mg base "weight_of" 1 2 ["row_id", "weights"] F_weight_of :=
  have sc := sc_weight_of
  cal_ofG (N := ["row_id", "weights"]) F sc gm rfl rfl (by decide) (F.binds (ps := ["row_id", "weights"]) fun _ _ _ _ _ _ us hl => match us, hl with | [_, _], _ => rfl) fun cdv A outer s H E hr => ⟨_, (jb1 (jret (jif (jcmpT (op_gIsN) (jv 1) jnon) ji (jgetC (by have := hr.units; exact this) (jv 1) (jv 0)))))⟩
theorem sc_top_levels : L2.FnScope ["base", "goal", "weights", "places", "tree", "tops", "row_id"] ["base", "goal", "weights"] (L2.defScope s_top_levels) := ⟨rfl, rfl, rfl, by decide +kernel, rfl, by decide +kernel, by decide +kernel⟩
theorem ok_top_levels (F : L2.Fun K "top_levels" "top_levels" s_top_levels fA fd) (gm : mg "top_levels" = some (.ref fA)) (c_places_of : CalG P w K mg base "places_of" 1 1 ["order"] F_places_of) (c_weight_of : CalG P w K mg base "weight_of" 1 2 ["row_id", "weights"] F_weight_of) (hC : L2.Cls K cGreatest) (P_before : MetC P w K mg base cGreatest "before" 1 2 ["self", "place"] (F_Greatest_before cGreatest)) (P_put : MetC P w K mg base cGreatest "put" 1 3 ["self", "place", "value"] (F_Greatest_put cGreatest)) (M_Greatest : MakC P w K mg base cGreatest 1 3 ["self", "size", "least"] (F_Greatest_init cGreatest)) (g_Greatest : mg "Greatest" = some (.ref cGreatest)) (m_len : mg "len" = none) : CalG P w K mg base "top_levels" 3 3 ["base", "goal", "weights"] (F_top_levels cGreatest) :=
  have sc := sc_top_levels
  cal_ofG (N := ["base", "goal", "weights", "places", "tree", "tops", "row_id"]) F sc gm rfl rfl (by decide) (F.binds (ps := ["base", "goal", "weights"]) fun _ _ _ _ _ _ us hl => match us, hl with | [_, _, _], _ => rfl) fun cdv A outer s H E hr => ⟨_, (jbcons (jset 3 sc.nd (jcalG [.br] c_places_of hr tkB (jacons (jv 0) janil)))
  (jbcons (jset 4 sc.nd (jmake [.br, .br] M_Greatest g_Greatest hr.room (jacons (jcb cb_len m_len (jacons (jv 0) janil)) (jacons ji janil))))
  (jbcons (jset 5 sc.nd jdict0)
  (jbcons (jfor psB rfl (jil (jv 1)) (jgn 6 sc.nd)
  (jbcons (jput 5 (by have := hr.units; exact this) (jv 5) (jv 6) (jop op_gAdd (jmeth [.io, .br] hC P_before hr.room (jv 4) (jacons (jdget (by have := hr.units; exact this) (jv 3) (jv 6)) janil)) (jcalG [.br, .br] c_weight_of hr tkB (jacons (jv 6) (jacons (jv 2) janil)))))
    (jb1 (jdrop (jmeth [.io, .br, .br] hC P_put hr.room (jv 4) (jacons (jdget (by have := hr.units; exact this) (jv 3) (jv 6)) (jacons (jdget (by have := hr.units; exact this) (jv 5) (jv 6)) janil)))))))
  (jb1 (jret (jv 5)))))))⟩
theorem sc_level_cover : L2.FnScope ["base", "goal", "weights", "tops", "bottoms", "bounds", "found", "low", "high", "ids", "row_id", "top"] ["base", "goal", "weights"] (L2.defScope s_level_cover) := ⟨rfl, rfl, rfl, by decide +kernel, rfl, by decide +kernel, by decide +kernel⟩
theorem fn_level_cover (F : L2.Fun K "level_cover" "level_cover" s_level_cover fA fd) (c_top_levels : CalG P w K mg base "top_levels" 3 3 ["base", "goal", "weights"] (F_top_levels cGreatest)) (c_weight_of : CalG P w K mg base "weight_of" 1 2 ["row_id", "weights"] F_weight_of) (m_sorted : mg "sorted" = none) (m_set : mg "set" = none) (m_zip : mg "zip" = none) (m_tuple : mg "tuple" = none) : FnG P w K mg base 4 fA fd ["base", "goal", "weights"] (spF K 3 (F_level_cover cGreatest)) :=
  have sc := sc_level_cover
  def_okG (N := ["base", "goal", "weights", "tops", "bottoms", "bounds", "found", "low", "high", "ids", "row_id", "top"]) F sc rfl rfl (by decide) fun cdv A outer s H E hr => ⟨_, (jbcons (jsetL 3 sc.nd (jcalG [.br, .br, .br] c_top_levels hr tkB (jacons (jv 0) (jacons (jv 1) (jacons (jv 2) janil)))))
  (jbcons (jset 4 sc.nd (jdc [("row_id", 10), ("top", 11)] rfl sc.nd (jitems (jv 3)) (by rfl) (fun s H C cl fp => (jgt (n := 2) rfl (jgcons (jgn 10 sc.nd) (jgcons (jgn 11 sc.nd) jgnil)))) (fun s H C cl fp => jts0) (fun s H C cl fp => (jv 10)) (fun s H C cl fp => (jop op_gSubX (jv 11) (jcalG [.br, .br] c_weight_of hr tk0 (jacons (jv 10) (jacons (jv 2) janil)))))))
  (jbcons (jset 5 sc.nd (jsortSet rfl m_sorted m_set (jlst (jstarV rfl (jv 3) (jstarV rfl (jv 4) janil)))))
  (jbcons (jset 6 sc.nd (jlst janil))
  (jbcons (jfor psB rfl (jzip m_zip (jv 5) (jsl (jv 5) (jpart ji) jno)) (jgt (n := 2) rfl (jgcons (jgn 7 sc.nd) (jgcons (jgn 8 sc.nd) jgnil)))
  (jbcons (by first | exact (jsetLc (n := 9) [("row_id", 10)] rfl sc.nd (jil (jv 1)) (by rfl) (fun s H C cl fp => (jgn 10 sc.nd)) (fun s H C cl fp => (jts1 (JW.jt (jand (jcmpT (op_gLe) (jdget (by have := hr.units; exact this) (jv 4) (jv 10)) (jv 7)) (jand1 (jcmpT (op_gLe) (jv 8) (jdget (by have := hr.units; exact this) (jv 3) (jv 10)))))))) (fun s H C cl fp => (jv 10))) | exact (jset 9 sc.nd (jlc [("row_id", 10)] rfl sc.nd (jil (jv 1)) (by rfl) (fun s H C cl fp => (jgn 10 sc.nd)) (fun s H C cl fp => (jts1 (JW.jt (jand (jcmpT (op_gLe) (jdget (by have := hr.units; exact this) (jv 4) (jv 10)) (jv 7)) (jand1 (jcmpT (op_gLe) (jv 8) (jdget (by have := hr.units; exact this) (jv 3) (jv 10)))))))) (fun s H C cl fp => (jv 10)))))
    (jb1 (jdrop (jappend (jv 6) (jitem (jtup (jitem (jop op_gSubX (jv 8) (jv 7)) (jitem (jcty cb_tuple m_tuple (jacons (jv 9) janil)) janil))) janil))))))
  (jb1 (jret (jv 6))))))))⟩
theorem okp_level_cover (F : L2.Fun K "level_cover" "level_cover" s_level_cover fA fd) (gm : mg "level_cover" = some (.ref fA)) (G : FnG P w K mg base 4 fA fd ["base", "goal", "weights"] (spF K 3 (F_level_cover cGreatest))) : CalPK P w K mg base "level_cover" 4 3 2 ["weights"] [0, 1, 2] (F_level_cover cGreatest) :=
  calPK_of (ps := ["base", "goal", "weights"]) 2 ["weights"] [0, 1, 2] F gm G fun _ _ _ _ _ _ us ws h1 h2 => match us, ws, h1, h2 with | [_, _], [_], _, _ => rfl
theorem okd_level_cover (U : L2.FunD K "level_cover" "level_cover" (L2.defArgs s_level_cover) (L2.defBody s_level_cover) (L2.defScope s_level_cover) [] [("weights", .non)] fA fd) (gm : mg "level_cover" = some (.ref fA)) (G : FnG P w K mg base 4 fA fd ["base", "goal", "weights"] (spF K 3 (F_level_cover cGreatest))) (hr : ∀ Hd : L2.Hp, Reps K Hd [.non] [.non]) : CalD P w K mg base "level_cover" 4 3 ["base", "goal", "weights"] [.non] [.non] (F_level_cover cGreatest) :=
  calD_of (kws := [("weights", .non)]) U gm G hr 2 (by simp) rfl fun _ _ _ _ _ _ us ks h1 h2 => match us, ks, h1, h2 with | [_, _], [_], _, _ => ⟨_, _, _, _, _, _, rfl, rfl, rfl⟩
theorem sc_law_tape : L2.FnScope ["script", "start", "mixed", "cell", "digits"] ["script", "start"] (L2.defScope s_law_tape) := ⟨rfl, rfl, rfl, by decide +kernel, rfl, by decide +kernel, by decide +kernel⟩
theorem ok_law_tape (F : L2.Fun K "_law_tape" "_law_tape" s_law_tape fA fd) (gm : mg "_law_tape" = some (.ref fA)) (m_len : mg "len" = none) : CalG P w K mg base "_law_tape" 1 2 ["script", "start"] F_law_tape :=
  have sc := sc_law_tape
  cal_ofG (N := ["script", "start", "mixed", "cell", "digits"]) F sc gm rfl rfl (by decide) (F.binds (ps := ["script", "start"]) fun _ _ _ _ _ _ us hl => match us, hl with | [_, _], _ => rfl) fun cdv A outer s H E hr => ⟨_, (jbcons (jset 2 sc.nd (jop op_gAdd ji (jop op_gMulI (jv 1) ji)))
  (jbcons (jfor psB rfl (jil (jv 0)) (jgn 3 sc.nd)
  (jb1 (jset 2 sc.nd (jop op_gAdd (jop op_gMod (jop op_gPow (jop op_gAdd (jop op_gAdd (jop op_gMulI (jv 2) ji) (jop op_gMulI (jv 3) (jv 3))) ji) ji) ji) ji))))
  (jbcons (jset 4 sc.nd (jif (JW.jt (jand (jcmpT (op_gLtT (by have := hr.units; exact this)) (jv 1) (jcb cb_len m_len (jacons (jv 0) janil))) (jand1 (jcmpT (op_gGe) (jix (jv 0) (jv 1)) (jop op_gPow ji ji))))) (jop op_gSubX (jix (jv 0) (jv 1)) (jop op_gPow ji ji)) ji))
  (jb1 (jret (jdisp (jpcons jstr (jv 4) (jpcons jstr (jv 2) jpnil))))))))⟩
theorem sc_law_pick : L2.FnScope ["tape", "size", "found"] ["tape", "size"] (L2.defScope s_law_pick) := ⟨rfl, rfl, rfl, by decide +kernel, rfl, by decide +kernel, by decide +kernel⟩
theorem ok_law_pick (F : L2.Fun K "_law_pick" "_law_pick" s_law_pick fA fd) (gm : mg "_law_pick" = some (.ref fA)) : CalG P w K mg base "_law_pick" 1 2 ["tape", "size"] F_law_pick :=
  have sc := sc_law_pick
  cal_ofG (N := ["tape", "size", "found"]) F sc gm rfl rfl (by decide) (F.binds (ps := ["tape", "size"]) fun _ _ _ _ _ _ us hl => match us, hl with | [_, _], _ => rfl) fun cdv A outer s H E hr => ⟨_, (jbcons (jifS (jcmpT (op_gGe) (jdget (by have := hr.units; exact this) (jv 0) jstr) (jv 1)) (jbcons (jset 2 sc.nd (jop op_gMod (jdget (by have := hr.units; exact this) (jv 0) jstr) (jv 1)))
    (jbcons (jput 0 (by have := hr.units; exact this) (jv 0) jstr (jop op_gFdivX (jdget (by have := hr.units; exact this) (jv 0) jstr) (jv 1)))
    (jb1 (jret (jv 2))))) jbnil)
  (jbcons (jput 0 (by have := hr.units; exact this) (jv 0) jstr (jop op_gMod (jop op_gAdd (jop op_gMulI (jdget (by have := hr.units; exact this) (jv 0) jstr) ji) ji) ji))
  (jb1 (jret (jop op_gMod (jop op_gFdivX (jop op_gMod (jop op_gPow (jop op_gMod (jop op_gPow (jdget (by have := hr.units; exact this) (jv 0) jstr) ji) ji) ji) ji) ji) (jv 1))))))⟩
theorem sc_law_one_of : L2.FnScope ["tape", "items"] ["tape", "items"] (L2.defScope s_law_one_of) := ⟨rfl, rfl, rfl, by decide +kernel, rfl, by decide +kernel, by decide +kernel⟩
theorem ok_law_one_of (F : L2.Fun K "_law_one_of" "_law_one_of" s_law_one_of fA fd) (gm : mg "_law_one_of" = some (.ref fA)) (c_law_pick : CalG P w K mg base "_law_pick" 1 2 ["tape", "size"] F_law_pick) (m_len : mg "len" = none) : CalG P w K mg base "_law_one_of" 2 2 ["tape", "items"] F_law_one_of :=
  have sc := sc_law_one_of
  cal_ofG (N := ["tape", "items"]) F sc gm rfl rfl (by decide) (F.binds (ps := ["tape", "items"]) fun _ _ _ _ _ _ us hl => match us, hl with | [_, _], _ => rfl) fun cdv A outer s H E hr => ⟨_, (jb1 (jret (jix (jv 1) (jcalG [.io, .br] c_law_pick hr tkB (jacons (jv 0) (jacons (jcb cb_len m_len (jacons (jv 1) janil)) janil))))))⟩
theorem sc_law_shuffled : L2.FnScope ["tape", "ids", "left", "found"] ["tape", "ids"] (L2.defScope s_law_shuffled) := ⟨rfl, rfl, rfl, by decide +kernel, rfl, by decide +kernel, by decide +kernel⟩
theorem ok_law_shuffled (F : L2.Fun K "_law_shuffled" "_law_shuffled" s_law_shuffled fA fd) (gm : mg "_law_shuffled" = some (.ref fA)) (c_law_pick : CalG P w K mg base "_law_pick" 1 2 ["tape", "size"] F_law_pick) (m_list : mg "list" = none) (m_len : mg "len" = none) : CalG P w K mg base "_law_shuffled" 2 2 ["tape", "ids"] F_law_shuffled :=
  have sc := sc_law_shuffled
  cal_ofG (N := ["tape", "ids", "left", "found"]) F sc gm rfl rfl (by decide) (F.binds (ps := ["tape", "ids"]) fun _ _ _ _ _ _ us hl => match us, hl with | [_, _], _ => rfl) fun cdv A outer s H E hr => ⟨_, (jbcons (jset 2 sc.nd (jcty cb_list m_list (jacons (jv 1) janil)))
  (jbcons (jset 3 sc.nd (jlst janil))
  (jbcons (jwhile psB (jcmpT (op_gNeE (by have := hr.units; exact this)) (jv 2) (jlst janil))
  (jb1 (jdrop (jappend (jv 3) (jitem (jpopAt (jv 2) (jitem (jcalG [.io, .br] c_law_pick hr tkB (jacons (jv 0) (jacons (jcb cb_len m_len (jacons (jv 2) janil)) janil))) janil)) janil)))))
  (jb1 (jret (jv 3))))))⟩
theorem sc_law_ids : L2.FnScope ["tape", "size", "step", "place"] ["tape", "size"] (L2.defScope s_law_ids) := ⟨rfl, rfl, rfl, by decide +kernel, rfl, by decide +kernel, by decide +kernel⟩
theorem ok_law_ids (F : L2.Fun K "_law_ids" "_law_ids" s_law_ids fA fd) (gm : mg "_law_ids" = some (.ref fA)) (c_law_one_of : CalG P w K mg base "_law_one_of" 2 2 ["tape", "items"] F_law_one_of) (c_law_shuffled : CalG P w K mg base "_law_shuffled" 2 2 ["tape", "ids"] F_law_shuffled) (m_range : mg "range" = none) : CalG P w K mg base "_law_ids" 3 2 ["tape", "size"] F_law_ids :=
  have sc := sc_law_ids
  cal_ofG (N := ["tape", "size", "step", "place"]) F sc gm rfl rfl (by decide) (F.binds (ps := ["tape", "size"]) fun _ _ _ _ _ _ us hl => match us, hl with | [_, _], _ => rfl) fun cdv A outer s H E hr => ⟨_, (jbcons (jset 2 sc.nd (jcalG [.io, .br] c_law_one_of hr tkB (jacons (jv 0) (jacons (jlst (jitem ji (jitem ji (jitem ji (jitem ji janil))))) janil))))
  (jb1 (jret (jcalG [.io, .br] c_law_shuffled hr tkB (jacons (jv 0) (jacons (jlc [("place", 3)] rfl sc.nd (jr1 m_range (jacons (jv 1) janil)) (by rfl) (fun s H C cl fp => (jgn 3 sc.nd)) (fun s H C cl fp => jts0) (fun s H C cl fp => (jop op_gAdd ji (jop op_gMulI (jv 2) (jv 3))))) janil))))))⟩
theorem sc_law_goal : L2.FnScope ["tape", "base", "way", "found", "turn", "row_id"] ["tape", "base"] (L2.defScope s_law_goal) := ⟨rfl, rfl, rfl, by decide +kernel, rfl, by decide +kernel, by decide +kernel⟩
theorem ok_law_goal (F : L2.Fun K "_law_goal" "_law_goal" s_law_goal fA fd) (gm : mg "_law_goal" = some (.ref fA)) (c_law_pick : CalG P w K mg base "_law_pick" 1 2 ["tape", "size"] F_law_pick) (c_law_shuffled : CalG P w K mg base "_law_shuffled" 2 2 ["tape", "ids"] F_law_shuffled) (m_list : mg "list" = none) (m_range : mg "range" = none) (m_len : mg "len" = none) : CalG P w K mg base "_law_goal" 3 2 ["tape", "base"] F_law_goal :=
  have sc := sc_law_goal
  cal_ofG (N := ["tape", "base", "way", "found", "turn", "row_id"]) F sc gm rfl rfl (by decide) (F.binds (ps := ["tape", "base"]) fun _ _ _ _ _ _ us hl => match us, hl with | [_, _], _ => rfl) fun cdv A outer s H E hr => ⟨_, (jbcons (jset 2 sc.nd (jcalG [.io, .br] c_law_pick hr tkB (jacons (jv 0) (jacons ji janil))))
  (jbcons (jifS (JW.jt (jor (jcmpT (op_gEqE (by have := hr.units; exact this)) (jv 2) ji) (jor1 (jcmpT (op_gEqE (by have := hr.units; exact this)) (jv 1) (jlst janil))))) (jb1 (jret (jcalG [.io, .br] c_law_shuffled hr tkB (jacons (jv 0) (jacons (jv 1) janil))))) jbnil)
  (jbcons (jifS (jcmpT (op_gEqE (by have := hr.units; exact this)) (jv 2) ji) (jb1 (jret (jrevL (jv 1)))) jbnil)
  (jbcons (jifS (jcmpT (op_gEqE (by have := hr.units; exact this)) (jv 2) ji) (jb1 (jret (jop op_gAdd (jstep1 (jv 1)) (jstep0 (jv 1))))) jbnil)
  (jbcons (jset 3 sc.nd (jcty cb_list m_list (jacons (jv 1) janil)))
  (jbcons (jfor psB rfl (jr1 m_range (jacons (jcalG [.io, .br] c_law_pick hr tkB (jacons (jv 0) (jacons (jop op_gAdd ji (jop op_gFdivX (jcb cb_len m_len (jacons (jv 1) janil)) ji)) janil))) janil)) (jgn 4 sc.nd)
  (jbcons (jset 5 sc.nd (jpopAt (jv 3) (jitem (jcalG [.io, .br] c_law_pick hr tkB (jacons (jv 0) (jacons (jcb cb_len m_len (jacons (jv 3) janil)) janil))) janil)))
    (jb1 (jdrop (jinsert (jv 3) (jitem (jcalG [.io, .br] c_law_pick hr tkB (jacons (jv 0) (jacons (jop op_gAdd (jcb cb_len m_len (jacons (jv 3) janil)) ji) janil))) (jitem (jv 5) janil)))))))
  (jb1 (jret (jv 3)))))))))⟩
theorem sc_law_loads : L2.FnScope ["tape", "base", "most", "way", "found", "row_id"] ["tape", "base", "most"] (L2.defScope s_law_loads) := ⟨rfl, rfl, rfl, by decide +kernel, rfl, by decide +kernel, by decide +kernel⟩
theorem ok_law_loads (F : L2.Fun K "_law_loads" "_law_loads" s_law_loads fA fd) (gm : mg "_law_loads" = some (.ref fA)) (c_law_pick : CalG P w K mg base "_law_pick" 1 2 ["tape", "size"] F_law_pick) (c_law_one_of : CalG P w K mg base "_law_one_of" 2 2 ["tape", "items"] F_law_one_of) : CalG P w K mg base "_law_loads" 3 3 ["tape", "base", "most"] F_law_loads :=
  have sc := sc_law_loads
  cal_ofG (N := ["tape", "base", "most", "way", "found", "row_id"]) F sc gm rfl rfl (by decide) (F.binds (ps := ["tape", "base", "most"]) fun _ _ _ _ _ _ us hl => match us, hl with | [_, _, _], _ => rfl) fun cdv A outer s H E hr => ⟨_, (jbcons (jset 3 sc.nd (jcalG [.io, .br] c_law_pick hr tkB (jacons (jv 0) (jacons ji janil))))
  (jbcons (jifS (jcmpT (op_gEqE (by have := hr.units; exact this)) (jv 3) ji) (jb1 (jret jnon)) jbnil)
  (jbcons (jset 4 sc.nd jdict0)
  (jbcons (jfor psB rfl (jil (jop op_gAdd (jv 1) (jlst (jitem (jop op_gPow ji ji) janil)))) (jgn 5 sc.nd)
  (jb1 (jifS (JW.jt (jor (jcmpT (op_gGtT (by have := hr.units; exact this)) (jv 3) ji) (jor1 (jcmpT (op_gEqE (by have := hr.units; exact this)) (jcalG [.io, .br] c_law_pick hr tkB (jacons (jv 0) (jacons ji janil))) ji)))) (jb1 (jput 4 (by have := hr.units; exact this) (jv 4) (jv 5) (jcalG [.io, .br] c_law_one_of hr tkB (jacons (jv 0) (jacons (jlst (jitem (jop op_gAdd ji (jcalG [.io, .br] c_law_pick hr tkB (jacons (jv 0) (jacons ji janil)))) (jitem (jop op_gAdd ji (jcalG [.io, .br] c_law_pick hr tkB (jacons (jv 0) (jacons (jv 2) janil)))) (jitem (jv 2) janil)))) janil))))) jbnil)))
  (jb1 (jret (jv 4)))))))⟩
theorem sc_law_load : L2.FnScope ["loads", "row_id"] ["loads", "row_id"] (L2.defScope s_law_load) := ⟨rfl, rfl, rfl, by decide +kernel, rfl, by decide +kernel, by decide +kernel⟩
theorem ok_law_load (F : L2.Fun K "_law_load" "_law_load" s_law_load fA fd) (gm : mg "_law_load" = some (.ref fA)) : CalG P w K mg base "_law_load" 1 2 ["loads", "row_id"] F_law_load :=
  have sc := sc_law_load
  cal_ofG (N := ["loads", "row_id"]) F sc gm rfl rfl (by decide) (F.binds (ps := ["loads", "row_id"]) fun _ _ _ _ _ _ us hl => match us, hl with | [_, _], _ => rfl) fun cdv A outer s H E hr => ⟨_, (jb1 (jret (jif (jcmpT (op_gIsN) (jv 0) jnon) ji (jgetC (by have := hr.units; exact this) (jv 0) (jv 1)))))⟩
theorem sc_law_tops : L2.FnScope ["base", "goal", "loads", "found", "at", "row_id", "below", "other"] ["base", "goal", "loads"] (L2.defScope s_law_tops) := ⟨rfl, rfl, rfl, by decide +kernel, rfl, by decide +kernel, by decide +kernel⟩
theorem ok_law_tops (F : L2.Fun K "_law_tops" "_law_tops" s_law_tops fA fd) (gm : mg "_law_tops" = some (.ref fA)) (c_law_load : CalG P w K mg base "_law_load" 1 2 ["loads", "row_id"] F_law_load) (m_enumerate : mg "enumerate" = none) (m_max : mg "max" = none) : CalG P w K mg base "_law_tops" 2 3 ["base", "goal", "loads"] F_law_tops :=
  have sc := sc_law_tops
  cal_ofG (N := ["base", "goal", "loads", "found", "at", "row_id", "below", "other"]) F sc gm rfl rfl (by decide) (F.binds (ps := ["base", "goal", "loads"]) fun _ _ _ _ _ _ us hl => match us, hl with | [_, _, _], _ => rfl) fun cdv A outer s H E hr => ⟨_, (jbcons (jset 3 sc.nd jdict0)
  (jbcons (jfor psB rfl (jenum m_enumerate (jv 1)) (jgt (n := 2) rfl (jgcons (jgn 4 sc.nd) (jgcons (jgn 5 sc.nd) jgnil)))
  (jbcons (by first | exact (jsetLc (n := 6) [("other", 7)] rfl sc.nd (jil (jsl (jv 1) jno (jpart (jv 4)))) (by rfl) (fun s H C cl fp => (jgn 7 sc.nd)) (fun s H C cl fp => (jts1 (jcmpT (op_gLtT (by have := hr.units; exact this)) (jindex (jv 0) (jacons (jv 7) janil)) (jindex (jv 0) (jacons (jv 5) janil))))) (fun s H C cl fp => (jdget (by have := hr.units; exact this) (jv 3) (jv 7)))) | exact (jset 6 sc.nd (jlc [("other", 7)] rfl sc.nd (jil (jsl (jv 1) jno (jpart (jv 4)))) (by rfl) (fun s H C cl fp => (jgn 7 sc.nd)) (fun s H C cl fp => (jts1 (jcmpT (op_gLtT (by have := hr.units; exact this)) (jindex (jv 0) (jacons (jv 7) janil)) (jindex (jv 0) (jacons (jv 5) janil))))) (fun s H C cl fp => (jdget (by have := hr.units; exact this) (jv 3) (jv 7))))))
    (jb1 (jput 3 (by have := hr.units; exact this) (jv 3) (jv 5) (jop op_gAdd (jcb (cb_maxI rfl) m_max (jacons (jop op_gAdd (jv 6) (jlst (jitem ji janil))) janil)) (jcalG [.br, .br] c_law_load hr tkB (jacons (jv 2) (jacons (jv 5) janil))))))))
  (jb1 (jret (jv 3)))))⟩
theorem sc_law_cover : L2.FnScope ["base", "goal", "loads", "tops", "found", "level", "ids", "times", "row_id"] ["base", "goal", "loads"] (L2.defScope s_law_cover) := ⟨rfl, rfl, rfl, by decide +kernel, rfl, by decide +kernel, by decide +kernel⟩
theorem ok_law_cover (F : L2.Fun K "_law_cover" "_law_cover" s_law_cover fA fd) (gm : mg "_law_cover" = some (.ref fA)) (c_law_tops : CalG P w K mg base "_law_tops" 2 3 ["base", "goal", "loads"] F_law_tops) (c_law_load : CalG P w K mg base "_law_load" 1 2 ["loads", "row_id"] F_law_load) (m_range : mg "range" = none) (m_max : mg "max" = none) (m_list : mg "list" = none) (m_tuple : mg "tuple" = none) : CalG P w K mg base "_law_cover" 3 3 ["base", "goal", "loads"] F_law_cover :=
  have sc := sc_law_cover
  cal_ofG (N := ["base", "goal", "loads", "tops", "found", "level", "ids", "times", "row_id"]) F sc gm rfl rfl (by decide) (F.binds (ps := ["base", "goal", "loads"]) fun _ _ _ _ _ _ us hl => match us, hl with | [_, _, _], _ => rfl) fun cdv A outer s H E hr => ⟨_, (jbcons (jset 3 sc.nd (jcalG [.br, .br, .br] c_law_tops hr tkB (jacons (jv 0) (jacons (jv 1) (jacons (jv 2) janil)))))
  (jbcons (jset 4 sc.nd (jlst janil))
  (jbcons (jfor psB rfl (jr2 m_range (jacons ji (jacons (jop op_gAdd (jcb (cb_maxI rfl) m_max (jacons (jop op_gAdd (jlistV rfl m_list (jv 3)) (jlst (jitem ji janil))) janil)) ji) janil))) (jgn 5 sc.nd)
  (jbcons (jset 6 sc.nd (jcty cb_tuple m_tuple (jacons (jlc [("row_id", 8)] rfl sc.nd (jil (jv 1)) (by rfl) (fun s H C cl fp => (jgn 8 sc.nd)) (fun s H C cl fp => (jts1 (jchainT (op_gLtT (by have := hr.units; exact this)) (op_gLe) (jop op_gSubX (jdget (by have := hr.units; exact this) (jv 3) (jv 8)) (jcalG [.br, .br] c_law_load hr tk0 (jacons (jv 2) (jacons (jv 8) janil)))) (jv 5) (jdget (by have := hr.units; exact this) (jv 3) (jv 8))))) (fun s H C cl fp => (jv 8))) janil)))
    (jb1 (jifS (JW.jt (jand (jcmpT (op_gNeE (by have := hr.units; exact this)) (jv 4) (jlst janil)) (jand1 (jcmpT (op_gEqE (by have := hr.units; exact this)) (jix (jix (jv 4) (jneg ji)) ji) (jv 6))))) (jbcons (jset 7 sc.nd (jix (jpop0 (jv 4)) ji))
      (jb1 (jdrop (jappend (jv 4) (jitem (jtup (jitem (jop op_gAdd (jv 7) ji) (jitem (jv 6) janil))) janil))))) (jb1 (jdrop (jappend (jv 4) (jitem (jtup (jitem ji (jitem (jv 6) janil))) janil))))))))
  (jb1 (jret (jv 4))))))⟩
theorem sc_law : L2.FnScope ["script", "start", "tape", "turn", "base", "loads", "goal", "expected", "kept", "again", "factor", "more", "found", "row_id", "run"] ["script"] (L2.defScope s_law) := ⟨rfl, rfl, rfl, by decide +kernel, rfl, by decide +kernel, by decide +kernel⟩
theorem law_fn (F : L2.Fun K "law" "law" s_law fA fd) (c_law_tape : CalG P w K mg base "_law_tape" 1 2 ["script", "start"] F_law_tape) (c_law_ids : CalG P w K mg base "_law_ids" 3 2 ["tape", "size"] F_law_ids) (c_law_pick : CalG P w K mg base "_law_pick" 1 2 ["tape", "size"] F_law_pick) (c_law_loads : CalG P w K mg base "_law_loads" 3 3 ["tape", "base", "most"] F_law_loads) (c_law_goal : CalG P w K mg base "_law_goal" 3 2 ["tape", "base"] F_law_goal) (c_law_cover : CalG P w K mg base "_law_cover" 3 3 ["base", "goal", "loads"] F_law_cover) (c_law_one_of : CalG P w K mg base "_law_one_of" 2 2 ["tape", "items"] F_law_one_of) (c_law_load : CalG P w K mg base "_law_load" 1 2 ["loads", "row_id"] F_law_load) (cp_level_cover : CalPK P w K mg base "level_cover" 4 3 2 ["weights"] [0, 1, 2] (F_level_cover cGreatest)) (cd_level_cover : CalD P w K mg base "level_cover" 4 3 ["base", "goal", "weights"] [.non] [.non] (F_level_cover cGreatest)) (m_range : mg "range" = none) (m_max : mg "max" = none) (m_min : mg "min" = none) (m_len : mg "len" = none) (m_repr : mg "repr" = none) (m_isinstance : mg "isinstance" = none) (m_list : mg "list" = none) (m_dict : mg "dict" = none) (i_list : IsiK K "list") {s : Shared} {H : L2.Hp} {v : L2.V} {u : Value} {Q : L2.VK} {E : L2.XK} (e0 : L2.Env0 P w K mg base callerA [] s H) (bind : BindsTo s fd ⟨[u], []⟩ [("script", u)]) (rel : L2.RelV v u) (prom : spF K 1 (F_law cGreatest) [v] H Q E) : codeAny (model P w) callerA (.call (.ref fA) ⟨[u], []⟩) (L2.CR (L2.CX P w) [] P w H s Q E) s :=
  have sc := sc_law
  law_runG (N := ["script", "start", "tape", "turn", "base", "loads", "goal", "expected", "kept", "again", "factor", "more", "found", "row_id", "run"]) (k := 4) F sc rfl (by decide) ⟨rfl, by decide, by decide⟩ (fun cdv A outer s H E hr => ⟨_, (jbcons (jfor psB rfl (jr1 m_range (jacons (jcb (cb_max rfl) m_max (jacons ji (jacons (jcb (cb_min rfl) m_min (jacons ji (jacons (jcb cb_len m_len (jacons (jv 0) janil)) janil))) janil))) janil)) (jgn 1 sc.nd)
  (jbcons (jset 2 sc.nd (jcalG [.br, .br] c_law_tape hr tkB (jacons (jv 0) (jacons (jv 1) janil))))
    (jb1 (jfor psB rfl (jr1 m_range (jacons ji janil)) (jgn 3 sc.nd)
    (jbcons (jset 4 sc.nd (jcalG [.io, .br] c_law_ids hr tkB (jacons (jv 2) (jacons (jcalG [.io, .br] c_law_pick hr tkB (jacons (jv 2) (jacons ji janil))) janil))))
      (jbcons (jset 5 sc.nd (jcalG [.io, .br, .br] c_law_loads hr tkB (jacons (jv 2) (jacons (jv 4) (jacons ji janil)))))
      (jbcons (jifS (jcmpT (op_gEqE (by have := hr.units; exact this)) (jv 3) ji) (jb1 (jasg (jgt (n := 2) rfl (jgcons (jgn 4 sc.nd) (jgcons (jgn 5 sc.nd) jgnil))) (jtup (jitem (jcalG [.io, .br] c_law_ids hr tkB (jacons (jv 2) (jacons (jop op_gAdd ji (jcalG [.io, .br] c_law_pick hr tkB (jacons (jv 2) (jacons ji janil)))) janil))) (jitem jnon janil))))) jbnil)
      (jbcons (jset 6 sc.nd (jcalG [.io, .br] c_law_goal hr tkB (jacons (jv 2) (jacons (jv 4) janil))))
      (jbcons (jpar 7 8 rfl sc.nd (jmcons (jcalG [.br, .br, .br] c_law_cover hr tkB (jacons (jv 4) (jacons (jv 6) (jacons (jv 5) janil)))) (jmcons (jcb (cb_reprA (by have := hr.units; exact this) hr.gd) m_repr (jacons (jtup (jitem (jv 4) (jitem (jv 6) (jitem (jv 5) janil)))) janil)) jmnil)))
      (jbcons (jfor psB rfl (jr1 m_range (jacons ji janil)) (jgn 9 sc.nd)
      (jbcons (jset 12 sc.nd (jcalPK [.br, .br, .br] cp_level_cover hr tkB (jacons (jv 4) (jacons (jv 6) janil)) (jkcons (jv 5) jknil)))
        (jbcons (jifS (JW.jt (jor (jnot (jval (jisi i_list m_isinstance m_list (jv 12)))) (jor1 (jcmpT (op_gNeE (by have := hr.units; exact this)) (jcb (cb_reprA (by have := hr.units; exact this) hr.gd) m_repr (jacons (jv 12) janil)) (jcb (cb_reprA (by have := hr.units; exact this) hr.gd) m_repr (jacons (jv 7) janil)))))) (jb1 (jret jbl)) jbnil)
        (jb1 (jdrop (jappend (jv 12) (jitem jnon janil)))))))
      (jbcons (jifS (JW.jt (jor (jcmpT (op_gNeE (by have := hr.units; exact this)) (jcalD [.br, .br, .br] cd_level_cover hr tkB (jacons (jv 4) (jacons (jv 6) janil))) (jcalG [.br, .br, .br] c_law_cover hr tkB (jacons (jv 4) (jacons (jv 6) (jacons jnon janil))))) (jor1 (jcmpT (op_gNeE (by have := hr.units; exact this)) (jcb (cb_reprA (by have := hr.units; exact this) hr.gd) m_repr (jacons (jtup (jitem (jv 4) (jitem (jv 6) (jitem (jv 5) janil)))) janil)) (jv 8))))) (jb1 (jret jbl)) jbnil)
      (jbcons (jifS (jcmpT (op_gNeE (by have := hr.units; exact this)) (jcalD [.br, .br, .br] cd_level_cover hr tkB (jacons (jv 4) (jacons (jv 4) janil))) (jlc [("row_id", 13)] rfl sc.nd (jil (jv 4)) (by rfl) (fun s H C cl fp => (jgn 13 sc.nd)) (fun s H C cl fp => jts0) (fun s H C cl fp => (jtup (jitem ji (jitem (jtup (jitem (jv 13) janil)) janil)))))) (jb1 (jret jbl)) jbnil)
      (jbcons (jset 10 sc.nd (jcalG [.io, .br] c_law_one_of hr tkB (jacons (jv 2) (jacons (jlst (jitem ji (jitem (jop op_gPow ji ji) (jitem (jop op_gPow ji ji) janil)))) janil))))
      (jbcons (jset 11 sc.nd (jcty (cb_dictP rfl) m_dict (jacons (jlc [("row_id", 13)] rfl sc.nd (jil (jv 4)) (by rfl) (fun s H C cl fp => (jgn 13 sc.nd)) (fun s H C cl fp => jts0) (fun s H C cl fp => (jtup (jitem (jv 13) (jitem (jop op_gMulI (jcalG [.br, .br] c_law_load hr tk0 (jacons (jv 5) (jacons (jv 13) janil))) (jv 10)) janil))))) janil)))
      (jb1 (jifS (jcmpT (op_gNeE (by have := hr.units; exact this)) (jcalPK [.br, .br, .br] cp_level_cover hr tkB (jacons (jv 4) (jacons (jv 6) janil)) (jkcons (jv 11) jknil)) (jlc [("run", 14)] rfl sc.nd (jil (jv 7)) (by rfl) (fun s H C cl fp => (jgn 14 sc.nd)) (fun s H C cl fp => jts0) (fun s H C cl fp => (jtup (jitem (jop op_gMulI (jix (jv 14) ji) (jv 10)) (jitem (jix (jv 14) ji) janil)))))) (jb1 (jret jbl)) jbnil))))))))))))))))
  (jb1 (jret jbl)))⟩) e0 bind rel prom
end

end K12
namespace K12
open PySem O
theorem p_pick (d m size : Int) (g : Good d m) (hs : 0 < size) (hs2 : size < bigJ) :
    ∃ r d' m', F_law_pick [.io (dk d m), .br (.int size)] = .ret (.val (.int r)) [some (dk d' m'), none] ∧ 0 ≤ r ∧ r < size ∧ Good d' m' := by
  obtain ⟨hd, hm, hm2⟩ := g
  by_cases h : size ≤ d
  · refine ⟨d % size, d / size, m, ?_, Int.emod_nonneg _ (by omega), Int.emod_lt_of_pos _ hs, Int.ediv_nonneg hd (by omega), hm, hm2⟩
    simp [F_law_pick, u_runF, g_law_pick, startE, slotA, dk, gDGet, keyD, dk_d, dk_m, dk_pd, dk_pm, h, hs, hs2, gMod_ii, gFdivX_ii]
  · have b1 : (Builtin.Int.intBits m : Int) + (Builtin.Int.intBits 40014 : Int) ≤ 134217728 := by
      have x : Builtin.Int.intBits m ≤ 32 := bits_le hm (by omega)
      have y : Builtin.Int.intBits 40014 ≤ 32 := bits_le (by omega) (by omega)
      omega
    have c0 : 0 ≤ (m * 40014 + 1013) % 2147483563 := Int.emod_nonneg _ (by omega)
    have c1 : (m * 40014 + 1013) % 2147483563 < 2147483563 := Int.emod_lt_of_pos _ (by omega)
    generalize hM : (m * 40014 + 1013) % 2147483563 = M at *
    have b2 : (Builtin.Int.intBits M : Int) * 2 ≤ 134217728 := by
      have x : Builtin.Int.intBits M ≤ 32 := bits_le c0 (by omega)
      omega
    have d0 : 0 ≤ M ^ 2 % 2147483399 := Int.emod_nonneg _ (by omega)
    have d1 : M ^ 2 % 2147483399 < 2147483399 := Int.emod_lt_of_pos _ (by omega)
    generalize hN : M ^ 2 % 2147483399 = N at *
    have b3 : (Builtin.Int.intBits N : Int) * 3 ≤ 134217728 := by
      have x : Builtin.Int.intBits N ≤ 32 := bits_le d0 (by omega)
      omega
    have five : (5 : Int) < bigJ := lt_big (by omega)
    refine ⟨N ^ 3 % 998244353 / 5 % size, d, M, ?_, Int.emod_nonneg _ (by omega), Int.emod_lt_of_pos _ hs, hd, c0, by omega⟩
    simp [F_law_pick, u_runF, g_law_pick, startE, slotA, dk, gDGet, keyD, dk_d, dk_m, dk_pd, dk_pm, h, hs, hs2, gMod_ii, gFdivX_ii, five, gMulI_ii b1, gPow_2 b2, gPow_3 b3, hM, hN]
theorem pick (d m size : Int) (g : Good d m) (hs : 0 < size) (hs2 : size < 1000000) :
    ∃ r d' m', F_law_pick [.io (dk d m), .br (.int size)] = .ret (.val (.int r)) [some (dk d' m'), none] ∧ 0 ≤ r ∧ r < size ∧ Good d' m' := p_pick d m size g hs (lt_big (by omega))
theorem p_one_of (d m : Int) (ds : List D) (g : Good d m) (h0 : ds ≠ []) (hs : ds.length < 1000000) :
    ∃ (r : Nat) (x : D) (d' m' : Int), ds[r]? = some x ∧ F_law_one_of [.io (dk d m), .br (.lst ds)] = .ret (.val x) [some (dk d' m'), none] ∧ Good d' m' := by
  have hpos : 0 < ds.length := List.length_pos_iff.mpr h0
  obtain ⟨r, d', m', e, r0, r1, k⟩ := pick d m ds.length g (by omega) (by omega)
  have hr : r.toNat < ds.length := by omega
  refine ⟨r.toNat, ds[r.toNat], d', m', List.getElem?_eq_getElem hr, ?_, k⟩
  have hix : L2.atI ds r = some ds[r.toNat] := atI_ok r0 hr
  simp [F_law_one_of, u_runF, g_law_one_of, startE, slotA, gLen, e, gIx, hix]
theorem one_int (d m : Int) (ns : List Int) (g : Good d m) (h0 : ns ≠ []) (hs : ns.length < 1000000) : ∃ (z d' m' : Int), z ∈ ns ∧ F_law_one_of [.io (dk d m), .br (.lst (ns.map .int))] = .ret (.val (.int z)) [some (dk d' m'), none] ∧ Good d' m' := by
  obtain ⟨r, x, d', m', ex, e, k⟩ := p_one_of d m (ns.map .int) g (by simpa using h0) (by simpa using hs)
  rw [List.getElem?_map] at ex
  cases h : ns[r]? with
  | none => rw [h] at ex; cases ex
  | some z => rw [h] at ex; cases ex; exact ⟨z, d', m', List.mem_of_getElem? h, e, k⟩
theorem p_tape (ns : List Int) (st : Int) (h0 : 0 ≤ st) (h1 : st ≤ 100) (hl : ns.length ≤ 63) (hb : ∀ z ∈ ns, Builtin.Int.intBits z ≤ 1048576) : ∃ d m, F_law_tape [.br (.scr ns), .br (.int st)] = .ret (.own (dk d m)) [none, none] ∧ Good d m := by
  have b57 : Builtin.Int.intBits 31 ≤ 32 := bits_le (by omega) (by omega)
  have bst : Builtin.Int.intBits st ≤ 32 := bits_le h0 (by omega)
  have bm0 : (Builtin.Int.intBits st : Int) + (Builtin.Int.intBits 31 : Int) ≤ 134217728 := by omega
  have b20 : Builtin.Int.intBits 30011 ≤ 32 := bits_le (by omega) (by omega)
  obtain ⟨ρ', e, m, s3, rfl, g0, g1⟩ := forD_ok (k := takeT (.name 3)) (g := gSet 2 (f2 (f2 (f2 (f2 (f2 (f2 (fVar 2) (fC (.int 30011)) gMulI) (f2 (fVar 3) (fVar 3) gMulI) gAdd) (fC (.int 7)) gAdd) (fC (.int 2)) gPow) (fC (.int 2147483563)) gMod) (fC (.int 2)) gAdd))
    (fun ds ρ => ∃ (m : Int) (s3 : Sl), ρ = [.br (.scr ns), .br (.int st), .sh (.int m), s3, .un] ∧ 0 ≤ m ∧ m < 4294967296 ∧ (s3 = .un ∨ ∃ z, s3 = .sh (.int z)) ∧ ∃ xs : List Int, ds = xs.map .int ∧ ∀ z ∈ xs, Builtin.Int.intBits z ≤ 1048576) (fun d ds ρ ⟨m, s3, e, a, b, hs, xs, ex, hx⟩ => by
      subst e
      cases xs with
      | nil => cases ex
      | cons z xs =>
        cases ex
        have hz := hx z (by simp)
        have bm : Builtin.Int.intBits m ≤ 32 := bits_le a (by omega)
        have q1 : (Builtin.Int.intBits m : Int) + (Builtin.Int.intBits 30011 : Int) ≤ 134217728 := by omega
        have q2 : (Builtin.Int.intBits z : Int) + (Builtin.Int.intBits z : Int) ≤ 134217728 := by omega
        have q3 := bits_tape hz (by omega) a b
        have q4 : (Builtin.Int.intBits (m * 30011 + z * z + 7) : Int) * 2 ≤ 134217728 := by omega
        have c0 : 0 ≤ (m * 30011 + z * z + 7) ^ 2 % 2147483563 := Int.emod_nonneg _ (by omega)
        have c1 : (m * 30011 + z * z + 7) ^ 2 % 2147483563 < 2147483563 := Int.emod_lt_of_pos _ (by omega)
        refine ⟨[.br (.scr ns), .br (.int st), .sh (.int m), .sh (.int z), .un], [.br (.scr ns), .br (.int st), .sh (.int ((m * 30011 + z * z + 7) ^ 2 % 2147483563 + 2)), .sh (.int z), .un], ?_, ?_, _, _, rfl, by omega, by omega, .inr ⟨z, rfl⟩, xs, rfl, fun y hy => hx y (by simp [hy])⟩
        · rcases hs with rfl | ⟨z0, rfl⟩ <;> simp
        · simp [gMulI_ii q1, gMulI_ii q2, gPow_2 q4, gMod_ii]) (ns.map .int) [.br (.scr ns), .br (.int st), .sh (.int (97 + st * 31)), .un, .un] ⟨_, _, rfl, by omega, by omega, .inl rfl, ns, rfl, hb⟩
  have mg : ∀ d : Int, mergeD [] [(.inr (Str.ofString "digits"), .int d), (.inr (Str.ofString "mixed"), .int m)] = [(.inr (Str.ofString "digits"), .int d), (.inr (Str.ofString "mixed"), .int m)] := fun d => by simp [mergeD, putD, k_dm]
  by_cases hs : st < (ns.length : Int)
  · have hst : L2.atI ns st = some ns[st.toNat] := atI_ok h0 (by omega)
    by_cases hd : 1000000000000000000 ≤ ns[st.toNat]
    · refine ⟨ns[st.toNat] - 1000000000000000000, m, ?_, ⟨by omega, g0, g1.1⟩⟩
      simp [F_law_tape, u_runF, g_law_tape, startE, slotA, gMulI_ii bm0, gItL, e, gLen, hs, gIx, hst, ten18, hd, keyD, mg, dk]
    · refine ⟨0, m, ?_, ⟨by omega, g0, g1.1⟩⟩
      simp [F_law_tape, u_runF, g_law_tape, startE, slotA, gMulI_ii bm0, gItL, e, gLen, hs, gIx, hst, ten18, hd, keyD, mg, dk]
  · refine ⟨0, m, ?_, ⟨by omega, g0, g1.1⟩⟩
    simp [F_law_tape, u_runF, g_law_tape, startE, slotA, gMulI_ii bm0, gItL, e, gLen, hs, keyD, mg, dk]
theorem p_shuffled (ns : List Int) (d m : Int) (hl : ns.length < 1000) (g : Good d m) : ∃ (out : List Int) (d' m' : Int), F_law_shuffled [.io (dk d m), .br (.lst (ns.map .int))] = .ret (.own (.lst (out.map .int))) [some (dk d' m'), none] ∧ out.Perm ns ∧ Good d' m' := by
  have hz := sizeLine_is
  obtain ⟨ρ', e, out, d', m', rfl, hp, hg⟩ := while_ok (c := fB (f2 (fVar 2) (fLst aNil) gNeE)) (g := gDrop (fMutL 3 (iCons (fMutL 2 (iCons (fCall [.io, .br] [] F_law_pick (aCons (fVar 0) (aCons (fCB (aCons (fVar 2) aNil) gLen) aNil))) aNil) gPopAt) aNil) gAppend))
    (fun k ρ => ∃ (left found : List Int) (d m : Int), ρ = [.io (dk d m), .br (.lst (ns.map .int)), .ow (.lst (left.map .int)), .ow (.lst (found.map .int))] ∧ (found ++ left).Perm ns ∧ left.length = k ∧ Good d m)
    (fun ρ => ∃ (out : List Int) (d m : Int), ρ = [.io (dk d m), .br (.lst (ns.map .int)), .ow (.lst []), .ow (.lst (out.map .int))] ∧ out.Perm ns ∧ Good d m) (fun k ρ ⟨left, found, d, m, e, hp, hk, hg⟩ => by
      subst e
      refine ⟨!decide (left = []), [.io (dk d m), .br (.lst (ns.map .int)), .ow (.lst (left.map .int)), .ow (.lst (found.map .int))], by simp [gNeE], fun hb => ?_, fun hb => ?_⟩
      · have hne : left ≠ [] := by simpa using hb
        have hpos : 0 < left.length := List.length_pos_iff.mpr hne
        have hlen : left.length + found.length = ns.length := by rw [← hp.length_eq, List.length_append]; omega
        obtain ⟨r, d1, m1, e1, r0, r1, g1⟩ := pick d m left.length hg (by omega) (by omega)
        obtain ⟨q, rfl⟩ := Int.eq_ofNat_of_zero_le r0
        have hq : q < left.length := by omega
        have ep := pop_nat (left.map .int) q (by simpa using hq) (by simp; omega)
        have ee : (left.map D.int).eraseIdx q = (left.eraseIdx q).map .int := map_erase left q
        rw [ee] at ep
        have hf : found.length < sizeLine := by omega
        refine ⟨[.io (dk d1 m1), .br (.lst (ns.map .int)), .ow (.lst ((left.eraseIdx q).map .int)), .ow (.lst ((found ++ [left[q]]).map .int))], k - 1, ?_, by omega, left.eraseIdx q, found ++ [left[q]], d1, m1, rfl, ?_, by rw [List.length_eraseIdx_of_lt hq]; omega, g1⟩
        · simp [gLen, e1, ep, gAppend, hf]
        · have p1 : (left[q] :: left.eraseIdx q).Perm left := erase_perm left q hq
          refine List.Perm.trans ?_ hp
          rw [List.append_assoc]
          exact List.Perm.append_left found p1
      · have he : left = [] := by simpa using hb
        subst he
        rw [List.append_nil] at hp
        exact ⟨found, d, m, rfl, hp, hg⟩) (m := ns.length) (ρ := [.io (dk d m), .br (.lst (ns.map .int)), .ow (.lst (ns.map .int)), .ow (.lst (([] : List Int).map .int))]) (by omega) ⟨ns, [], d, m, rfl, by simp, rfl, g⟩
  refine ⟨out, d', m', ?_, hp, hg⟩
  simp only [List.map_nil] at e
  simp [F_law_shuffled, u_runF, g_law_shuffled, startE, slotA, gList, e]
end K12

namespace K12
open PySem O
/-! ### the lowest bit -/
def low (n : Nat) : Nat := n - (n &&& (n - 1))
theorem low_odd (m : Nat) : low (2 * m + 1) = 1 := by
  unfold low
  have h1 : ((2 * m + 1) &&& (2 * m + 1 - 1)) / 2 = m := by
    rw [Nat.and_div_two]
    have a : (2 * m + 1) / 2 = m := by omega
    have b : (2 * m + 1 - 1) / 2 = m := by omega
    rw [a, b, Nat.and_self]
  have h2 : ((2 * m + 1) &&& (2 * m + 1 - 1)) % 2 = 0 := by
    have := @Nat.and_mod_two_eq_one (2 * m + 1) (2 * m + 1 - 1)
    omega
  omega
theorem low_two (n : Nat) (h : 1 ≤ n) : low (2 * n) = 2 * low n := by
  unfold low
  have h1 : ((2 * n) &&& (2 * n - 1)) / 2 = n &&& (n - 1) := by
    rw [Nat.and_div_two]
    have a : (2 * n) / 2 = n := by omega
    have b : (2 * n - 1) / 2 = n - 1 := by omega
    rw [a, b]
  have h2 : ((2 * n) &&& (2 * n - 1)) % 2 = 0 := by
    have := @Nat.and_mod_two_eq_one (2 * n) (2 * n - 1)
    omega
  omega
theorem low_is : ∀ (k m : Nat), low (2 ^ k * (2 * m + 1)) = 2 ^ k
  | 0, m => by rw [Nat.pow_zero, Nat.one_mul]; exact low_odd m
  | k + 1, m => by
    have p : 0 < 2 ^ k := Nat.pow_pos (by omega)
    have e : 2 ^ (k + 1) * (2 * m + 1) = 2 * (2 ^ k * (2 * m + 1)) := by rw [Nat.pow_succ, Nat.mul_comm (2 ^ k) 2, Nat.mul_assoc]
    have q : 1 ≤ 2 ^ k * (2 * m + 1) := Nat.mul_pos p (by omega)
    rw [e, low_two _ q, low_is k m, Nat.pow_succ]
    omega
theorem parts (n : Nat) : 1 ≤ n → ∃ k m, n = 2 ^ k * (2 * m + 1) := by
  induction n using Nat.strongRecOn with
  | _ n ih =>
    intro h
    by_cases e : n % 2 = 1
    · exact ⟨0, n / 2, by rw [Nat.pow_zero]; omega⟩
    · obtain ⟨k, m, h2⟩ := ih (n / 2) (by omega) (by omega)
      refine ⟨k + 1, m, ?_⟩
      rw [Nat.pow_succ, Nat.mul_comm (2 ^ k) 2, Nat.mul_assoc, ← h2]
      omega
theorem low_pos {n : Nat} (h : 1 ≤ n) : 1 ≤ low n ∧ low n ≤ n := by
  obtain ⟨k, m, rfl⟩ := parts n h
  rw [low_is]
  exact ⟨Nat.pow_pos (by omega), Nat.le_mul_of_pos_right _ (by omega)⟩
theorem low_up {i j : Nat} (hi : 1 ≤ i) (h1 : i < j) (h2 : j - low j < i) : i + low i ≤ j := by
  obtain ⟨a, b, rfl⟩ := parts i hi
  obtain ⟨k, m, rfl⟩ := parts j (by omega)
  rw [low_is] at h2 ⊢
  have pa : 0 < 2 ^ a := Nat.pow_pos (by omega)
  have pk : 0 < 2 ^ k := Nat.pow_pos (by omega)
  have e2 : 2 ^ k * (2 * m + 1) = 2 ^ k * (2 * m) + 2 ^ k := by rw [Nat.mul_add, Nat.mul_one]
  have h3 : 2 ^ k * (2 * m) < 2 ^ a * (2 * b + 1) := by omega
  rcases Nat.le_total k a with h | h
  · obtain ⟨c, rfl⟩ := Nat.exists_eq_add_of_le h
    rw [Nat.pow_add, Nat.mul_assoc] at h1 h3
    have x := Nat.lt_of_mul_lt_mul_left h1
    have y := Nat.lt_of_mul_lt_mul_left h3
    omega
  · obtain ⟨c, rfl⟩ := Nat.exists_eq_add_of_le h
    rw [Nat.pow_add, Nat.mul_assoc] at h1
    have x := Nat.lt_of_mul_lt_mul_left h1
    have y : 2 ^ a * (2 * b + 1 + 1) ≤ 2 ^ a * (2 ^ c * (2 * m + 1)) := Nat.mul_le_mul_left _ x
    rw [Nat.pow_add, Nat.mul_assoc]
    rw [Nat.mul_add (2 ^ a) (2 * b + 1) 1, Nat.mul_one] at y
    exact y
theorem low_next {i : Nat} (hi : 1 ≤ i) : i + low i - low (i + low i) ≤ i - low i := by
  obtain ⟨a, b, rfl⟩ := parts i hi
  rw [low_is]
  have pa : 0 < 2 ^ a := Nat.pow_pos (by omega)
  obtain ⟨k, m, e⟩ := parts (b + 1) (by omega)
  have e2 : 2 ^ a * (2 * b + 1) + 2 ^ a = 2 ^ (a + 1 + k) * (2 * m + 1) := by
    rw [Nat.pow_add, Nat.mul_assoc, ← e, Nat.pow_succ, Nat.mul_assoc, Nat.mul_add, Nat.mul_one]
    have : 2 * (b + 1) = 2 * b + 1 + 1 := by omega
    rw [this, Nat.mul_add (2 ^ a) (2 * b + 1) 1, Nat.mul_add (2 ^ a) (2 * b) 1, Nat.mul_one]
  rw [e2, low_is, ← e2]
  have q : 2 ^ (a + 1) ≤ 2 ^ (a + 1 + k) := Nat.pow_le_pow_right (by omega) (by omega)
  rw [Nat.pow_succ] at q
  omega
theorem bit_low (n : Nat) (h : 1 ≤ n) : Builtin.bitAnd (n : Int) (-(n : Int)) = (low n : Nat) := by
  have e : Builtin.bitAnd (n : Int) (-(n : Int)) = (n : Int) - (((n : Int).toNat &&& (Builtin.bitNot (-(n : Int))).toNat : Nat) : Int) := by
    have h1 : (0 : Int) ≤ n := by omega
    have h2 : ¬ (0 : Int) ≤ -(n : Int) := by omega
    unfold Builtin.bitAnd
    rw [decide_eq_true h1, decide_eq_false h2]
  have b : (Builtin.bitNot (-(n : Int))).toNat = n - 1 := by unfold Builtin.bitNot; omega
  rw [e, b, Int.toNat_natCast]
  unfold low
  have : n &&& (n - 1) ≤ n := Nat.and_le_left
  omega
/-! ### rows of four numbers -/
structure Q where
  w : Int
  c : Int
  a : Int
  i : Int
def Q.row (q : Q) : List Int := [q.w, q.c, q.a, q.i]
def least : Q := ⟨0, 0, 0, 0⟩
def Q.lt (q r : Q) : Prop := q.w < r.w ∨ (q.w = r.w ∧ (q.c < r.c ∨ (q.c = r.c ∧ (q.a < r.a ∨ (q.a = r.a ∧ q.i < r.i)))))
theorem lex_row (q r : Q) : (HT.lexLt q.row r.row = true) ↔ q.lt r := by
  unfold Q.row Q.lt
  simp only [HT.lexLt]
  split <;> (try split) <;> (try split) <;> (try split) <;> simp <;> omega
def mx (q r : Q) : Q := if HT.lexLt q.row r.row = true then r else q
def IsMax (S : Q → Prop) (M : Q) : Prop := S M ∧ ∀ v, S v → ¬ M.lt v
theorem isMax_mx {S T : Q → Prop} {M N : Q} (h : IsMax S M) (g : IsMax T N) : IsMax (fun v => S v ∨ T v) (mx M N) := by
  unfold mx
  by_cases e : HT.lexLt M.row N.row = true
  · rw [if_pos e]
    rw [lex_row] at e
    refine ⟨.inr g.1, fun v hv => ?_⟩
    rcases hv with hv | hv
    · have := h.2 v hv
      unfold Q.lt at *
      omega
    · exact g.2 v hv
  · rw [if_neg e]
    rw [lex_row] at e
    refine ⟨.inl h.1, fun v hv => ?_⟩
    rcases hv with hv | hv
    · exact h.2 v hv
    · have := g.2 v hv
      unfold Q.lt at *
      omega
theorem IsMax.uniq {S : Q → Prop} {M N : Q} (h : IsMax S M) (g : IsMax S N) : M = N := by
  have a := h.2 N g.1
  have b := g.2 M h.1
  unfold Q.lt at a b
  cases M; cases N
  simp only at a b
  simp only [Q.mk.injEq]
  omega
theorem IsMax.congr {S T : Q → Prop} {M : Q} (h : IsMax S M) (e : ∀ v, S v ↔ T v) : IsMax T M := ⟨(e M).mp h.1, fun v hv => h.2 v ((e v).mpr hv)⟩
/-! ### the tree -/
abbrev Puts := List (Nat × Q)
def cov (puts : Puts) (lo hi : Nat) (v : Q) : Prop := v = least ∨ ∃ p, (p, v) ∈ puts ∧ lo ≤ p ∧ p < hi
theorem cov_join {puts : Puts} {a b c : Nat} (h1 : a ≤ b) (h2 : b ≤ c) (v : Q) : (cov puts b c v ∨ cov puts a b v) ↔ cov puts a c v := by
  constructor
  · rintro ((h | ⟨p, h, x, y⟩) | (h | ⟨p, h, x, y⟩))
    · exact .inl h
    · exact .inr ⟨p, h, by omega, y⟩
    · exact .inl h
    · exact .inr ⟨p, h, x, by omega⟩
  · rintro (h | ⟨p, h, x, y⟩)
    · exact .inl (.inl h)
    · by_cases q : p < b
      · exact .inr (.inr ⟨p, h, x, q⟩)
      · exact .inl (.inr ⟨p, h, by omega, y⟩)
structure Tr (n : Nat) (puts : Puts) (ns : List Q) : Prop where
  len : ns.length = n + 1
  at_ : ∀ j, 1 ≤ j → j ≤ n → ∃ M, ns[j]? = some M ∧ IsMax (cov puts (j - low j) j) M
theorem tr_new (n : Nat) : Tr n [] (List.replicate (n + 1) least) := by
  refine ⟨by simp, fun j h1 h2 => ⟨least, by rw [List.getElem?_replicate, if_pos (by omega)], .inl rfl, fun v hv => ?_⟩⟩
  rcases hv with rfl | ⟨p, h, _⟩
  · unfold Q.lt; omega
  · cases h
/-- the state within put: the nodes below k have the new value -/
structure Half (n : Nat) (puts : Puts) (p : Nat) (v : Q) (k : Nat) (ns : List Q) : Prop where
  len : ns.length = n + 1
  pos : p < k
  cov : k - low k ≤ p
  new : ∀ j, 1 ≤ j → j ≤ n → j < k → ∃ M, ns[j]? = some M ∧ IsMax (K12.cov ((p, v) :: puts) (j - low j) j) M
  old : ∀ j, 1 ≤ j → j ≤ n → k ≤ j → ∃ M, ns[j]? = some M ∧ IsMax (K12.cov puts (j - low j) j) M
theorem cov_more {puts : Puts} {p lo hi : Nat} {v : Q} (h : ¬ (lo ≤ p ∧ p < hi)) (x : Q) : cov puts lo hi x ↔ cov ((p, v) :: puts) lo hi x := by
  constructor
  · rintro (e | ⟨q, a, b, c⟩)
    · exact .inl e
    · exact .inr ⟨q, List.mem_cons_of_mem _ a, b, c⟩
  · rintro (e | ⟨q, a, b, c⟩)
    · exact .inl e
    · rcases List.mem_cons.mp a with z | z
      · cases z; exact absurd ⟨b, c⟩ h
      · exact .inr ⟨q, z, b, c⟩
theorem half_start {n : Nat} {puts : Puts} {ns : List Q} (t : Tr n puts ns) (p : Nat) (v : Q) : Half n puts p v (p + 1) ns := by
  have lp := low_pos (n := p + 1) (by omega)
  refine ⟨t.len, by omega, by omega, fun j h1 h2 h3 => ?_, fun j h1 h2 _ => t.at_ j h1 h2⟩
  obtain ⟨M, e, h⟩ := t.at_ j h1 h2
  exact ⟨M, e, h.congr (cov_more (by omega))⟩
theorem half_end {n : Nat} {puts : Puts} {ns : List Q} {p k : Nat} {v : Q} (t : Half n puts p v k ns) (h : n < k) : Tr n ((p, v) :: puts) ns := ⟨t.len, fun j h1 h2 => t.new j h1 h2 (by omega)⟩
theorem half_step {n : Nat} {puts : Puts} {ns : List Q} {p k : Nat} {v : Q} (t : Half n puts p v k ns) (h : k ≤ n) : ∃ M, ns[k]? = some M ∧ Half n puts p v (k + low k) (ns.set k (mx M v)) := by
  have kp : 1 ≤ k := by have := t.pos; omega
  have lk := low_pos kp
  obtain ⟨M, e, hM⟩ := t.old k kp h (by omega)
  have hk : k < ns.length := by rw [t.len]; omega
  have nx := low_next kp
  have tp := t.pos
  have tc := t.cov
  refine ⟨M, e, by rw [List.length_set, t.len], by omega, by omega, fun j h1 h2 h3 => ?_, fun j h1 h2 h3 => ?_⟩
  · by_cases ej : j = k
    · subst ej
      refine ⟨mx M v, by rw [List.getElem?_set_self hk], ?_⟩
      refine (isMax_mx hM (T := fun x => x = v) ⟨rfl, fun x hx => by subst hx; unfold Q.lt; omega⟩).congr fun x => ?_
      constructor
      · rintro (hx | rfl)
        · rcases hx with q | ⟨q, a, b, c⟩
          · exact .inl q
          · exact .inr ⟨q, List.mem_cons_of_mem _ a, b, c⟩
        · exact .inr ⟨p, by simp, by omega, by omega⟩
      · rintro (q | ⟨q, a, b, c⟩)
        · exact .inl (.inl q)
        · rcases List.mem_cons.mp a with z | z
          · cases z; exact .inr rfl
          · exact .inl (.inr ⟨q, z, b, c⟩)
    · rw [List.getElem?_set_ne (Ne.symm ej)]
      by_cases lt : j < k
      · exact t.new j h1 h2 lt
      · obtain ⟨N, eN, hN⟩ := t.old j h1 h2 (by omega)
        refine ⟨N, eN, hN.congr (cov_more fun ⟨a, b⟩ => ?_)⟩
        have := low_up kp (j := j) (by omega) (by omega)
        omega
  · rw [List.getElem?_set_ne (by omega)]
    exact t.old j h1 h2 (by omega)
end K12

namespace K12
open PySem O
def rq (q : Q) : D := .tup [.int q.w, .int q.c, .int q.a, .int q.i]
theorem rq_row (q : Q) : rq q = rowT q.row := rfl
@[simp] theorem kz_rq {i : Nat} {ρ : O.Env} {q : Q} : kz i ρ (some (.br (rq q))) = .ok (rq q) ρ := id rfl
@[simp] theorem max_rq (a b : Q) : gMaxT [rq a, rq b] = some (.val (rq (mx a b))) := by
  rw [rq_row, rq_row, gMaxT_rows]
  unfold mx
  by_cases h : HT.lexLt a.row b.row = true
  · rw [if_pos h, if_pos h]; rfl
  · rw [if_neg h, if_neg h]; rfl
theorem ll : ("least" : Str) ≠ "nodes" := by decide +kernel
def tr (C : Addr) (ns : List Q) : OD := .ins C [("least", .fz (rq least)), ("nodes", .lst (ns.map rq))]
theorem lookL (a b : OD) : List.lookup ("least" : Str) [("least", a), ("nodes", b)] = some a := by simp [List.lookup]
theorem lookN (a b : OD) : List.lookup ("nodes" : Str) [("least", a), ("nodes", b)] = some b := by
  have e : (("nodes" : Str) == "least") = false := by decide +kernel
  simp [List.lookup, e]
theorem lookP (a b : OD) : List.lookup ("put" : Str) [("least", a), ("nodes", b)] = none := by
  have e : (("put" : Str) == "least") = false := by decide +kernel
  have e2 : (("put" : Str) == "nodes") = false := by decide +kernel
  simp [List.lookup, e, e2]
theorem lookB (a b : OD) : List.lookup ("before" : Str) [("least", a), ("nodes", b)] = none := by
  have e : (("before" : Str) == "least") = false := by decide +kernel
  have e2 : (("before" : Str) == "nodes") = false := by decide +kernel
  simp [List.lookup, e, e2]
theorem putN (a b c : OD) : putO "nodes" c [(("least" : Str), a), ("nodes", b)] = [(("least" : Str), a), ("nodes", c)] := by
  have e : ¬ ("least" : Str) = "nodes" := ll
  simp [putO, e]
theorem putL0 (a : OD) : putO "least" a [] = [(("least" : Str), a)] := rfl
theorem putN0 (a c : OD) : putO "nodes" c [(("least" : Str), a)] = [(("least" : Str), a), ("nodes", c)] := by
  have e : ¬ ("least" : Str) = "nodes" := ll
  simp [putO, e]
theorem lens (ns : List Q) (n : Nat) (h : ns.length = n) : (ns.map rq).length = n := by simpa using h
theorem p_init (C : Addr) (n : Nat) (hn : n < 1000000) : F_Greatest_init C [.io (.ins C []), .br (.int n), .br (rq least)] = .ret (.val .non) [some (tr C (List.replicate (n + 1) least)), none, none] := by
  have hz := sizeLine_is
  have e2 : ((n : Int) + 1).toNat = n + 1 := by omega
  have e3 : (List.replicate (n + 1) [rq least]).flatten = (List.replicate (n + 1) least).map rq := by
    rw [List.map_replicate]
    induction n + 1 with
    | zero => rfl
    | succ k ih => rw [List.replicate_succ, List.flatten_cons, ih, List.replicate_succ]; rfl
  have e1 : ∀ ρ : O.Env, ρ[1]? = some (.br (.int n)) → ρ[2]? = some (.br (rq least)) → fRep (fLst (iCons (fVar 2) aNil)) (f2 (fVar 1) (fC (.int 1)) gAdd) ρ = .ok (.own (.lst ((List.replicate (n + 1) least).map rq))) ρ := fun ρ h1 h2 => by
    unfold fRep
    have a : fLst (iCons (fVar 2) aNil) ρ = .ok (.own (.lst [rq least])) ρ := by simp [h2]
    have b : f2 (fVar 1) (fC (.int 1)) gAdd ρ = .ok (.val (.int (n + 1))) ρ := by simp [h1]
    rw [a, bind_ok, b, bind_ok]
    have c : -(2 ^ 63) ≤ ((n : Int) + 1) ∧ ((n : Int) + 1) < 2 ^ 63 ∧ [rq least].length * ((n : Int) + 1).toNat ≤ sizeLine := by
      rw [e2]; simp only [List.length_singleton]; omega
    simp only [repR, rd_val]
    rw [if_pos c, e2, e3]
  simp [F_Greatest_init, u_runF, g_Greatest_init, startE, slotA, e1, putL0, putN0, tr]
theorem ixN_nat {n j : Nat} (hj : j < n) : L2.ixN n (j : Int) = some j := by
  unfold L2.ixN
  rw [if_pos (by omega), if_pos (by omega)]
  simp
theorem ge_at {ns : List Q} {k : Nat} {M : Q} (h : ns[k]? = some M) : gIx (.lst (ns.map rq)) (.int (k : Int)) = some (.val (rq M)) := by
  simp only [gIx]
  rw [L2.atI_nat (j := k) (v := rq M) (by rw [List.getElem?_map, h]; rfl)]
  rfl
theorem p_put (C : Addr) (n : Nat) (puts : Puts) (ns : List Q) (t : Tr n puts ns) (p : Nat) (v : Q) (hn : n < 1000000) : ∃ ns', F_Greatest_put C [.io (tr C ns), .br (.int p), .br (rq v)] = .ret (.val .non) [some (tr C ns'), none, none] ∧ Tr n ((p, v) :: puts) ns' := by
  obtain ⟨ρ', e, ns', k', rfl, ht⟩ := while_ok (c := fB (f2 (fVar 3) (fFldB C 0 "nodes" gLen) gLtT)) (g := gSeq (gSetFI C 0 "nodes" 3 (fCB (aCons (fFldIx C 0 "nodes" 3) (aCons (fVar 2) aNil)) gMaxT)) (gAug 3 (fun i j => i + j) (f2 (fVar 3) (f1 (fVar 3) gNeg) gBitAnd)))
    (fun m ρ => ∃ (ns : List Q) (k : Nat), ρ = [.io (tr C ns), .br (.int p), .br (rq v), .sh (.int k)] ∧ Half n puts p v k ns ∧ m = n + 1 - k)
    (fun ρ => ∃ (ns : List Q) (k : Nat), ρ = [.io (tr C ns), .br (.int p), .br (rq v), .sh (.int k)] ∧ Tr n ((p, v) :: puts) ns) (fun m ρ ⟨ns, k, e, h, hm⟩ => by
      subst e
      refine ⟨decide ((k : Int) < ((n + 1 : Nat) : Int)), [.io (tr C ns), .br (.int p), .br (rq v), .sh (.int k)], by simp [tr, lookN, gLen, h.len], fun hb => ?_, fun hb => ?_⟩
      · have hb := of_decide_eq_true hb
        have kp : 1 ≤ k := by have := h.pos; omega
        obtain ⟨M, eM, h2⟩ := half_step h (by omega)
        have lk := low_pos kp
        have hix : L2.ixN ns.length (k : Int) = some k := ixN_nat (by rw [h.len]; omega)
        refine ⟨[.io (tr C (ns.set k (mx M v))), .br (.int p), .br (rq v), .sh (.int ((k + low k : Nat) : Int))], n + 1 - (k + low k), ?_, by omega, _, _, rfl, h2, rfl⟩
        simp [tr, lookN, ge_at eM, hix, putN, bit_low k kp, gNeg, List.map_set]
      · have hb := of_decide_eq_false hb
        exact ⟨ns, k, rfl, half_end h (by omega)⟩) (m := n + 1 - (p + 1)) (ρ := [.io (tr C ns), .br (.int p), .br (rq v), .sh (.int ((p + 1 : Nat) : Int))]) (by omega) ⟨ns, p + 1, rfl, half_start t p v, rfl⟩
  refine ⟨ns', ?_, ht⟩
  simp only [Int.natCast_add, Int.cast_ofNat_Int] at e
  simp [F_Greatest_put, u_runF, g_Greatest_put, startE, slotA, e]
theorem p_before (C : Addr) (n : Nat) (puts : Puts) (ns : List Q) (t : Tr n puts ns) (p : Nat) (hp : p ≤ n) (hn : n < 1000000) : ∃ M, F_Greatest_before C [.io (tr C ns), .br (.int p)] = .ret (.val (rq M)) [some (tr C ns), none] ∧ IsMax (cov puts 0 p) M := by
  obtain ⟨ρ', e, M, s, rfl, ht⟩ := while_ok (c := fB (f2 (fVar 3) (fC (.int 0)) gGtT)) (g := gSeq (gSet 2 (fCB (aCons (fVar 2) (aCons (fFldIx C 0 "nodes" 3) aNil)) gMaxT)) (gAug 3 (fun i j => i - j) (f2 (fVar 3) (f1 (fVar 3) gNeg) gBitAnd)))
    (fun m ρ => ∃ (M : Q) (k : Nat), ρ = [.io (tr C ns), .br (.int p), .sh (rq M), .sh (.int k)] ∧ IsMax (cov puts k p) M ∧ k ≤ p ∧ m = k)
    (fun ρ => ∃ (M : Q) (s : Sl), ρ = [.io (tr C ns), .br (.int p), .sh (rq M), s] ∧ IsMax (cov puts 0 p) M) (fun m ρ ⟨M, k, e, h, hk, hm⟩ => by
      subst e
      refine ⟨decide ((0 : Int) < (k : Int)), [.io (tr C ns), .br (.int p), .sh (rq M), .sh (.int k)], by simp, fun hb => ?_, fun hb => ?_⟩
      · have hb := of_decide_eq_true hb
        have kp : 1 ≤ k := by omega
        obtain ⟨N, eN, hN⟩ := t.at_ k kp (by omega)
        have lk := low_pos kp
        have e1 : (k : Int) - (low k : Int) = ((k - low k : Nat) : Int) := by omega
        refine ⟨[.io (tr C ns), .br (.int p), .sh (rq (mx M N)), .sh (.int ((k - low k : Nat) : Int))], k - low k, ?_, by omega, _, _, rfl, (isMax_mx h hN).congr fun x => cov_join (by omega) hk x, by omega, rfl⟩
        simp [tr, lookN, ge_at eN, bit_low k kp, gNeg, e1]
      · have hb := of_decide_eq_false hb
        have : k = 0 := by omega
        subst this
        exact ⟨M, _, rfl, h⟩) (m := p) (ρ := [.io (tr C ns), .br (.int p), .sh (rq least), .sh (.int p)]) (by omega) ⟨least, p, rfl, ⟨.inl rfl, fun v hv => by
          rcases hv with rfl | ⟨q, _, a, b⟩
          · unfold Q.lt; omega
          · omega⟩, by omega, rfl⟩
  refine ⟨M, ?_, ht⟩
  have e' : ∀ x, x = tr C ns → gWhile (fB (f2 (fVar 3) (fC (.int 0)) gGtT)) (gSeq (gSet 2 (fCB (aCons (fVar 2) (aCons (fFldIx C 0 "nodes" 3) aNil)) gMaxT)) (gAug 3 (fun i j => i - j) (f2 (fVar 3) (f1 (fVar 3) gNeg) gBitAnd))) [.io x, .br (.int p), .sh (rq least), .sh (.int p)] = .nx [.io (tr C ns), .br (.int p), .sh (rq M), s] := fun x hx => by rw [hx]; exact e
  have e0 := e
  simp only [tr] at e0
  simp [F_Greatest_before, u_runF, g_Greatest_before, startE, slotA, tr, lookL, e0]
end K12

namespace K12
open PySem O
/-! Greatest over ints -/
def ri (q : Q) : D := .int q.w
@[simp] theorem kz_ri {i : Nat} {ρ : O.Env} {q : Q} : kz i ρ (some (.br (ri q))) = .ok (ri q) ρ := id rfl
theorem mx_w (a b : Q) : (mx a b).w = max a.w b.w := by
  unfold mx
  by_cases h : HT.lexLt a.row b.row = true
  · rw [if_pos h]
    have := (lex_row a b).mp h
    unfold Q.lt at this
    omega
  · rw [if_neg h]
    have : ¬ a.w < b.w := fun c => h ((lex_row a b).mpr (.inl c))
    omega
@[simp] theorem max_ri (a b : Q) : gMaxT [ri a, ri b] = some (.val (ri (mx a b))) := by
  show gMaxT [.int a.w, .int b.w] = some (.val (.int (mx a b).w))
  rw [gMaxT_ints, mx_w]
  simp [gMax, gMM]
  split <;> omega
def trI (C : Addr) (ns : List Q) : OD := .ins C [("least", .fz (ri least)), ("nodes", .lst (ns.map ri))]
theorem lensI (ns : List Q) (n : Nat) (h : ns.length = n) : (ns.map ri).length = n := by simpa using h
theorem p_initI (C : Addr) (n : Nat) (hn : n < 1000000) : F_Greatest_init C [.io (.ins C []), .br (.int n), .br (ri least)] = .ret (.val .non) [some (trI C (List.replicate (n + 1) least)), none, none] := by
  have hz := sizeLine_is
  have e2 : ((n : Int) + 1).toNat = n + 1 := by omega
  have e3 : (List.replicate (n + 1) [ri least]).flatten = (List.replicate (n + 1) least).map ri := by
    rw [List.map_replicate]
    induction n + 1 with
    | zero => rfl
    | succ k ih => rw [List.replicate_succ, List.flatten_cons, ih, List.replicate_succ]; rfl
  have e1 : ∀ ρ : O.Env, ρ[1]? = some (.br (.int n)) → ρ[2]? = some (.br (ri least)) → fRep (fLst (iCons (fVar 2) aNil)) (f2 (fVar 1) (fC (.int 1)) gAdd) ρ = .ok (.own (.lst ((List.replicate (n + 1) least).map ri))) ρ := fun ρ h1 h2 => by
    unfold fRep
    have a : fLst (iCons (fVar 2) aNil) ρ = .ok (.own (.lst [ri least])) ρ := by simp [h2]
    have b : f2 (fVar 1) (fC (.int 1)) gAdd ρ = .ok (.val (.int (n + 1))) ρ := by simp [h1]
    rw [a, bind_ok, b, bind_ok]
    have c : -(2 ^ 63) ≤ ((n : Int) + 1) ∧ ((n : Int) + 1) < 2 ^ 63 ∧ [ri least].length * ((n : Int) + 1).toNat ≤ sizeLine := by
      rw [e2]; simp only [List.length_singleton]; omega
    simp only [repR, rd_val]
    rw [if_pos c, e2, e3]
  simp [F_Greatest_init, u_runF, g_Greatest_init, startE, slotA, e1, putL0, putN0, trI]
theorem ge_atI {ns : List Q} {k : Nat} {M : Q} (h : ns[k]? = some M) : gIx (.lst (ns.map ri)) (.int (k : Int)) = some (.val (ri M)) := by
  simp only [gIx]
  rw [L2.atI_nat (j := k) (v := ri M) (by rw [List.getElem?_map, h]; rfl)]
  rfl
theorem p_putI (C : Addr) (n : Nat) (puts : Puts) (ns : List Q) (t : Tr n puts ns) (p : Nat) (v : Q) (hn : n < 1000000) : ∃ ns', F_Greatest_put C [.io (trI C ns), .br (.int p), .br (ri v)] = .ret (.val .non) [some (trI C ns'), none, none] ∧ Tr n ((p, v) :: puts) ns' := by
  obtain ⟨ρ', e, ns', k', rfl, ht⟩ := while_ok (c := fB (f2 (fVar 3) (fFldB C 0 "nodes" gLen) gLtT)) (g := gSeq (gSetFI C 0 "nodes" 3 (fCB (aCons (fFldIx C 0 "nodes" 3) (aCons (fVar 2) aNil)) gMaxT)) (gAug 3 (fun i j => i + j) (f2 (fVar 3) (f1 (fVar 3) gNeg) gBitAnd)))
    (fun m ρ => ∃ (ns : List Q) (k : Nat), ρ = [.io (trI C ns), .br (.int p), .br (ri v), .sh (.int k)] ∧ Half n puts p v k ns ∧ m = n + 1 - k)
    (fun ρ => ∃ (ns : List Q) (k : Nat), ρ = [.io (trI C ns), .br (.int p), .br (ri v), .sh (.int k)] ∧ Tr n ((p, v) :: puts) ns) (fun m ρ ⟨ns, k, e, h, hm⟩ => by
      subst e
      refine ⟨decide ((k : Int) < ((n + 1 : Nat) : Int)), [.io (trI C ns), .br (.int p), .br (ri v), .sh (.int k)], by simp [trI, lookN, gLen, h.len], fun hb => ?_, fun hb => ?_⟩
      · have hb := of_decide_eq_true hb
        have kp : 1 ≤ k := by have := h.pos; omega
        obtain ⟨M, eM, h2⟩ := half_step h (by omega)
        have lk := low_pos kp
        have hix : L2.ixN ns.length (k : Int) = some k := ixN_nat (by rw [h.len]; omega)
        refine ⟨[.io (trI C (ns.set k (mx M v))), .br (.int p), .br (ri v), .sh (.int ((k + low k : Nat) : Int))], n + 1 - (k + low k), ?_, by omega, _, _, rfl, h2, rfl⟩
        simp [trI, lookN, ge_atI eM, hix, putN, bit_low k kp, gNeg, List.map_set]
      · have hb := of_decide_eq_false hb
        exact ⟨ns, k, rfl, half_end h (by omega)⟩) (m := n + 1 - (p + 1)) (ρ := [.io (trI C ns), .br (.int p), .br (ri v), .sh (.int ((p + 1 : Nat) : Int))]) (by omega) ⟨ns, p + 1, rfl, half_start t p v, rfl⟩
  refine ⟨ns', ?_, ht⟩
  simp only [Int.natCast_add, Int.cast_ofNat_Int] at e
  simp [F_Greatest_put, u_runF, g_Greatest_put, startE, slotA, e]
theorem p_beforeI (C : Addr) (n : Nat) (puts : Puts) (ns : List Q) (t : Tr n puts ns) (p : Nat) (hp : p ≤ n) (hn : n < 1000000) : ∃ M, F_Greatest_before C [.io (trI C ns), .br (.int p)] = .ret (.val (ri M)) [some (trI C ns), none] ∧ IsMax (cov puts 0 p) M := by
  obtain ⟨ρ', e, M, s, rfl, ht⟩ := while_ok (c := fB (f2 (fVar 3) (fC (.int 0)) gGtT)) (g := gSeq (gSet 2 (fCB (aCons (fVar 2) (aCons (fFldIx C 0 "nodes" 3) aNil)) gMaxT)) (gAug 3 (fun i j => i - j) (f2 (fVar 3) (f1 (fVar 3) gNeg) gBitAnd)))
    (fun m ρ => ∃ (M : Q) (k : Nat), ρ = [.io (trI C ns), .br (.int p), .sh (ri M), .sh (.int k)] ∧ IsMax (cov puts k p) M ∧ k ≤ p ∧ m = k)
    (fun ρ => ∃ (M : Q) (s : Sl), ρ = [.io (trI C ns), .br (.int p), .sh (ri M), s] ∧ IsMax (cov puts 0 p) M) (fun m ρ ⟨M, k, e, h, hk, hm⟩ => by
      subst e
      refine ⟨decide ((0 : Int) < (k : Int)), [.io (trI C ns), .br (.int p), .sh (ri M), .sh (.int k)], by simp, fun hb => ?_, fun hb => ?_⟩
      · have hb := of_decide_eq_true hb
        have kp : 1 ≤ k := by omega
        obtain ⟨N, eN, hN⟩ := t.at_ k kp (by omega)
        have lk := low_pos kp
        have e1 : (k : Int) - (low k : Int) = ((k - low k : Nat) : Int) := by omega
        refine ⟨[.io (trI C ns), .br (.int p), .sh (ri (mx M N)), .sh (.int ((k - low k : Nat) : Int))], k - low k, ?_, by omega, _, _, rfl, (isMax_mx h hN).congr fun x => cov_join (by omega) hk x, by omega, rfl⟩
        simp [trI, lookN, ge_atI eN, bit_low k kp, gNeg, e1]
      · have hb := of_decide_eq_false hb
        have : k = 0 := by omega
        subst this
        exact ⟨M, _, rfl, h⟩) (m := p) (ρ := [.io (trI C ns), .br (.int p), .sh (ri least), .sh (.int p)]) (by omega) ⟨least, p, rfl, ⟨.inl rfl, fun v hv => by
          rcases hv with rfl | ⟨q, _, a, b⟩
          · unfold Q.lt; omega
          · omega⟩, by omega, rfl⟩
  refine ⟨M, ?_, ht⟩
  have e' : ∀ x, x = trI C ns → gWhile (fB (f2 (fVar 3) (fC (.int 0)) gGtT)) (gSeq (gSet 2 (fCB (aCons (fVar 2) (aCons (fFldIx C 0 "nodes" 3) aNil)) gMaxT)) (gAug 3 (fun i j => i - j) (f2 (fVar 3) (f1 (fVar 3) gNeg) gBitAnd))) [.io x, .br (.int p), .sh (ri least), .sh (.int p)] = .nx [.io (trI C ns), .br (.int p), .sh (ri M), s] := fun x hx => by rw [hx]; exact e
  have e0 := e
  simp only [trI] at e0
  simp [F_Greatest_before, u_runF, g_Greatest_before, startE, slotA, trI, lookL, e0]
end K12

namespace K12
open PySem O
/-! ### dicts -/
theorem getD_cons (k q : L2.Key) (d : D) (kvs : KD) : getD ((k, d) :: kvs) q = if k = q then some d else getD kvs q := by
  unfold getD
  rw [List.find?_cons]
  by_cases h : k = q
  · simp [h]
  · simp [h]
theorem getD_nil (q : L2.Key) : getD [] q = none := rfl
theorem getD_put (kvs : KD) (k q : L2.Key) (d : D) : getD (putD kvs k d) q = if k = q then some d else getD kvs q := by
  unfold putD
  split
  · rename_i h
    have go : ∀ kvs : KD, getD (kvs.map fun kv => if kv.1 = k then (kv.1, d) else kv) q = if k = q then (if (kvs.any fun kv => decide (kv.1 = k)) = true then some d else none) else getD kvs q := by
      intro kvs
      induction kvs with
      | nil => simp [getD_nil]
      | cons x kvs ih =>
        obtain ⟨a, b⟩ := x
        rw [List.map_cons]
        by_cases e : a = k
        · subst e
          simp only [if_true, getD_cons, ih]
          by_cases f : a = q
          · simp [f]
          · simp [f]
        · simp only [if_neg e, getD_cons, ih]
          by_cases f : k = q
          · subst f
            have ea : (List.any ((a, b) :: kvs) fun kv => decide (kv.1 = k)) = kvs.any fun kv => decide (kv.1 = k) := by
              show (decide (a = k) || _) = _
              rw [decide_eq_false e, Bool.false_or]
            simp only [if_true, if_neg e, ea]
          · by_cases g : a = q
            · simp [g, f]
            · simp [g, f]
    rw [go kvs, if_pos h]
  · rename_i h
    have go : ∀ kvs : KD, ¬ (kvs.any fun kv => decide (kv.1 = k)) = true → getD (kvs ++ [(k, d)]) q = if k = q then some d else getD kvs q := by
      intro kvs
      induction kvs with
      | nil => intro _; rw [List.nil_append, getD_cons]
      | cons x kvs ih =>
        intro h
        obtain ⟨a, b⟩ := x
        have h1 : a ≠ k := fun z => h (by simp [z])
        have h2 : ¬ (kvs.any fun kv => decide (kv.1 = k)) = true := fun z => h (by rw [List.any_cons, z, Bool.or_true])
        rw [List.cons_append, getD_cons, getD_cons, ih h2]
        by_cases f : k = q
        · subst f; simp [h1]
        · simp [f]
    exact go kvs h
theorem put_len (kvs : KD) (k : L2.Key) (d : D) : (putD kvs k d).length ≤ kvs.length + 1 := by
  unfold putD
  split
  · simp
  · simp
def putAll : KD → Nat → List Int → KD
  | acc, _, [] => acc
  | acc, k, x :: l => putAll (putD acc (.inl x) (.int (k : Nat))) (k + 1) l
theorem all_len : ∀ (l : List Int) (acc : KD) (k : Nat), (putAll acc k l).length ≤ acc.length + l.length
  | [], _, _ => by simp [putAll]
  | x :: l, acc, k => by
    have := all_len l (putD acc (.inl x) (.int (k : Nat))) (k + 1)
    have := put_len acc (.inl x) (.int (k : Nat))
    simp only [putAll, List.length_cons]
    omega
theorem all_get : ∀ (l : List Int) (acc : KD) (k : Nat) (y : Int), l.Nodup → getD (putAll acc k l) (.inl y) = if y ∈ l then some (.int ((k + l.idxOf y : Nat) : Int)) else getD acc (.inl y)
  | [], acc, k, y, _ => by simp [putAll]
  | x :: l, acc, k, y, h => by
    have hx := (List.nodup_cons.mp h).1
    rw [putAll, all_get l _ _ y (List.nodup_cons.mp h).2, getD_put]
    by_cases e : x = y
    · subst e
      simp [hx, List.idxOf_cons]
    · have e' : ¬ y = x := fun z => e z.symm
      by_cases f : y ∈ l
      · have : (x == y) = false := by simpa using e
        simp [f, List.idxOf_cons, this]
        omega
      · simp [f, e, e']
def Pl (kvs : KD) (l : List Int) : Prop := ∀ x ∈ l, getD kvs (.inl x) = some (.int (l.idxOf x : Nat))
theorem pl_all {l : List Int} (h : l.Nodup) : Pl (putAll [] 0 l) l := fun x hx => by rw [all_get l [] 0 x h, if_pos hx, Nat.zero_add]
theorem dc_all {vs : List Nat} {a b : Nat} {ρ0 : O.Env} (K : Int → Int → O.Env) (ht : ∀ i x : Int, takeT (.tup [.name a, .name b]) (.tup [.int i, .int x]) ρ0 = some (K i x)) (hw : ∀ i x, wipeE (K i x) vs = ρ0) (ha : ∀ i x, (K i x)[a]? = some (.sh (.int i))) (hb : ∀ i x, (K i x)[b]? = some (.sh (.int x))) :
    ∀ (l : List Int) (k : Nat) (acc : KD), acc.length + l.length ≤ sizeLine → dcD vs (.tup [.name a, .name b]) fYes (fVar b) (fVar a) acc (enumD k (l.map .int)) ρ0 = .ok (putAll acc k l) ρ0
  | [], k, acc, _ => rfl
  | x :: l, k, acc, h => by
    rw [List.length_cons] at h
    have h1 : acc.length < sizeLine := by omega
    have h2 := put_len acc (.inl x) (.int (k : Nat))
    simp only [List.map_cons, enumD, dcD, ht]
    simp only [u_fYes, u_fVar, hb, ha, kVar_sh, bind_ok, fz_bor, kz_sh, keyD, if_pos h1, hw]
    exact dc_all K ht hw ha hb l (k + 1) _ (by omega)
def swp : Nat → List Int → List D
  | _, [] => []
  | k, x :: l => .tup [.int x, .int (k : Nat)] :: swp (k + 1) l
theorem lc_swap {vs : List Nat} {a b : Nat} {ρ0 : O.Env} (K : Int → Int → O.Env) (ht : ∀ i x : Int, takeT (.tup [.name a, .name b]) (.tup [.int i, .int x]) ρ0 = some (K i x)) (hw : ∀ i x, wipeE (K i x) vs = ρ0) (ha : ∀ i x, (K i x)[a]? = some (.sh (.int i))) (hb : ∀ i x, (K i x)[b]? = some (.sh (.int x))) :
    ∀ (l : List Int) (k m : Nat), m + l.length ≤ sizeLine → lcD vs (.tup [.name a, .name b]) fYes (fTup (iCons (fVar b) (iCons (fVar a) aNil))) m (enumD k (l.map .int)) ρ0 = .ok (swp k l) ρ0
  | [], k, m, _ => rfl
  | x :: l, k, m, h => by
    rw [List.length_cons] at h
    have h1 : m < sizeLine := by omega
    have ih := lc_swap K ht hw ha hb l (k + 1) (m + 1) (by omega)
    have e : (fTup (iCons (fVar b) (iCons (fVar a) aNil)) (K (k : Nat) x)).bind fz = .ok (.tup [.int x, .int (k : Nat)]) (K (k : Nat) x) := by simp [ha, hb]
    simp only [List.map_cons, enumD, lcD, ht, u_fYes, e, if_pos h1, hw, ih, swp]
theorem dict_swp (l : List Int) : gDictP [.lst (swp 0 l)] = some (.own (.dic (putAll [] 0 l))) := by
  have e : ∀ (l : List Int) (k : Nat), ∃ kvs, pairsD (swp k l) = some kvs ∧ ∀ acc, mergeD acc kvs = putAll acc k l := by
    intro l
    induction l with
    | nil => exact fun k => ⟨[], rfl, fun acc => rfl⟩
    | cons x l ih =>
      intro k
      obtain ⟨kvs, h1, h2⟩ := ih (k + 1)
      refine ⟨(.inl x, .int (k : Nat)) :: kvs, by simp [swp, pairsD, keyD, h1], fun acc => ?_⟩
      rw [putAll, ← h2]
      rfl
  obtain ⟨kvs, h1, h2⟩ := e l 0
  simp only [gDictP, h1, Option.map_some, h2]
theorem p_places (l : List Int) (h : l.length < 4000) : F_places_of [.br (.lst (l.map .int))] = .ret (.own (.dic (putAll [] 0 l))) [none] := by
  have hz := sizeLine_is
  have e := dc_all (vs := [1, 2]) (a := 1) (b := 2) (ρ0 := [.br (.lst (l.map .int)), .un, .un]) (fun i x => [.br (.lst (l.map .int)), .sh (.int i), .sh (.int x)]) (fun i x => by simp) (fun i x => by simp [wipeE]) (fun i x => by simp) (fun i x => by simp) l 0 [] (by simp; omega)
  simp [F_places_of, u_runF, g_places_of, startE, slotA, gItE, wipeE, e, restE]
/-! ### weights and favoured ids -/
structure Lo (ld : D) (wt : Int → Int) : Prop where
  pos : ∀ x, 1 ≤ wt x
  a : ∀ x, F_weight_of [.br (.int x), .br ld] = .ret (.val (.int (wt x))) [none, none]
  b : ∀ x, F_law_load [.br ld, .br (.int x)] = .ret (.val (.int (wt x))) [none, none]
theorem lo_non : Lo .non fun _ => 1 where
  pos := fun _ => by omega
  a := fun x => by simp [F_weight_of, u_runF, g_weight_of, startE, slotA]
  b := fun x => by simp [F_law_load, u_runF, g_law_load, startE, slotA]
def ldOf (kvs : KD) (x : Int) : Int := match getD kvs (.inl x) with
  | some (.int z) => z
  | _ => 1
def Heavy (kvs : KD) : Prop := ∀ x, getD kvs (.inl x) = none ∨ ∃ z : Int, 1 ≤ z ∧ getD kvs (.inl x) = some (.int z)
theorem heavy_get {kvs : KD} (h : Heavy kvs) (x : Int) : (getD kvs (.inl x)).getD (.int 1) = .int (ldOf kvs x) ∧ 1 ≤ ldOf kvs x := by
  unfold ldOf
  rcases h x with e | ⟨z, hz, e⟩
  · rw [e]; exact ⟨rfl, by simp⟩
  · rw [e]; exact ⟨rfl, hz⟩
theorem lo_dic {kvs : KD} (h : Heavy kvs) : Lo (.dic kvs) (ldOf kvs) where
  pos := fun x => (heavy_get h x).2
  a := fun x => by simp [F_weight_of, u_runF, g_weight_of, startE, slotA, (heavy_get h x).1]
  b := fun x => by simp [F_law_load, u_runF, g_law_load, startE, slotA, (heavy_get h x).1]
def Li (d : D) (F : List Int) : Prop := (d = .tup (F.map .int) ∨ d = .lst (F.map .int)) ∧ F.length < 4000
theorem Li.set {d : D} {F : List Int} (h : Li d F) : gSetOf [d] = some (.val (.set F)) := by
  obtain ⟨rfl | rfl, hl⟩ := h <;> simp [gSetOf, hl]
theorem Li.in_ {d : D} {F : List Int} (h : Li d F) (x : Int) : gIn (.int x) d = some (.val (.bl (decide (x ∈ F)))) := by
  obtain ⟨rfl | rfl, hl⟩ := h <;> simp [gIn]
def fvOf (F : List Int) (x : Int) : Int := if decide (x ∈ F) = true then 1 else 0
end K12

namespace K12
open PySem O
theorem lc_ints {vs : List Nat} {v : Nat} {ft : O.Env → Res Bool} {fe : O.Env → Res RV} {ρ0 : O.Env} (K : Int → O.Env) (p : Int → Bool) (y : Int → D) (ht : ∀ n : Int, takeT (.name v) (.int n) ρ0 = some (K n)) (hw : ∀ n, wipeE (K n) vs = ρ0) :
    ∀ (l : List Int) (k : Nat), (∀ n ∈ l, ft (K n) = .ok (p n) (K n)) → (∀ n ∈ l, p n = true → (fe (K n)).bind fz = .ok (y n) (K n)) → k + l.length ≤ sizeLine → lcD vs (.name v) ft fe k (l.map .int) ρ0 = .ok ((l.filter p).map y) ρ0
  | [], _, _, _, _ => rfl
  | n :: l, k, hp, hy, h => by
    rw [List.length_cons] at h
    have h1 : k < sizeLine := by omega
    have e1 := hp n (by simp)
    cases e : p n with
    | true =>
      rw [e] at e1
      have e2 := hy n (by simp) e
      have ih := lc_ints K p y ht hw l (k + 1) (fun m hm => hp m (by simp [hm])) (fun m hm => hy m (by simp [hm])) (by omega)
      simp only [List.map_cons, lcD, ht, e1, e2, if_pos h1, hw, ih, List.filter_cons, e, if_true]
    | false =>
      rw [e] at e1
      have ih := lc_ints K p y ht hw l k (fun m hm => hp m (by simp [hm])) (fun m hm => hy m (by simp [hm])) (by omega)
      simp only [List.map_cons, lcD, ht, e1, hw, ih, List.filter_cons, e]
      rfl
theorem cut_up (l : List Int) (p : Nat) : cutD (l.map D.int) (some (p : Int)) none = (l.drop p).map D.int := by
  unfold cutD
  rw [HT.sIx_none, HT.sIx_nat, List.map_drop]
  rcases Nat.le_total p (l.map D.int).length with h | h
  · rw [Nat.min_eq_left h, List.take_of_length_le (by simp)]
  · rw [Nat.min_eq_right h, Nat.sub_self, List.take_zero, List.drop_of_length_le h]
theorem ix_at {l : List Int} {k : Nat} {x : Int} (h : l[k]? = some x) : gIx (.lst (l.map .int)) (.int (k : Int)) = some (.val (.int x)) := by
  simp only [gIx]
  rw [L2.atI_nat (j := k) (v := D.int x) (by rw [List.getElem?_map, h]; rfl)]
  rfl
end K12

namespace K12
open PySem O
theorem sq {a b : O.Env → SR} {ρ ρ1 : O.Env} (h : a ρ = .nx ρ1) : gSeq a b ρ = b ρ1 := by simp [gSeq, h]
/-! ### every second one -/
def ev {α : Type} : List α → List α
  | [] => []
  | [x] => [x]
  | x :: _ :: l => x :: ev l
def od {α : Type} : List α → List α
  | [] => []
  | [_] => []
  | _ :: y :: l => y :: od l
theorem ev_map {α β : Type} (f : α → β) : ∀ l : List α, ev (l.map f) = (ev l).map f
  | [] => rfl
  | [_] => rfl
  | x :: _ :: l => by simp [ev, ev_map f l]
theorem od_map {α β : Type} (f : α → β) : ∀ l : List α, od (l.map f) = (od l).map f
  | [] => rfl
  | [_] => rfl
  | _ :: y :: l => by simp [od, od_map f l]
theorem od_ev {α : Type} : ∀ l : List α, (od l ++ ev l).Perm l
  | [] => .refl _
  | [x] => .refl _
  | x :: y :: l => by
    show (y :: (od l ++ x :: ev l)).Perm (x :: y :: l)
    exact (List.Perm.cons y (List.perm_middle.trans (.cons x (od_ev l)))).trans (.swap x y l)
theorem ev_ix {α : Type} : ∀ l : List α, (((List.range ((l.length + 1) / 2)).map fun k => 2 * k).filterMap fun i => l[i]?) = ev l
  | [] => by simp [ev]
  | [x] => by simp [ev]
  | x :: y :: l => by
    have e : ((x :: y :: l).length + 1) / 2 = (l.length + 1) / 2 + 1 := by simp only [List.length_cons]; omega
    rw [e, List.range_succ_eq_map, List.map_cons, List.map_map, List.filterMap_cons, ev, ← ev_ix l, List.filterMap_map, List.filterMap_map]
    rfl
theorem od_ix {α : Type} : ∀ l : List α, (((List.range (l.length / 2)).map fun k => 2 * k + 1).filterMap fun i => l[i]?) = od l
  | [] => by simp [od]
  | [x] => by simp [od]
  | x :: y :: l => by
    have e : (x :: y :: l).length / 2 = l.length / 2 + 1 := by simp only [List.length_cons]; omega
    rw [e, List.range_succ_eq_map, List.map_cons, List.map_map, List.filterMap_cons, od, ← od_ix l, List.filterMap_map, List.filterMap_map]
    rfl
theorem ix_ev (n : Nat) : pickIx n none = (List.range ((n + 1) / 2)).map fun k => 2 * k := by
  unfold pickIx
  have b : sliceBounds none none (some 2) n = (0, (n : Int), 2) := rfl
  rw [b]
  unfold sliceRange
  have c : (if (2 : Int) > 0 then (if (0 : Int) < (n : Int) then ((n : Int) - 0 + 2 - 1) / 2 else 0) else (if (0 : Int) > n then (0 - (n : Int) - 2 - 1) / (-2) else 0)).toNat = (n + 1) / 2 := by
    rw [if_pos (by decide)]
    split <;> omega
  show List.map _ (List.range (Int.toNat _)) = _
  rw [c]
  refine List.map_congr_left fun k _ => ?_
  show (0 + 2 * (k : Int)).toNat = 2 * k
  omega
theorem ix_od (n : Nat) : pickIx n (some 1) = (List.range (n / 2)).map fun k => 2 * k + 1 := by
  unfold pickIx
  have b : sliceBounds (some 1) none (some 2) n = (max 0 (min 1 (n : Int)), (n : Int), 2) := rfl
  rw [b]
  unfold sliceRange
  have c : (if (2 : Int) > 0 then (if max 0 (min 1 (n : Int)) < (n : Int) then ((n : Int) - max 0 (min 1 (n : Int)) + 2 - 1) / 2 else 0) else (if max 0 (min 1 (n : Int)) > n then (max 0 (min 1 (n : Int)) - (n : Int) - 2 - 1) / (-2) else 0)).toNat = n / 2 := by
    rw [if_pos (by decide)]
    split <;> omega
  show List.map _ (List.range (Int.toNat _)) = _
  rw [c]
  refine List.map_congr_left fun k hk => ?_
  have := List.mem_range.mp hk
  show ((max 0 (min 1 (n : Int))) + 2 * (k : Int)).toNat = 2 * k + 1
  omega
theorem pick_ev (l : List Int) : pickG (l.map D.int) none = (ev l).map .int := by
  unfold pickG
  rw [ix_ev, ev_ix, ev_map]
theorem pick_od (l : List Int) : pickG (l.map D.int) (some 1) = (od l).map .int := by
  unfold pickG
  rw [ix_od, od_ix, od_map]
/-! ### drawn data -/
theorem rng_ints (n : Nat) : rngD 0 n = ((List.range n).map fun (i : Nat) => (i : Int)).map .int := by
  unfold rngD
  rw [List.map_map]
  refine List.map_congr_left fun i _ => ?_
  simp
theorem p_ids (d m : Int) (size : Nat) (g : Good d m) (hs : size < 1000) : ∃ (ids : List Int) (d' m' : Int), F_law_ids [.io (dk d m), .br (.int (size : Nat))] = .ret (.own (.lst (ids.map .int))) [some (dk d' m'), none] ∧ ids.Nodup ∧ ids.length = size ∧ (∀ x ∈ ids, 1 ≤ x ∧ x ≤ 100000000) ∧ Good d' m' := by
  have hz := sizeLine_is
  obtain ⟨z, d1, m1, hz1, e1, g1⟩ := one_int d m [1, 1, 37, 9999] g (by simp) (by simp)
  have hz2 : 1 ≤ z ∧ z ≤ 9999 := by simp at hz1; omega
  have bz : Builtin.Int.intBits z ≤ 32 := bits_le (by omega) (by omega)
  have lc := lc_ints (vs := [3]) (v := 3) (ft := fYes) (fe := f2 (fC (.int 1)) (f2 (fVar 2) (fVar 3) gMulI) gAdd) (ρ0 := [.io (dk d1 m1), .br (.int (size : Nat)), .sh (.int z), .un]) (fun i => [.io (dk d1 m1), .br (.int (size : Nat)), .sh (.int z), .sh (.int i)]) (fun _ => true) (fun i => .int (1 + z * i)) (fun i => by simp) (fun i => by simp [wipeE]) ((List.range size).map fun (i : Nat) => (i : Int)) 0 (fun i _ => by simp) (fun i hi _ => by
    obtain ⟨k, hk, rfl⟩ := List.mem_map.mp hi
    have hk := List.mem_range.mp hk
    have bk : Builtin.Int.intBits (k : Int) ≤ 32 := bits_le (by omega) (by omega)
    have b1 : (Builtin.Int.intBits z : Int) + (Builtin.Int.intBits (k : Int) : Int) ≤ 134217728 := by omega
    simp [gMulI_ii b1]) (by simp; omega)
  rw [← rng_ints, List.filter_eq_self.mpr fun _ _ => rfl] at lc
  have el : (((List.range size).map fun (i : Nat) => (i : Int)).map fun i => D.int (1 + z * i)) = ((List.range size).map fun (i : Nat) => 1 + z * (i : Int)).map .int := by rw [List.map_map, List.map_map]; rfl
  rw [el] at lc
  obtain ⟨out, d2, m2, e2, hp, g2⟩ := p_shuffled ((List.range size).map fun (i : Nat) => 1 + z * (i : Int)) d1 m1 (by simp; omega) g1
  refine ⟨out, d2, m2, ?_, ?_, by rw [hp.length_eq]; simp, fun x hx => ?_, g2⟩
  · have hr : -4611686018427387904 ≤ (size : Int) ∧ (size : Int) < 4611686018427387904 := by omega
    have e1' : F_law_one_of [.io (dk d m), .br (.lst [.int 1, .int 1, .int 37, .int 9999])] = .ret (.val (.int z)) [some (dk d1 m1), none] := e1
    have z4 : 4 ≤ sizeLine := by omega
    simp only [List.map_map] at lc e2
    simp [F_law_ids, u_runF, g_law_ids, startE, slotA, z4, e1', hr, wipeE, lc, restE, e2]
  · rw [hp.nodup_iff]
    refine List.pairwise_map.mpr ((List.nodup_range (n := size)).imp fun {a b} hab he => hab ?_)
    have : z * ((a : Int) - b) = 0 := by rw [Int.mul_sub]; omega
    rcases Int.mul_eq_zero.mp this with h | h <;> omega
  · obtain ⟨k, hk, rfl⟩ := List.mem_map.mp (hp.mem_iff.mp hx)
    have hk := List.mem_range.mp hk
    have h1 : 0 ≤ z * (k : Int) := Int.mul_nonneg (by omega) (by omega)
    have h2 : z * (k : Int) ≤ 9999 * 1000 := Int.mul_le_mul (by omega) (by omega) (by omega) (by omega)
    omega
end K12

namespace K12
open PySem O
theorem take_app_drop_perm (l : List Int) (q : Nat) (x : Int) : (l.take q ++ [x] ++ l.drop q).Perm (x :: l) := by
  rw [List.append_assoc]
  have h := @List.perm_middle _ x (l.take q) (l.drop q)
  rw [List.take_append_drop] at h
  exact h
theorem p_goal (base : List Int) (d m : Int) (hl : base.length < 1000) (g : Good d m) : ∃ (goal : List Int) (d' m' : Int), F_law_goal [.io (dk d m), .br (.lst (base.map .int))] = .ret (.own (.lst (goal.map .int))) [some (dk d' m'), none] ∧ goal.Perm base ∧ Good d' m' := by
  have hz := sizeLine_is
  obtain ⟨w, d1, m1, e1, w0, w1, g1⟩ := pick d m 8 g (by omega) (by omega)
  by_cases h0 : w = 0 ∨ base = []
  · obtain ⟨out, d2, m2, e2, hp, g2⟩ := p_shuffled base d1 m1 hl g1
    refine ⟨out, d2, m2, ?_, hp, g2⟩
    rcases h0 with rfl | rfl
    · simp [F_law_goal, u_runF, g_law_goal, startE, slotA, e1, gEqE, e2]
    · by_cases hw : w = 0
      · subst hw
        simp only [List.map_nil] at e2
        simp [F_law_goal, u_runF, g_law_goal, startE, slotA, e1, gEqE, e2]
      · have he : eqE (.lst []) (.lst []) = some true := by simpa using (show eqE (.lst (([] : List Int).map .int)) (.lst []) = some (decide (([] : List Int) = [])) by simp)
        simp only [List.map_nil] at e2
        simp [F_law_goal, u_runF, g_law_goal, startE, slotA, e1, gEqE, hw, he, e2]
  · have hw : w ≠ 0 := fun z => h0 (.inl z)
    have hne : base ≠ [] := fun z => h0 (.inr z)
    by_cases h1 : w = 1
    · subst h1
      refine ⟨base.reverse, d1, m1, ?_, List.reverse_perm base, g1⟩
      simp [F_law_goal, u_runF, g_law_goal, startE, slotA, e1, gEqE, hne]
    · by_cases h2 : w = 2
      · subst h2
        have hp := od_ev base
        have hlen : ((od base).map D.int).length + ((ev base).map D.int).length ≤ sizeLine := by
          have := hp.length_eq
          simp only [List.length_append, List.length_map] at this ⊢
          omega
        have ga : gAdd (.lst ((od base).map .int)) (.lst ((ev base).map .int)) = some (.own (.lst ((od base ++ ev base).map .int))) := by
          simp only [gAdd, if_pos hlen, List.map_append]
        refine ⟨od base ++ ev base, d1, m1, ?_, hp, g1⟩
        simp only [List.map_append] at ga
        simp [F_law_goal, u_runF, g_law_goal, startE, slotA, e1, gEqE, hne, pick_od, pick_ev, ga]
      · obtain ⟨n, d2, m2, e2, n0, n1, g2⟩ := pick d1 m1 (2 + (base.length : Int) / 2) g1 (by omega) (by omega)
        obtain ⟨ρ', e, found, d', m', s4, s5, rfl, hp, g', _⟩ := forD_ok (k := takeT (.name 4)) (g := gSeq (gSet 5 (fMutL 3 (iCons (fCall [.io, .br] [] F_law_pick (aCons (fVar 0) (aCons (fCB (aCons (fVar 3) aNil) gLen) aNil))) aNil) gPopAt)) (gDrop (fMutL 3 (iCons (fCall [.io, .br] [] F_law_pick (aCons (fVar 0) (aCons (f2 (fCB (aCons (fVar 3) aNil) gLen) (fC (.int 1)) gAdd) aNil))) (iCons (fVar 5) aNil)) gInsert)))
          (fun ds ρ => ∃ (found : List Int) (d m : Int) (s4 s5 : Sl), ρ = [.io (dk d m), .br (.lst (base.map .int)), .sh (.int w), .ow (.lst (found.map .int)), s4, s5] ∧ found.Perm base ∧ Good d m ∧ ((s4 = .un ∧ s5 = .un) ∨ ∃ a b, s4 = .sh a ∧ s5 = .sh b))
          (fun x ds ρ ⟨found, d, m, s4, s5, eρ, hp, hg, hs⟩ => by
            subst eρ
            have hfl := hp.length_eq
            have hpos : 0 < found.length := by rw [hfl]; exact List.length_pos_iff.mpr hne
            obtain ⟨r, d1, m1, e1, r0, r1, g1⟩ := pick d m found.length hg (by omega) (by omega)
            obtain ⟨q, rfl⟩ := Int.eq_ofNat_of_zero_le r0
            have hq : q < found.length := by omega
            have ep := pop_nat (found.map .int) q (by simpa using hq) (by simp; omega)
            rw [map_erase found q] at ep
            have hel : (found.eraseIdx q).length + 1 = found.length := by rw [List.length_eraseIdx_of_lt hq]; omega
            obtain ⟨r2, d2, m2, e2, r20, r21, g2⟩ := pick d1 m1 ((found.eraseIdx q).length + 1) g1 (by omega) (by omega)
            obtain ⟨q2, rfl⟩ := Int.eq_ofNat_of_zero_le r20
            have hin : gInsert ((found.eraseIdx q).map .int) [.int (q2 : Int), .int found[q]] = some (((found.eraseIdx q).take q2 ++ [found[q]] ++ (found.eraseIdx q).drop q2).map .int, .non) := by
              have : ((found.eraseIdx q).map D.int).length < sizeLine ∧ 0 ≤ (q2 : Int) ∧ (q2 : Int) < 2 ^ 63 := by rw [List.length_map]; omega
              simp only [gInsert, if_pos this, Int.toNat_natCast, List.map_append, List.map_take, List.map_drop, List.map_cons, List.map_nil]
            have hp1 := (take_app_drop_perm (found.eraseIdx q) q2 found[q]).trans (erase_perm found q hq)
            generalize hfd : (found.eraseIdx q).take q2 ++ [found[q]] ++ (found.eraseIdx q).drop q2 = fd at *
            refine ⟨[.io (dk d m), .br (.lst (base.map .int)), .sh (.int w), .ow (.lst (found.map .int)), .sh x, s5], [.io (dk d2 m2), .br (.lst (base.map .int)), .sh (.int w), .ow (.lst (fd.map .int)), .sh x, .sh (.int found[q])], ?_, ?_, fd, d2, m2, _, _, rfl, hp1.trans hp, g2, .inr ⟨_, _, rfl, rfl⟩⟩
            · rcases hs with ⟨rfl, rfl⟩ | ⟨a, b, rfl, rfl⟩ <;> simp
            · rcases hs with ⟨rfl, rfl⟩ | ⟨a, b, rfl, rfl⟩ <;> simp [gLen, e1, ep, e2, hin])
          (rngD 0 n.toNat) [.io (dk d2 m2), .br (.lst (base.map .int)), .sh (.int w), .ow (.lst (base.map .int)), .un, .un] ⟨base, d2, m2, _, _, rfl, List.Perm.refl _, g2, .inl ⟨rfl, rfl⟩⟩
        refine ⟨found, d', m', ?_, hp, g'⟩
        have hr : -4611686018427387904 ≤ n ∧ n < 4611686018427387904 := by omega
        have two : (2 : Int) < bigJ := lt_big (by omega)
        simp [F_law_goal, u_runF, g_law_goal, startE, slotA, e1, gEqE, hw, hne, h1, h2, gList, gLen, gFdivX_ii, two, e2, hr, e]
end K12

namespace K12
open PySem O
theorem heavy_put {kvs : KD} (h : Heavy kvs) (x z : Int) (hz : 1 ≤ z) : Heavy (putD kvs (.inl x) (.int z)) := fun y => by
  rw [getD_put]
  by_cases e : (Sum.inl x : L2.Key) = Sum.inl y
  · rw [if_pos e]; exact .inr ⟨z, hz, rfl⟩
  · rw [if_neg e]; exact h y
structure Hv (M : Int) (kvs : KD) : Prop where
  hv : Heavy kvs
  en : ∀ kv ∈ kvs, ∃ n z : Int, kv = (.inl n, .int z) ∧ (1 ≤ n ∧ n ≤ 100000000) ∧ 1 ≤ z ∧ z ≤ M
theorem hv_put {M : Int} {kvs : KD} (h : Hv M kvs) {x z : Int} (hx : 1 ≤ x ∧ x ≤ 100000000) (hz : 1 ≤ z) (hz2 : z ≤ M) : Hv M (putD kvs (.inl x) (.int z)) where
  hv := heavy_put h.hv x z hz
  en := fun kv hkv => by
    unfold putD at hkv
    split at hkv
    · obtain ⟨q, hq, e⟩ := List.mem_map.mp hkv
      obtain ⟨n, y, eq, h1, h2⟩ := h.en q hq
      by_cases c : q.1 = Sum.inl x
      · rw [if_pos c] at e
        refine ⟨n, z, ?_, h1, hz, hz2⟩
        rw [← e, eq]
      · rw [if_neg c] at e
        subst e
        exact ⟨n, y, eq, h1, h2⟩
    · rcases List.mem_append.mp hkv with q | q
      · exact h.en kv q
      · simp at q
        exact ⟨x, z, q, hx, hz, hz2⟩
theorem p_loads (base : List Int) (most d m : Int) (hl : base.length < 1000) (hrg : ∀ x ∈ base, 1 ≤ x ∧ x ≤ 100000000) (h1 : 3 ≤ most) (h2 : most < bigJ) (g : Good d m) : ∃ (z : RV) (d' m' : Int), F_law_loads [.io (dk d m), .br (.lst (base.map .int)), .br (.int most)] = .ret z [some (dk d' m'), none, none] ∧ (z = .val .non ∨ ∃ kvs, Hv most kvs ∧ kvs.length ≤ 2000 ∧ z = .own (.dic kvs)) ∧ Good d' m' := by
  have hz := sizeLine_is
  obtain ⟨w, d1, m1, e1, w0, w1, g1⟩ := pick d m 4 g (by omega) (by omega)
  by_cases h0 : w = 0
  · subst h0
    exact ⟨.val .non, d1, m1, by simp [F_law_loads, u_runF, g_law_loads, startE, slotA, e1, gEqE], .inl rfl, g1⟩
  · obtain ⟨ρ', e, kvs, d', m', s5, rfl, g', hk, hkl, _⟩ := forD_ok (k := takeT (.name 5)) (g := gIf (fOr (fB (f2 (fVar 3) (fC (.int 1)) gGtT)) (fB (f2 (fCall [.io, .br] [] F_law_pick (aCons (fVar 0) (aCons (fC (.int 2)) aNil))) (fC (.int 0)) gEqE))) (gPutI 4 (fVar 5) (fCall [.io, .br] [] F_law_one_of (aCons (fVar 0) (aCons (fLst (iCons (f2 (fC (.int 1)) (fCall [.io, .br] [] F_law_pick (aCons (fVar 0) (aCons (fC (.int 3)) aNil))) gAdd) (iCons (f2 (fC (.int 1)) (fCall [.io, .br] [] F_law_pick (aCons (fVar 0) (aCons (fVar 2) aNil))) gAdd) (iCons (fVar 2) aNil)))) aNil)))) gNext)
      (fun ds ρ => ∃ (kvs : KD) (d m : Int) (s5 : Sl), ρ = [.io (dk d m), .br (.lst (base.map .int)), .br (.int most), .sh (.int w), .ow (.dic kvs), s5] ∧ Good d m ∧ Hv most kvs ∧ kvs.length + ds.length ≤ 2000 ∧ (∃ xs : List Int, ds = xs.map .int ∧ ∀ x ∈ xs, 1 ≤ x ∧ x ≤ 100000000) ∧ (s5 = .un ∨ ∃ z, s5 = .sh (.int z)))
      (fun x ds ρ ⟨kvs, d, m, s5, eρ, hg, hk, hlen, ⟨xs, exs, hxs⟩, hs⟩ => by
        subst eρ
        cases xs with
        | nil => cases exs
        | cons x xs =>
          cases exs
          have hx := hxs x (by simp)
          have hxs' : ∀ y ∈ xs, 1 ≤ y ∧ y ≤ 100000000 := fun y hy => hxs y (by simp [hy])
          rw [List.length_cons] at hlen
          have hk1 : kvs.length < sizeLine := by omega
          have t1 : takeT (.name 5) (.int x) [.io (dk d m), .br (.lst (base.map .int)), .br (.int most), .sh (.int w), .ow (.dic kvs), s5] = some [.io (dk d m), .br (.lst (base.map .int)), .br (.int most), .sh (.int w), .ow (.dic kvs), .sh (.int x)] := by
            rcases hs with rfl | ⟨z, rfl⟩ <;> simp
          -- the value drawn
          have draw3 : ∀ d m : Int, Good d m → ∃ (z d' m' : Int), (1 ≤ z ∧ z ≤ most) ∧ Good d' m' ∧ gPutI 4 (fVar 5) (fCall [.io, .br] [] F_law_one_of (aCons (fVar 0) (aCons (fLst (iCons (f2 (fC (.int 1)) (fCall [.io, .br] [] F_law_pick (aCons (fVar 0) (aCons (fC (.int 3)) aNil))) gAdd) (iCons (f2 (fC (.int 1)) (fCall [.io, .br] [] F_law_pick (aCons (fVar 0) (aCons (fVar 2) aNil))) gAdd) (iCons (fVar 2) aNil)))) aNil))) [.io (dk d m), .br (.lst (base.map .int)), .br (.int most), .sh (.int w), .ow (.dic kvs), .sh (.int x)] =
              .nx [.io (dk d' m'), .br (.lst (base.map .int)), .br (.int most), .sh (.int w), .ow (.dic (putD kvs (.inl x) (.int z))), .sh (.int x)] := fun d m hg => by
            obtain ⟨r1, d1, m1, e1, a1, b1, g1⟩ := pick d m 3 hg (by omega) (by omega)
            obtain ⟨r2, d2, m2, e2, a2, b2, g2⟩ := p_pick d1 m1 most g1 (by omega) h2
            obtain ⟨z, d3, m3, hz, e3, g3⟩ := one_int d2 m2 [1 + r1, 1 + r2, most] g2 (by simp) (by simp)
            have e3' : F_law_one_of [.io (dk d2 m2), .br (.lst [.int (1 + r1), .int (1 + r2), .int most])] = .ret (.val (.int z)) [some (dk d3 m3), none] := e3
            refine ⟨z, d3, m3, by simp at hz; omega, g3, ?_⟩
            simp [e1, e2, e3', keyD, hk1]
          have hput : ∀ z, (putD kvs (.inl x) (.int z)).length + (xs.map D.int).length ≤ 2000 := fun z => by
            have := put_len kvs (.inl x) (.int z)
            omega
          by_cases hw : 1 < w
          · obtain ⟨z, d2, m2, z1, g2, e2⟩ := draw3 d m hg
            refine ⟨_, _, t1, ?_, _, _, _, _, rfl, g2, hv_put hk hx z1.1 z1.2, hput z, ⟨xs, rfl, hxs'⟩, .inr ⟨x, rfl⟩⟩
            rw [u_gIf]
            simp only [u_fOr, u_fB, u_f2, u_fVar, u_fC, List.getElem?_cons_succ, List.getElem?_cons_zero, kVar_sh, bind_ok, u_k2', u_k2, rd_bor, rd_val, rdo_sh, a2_some, gGtT_ii, az_some, u_kB, aB_some, hw, decide_true, kOr_t, thn_ok, kIfS_t]
            exact e2
          · obtain ⟨r, d2, m2, e2, a2, b2, g2⟩ := pick d m 2 hg (by omega) (by omega)
            by_cases hr : r = 0
            · obtain ⟨z, d3, m3, z1, g3, e3⟩ := draw3 d2 m2 g2
              refine ⟨_, _, t1, ?_, _, _, _, _, rfl, g3, hv_put hk hx z1.1 z1.2, hput z, ⟨xs, rfl, hxs'⟩, .inr ⟨x, rfl⟩⟩
              have c : (fOr (fB (f2 (fVar 3) (fC (.int 1)) gGtT)) (fB (f2 (fCall [.io, .br] [] F_law_pick (aCons (fVar 0) (aCons (fC (.int 2)) aNil))) (fC (.int 0)) gEqE))) [.io (dk d m), .br (.lst (base.map .int)), .br (.int most), .sh (.int w), .ow (.dic kvs), .sh (.int x)] = .ok true [.io (dk d2 m2), .br (.lst (base.map .int)), .br (.int most), .sh (.int w), .ow (.dic kvs), .sh (.int x)] := by
                simp [hw, e2, gEqE, hr]
              rw [u_gIf, c, thn_ok, kIfS_t]
              exact e3
            · refine ⟨_, [.io (dk d2 m2), .br (.lst (base.map .int)), .br (.int most), .sh (.int w), .ow (.dic kvs), .sh (.int x)], t1, ?_, _, _, _, _, rfl, g2, hk, by omega, ⟨xs, rfl, hxs'⟩, .inr ⟨x, rfl⟩⟩
              simp [hw, e2, gEqE, hr])
      ((base ++ [1000000]).map .int) [.io (dk d1 m1), .br (.lst (base.map .int)), .br (.int most), .sh (.int w), .ow (.dic []), .un] ⟨[], d1, m1, _, rfl, g1, ⟨fun x => .inl rfl, by simp⟩, by simp; omega, ⟨_, rfl, fun x hx => by
        rcases List.mem_append.mp hx with h | h
        · exact hrg x h
        · simp at h; omega⟩, .inl rfl⟩
    have hlen : (base.map D.int).length + [D.int 1000000].length ≤ sizeLine := by simp; omega
    have ga : gAdd (.lst (base.map .int)) (.lst [.int 1000000]) = some (.own (.lst ((base ++ [1000000]).map .int))) := by
      simp only [gAdd, if_pos hlen, List.map_append, List.map_cons, List.map_nil]
    refine ⟨.own (.dic kvs), d', m', ?_, .inr ⟨kvs, hk, by simpa using hkl, rfl⟩, g'⟩
    simp only [List.map_append, List.map_cons, List.map_nil] at ga e
    simp [F_law_loads, u_runF, g_law_loads, startE, slotA, e1, gEqE, h0, ten6, ga, gItL, e]
end K12

namespace K12
open PySem O
abbrev li (l : List Int) : D := .lst (l.map .int)
/-- two orders of the same ids, weights -/
structure Cv (base goal : List Int) (ld : D) (wt : Int → Int) : Prop where
  nd : base.Nodup
  pm : goal.Perm base
  len : base.length < 1000
  lo : Lo ld wt
section
variable {base goal : List Int} {ld : D} {wt : Int → Int} {C : Addr}
theorem Cv.gnd (S : Cv base goal ld wt) : goal.Nodup := S.pm.nodup_iff.mpr S.nd
theorem Cv.gl (S : Cv base goal ld wt) : goal.length < 1000 := by rw [S.pm.length_eq]; exact S.len
theorem Cv.inb (S : Cv base goal ld wt) {x : Int} (h : x ∈ goal) : x ∈ base := S.pm.mem_iff.mp h
abbrev pbO (base : List Int) (x : Int) : Nat := base.idxOf x
abbrev Tp (base goal : List Int) (wt : Int → Int) : List (Int × Int) := tops (pbO base) wt goal
def qi (z : Int) : Q := ⟨z, 0, 0, 0⟩
def putsI (base : List Int) : List (Int × Int) → Puts
  | [] => []
  | p :: T => (pbO base p.1, qi p.2) :: putsI base T
theorem mem_putsI (base : List Int) {n : Nat} {v : Q} : ∀ {T : List (Int × Int)}, (n, v) ∈ putsI base T ↔ ∃ p ∈ T, n = pbO base p.1 ∧ v = qi p.2
  | [] => by simp [putsI]
  | p :: T => by
    rw [putsI, List.mem_cons, mem_putsI]
    constructor
    · rintro (h | ⟨q, hq, h⟩)
      · cases h; exact ⟨p, by simp, rfl, rfl⟩
      · exact ⟨q, by simp [hq], h⟩
    · rintro ⟨q, hq, h1, h2⟩
      rcases List.mem_cons.mp hq with rfl | hq
      · exact .inl (by rw [h1, h2])
      · exact .inr ⟨q, hq, h1, h2⟩
/-- the greatest before a place is what is below -/
theorem max_below {acc : List (Int × Int)} {x : Int} {M : Q} (h : IsMax (cov (putsI base acc.reverse) 0 (pbO base x)) M) : M.w = below (pbO base) x acc := by
  obtain ⟨h1, h2⟩ := h
  have ge : below (pbO base) x acc ≤ M.w := by
    rcases below_is (pb := pbO base) x acc with e | ⟨p, hp, hlt, e⟩
    · rw [e]
      have := h2 least (.inl rfl)
      unfold Q.lt least at this
      simp only at this
      omega
    · rw [e]
      have := h2 (qi p.2) (.inr ⟨_, (mem_putsI base).mpr ⟨p, by simpa using hp, rfl, rfl⟩, Nat.zero_le _, hlt⟩)
      unfold Q.lt qi at this
      simp only at this
      omega
  have le : M.w ≤ below (pbO base) x acc := by
    rcases h1 with rfl | ⟨n, hn, _, hlt⟩
    · exact below_nn _ _
    · obtain ⟨p, hp, rfl, rfl⟩ := (mem_putsI base).mp hn
      exact below_le hlt (by simpa using hp)
  omega
@[simp] theorem aMk2_trI {ρ : O.Env} {ns : List Q} {os : List (Option OD)} : aMk2 C ρ (.ret (.val .non) (some (trI C ns) :: os)) = .ok (.own (trI C ns)) ρ := aMk2_ok
@[simp] theorem put_trI {ρ : O.Env} {ns : List Q} {i : Nat} : putSlot i (.own (trI C ns)) ρ = fre (ρ.set i (.ow (trI C ns))) ρ[i]? := put_fre rfl
def trFI (ns : List Q) : List (Str × OD) := [("least", .fz (ri least)), ("nodes", .lst (ns.map ri))]
@[simp] theorem insO_trI {ns : List Q} : insO C (some (trI C ns)) = some (trFI ns) := insO_ins
theorem lookPI (ns : List Q) : List.lookup ("put" : Str) (trFI ns) = none := lookP _ _
theorem lookBI (ns : List Q) : List.lookup ("before" : Str) (trFI ns) = none := lookB _ _
theorem p_tops (S : Cv base goal ld wt) : F_top_levels C [.br (li base), .br (li goal), .br ld] = .ret (.own (.dic (kvI (Tp base goal wt)))) [none, none, none] := by
  have hz := sizeLine_is
  have hp := p_places base (by have := S.len; omega)
  have pl := pl_all S.nd
  generalize putAll [] 0 base = ps at hp pl
  have hgl := S.gl
  obtain ⟨ρ1, e1, rest, acc, ns, s6, ⟨er, ha, hk, ht⟩, rfl, _⟩ := forD_ok (k := takeT (.name 6)) (g := gSeq (gPutI 5 (fVar 6) (f2 (fMeth C "before" 4 [.io, .br] (F_Greatest_before C) (aCons (f2 (fVar 3) (fVar 6) gDGet) aNil)) (fCall [.br, .br] [] F_weight_of (aCons (fVar 6) (aCons (fVar 2) aNil))) gAdd))
    (gDrop (fMeth C "put" 4 [.io, .br, .br] (F_Greatest_put C) (aCons (f2 (fVar 3) (fVar 6) gDGet) (aCons (f2 (fVar 5) (fVar 6) gDGet) aNil)))))
    (fun ds ρ => ∃ (rest : List Int) (acc : List (Int × Int)) (ns : List Q) (s6 : Sl), (ds = rest.map .int ∧ topsA (pbO base) wt acc rest = Tp base goal wt ∧ acc.map (·.1) ++ rest = goal ∧ Tr base.length (putsI base acc.reverse) ns) ∧ ρ = [.br (li base), .br (li goal), .br ld, .ow (.dic ps), .ow (trI C ns), .ow (.dic (kvI acc)), s6] ∧ Fr s6)
    (fun d ds ρ ⟨rest, acc, ns, s6, ⟨eds, ha, hk, ht⟩, e, F6⟩ => by
      subst e
      cases rest with
      | nil => cases eds
      | cons x rest =>
        cases eds
        have E6 : ∀ ρ', fre ρ' (some s6) = some ρ' := F6
        have hxg : x ∈ goal := by rw [← hk]; simp
        have hxb := S.inb hxg
        have hx : x ∉ acc.map (·.1) := fun z => by
          have gnd := S.gnd
          rw [← hk] at gnd
          exact (List.nodup_append.mp gnd).2.2 x z x (by simp) rfl
        have px := pl x hxb
        have hlt : base.idxOf x < base.length := List.idxOf_lt_length_of_mem hxb
        obtain ⟨M, eM, hM⟩ := p_beforeI C base.length _ ns ht (base.idxOf x) (by omega) (by have := S.len; omega)
        have hMw := max_below hM
        obtain ⟨ns', eP, hT⟩ := p_putI C base.length _ ns ht (base.idxOf x) (qi (below (pbO base) x acc + wt x)) (by have := S.len; omega)
        have g1 := (gDGet_at px).1
        have alen : (kvI acc).length < sizeLine := by
          rw [kvI_len]
          have := congrArg List.length hk
          rw [List.length_append, List.length_map] at this
          omega
        have hput := kvI_put acc (x := x) (z := below (pbO base) x acc + wt x) hx
        have hget : getD (kvI (acc ++ [(x, below (pbO base) x acc + wt x)])) (.inl x) = some (.int (below (pbO base) x acc + wt x)) := by
          rw [← hput, getD_put, if_pos rfl]
        have g2 := (gDGet_at hget).1
        have hwx := S.lo.a x
        have eMr : ri M = .int (below (pbO base) x acc) := by rw [← hMw]; rfl
        rw [eMr] at eM
        have eq1 : ri (qi (below (pbO base) x acc + wt x)) = .int (below (pbO base) x acc + wt x) := rfl
        rw [eq1] at eP
        refine ⟨[.br (li base), .br (li goal), .br ld, .ow (.dic ps), .ow (trI C ns), .ow (.dic (kvI acc)), .sh (.int x)], [.br (li base), .br (li goal), .br ld, .ow (.dic ps), .ow (trI C ns'), .ow (.dic (kvI (acc ++ [(x, below (pbO base) x acc + wt x)]))), .sh (.int x)], ?_, ?_, rest, acc ++ [(x, below (pbO base) x acc + wt x)], ns', _, ⟨rfl, by rw [← ha]; rfl, by rw [← hk]; simp, ?_⟩, rfl, fr_sh⟩
        · simp [E6]
        · generalize below (pbO base) x acc = bl at *
          generalize wt x = w at *
          simp [lookBI, lookPI, g1, eM, hwx, keyD, alen, g2, hput, eP]
        · rw [List.reverse_append]
          exact hT)
    (goal.map .int) [.br (li base), .br (li goal), .br ld, .ow (.dic ps), .ow (trI C (List.replicate (base.length + 1) least)), .ow (.dic (kvI [])), .un] ⟨goal, [], _, _, ⟨rfl, rfl, rfl, tr_new _⟩, rfl, fr_un⟩
  have hr : rest = [] := by
    cases rest with
    | nil => rfl
    | cons _ _ => cases er
  subst hr
  have ha : acc = Tp base goal wt := ha
  subst ha
  have hi := p_initI C base.length (by have := S.len; omega)
  have e0 : ri least = .int 0 := rfl
  rw [e0] at hi
  have e1' := e1
  have ek : kvI [] = [] := rfl
  rw [ek] at e1'
  simp [F_top_levels, u_runF, g_top_levels, startE, slotA, hp, hi, gItL, gLen, e1']
end
end K12

namespace K12
open PySem O
theorem dc_pairs {vs : List Nat} {a b : Nat} {fe : O.Env → Res RV} {ρ0 : O.Env} (K : Int → Int → O.Env) (f : Int → Int → Int) (ht : ∀ i x : Int, takeT (.tup [.name a, .name b]) (.tup [.int i, .int x]) ρ0 = some (K i x)) (hw : ∀ i x, wipeE (K i x) vs = ρ0) (ha : ∀ i x, (K i x)[a]? = some (.sh (.int i))) :
    ∀ (T acc : List (Int × Int)), (acc.map (·.1) ++ T.map (·.1)).Nodup → (∀ p ∈ T, (fe (K p.1 p.2)).bind fz = .ok (.int (f p.1 p.2)) (K p.1 p.2)) → acc.length + T.length ≤ sizeLine →
      dcD vs (.tup [.name a, .name b]) fYes (fVar a) fe (kvI acc) (T.map fun p => .tup [.int p.1, .int p.2]) ρ0 = .ok (kvI (acc ++ T.map fun p => (p.1, f p.1 p.2))) ρ0
  | [], acc, _, _, _ => by simp [dcD]
  | p :: T, acc, nd, hf, h => by
    rw [List.length_cons] at h
    have h1 : (kvI acc).length < sizeLine := by rw [kvI_len]; omega
    have hp : p.1 ∉ acc.map (·.1) := fun z => (List.nodup_append.mp nd).2.2 _ z p.1 (by simp) rfl
    have ih := dc_pairs K f ht hw ha T (acc ++ [(p.1, f p.1 p.2)]) (by simpa using nd) (fun q hq => hf q (by simp [hq])) (by simp; omega)
    simp only [List.map_cons, dcD, ht, u_fYes, u_fVar, ha, kVar_sh, bind_ok, fz_bor, kz_sh, keyD, hf p (by simp), if_pos h1, hw, kvI_put acc hp, ih, List.append_assoc, List.singleton_append]
def zs : List Int → List D
  | a :: b :: r => .tup [.int a, .int b] :: zs (b :: r)
  | _ => []
theorem zip_zs : ∀ l : List Int, zipD (l.map .int) ((l.drop 1).map .int) = zs l
  | [] => rfl
  | [_] => rfl
  | a :: b :: r => by
    have ih := zip_zs (b :: r)
    unfold zipD at *
    simp only [List.drop_succ_cons, List.drop_zero, List.map_cons, List.zip_cons_cons, zs] at *
    rw [ih]
section
variable {base goal : List Int} {ld : D} {wt : Int → Int} {C : Addr}
theorem p_cover (S : Cv base goal ld wt) (hn : (bdsN wt (Tp base goal wt)).length < 64) : F_level_cover C [.br (li base), .br (li goal), .br ld] = .ret (.own (.lst ((lcov (pbO base) wt goal).map runD))) [none, none, none] := by
  have hz := sizeLine_is
  have eT := p_tops (C := C) S
  have gnd := S.gnd
  have hk : (Tp base goal wt).map (·.1) = goal := tops_keys goal
  have hTl : (Tp base goal wt).length = goal.length := tops_len goal
  have hgl := S.gl
  have e4 : dcD [10, 11] (.tup [.name 10, .name 11]) fYes (fVar 10) (f2 (fVar 11) (fCall [.br, .br] [] F_weight_of (aCons (fVar 10) (aCons (fVar 2) aNil))) gSubX) [] ((kvI (Tp base goal wt)).map fun kv => .tup [kDD kv.1, kv.2]) [.br (li base), .br (li goal), .br ld, .sh (.dlk (kvI (Tp base goal wt))), .un, .un, .un, .un, .un, .un, .un, .un]
      = .ok (kvI ((Tp base goal wt).map fun p => (p.1, p.2 - wt p.1))) [.br (li base), .br (li goal), .br ld, .sh (.dlk (kvI (Tp base goal wt))), .un, .un, .un, .un, .un, .un, .un, .un] := by
    have := dc_pairs (vs := [10, 11]) (a := 10) (b := 11) (fe := f2 (fVar 11) (fCall [.br, .br] [] F_weight_of (aCons (fVar 10) (aCons (fVar 2) aNil))) gSubX) (ρ0 := [.br (li base), .br (li goal), .br ld, .sh (.dlk (kvI (Tp base goal wt))), .un, .un, .un, .un, .un, .un, .un, .un]) (fun i x => [.br (li base), .br (li goal), .br ld, .sh (.dlk (kvI (Tp base goal wt))), .un, .un, .un, .un, .un, .un, .sh (.int i), .sh (.int x)]) (fun x t => t - wt x) (fun i x => by simp) (fun i x => by simp [wipeE]) (fun i x => by simp) (Tp base goal wt) [] (by rw [hk]; simpa using gnd) (fun p _ => by simp [S.lo.a p.1]) (by simp; omega)
    have e1 : (kvI (Tp base goal wt)).map (fun kv => D.tup [kDD kv.1, kv.2]) = (Tp base goal wt).map fun p => .tup [.int p.1, .int p.2] := by unfold kvI; rw [List.map_map]; rfl
    rw [e1]
    exact this
  have eb1 : (kvI (Tp base goal wt)).map (fun kv => RV.val kv.2) ++ ((kvI ((Tp base goal wt).map fun p => (p.1, p.2 - wt p.1))).map (fun kv => RV.val kv.2) ++ []) = ((bdsN wt (Tp base goal wt)).map .int).map .val := by
    unfold bdsN kvI
    simp [List.map_map, Function.comp_def]
  have eS := gSortSet_int hn
  -- a look-up
  have getT : ∀ x ∈ goal, gDGet (.dlk (kvI (Tp base goal wt))) (.int x) = some (.val (.int (tpOf (Tp base goal wt) x))) := fun x hx => (gDGet_at (kvI_at (by rw [hk]; exact hx))).2
  have getB : ∀ x ∈ goal, gDGet (.dic (kvI ((Tp base goal wt).map fun p => (p.1, p.2 - wt p.1)))) (.int x) = some (.val (.int (btOf wt (Tp base goal wt) x))) := fun x hx => by
    have hx' : x ∈ ((Tp base goal wt).map fun p => (p.1, p.2 - wt p.1)).map (·.1) := by rw [List.map_map]; rw [← hk] at hx; exact hx
    have e : tpOf ((Tp base goal wt).map fun p => (p.1, p.2 - wt p.1)) x = btOf wt (Tp base goal wt) x := by
      have nd1 : ((Tp base goal wt).map (·.1)).Nodup := by rw [hk]; exact gnd
      rw [← hk] at hx
      obtain ⟨p, hp, rfl⟩ := List.mem_map.mp hx
      have nd2 : (((Tp base goal wt).map fun p => (p.1, p.2 - wt p.1)).map (·.1)).Nodup := by rw [List.map_map]; exact nd1
      have := tp_at nd2 (p := (p.1, p.2 - wt p.1)) (List.mem_map.mpr ⟨p, hp, rfl⟩)
      show tpOf _ (p.1, p.2 - wt p.1).1 = _
      rw [this]
      unfold btOf
      rw [tp_at nd1 hp]
    rw [← e]
    exact (gDGet_at (kvI_at hx')).1
  have hbl : (bds wt (Tp base goal wt)).length ≤ 2000 := by have := bds_len (wt := wt) (Tp base goal wt); omega
  have hwhole : lcov (pbO base) wt goal = runsB (idsF goal (btOf wt (Tp base goal wt)) (tpOf (Tp base goal wt))) (bds wt (Tp base goal wt)) := rfl
  have hrl := runsB_len (idsF goal (btOf wt (Tp base goal wt)) (tpOf (Tp base goal wt))) (bds wt (Tp base goal wt))
  rw [← hwhole] at hrl
  have e1n : ∀ x, gTuple [.lst x] = some (.val (.tup x)) := fun x => rfl
  rw [show sortU (bdsN wt (Tp base goal wt)) = bds wt (Tp base goal wt) from rfl] at eS
  generalize bdsN wt (Tp base goal wt) = ns at *
  generalize bds wt (Tp base goal wt) = bs at *
  generalize (Tp base goal wt).map (fun p => (p.1, p.2 - wt p.1)) = B at *
  generalize lcov (pbO base) wt goal = W at *
  generalize btOf wt (Tp base goal wt) = bt at *
  generalize tpOf (Tp base goal wt) = tp at *
  generalize Tp base goal wt = T at *
  obtain ⟨ρ1, e1, r, acc, s7, s8, s9, ⟨er, ha⟩, rfl, _⟩ := forD_ok (k := takeT (.tup [.name 7, .name 8])) (g := gSeq (gSet 9 (fLc (fWalk (fVar 1) gItL) [10] (.name 10) (fAnd (fB (f2 (f2 (fVar 4) (fVar 10) gDGet) (fVar 7) gLe)) (fB (f2 (fVar 8) (f2 (fVar 3) (fVar 10) gDGet) gLe))) (fVar 10)))
    (gDrop (fMutL 6 (iCons (fTup (iCons (f2 (fVar 8) (fVar 7) gSubX) (iCons (fCB (aCons (fVar 9) aNil) gTuple) aNil))) aNil) gAppend)))
    (fun ds ρ => ∃ (r : List Int) (acc : List (Int × List Int)) (s7 s8 s9 : Sl), (ds = zs r ∧ acc ++ runsB (idsF goal bt tp) r = W) ∧ ρ = [.br (li base), .br (li goal), .br ld, .sh (.dlk (kvI T)), .ow (.dic (kvI B)), .sh (li bs), .ow (.lst (acc.map runD)), s7, s8, s9, .un, .un] ∧ Fr s7 ∧ Fr s8 ∧ Fr s9)
    (fun d ds ρ ⟨r, acc, s7, s8, s9, ⟨eds, ha⟩, e, F7, F8, F9⟩ => by
      subst e
      match r, eds, ha with
      | lo :: hi :: r, eds, ha =>
        cases eds
        have E7 : ∀ ρ', fre ρ' (some s7) = some ρ' := F7
        have E8 : ∀ ρ', fre ρ' (some s8) = some ρ' := F8
        have E9 : ∀ ρ', fre ρ' (some s9) = some ρ' := F9
        have lc := lc_ints (vs := [10]) (v := 10) (ft := fAnd (fB (f2 (f2 (fVar 4) (fVar 10) gDGet) (fVar 7) gLe)) (fB (f2 (fVar 8) (f2 (fVar 3) (fVar 10) gDGet) gLe))) (fe := fVar 10) (ρ0 := [.br (li base), .br (li goal), .br ld, .sh (.dlk (kvI T)), .ow (.dic (kvI B)), .sh (li bs), .ow (.lst (acc.map runD)), .sh (.int lo), .sh (.int hi), s9, .un, .un])
          (fun i => [.br (li base), .br (li goal), .br ld, .sh (.dlk (kvI T)), .ow (.dic (kvI B)), .sh (li bs), .ow (.lst (acc.map runD)), .sh (.int lo), .sh (.int hi), s9, .sh (.int i), .un]) (fun x => decide (bt x ≤ lo) && decide (hi ≤ tp x)) (fun x => .int x) (fun i => by simp) (fun i => by simp [wipeE]) goal 0 (fun x hx => by
            have h1 := getT x hx
            have h2 := getB x hx
            by_cases c : bt x ≤ lo
            · simp [h1, h2, c, gLe, gII]
            · simp [h1, h2, c, gLe, gII]) (fun x hx _ => by simp) (by omega)
        have hids : goal.filter (fun x => decide (bt x ≤ lo) && decide (hi ≤ tp x)) = idsF goal bt tp lo hi := rfl
        rw [hids] at lc
        rw [runsB] at ha
        have alen : acc.length < sizeLine := by
          have := congrArg List.length ha
          rw [List.length_append, List.length_cons] at this
          omega
        generalize idsF goal bt tp lo hi = ids at *
        refine ⟨[.br (li base), .br (li goal), .br ld, .sh (.dlk (kvI T)), .ow (.dic (kvI B)), .sh (li bs), .ow (.lst (acc.map runD)), .sh (.int lo), .sh (.int hi), s9, .un, .un], [.br (li base), .br (li goal), .br ld, .sh (.dlk (kvI T)), .ow (.dic (kvI B)), .sh (li bs), .ow (.lst ((acc ++ [(hi - lo, ids)]).map runD)), .sh (.int lo), .sh (.int hi), .ow (.lst (ids.map .int)), .un, .un], ?_, ?_, hi :: r, acc ++ [(hi - lo, ids)], _, _, _, ⟨rfl, by rw [← ha]; simp⟩, rfl, fr_sh, fr_sh, fr_ow⟩
        · simp [E7, E8]
        · simp [gItL, wipeE, lc, restE, E9, e1n, gAppend, alen, runD])
    (zs bs) [.br (li base), .br (li goal), .br ld, .sh (.dlk (kvI T)), .ow (.dic (kvI B)), .sh (li bs), .ow (.lst (([] : List (Int × List Int)).map runD)), .un, .un, .un, .un, .un] ⟨bs, [], _, _, _, ⟨rfl, by rw [List.nil_append, hwhole]⟩, rfl, fr_un, fr_un, fr_un⟩
  have hr : runsB (idsF goal bt tp) r = [] := by
    match r, er with
    | [], _ => rfl
    | [_], _ => rfl
  rw [hr, List.append_nil] at ha
  subst ha
  have cu := cut_up bs 1
  have zc := zip_zs bs
  rw [List.map_drop, List.drop_one] at zc
  have e1' := e1
  simp only [List.map_nil] at e1'
  have cu : cutD (bs.map D.int) (some 1) none = (bs.drop 1).map .int := cu
  have v0 : vals ((ns.map D.int).map RV.val) = some (ns.map .int) := by
    have : ∀ ds : List D, vals (ds.map .val) = some ds := fun ds => by
      induction ds with
      | nil => rfl
      | cons d ds ih => simp [vals, ih]
    exact this _
  rw [List.map_map] at v0
  have nsl : ns.length ≤ sizeLine := by omega
  simp only [List.append_nil] at eb1
  simp [F_level_cover, u_runF, g_level_cover, startE, slotA, eT, e4, wipeE, restE, eb1, v0, nsl, eS, gSl, cu, zc, e1']
end
end K12

namespace K12
open PySem O
section
variable {base goal : List Int} {ld : D} {wt : Int → Int}
theorem p_law_tops (S : Cv base goal ld wt) : F_law_tops [.br (li base), .br (li goal), .br ld] = .ret (.own (.dic (kvI (Tp base goal wt)))) [none, none, none] := by
  have hz := sizeLine_is
  have hgl := S.gl
  obtain ⟨ρ1, e1, m, rest, acc, s4, s5, s6, ⟨er, ha, hk, hm⟩, rfl, _⟩ := forD_ok (k := takeT (.tup [.name 4, .name 5])) (g := gSeq (gSet 6 (fLc (fWalk (fSl (fVar 1) fNoPart (fPart (fVar 4)) gSl) gItL) [7] (.name 7) (fB (f2 (fBM (fVar 0) (aCons (fVar 7) aNil) gIndex) (fBM (fVar 0) (aCons (fVar 5) aNil) gIndex) gLtT)) (f2 (fVar 3) (fVar 7) gDGet)))
    (gPutI 3 (fVar 5) (f2 (fCB (aCons (f2 (fVar 6) (fLst (iCons (fC (.int 0)) aNil)) gAdd) aNil) gMaxI) (fCall [.br, .br] [] F_law_load (aCons (fVar 2) (aCons (fVar 5) aNil))) gAdd)))
    (fun ds ρ => ∃ (m : Nat) (rest : List Int) (acc : List (Int × Int)) (s4 s5 s6 : Sl), (ds = enumD m (rest.map .int) ∧ topsA (pbO base) wt acc rest = Tp base goal wt ∧ acc.map (·.1) ++ rest = goal ∧ acc.length = m) ∧ ρ = [.br (li base), .br (li goal), .br ld, .ow (.dic (kvI acc)), s4, s5, s6, .un] ∧ Fr s4 ∧ Fr s5 ∧ Fr s6)
    (fun d ds ρ ⟨m, rest, acc, s4, s5, s6, ⟨eds, ha, hk, hm⟩, e, F4, F5, F6⟩ => by
      subst e
      cases rest with
      | nil => cases eds
      | cons x rest =>
        cases eds
        have E4 : ∀ ρ', fre ρ' (some s4) = some ρ' := F4
        have E5 : ∀ ρ', fre ρ' (some s5) = some ρ' := F5
        have E6 : ∀ ρ', fre ρ' (some s6) = some ρ' := F6
        have hxg : x ∈ goal := by rw [← hk]; simp
        have hxb := S.inb hxg
        have gnd := S.gnd
        have hx : x ∉ acc.map (·.1) := fun z => by
          rw [← hk] at gnd
          exact (List.nodup_append.mp gnd).2.2 x z x (by simp) rfl
        have ndA : (acc.map (·.1)).Nodup := by rw [← hk] at gnd; exact (List.nodup_append.mp gnd).1
        have alen : acc.length < 1000 := by
          have := congrArg List.length hk
          rw [List.length_append, List.length_map, List.length_cons] at this
          omega
        have klen : (kvI acc).length < sizeLine := by rw [kvI_len]; omega
        have cl : cutD (goal.map D.int) none (some (m : Int)) = (acc.map (·.1)).map .int := by
          rw [cut_low]
          congr 1
          rw [← hk, List.take_left' (by rw [List.length_map]; exact hm)]
        have ix1 := idx_at hxb
        have lc := lc_ints (vs := [7]) (v := 7) (ft := fB (f2 (fBM (fVar 0) (aCons (fVar 7) aNil) gIndex) (fBM (fVar 0) (aCons (fVar 5) aNil) gIndex) gLtT)) (fe := f2 (fVar 3) (fVar 7) gDGet) (ρ0 := [.br (li base), .br (li goal), .br ld, .ow (.dic (kvI acc)), .sh (.int (m : Nat)), .sh (.int x), s6, .un])
          (fun i => [.br (li base), .br (li goal), .br ld, .ow (.dic (kvI acc)), .sh (.int (m : Nat)), .sh (.int x), s6, .sh (.int i)]) (fun y => decide (base.idxOf y < base.idxOf x)) (fun y => .int (tpOf acc y)) (fun i => by simp) (fun i => by simp [wipeE]) (acc.map (·.1)) 0 (fun y hy => by
            have hyb : y ∈ base := S.inb (by rw [← hk]; simp [hy])
            have ix2 := idx_at hyb
            simp [ix1, ix2]) (fun y hy _ => by
            have g1 := (gDGet_at (kvI_at hy)).1
            simp [g1]) (by simp; omega)
        have hmx : gMaxI [.lst ((((acc.map (fun p : Int × Int => p.1)).filter fun y => decide (base.idxOf y < base.idxOf x)).map fun y => D.int (tpOf acc y)) ++ [.int 0])] = some (.val (.int (below (pbO base) x acc))) := by
          have e : (((acc.map (fun p : Int × Int => p.1)).filter fun y => decide (base.idxOf y < base.idxOf x)).map fun y => D.int (tpOf acc y)) ++ [.int 0] = ((((acc.map (fun p : Int × Int => p.1)).filter fun y => decide (base.idxOf y < base.idxOf x)).map (tpOf acc)) ++ [0]).map .int := by
            rw [List.map_append, List.map_map]; rfl
          rw [e]
          refine max_int ?_ fun y hy => ?_
          · rcases below_is (pb := pbO base) x acc with h | ⟨p, hp, hlt, h⟩
            · rw [h]; simp
            · rw [h]
              refine List.mem_append.mpr (.inl (List.mem_map.mpr ⟨p.1, ?_, tp_at ndA hp⟩))
              exact List.mem_filter.mpr ⟨List.mem_map.mpr ⟨p, hp, rfl⟩, decide_eq_true hlt⟩
          · rcases List.mem_append.mp hy with h | h
            · obtain ⟨z, hz, rfl⟩ := List.mem_map.mp h
              obtain ⟨h1, h2⟩ := List.mem_filter.mp hz
              obtain ⟨p, hp, rfl⟩ := List.mem_map.mp h1
              rw [tp_at ndA hp]
              exact below_le (of_decide_eq_true h2) hp
            · simp at h; subst h; exact below_nn _ _
        have flen : (((acc.map (fun p : Int × Int => p.1)).filter fun y => decide (base.idxOf y < base.idxOf x)).map fun y => D.int (tpOf acc y)).length + [D.int 0].length ≤ sizeLine := by
          have := List.length_filter_le (fun y => decide (base.idxOf y < base.idxOf x)) (acc.map (·.1))
          rw [List.length_map, List.length_singleton]
          rw [List.length_map] at this
          omega
        have hput := kvI_put acc (x := x) (z := below (pbO base) x acc + wt x) hx
        have hwx := S.lo.b x
        have hga : gAdd (.lst (((acc.map (fun p : Int × Int => p.1)).filter fun y => decide (base.idxOf y < base.idxOf x)).map fun y => D.int (tpOf acc y))) (.lst [.int 0]) = some (.own (.lst ((((acc.map (fun p : Int × Int => p.1)).filter fun y => decide (base.idxOf y < base.idxOf x)).map fun y => D.int (tpOf acc y)) ++ [.int 0]))) := by
          simp only [gAdd, if_pos flen]
        generalize (((acc.map (fun p : Int × Int => p.1)).filter fun y => decide (base.idxOf y < base.idxOf x)).map fun y => D.int (tpOf acc y)) = L at *
        refine ⟨[.br (li base), .br (li goal), .br ld, .ow (.dic (kvI acc)), .sh (.int (m : Nat)), .sh (.int x), s6, .un], [.br (li base), .br (li goal), .br ld, .ow (.dic (kvI (acc ++ [(x, below (pbO base) x acc + wt x)]))), .sh (.int (m : Nat)), .sh (.int x), .ow (.lst L), .un], ?_, ?_, m + 1, rest, acc ++ [(x, below (pbO base) x acc + wt x)], _, _, _, ⟨rfl, by rw [← ha]; rfl, by rw [← hk]; simp, by simp [hm]⟩, rfl, fr_sh, fr_sh, fr_ow⟩
        · simp [E4, E5]
        · generalize below (pbO base) x acc = bl at *
          generalize wt x = w at *
          have cl' := cl
          rw [List.map_map] at cl' lc
          simp [gSl, cl', gItL, wipeE, lc, restE, E6, hga, hmx, hwx, keyD, klen, hput])
    (enumD 0 (goal.map .int)) [.br (li base), .br (li goal), .br ld, .ow (.dic (kvI [])), .un, .un, .un, .un] ⟨0, goal, [], _, _, _, ⟨rfl, rfl, rfl, rfl⟩, rfl, fr_un, fr_un, fr_un⟩
  have hr : rest = [] := by
    cases rest with
    | nil => rfl
    | cons _ _ => cases er
  subst hr
  have ha : acc = Tp base goal wt := ha
  subst ha
  have ek : kvI [] = [] := rfl
  rw [ek] at e1
  simp [F_law_tops, u_runF, g_law_tops, startE, slotA, gItE, e1]
end
end K12

namespace K12
open PySem O
section
variable {base goal : List Int} {ld : D} {wt : Int → Int}
theorem zs_one {α : Type} {r : List α} (h : r ≠ []) : ∃ a b, r = a ++ [b] := by
  rcases List.eq_nil_or_concat r with rfl | ⟨a, b, rfl⟩
  · exact absurd rfl h
  · exact ⟨a, b, by simp⟩
theorem ix_m1 (R : List D) (d : D) : gIx (.lst (R ++ [d])) (.int (-1)) = some (.val d) := by
  have e : L2.ixN (R ++ [d]).length (-1) = some R.length := by
    unfold L2.ixN
    rw [if_neg (by omega), if_pos (by simp; omega)]
    congr 1
    simp; omega
  simp only [gIx, L2.atI, e, Option.bind_some]
  rw [List.getElem?_append_right (Nat.le_refl _)]
  simp
theorem runs_ne (R : List (Int × List Int)) : eqE (.lst (R.map runD)) (.lst []) = some (R.map runD).isEmpty := rfl
def lcB : O.Env → SR := gSeq (gSet 6 (fCB (aCons (fLc (fWalk (fVar 1) gItL) [8] (.name 8) (fB (fChain (f2 (f2 (fVar 3) (fVar 8) gDGet) (fCall [.br, .br] [] F_law_load (aCons (fVar 2) (aCons (fVar 8) aNil))) gSubX) (fVar 5) (f2 (fVar 3) (fVar 8) gDGet) gLtT gLe)) (fVar 8)) aNil) gTuple))
    (gIf (fAnd (fB (f2 (fVar 4) (fLst aNil) gNeE)) (fB (f2 (f2 (f2 (fVar 4) (f1 (fC (.int 1)) gNeg) gIx) (fC (.int 1)) gIx) (fVar 6) gEqE))) (gSeq (gSet 7 (f2 (fMutL 4 aNil gPop0) (fC (.int 0)) gIx))
      (gDrop (fMutL 4 (iCons (fTup (iCons (f2 (fVar 7) (fC (.int 1)) gAdd) (iCons (fVar 6) aNil))) aNil) gAppend))) (gDrop (fMutL 4 (iCons (fTup (iCons (fC (.int 1)) (iCons (fVar 6) aNil))) aNil) gAppend)))
theorem lc_step (S : Cv base goal ld wt) {T : List (Int × Int)} {tp : Int → Int} (hT : ∀ x ∈ goal, getD (kvI T) (.inl x) = some (.int (tp x))) (R : List (Int × List Int)) (hR : R.length < 5000) (n : Int) (s6 s7 : Sl) (F6 : Fr s6) (F7 : Fr s7) :
    ∃ s6' s7', lcB [.br (li base), .br (li goal), .br ld, .ow (.dic (kvI T)), .ow (.lst (R.map runD)), .sh (.int n), s6, s7, .un] = .nx [.br (li base), .br (li goal), .br ld, .ow (.dic (kvI T)), .ow (.lst ((pushR R (lvl goal (fun x => tp x - wt x) tp n)).map runD)), .sh (.int n), s6', s7', .un] ∧ Fr s6' ∧ Fr s7' := by
  have hz := sizeLine_is
  have hgl := S.gl
  have E6 : ∀ ρ', fre ρ' (some s6) = some ρ' := F6
  have E7 : ∀ ρ', fre ρ' (some s7) = some ρ' := F7
  have lc := lc_ints (vs := [8]) (v := 8) (ft := fB (fChain (f2 (f2 (fVar 3) (fVar 8) gDGet) (fCall [.br, .br] [] F_law_load (aCons (fVar 2) (aCons (fVar 8) aNil))) gSubX) (fVar 5) (f2 (fVar 3) (fVar 8) gDGet) gLtT gLe)) (fe := fVar 8) (ρ0 := [.br (li base), .br (li goal), .br ld, .ow (.dic (kvI T)), .ow (.lst (R.map runD)), .sh (.int n), s6, s7, .un])
    (fun i => [.br (li base), .br (li goal), .br ld, .ow (.dic (kvI T)), .ow (.lst (R.map runD)), .sh (.int n), s6, s7, .sh (.int i)]) (fun x => decide (tp x - wt x < n) && decide (n ≤ tp x)) (fun x => .int x) (fun i => by simp) (fun i => by simp [wipeE]) goal 0 (fun x hx => by
      have g1 := (gDGet_at (hT x hx)).1
      have h1 := S.lo.b x
      by_cases c : tp x - wt x < n
      · simp [g1, h1, c, gLe, gII]
      · simp [g1, h1, c, gLe, gII]) (fun x hx _ => by simp) (by omega)
  have hids : goal.filter (fun x => decide (tp x - wt x < n) && decide (n ≤ tp x)) = lvl goal (fun x => tp x - wt x) tp n := rfl
  rw [hids] at lc
  have ll : (lvl goal (fun x => tp x - wt x) tp n).length ≤ goal.length := List.length_filter_le _ _
  generalize lvl goal (fun x => tp x - wt x) tp n = ids at *
  have h0 := runs_ne R
  have e1n : gTuple [.lst (ids.map .int)] = some (.val (.tup (ids.map .int))) := rfl
  by_cases hRe : R = []
  · subst hRe
    have alen : 0 < sizeLine := by omega
    rw [List.map_nil] at lc
    exact ⟨.sh (.tup (ids.map .int)), s7, by simp [lcB, gItL, wipeE, lc, restE, E6, e1n, gAppend, alen, pushR, runD_mk], fr_sh, F7⟩
  · obtain ⟨A, q, rfl⟩ := zs_one hRe
    rw [List.map_append, List.map_cons, List.map_nil] at lc
    have hl : (A ++ [q]).getLast? = some q := by simp
    have hdl : (A ++ [q]).dropLast = A := by simp
    have em : (A.map runD ++ [runD q]).isEmpty = false := by simp
    have im := ix_m1 (A.map runD) (runD q)
    have i1 : gIx (runD q) (.int 1) = some (.val (.tup (q.2.map .int))) := rfl
    have i0 : gIx (runD q) (.int 0) = some (.val (.int q.1)) := rfl
    have eq := eqE_tt q.2 ids
    have al1 : A.length < sizeLine := by simp at hR; omega
    have al2 : A.length + 1 < sizeLine := by simp at hR; omega
    have h0' : eqE (.lst (A.map runD ++ [runD q])) (.lst []) = some false := by
      show some (A.map runD ++ [runD q]).isEmpty = _
      rw [em]
    by_cases c : q.2 = ids
    · have eq' : eqE (.tup (q.2.map .int)) (.tup (ids.map .int)) = some true := by rw [eq, decide_eq_true c]
      have eq'' : eqE (.tup (ids.map .int)) (.tup (ids.map .int)) = some true := by rw [eqE_tt, decide_eq_true rfl]
      refine ⟨.sh (.tup (ids.map .int)), .sh (.int q.1), by simp [lcB, gItL, wipeE, lc, restE, E6, E7, e1n, gNeg, h0', im, i1, i0, eq', eq'', gAppend, al1, al2, pushR, hl, hdl, c, runD_mk], fr_sh, fr_sh⟩
    · have eq' : eqE (.tup (q.2.map .int)) (.tup (ids.map .int)) = some false := by rw [eq, decide_eq_false c]
      refine ⟨.sh (.tup (ids.map .int)), s7, by simp [lcB, gItL, wipeE, lc, restE, E6, e1n, gNeg, h0', im, i1, eq', gAppend, al1, al2, pushR, hl, hdl, c, runD_mk], fr_sh, F7⟩
end
end K12

namespace K12
open PySem O
section
variable {base goal : List Int} {ld : D} {wt : Int → Int}
theorem rngD_cons (lo : Int) (n : Nat) : rngD lo (n + 1) = .int lo :: rngD (lo + 1) n := by
  unfold rngD
  rw [List.range_succ_eq_map, List.map_cons, List.map_map]
  congr 1
  · congr 1; simp
  · refine List.map_congr_left fun i _ => ?_
    show D.int _ = D.int _
    congr 1
    show lo + ((i + 1 : Nat) : Int) = lo + 1 + (i : Int)
    omega
theorem p_law_cover (S : Cv base goal ld wt) (hM : ∀ x ∈ goal, tpOf (Tp base goal wt) x < 1000000) : F_law_cover [.br (li base), .br (li goal), .br ld] = .ret (.own (.lst ((lcov (pbO base) wt goal).map runD))) [none, none, none] := by
  have hz := sizeLine_is
  have eT := p_law_tops S
  have gnd := S.gnd
  have hk : (Tp base goal wt).map (·.1) = goal := tops_keys goal
  have ndT : ((Tp base goal wt).map (·.1)).Nodup := by rw [hk]; exact gnd
  have hTl : (Tp base goal wt).length = goal.length := tops_len goal
  have hgl := S.gl
  have hw : ∀ x ∈ goal, 1 ≤ wt x := fun x _ => S.lo.pos x
  have getT : ∀ x ∈ goal, getD (kvI (Tp base goal wt)) (.inl x) = some (.int (tpOf (Tp base goal wt) x)) := fun x hx => kvI_at (by rw [hk]; exact hx)
  have hbl : (bds wt (Tp base goal wt)).length ≤ 2000 := by have := bds_len (wt := wt) (Tp base goal wt); omega
  have Dd : Bds goal (btOf wt (Tp base goal wt)) (tpOf (Tp base goal wt)) (· ∈ bds wt (Tp base goal wt)) := bds_of (pb := pbO base) gnd hw
  -- the greatest level
  obtain ⟨M, hmax, hM0, hM1, hMx, hMb⟩ : ∃ M : Int, gMaxI [.lst (((Tp base goal wt).map (·.2)).map D.int ++ [.int 0])] = some (.val (.int M)) ∧ 0 ≤ M ∧ M < 1000000 ∧ ((goal = [] ∧ M = 0) ∨ ∃ x ∈ goal, tpOf (Tp base goal wt) x = M) ∧ ∀ x ∈ goal, tpOf (Tp base goal wt) x ≤ M := by
    have e : ((Tp base goal wt).map (·.2)).map D.int ++ [.int 0] = ((Tp base goal wt).map (fun p : Int × Int => p.2) ++ [0]).map D.int := by simp
    by_cases hg : goal = []
    · refine ⟨0, ?_, by omega, by omega, .inl ⟨hg, rfl⟩, by simp [hg]⟩
      have : Tp base goal wt = [] := by rw [hg] at hTl ⊢; exact List.length_eq_zero_iff.mp hTl
      rw [this]
      rfl
    · -- the fold's answer
      obtain ⟨k1, k2, k3⟩ := fold_max ((Tp base goal wt).map (·.2)) 0
      have mem : ((Tp base goal wt).map (·.2)).foldl max 0 ∈ (Tp base goal wt).map (·.2) := by
        rcases k1 with k | k
        · obtain ⟨x, hx⟩ := List.exists_mem_of_ne_nil goal hg
          have hx' := hx
          rw [← hk] at hx'
          obtain ⟨p, hp, rfl⟩ := List.mem_map.mp hx'
          have a : 1 ≤ tpOf (Tp base goal wt) p.1 := tp_pos (pb := pbO base) gnd hw hx
          have b := k3 _ (List.mem_map.mpr ⟨p, hp, rfl⟩)
          have c := tp_at ndT hp
          omega
        · exact k
      refine ⟨((Tp base goal wt).map (·.2)).foldl max 0, ?_, k2, ?_, .inr ?_, fun x hx => ?_⟩
      · rw [e]
        exact max_int (by simp [mem]) fun y hy => by
          rcases List.mem_append.mp hy with h | h
          · exact k3 y h
          · simp at h; omega
      · obtain ⟨p, hp, e2⟩ := List.mem_map.mp mem
        have hp1 : p.1 ∈ goal := by rw [← hk]; exact List.mem_map.mpr ⟨p, hp, rfl⟩
        have := hM _ hp1
        rw [tp_at ndT hp] at this
        omega
      · obtain ⟨p, hp, e2⟩ := List.mem_map.mp mem
        exact ⟨p.1, by rw [← hk]; exact List.mem_map.mpr ⟨p, hp, rfl⟩, by rw [tp_at ndT hp]; exact e2⟩
      · rw [← hk] at hx
        obtain ⟨p, hp, rfl⟩ := List.mem_map.mp hx
        rw [tp_at ndT hp]
        exact k3 _ (List.mem_map.mpr ⟨p, hp, rfl⟩)
  have hall : ∀ c ∈ bds wt (Tp base goal wt), c ≤ M := fun c hc => by
    obtain ⟨x, hx, h⟩ := Dd.all c hc
    have a := hMb x hx
    have b := Dd.lt x hx
    rcases h with h | h <;> omega
  have hend : cutR (idsF goal (btOf wt (Tp base goal wt)) (tpOf (Tp base goal wt))) M (bds wt (Tp base goal wt)) = lcov (pbO base) wt goal := cutR_all _ _ _ (sortU_lt _) hall
  have hstep : ∀ n, 0 ≤ n → n < M → pushR (cutR (idsF goal (btOf wt (Tp base goal wt)) (tpOf (Tp base goal wt))) n (bds wt (Tp base goal wt))) (lvl goal (fun x => tpOf (Tp base goal wt) x - wt x) (tpOf (Tp base goal wt)) (n + 1)) = cutR (idsF goal (btOf wt (Tp base goal wt)) (tpOf (Tp base goal wt))) (n + 1) (bds wt (Tp base goal wt)) := fun n h0 h1 => by
    have hg : goal ≠ [] := fun z => by
      rcases hMx with h | ⟨x, hx, _⟩
      · omega
      · rw [z] at hx; cases hx
    obtain ⟨r, er, hs⟩ := bds_head (pb := pbO base) gnd hw hg
    have er : bds wt (Tp base goal wt) = 0 :: r := er
    rw [er]
    refine cut_step Dd r 0 hs (fun c hc => ?_) (fun c hc => ?_) h0 ?_
    · have hc : c ∈ bds wt (Tp base goal wt) := hc
      rw [er] at hc
      rcases List.mem_cons.mp hc with h | h
      · exact .inl (by omega)
      · exact .inr h
    · show c ∈ bds wt (Tp base goal wt)
      rw [er]; simp [hc]
    · rcases hMx with h | ⟨x, hx, e⟩
      · exact absurd h.1 hg
      · have hm := Dd.t x hx
        have hm : tpOf (Tp base goal wt) x ∈ bds wt (Tp base goal wt) := hm
        rw [er, e] at hm
        rcases List.mem_cons.mp hm with h | h
        · omega
        · exact ⟨M, h, h1⟩
  have h0 : cutR (idsF goal (btOf wt (Tp base goal wt)) (tpOf (Tp base goal wt))) 0 (bds wt (Tp base goal wt)) = [] := by
    by_cases hg : goal = []
    · have : Tp base goal wt = [] := by rw [hg] at hTl ⊢; exact List.length_eq_zero_iff.mp hTl
      rw [this]; rfl
    · obtain ⟨r, er, hs⟩ := bds_head (pb := pbO base) gnd hw hg
      have er : bds wt (Tp base goal wt) = 0 :: r := er
      rw [er]
      exact cut_nil (by omega)
  have hcl : ∀ n, (cutR (idsF goal (btOf wt (Tp base goal wt)) (tpOf (Tp base goal wt))) n (bds wt (Tp base goal wt))).length < 5000 := fun n => by
    have := cutR_len (idsF goal (btOf wt (Tp base goal wt)) (tpOf (Tp base goal wt))) n (bds wt (Tp base goal wt))
    omega
  have stp := fun (R : List (Int × List Int)) (hR : R.length < 5000) (n : Int) (s6 s7 : Sl) (F6 : Fr s6) (F7 : Fr s7) => lc_step S getT R hR n s6 s7 F6 F7
  have ekv := kvI_snd (Tp base goal wt)
  have kl := kvI_len (Tp base goal wt)
  have flen : ((Tp base goal wt).map (·.2)).length = goal.length := by rw [List.length_map]; exact hTl
  generalize (Tp base goal wt).map (·.2) = vs at *
  generalize cutR (idsF goal (btOf wt (Tp base goal wt)) (tpOf (Tp base goal wt))) = cu at *
  generalize bds wt (Tp base goal wt) = bs at *
  generalize tpOf (Tp base goal wt) = tp at *
  generalize kvI (Tp base goal wt) = T at *
  obtain ⟨ρ1, e1, k, lo, s5, s6, s7, ⟨er, hlo, h1⟩, rfl, _⟩ := forD_ok (k := takeT (.name 5)) (g := lcB)
    (fun ds ρ => ∃ (k : Nat) (lo : Int) (s5 s6 s7 : Sl), (ds = rngD lo k ∧ lo + k = M + 1 ∧ 1 ≤ lo) ∧ ρ = [.br (li base), .br (li goal), .br ld, .ow (.dic T), .ow (.lst ((cu (lo - 1) bs).map runD)), s5, s6, s7, .un] ∧ Fr s5 ∧ Fr s6 ∧ Fr s7)
    (fun d ds ρ ⟨k, lo, s5, s6, s7, ⟨eds, hlo, h1⟩, e, F5, F6, F7⟩ => by
      subst e
      cases k with
      | zero => cases eds
      | succ k =>
        rw [rngD_cons] at eds
        cases eds
        have E5 : ∀ ρ', fre ρ' (some s5) = some ρ' := F5
        obtain ⟨s6', s7', e2, F6', F7'⟩ := stp (cu (lo - 1) bs) (hcl _) lo s6 s7 F6 F7
        have hs := hstep (lo - 1) (by omega) (by omega)
        have e3 : lo - 1 + 1 = lo := by omega
        rw [e3] at hs
        rw [hs] at e2
        refine ⟨_, _, ?_, e2, k, lo + 1, .sh (.int lo), s6', s7', ⟨rfl, by omega, by omega⟩, ?_, fr_sh, F6', F7'⟩
        · simp [E5]
        · have e4 : lo + 1 - 1 = lo := by omega
          rw [e4])
    (rngD 1 M.toNat) [.br (li base), .br (li goal), .br ld, .ow (.dic T), .ow (.lst ((cu (1 - 1) bs).map runD)), .un, .un, .un, .un] ⟨M.toNat, 1, _, _, _, ⟨rfl, by omega, by omega⟩, rfl, fr_un, fr_un, fr_un⟩
  have hk0 : k = 0 := by
    cases k with
    | zero => rfl
    | succ k => rw [rngD_cons] at er; cases er
  subst hk0
  have el : lo - 1 = M := by omega
  rw [el, hend] at e1
  have e10 : (1 : Int) - 1 = 0 := by omega
  rw [e10, h0, List.map_nil] at e1
  have fl2 : (vs.map D.int).length + [D.int 0].length ≤ sizeLine := by simp; omega
  have ga : gAdd (.lst (vs.map .int)) (.lst [.int 0]) = some (.own (.lst (vs.map D.int ++ [.int 0]))) := by simp only [gAdd, if_pos fl2]
  have eM : (M + 1 - 1).toNat = M.toNat := by omega
  have eR : -4611686018427387904 ≤ M + 1 ∧ M + 1 < 4611686018427387904 := by omega
  unfold lcB at e1
  simp [F_law_cover, u_runF, g_law_cover, startE, slotA, eT, ekv, ga, hmax, e1, eM, eR]
end
end K12

namespace K12
open PySem O
structure Rest (s4 s5 s6 s7 s8 s9 s10 s11 s12 s13 s14 : Sl) : Prop where
  f4 : Fr s4
  f5 : Fr s5
  f6 : Fr s6
  f7 : Fr s7
  f8 : Fr s8
  f9 : Fr s9
  f10 : Fr s10
  f11 : Fr s11
  f12 : Fr s12
  f13 : Fr s13
  f14 : Fr s14
end K12

namespace K12
open PySem O
section
variable {C : Addr} {ns : List Int}
/-- orders and weights as the law keeps them -/
structure Dr (base : List Int) (ld : D) (wt : Int → Int) (u4 u5 : Sl) : Prop where
  nd : base.Nodup
  len : base.length ≤ 30
  rg : ∀ x ∈ base, 1 ≤ x ∧ x ≤ 100000000
  lo : Lo ld wt
  ok : LdOk ld
  ub : ∀ x, wt x ≤ 30
  s4 : u4 = .ow (.lst (base.map .int)) ∨ u4 = .sh (li base)
  s5 : u5 = .sh ld ∨ ∃ kvs, ld = .dic kvs ∧ u5 = .ow (.dic kvs)
theorem p_draw2 {st tu d m : Int} (g : Good d m) {s4 s5 s6 s7 s8 s9 s10 s11 s12 s13 s14 : Sl} (F4 : Fr s4) (F5 : Fr s5) :
    ∃ (base : List Int) (ld : D) (wt : Int → Int) (d' m' : Int) (u4 u5 : Sl), Dr base ld wt u4 u5 ∧ Good d' m' ∧
      gSeq (gSet 4 (fCall [.io, .br] [] F_law_ids (aCons (fVar 2) (aCons (fCall [.io, .br] [] F_law_pick (aCons (fVar 2) (aCons (fC (.int 13)) aNil))) aNil)))) (gSeq (gSet 5 (fCall [.io, .br, .br] [] F_law_loads (aCons (fVar 2) (aCons (fVar 4) (aCons (fC (.int 30)) aNil)))))
        (gIf (fB (f2 (fVar 3) (fC (.int 3)) gEqE)) (gAsg (.tup [(.name 4), (.name 5)]) (fTup (iCons (fCall [.io, .br] [] F_law_ids (aCons (fVar 2) (aCons (f2 (fC (.int 12)) (fCall [.io, .br] [] F_law_pick (aCons (fVar 2) (aCons (fC (.int 19)) aNil))) gAdd) aNil))) (iCons (fC .non) aNil)))) gNext))
        [.sh (.scr ns), .sh (.int st), .ow (dk d m), .sh (.int tu), s4, s5, s6, s7, s8, s9, s10, s11, s12, s13, s14] = .nx [.sh (.scr ns), .sh (.int st), .ow (dk d' m'), .sh (.int tu), u4, u5, s6, s7, s8, s9, s10, s11, s12, s13, s14] := by
  have hz := sizeLine_is
  have E4 : ∀ ρ', fre ρ' (some s4) = some ρ' := F4
  have E5 : ∀ ρ', fre ρ' (some s5) = some ρ' := F5
  obtain ⟨r1, d1, m1, e1, r0, r2, g1⟩ := pick d m 13 g (by omega) (by omega)
  obtain ⟨sz, rfl⟩ := Int.eq_ofNat_of_zero_le r0
  obtain ⟨base0, d2, m2, e2, hn0, hl0, hrg0, g2⟩ := p_ids d1 m1 sz g1 (by omega)
  obtain ⟨z, d3, m3, e3, hld, g3⟩ := p_loads base0 30 d2 m2 (by omega) hrg0 (by omega) (lt_big (by omega)) g2
  obtain ⟨ld, wt, sl, hz2, hlo, hok, hub, hF5, hsl⟩ : ∃ (ld : D) (wt : Int → Int) (sl : Sl), (∀ ρ : O.Env, putSlot 5 z ρ = fre (ρ.set 5 sl) ρ[5]?) ∧ Lo ld wt ∧ LdOk ld ∧ (∀ x, wt x ≤ 30) ∧ Fr sl ∧ (sl = .sh ld ∨ ∃ kvs, ld = .dic kvs ∧ sl = .ow (.dic kvs)) := by
    rcases hld with rfl | ⟨kvs, hk, hkl, rfl⟩
    · exact ⟨.non, _, .sh .non, fun ρ => put_val, lo_non, .inl rfl, fun x => by omega, fr_sh, .inl rfl⟩
    · refine ⟨.dic kvs, _, .ow (.dic kvs), fun ρ => put_dic, lo_dic hk.hv, .inr ⟨kvs, rfl, fun kv hkv => ?_, hkl⟩, fun x => ?_, fr_ow, .inr ⟨kvs, rfl, rfl⟩⟩
      · obtain ⟨n, y, e, h1, h2, h3⟩ := hk.en kv hkv
        exact ⟨n, y, e, int_small (by unfold smallI; omega), int_small (by unfold smallI; omega)⟩
      · unfold ldOf
        cases hg : getD kvs (.inl x) with
        | none => simp only; omega
        | some v =>
          unfold getD at hg
          obtain ⟨kv, hkv, rfl⟩ := Option.map_eq_some_iff.mp hg
          obtain ⟨n, y, e, h1, h2, h3⟩ := hk.en kv (List.mem_of_find?_eq_some hkv)
          subst e
          simp only
          omega
  have hcR : ∀ ρ' : O.Env, cR2 z (some ρ') = .ok z ρ' := fun ρ' => by
    rcases hld with rfl | ⟨kvs, hk, hkl, rfl⟩ <;> rfl
  have a1 : (gSet 4 (fCall [.io, .br] [] F_law_ids (aCons (fVar 2) (aCons (fCall [.io, .br] [] F_law_pick (aCons (fVar 2) (aCons (fC (.int 13)) aNil))) aNil)))) [.sh (.scr ns), .sh (.int st), .ow (dk d m), .sh (.int tu), s4, s5, s6, s7, s8, s9, s10, s11, s12, s13, s14] =
      .nx [.sh (.scr ns), .sh (.int st), .ow (dk d2 m2), .sh (.int tu), .ow (.lst (base0.map .int)), s5, s6, s7, s8, s9, s10, s11, s12, s13, s14] := by simp [e1, e2, E4]
  have a2 : (gSet 5 (fCall [.io, .br, .br] [] F_law_loads (aCons (fVar 2) (aCons (fVar 4) (aCons (fC (.int 30)) aNil))))) [.sh (.scr ns), .sh (.int st), .ow (dk d2 m2), .sh (.int tu), .ow (.lst (base0.map .int)), s5, s6, s7, s8, s9, s10, s11, s12, s13, s14] =
      .nx [.sh (.scr ns), .sh (.int st), .ow (dk d3 m3), .sh (.int tu), .ow (.lst (base0.map .int)), sl, s6, s7, s8, s9, s10, s11, s12, s13, s14] := by simp [e3, hcR, hz2, E5]
  rw [sq a1, sq a2]
  by_cases h3 : tu = 3
  · obtain ⟨r3, d4, m4, e4, r3a, r3b, g4⟩ := pick d3 m3 19 g3 (by omega) (by omega)
    obtain ⟨k, rfl⟩ := Int.eq_ofNat_of_zero_le r3a
    obtain ⟨base, d5, m5, e5, hn, hl, hrg, g5⟩ := p_ids d4 m4 (12 + k) g4 (by omega)
    have e5' : F_law_ids [.io (dk d4 m4), .br (.int (12 + (k : Int)))] = .ret (.own (.lst (base.map .int))) [some (dk d5 m5), none] := by
      rw [← e5]; congr 3
    have hE5 : ∀ ρ', fre ρ' (some sl) = some ρ' := hF5
    refine ⟨base, .non, fun _ => 1, d5, m5, .sh (li base), .sh .non, ⟨hn, by omega, hrg, lo_non, .inl rfl, fun _ => by omega, .inr rfl, .inl rfl⟩, g5, ?_⟩
    have z2 : 2 ≤ sizeLine := by omega
    simp [h3, e4, e5', z2, hE5]
  · refine ⟨base0, ld, wt, d3, m3, .ow (.lst (base0.map .int)), sl, ⟨hn0, by omega, hrg0, hlo, hok, hub, .inl rfl, hsl⟩, g3, ?_⟩
    simp [h3]
end
end K12

namespace K12
open PySem O
section
variable {C : Addr} {ns : List Int}
def ten57v : Int := 1000000000000000000000000000000000000000000000000000000000
theorem ten57 : gPow (.int 10) (.int 57) = some (.val (.int ten57v)) := by
  have b : Builtin.Int.intBits 10 ≤ 4 := PyProof.Rows.intBits_le (by decide)
  have := gPow_ii (i := 10) 57 (by omega)
  exact this
theorem p_b0 {st tu ag : Int} {base goal : List Int} {ld : D} {d m : Int} {t tw : Str} {W : List (Int × List Int)} (he : F_level_cover C [.br (li base), .br (li goal), .br ld] = .ret (.own (.lst (W.map runD))) [none, none, none]) (hw : W.length < 10000) (er : gReprA [.lst (W.map runD)] = some (.val (.str tw))) {s10 s11 s12 s13 s14 : Sl} (F12 : Fr s12) :
    b0_law C [.sh (.scr ns), .sh (.int st), .ow (dk d m), .sh (.int tu), .sh (li base), .sh ld, .sh (li goal), .ow (.lst (W.map runD)), .sh (.str t), .sh (.int ag), s10, s11, s12, s13, s14] =
      .nx [.sh (.scr ns), .sh (.int st), .ow (dk d m), .sh (.int tu), .sh (li base), .sh ld, .sh (li goal), .ow (.lst (W.map runD)), .sh (.str t), .sh (.int ag), s10, s11, .ow (.lst (W.map runD ++ [.non])), s13, s14] := by
  have hz := sizeLine_is
  have E12 : ∀ ρ', fre ρ' (some s12) = some ρ' := F12
  have wl : W.length < sizeLine := by omega
  unfold b0_law
  simp [permL, he, E12, gIsi, tyN, isT, er, gNeE, gAppend, wl]
theorem sq3 {a b c r : O.Env → SR} {ρ ρ1 : O.Env} (h : gSeq a (gSeq b c) ρ = .nx ρ1) : gSeq a (gSeq b (gSeq c r)) ρ = r ρ1 := by
  have as : ∀ (x : SR) (f g : O.Env → SR), x.seq (fun ρ => (f ρ).seq g) = (x.seq f).seq g := fun x f g => by cases x <;> rfl
  have e : gSeq a (gSeq b (gSeq c r)) ρ = (gSeq a (gSeq b c) ρ).seq r := by
    show (a ρ).seq (fun ρ => (b ρ).seq fun ρ => (c ρ).seq r) = ((a ρ).seq fun ρ => (b ρ).seq c).seq r
    rw [← as]
    congr 1
    funext ρ
    exact as (b ρ) c r
  rw [e, h]
  rfl
theorem p_b1 {st tu : Int} {d m : Int} (g : Good d m) {s4 s5 s6 s7 s8 s9 s10 s11 s12 s13 s14 : Sl} (R : Rest s4 s5 s6 s7 s8 s9 s10 s11 s12 s13 s14) :
    ∃ (d' m' : Int) (u4 u5 u6 u7 u8 u9 u10 u11 u12 u13 u14 : Sl), b1_law C [.sh (.scr ns), .sh (.int st), .ow (dk d m), .sh (.int tu), s4, s5, s6, s7, s8, s9, s10, s11, s12, s13, s14] = .nx [.sh (.scr ns), .sh (.int st), .ow (dk d' m'), .sh (.int tu), u4, u5, u6, u7, u8, u9, u10, u11, u12, u13, u14] ∧ Good d' m' ∧ Rest u4 u5 u6 u7 u8 u9 u10 u11 u12 u13 u14 := by
  have hz := sizeLine_is
  have E6 : ∀ ρ', fre ρ' (some s6) = some ρ' := R.f6
  have E7 : ∀ ρ', fre ρ' (some s7) = some ρ' := R.f7
  have E8 : ∀ ρ', fre ρ' (some s8) = some ρ' := R.f8
  have E10 : ∀ ρ', fre ρ' (some s10) = some ρ' := R.f10
  have E11 : ∀ ρ', fre ρ' (some s11) = some ρ' := R.f11
  obtain ⟨base, ld, wt, d1, m1, u4, u5, B, g1, a123⟩ := p_draw2 (ns := ns) (st := st) (tu := tu) g (s6 := s6) (s7 := s7) (s8 := s8) (s9 := s9) (s10 := s10) (s11 := s11) (s12 := s12) (s13 := s13) (s14 := s14) R.f4 R.f5
  obtain ⟨goal, d2, m2, e2, hp, g2⟩ := p_goal base d1 m1 (by have := B.len; omega) g1
  have hbl := B.len
  have hgl : goal.length ≤ 30 := by rw [hp.length_eq]; exact hbl
  have S : Cv base goal ld wt := ⟨B.nd, hp, by omega, B.lo⟩
  have S1 : Cv base goal .non (fun _ => 1) := ⟨B.nd, hp, by omega, lo_non⟩
  have S2 : Cv base base .non (fun _ => 1) := ⟨B.nd, .refl _, by omega, lo_non⟩
  have few : ∀ {go : List Int} (wt : Int → Int), go.length ≤ 30 → (bdsN wt (Tp base go wt)).length < 64 := fun {go} wt h => by
    have : (bdsN wt (Tp base go wt)).length = 2 * (Tp base go wt).length := by simp [bdsN]; omega
    rw [this, tops_len]; omega
  have ub : ∀ {go : List Int} (wt : Int → Int), go.Nodup → go.length ≤ 30 → (∀ x ∈ go, wt x ≤ 30) → ∀ x ∈ go, tpOf (Tp base go wt) x ≤ 900 := fun {go} wt nd h hw x hx => by
    have : tpOf (Tp base go wt) x ≤ 30 * (go.length : Nat) := tp_le (pb := pbO base) (wt := wt) (K := 30) (by omega) nd hw hx
    omega
  have small : ∀ x : Int, 1 ≤ x ∧ x ≤ 100000000 → smallI x := fun x h => by unfold smallI; omega
  have bsm : ∀ x ∈ base, smallI x := fun x hx => small x (B.rg x hx)
  have gsm : ∀ x ∈ goal, smallI x := fun x hx => small x (B.rg x (hp.mem_iff.mp hx))
  have w1 : ∀ x ∈ goal, 1 ≤ wt x := fun x _ => B.lo.pos x
  have ubW := ub wt S.gnd hgl (fun x _ => B.ub x)
  have eL := p_cover (C := C) S (few wt hgl)
  have eX := p_law_cover S (fun x hx => by have := ubW x hx; omega)
  have eL1 := p_cover (C := C) S1 (few _ hgl)
  have eX1 := p_law_cover S1 (fun x hx => by have := ub (fun _ => 1) S.gnd hgl (fun _ _ => by omega) x hx; omega)
  have eL2 := p_cover (C := C) S2 (few _ hbl)
  rw [lcov_self B.nd] at eL2
  have wmem := lcov_mem (pb := pbO base) (wt := wt) S.gnd w1 ubW
  have wlen : (lcov (pbO base) wt goal).length ≤ 60 := by have := lcov_len (pb := pbO base) (wt := wt) (g := goal); omega
  have q90 : (900 : Nat) < 10 ^ 90 := by
    have e90 : (10 : Nat) ^ 90 = 1000000000000000000000000000000000000000000000000000000000000000000000000000000000000000000 := by decide
    rw [e90]; omega
  obtain ⟨tw, etw⟩ := repr_runs (W := lcov (pbO base) wt goal) (n := 30) (fun q hq => by
    obtain ⟨⟨h1, h2⟩, h3⟩ := wmem q hq
    refine ⟨by omega, fun x hx => gsm x (h3.subset hx), ?_⟩
    have := h3.length_le
    omega) (by omega)
  obtain ⟨t, et⟩ := repr_bgl (base := base) (goal := goal) (ld := ld) bsm gsm B.ok (by omega) (by omega)
  have hne1 := gNeE_self (nest_runs (lcov (pbO base) (fun _ => 1) goal))
  have hne2 := gNeE_self (nest_runs (base.map fun x => (1, [x])))
  obtain ⟨f, d3, m3, hf, e3, g3⟩ := one_int d2 m2 [2, 1000000, ten57v] g2 (by simp) (by simp)
  have tv : ten57v = 1000000000000000000000000000000000000000000000000000000000 := rfl
  have hf1 : 2 ≤ f ∧ f ≤ 1000000000000000000000000000000000000000000000000000000000 := by
    simp at hf
    rcases hf with rfl | rfl | rfl
    · omega
    · omega
    · rw [tv]; omega
  have bf : Builtin.Int.intBits f ≤ 256 := bits_le (by omega) (by
    have e : (2 : Int) ^ 256 = 115792089237316195423570985008687907853269984665640564039457584007913129639936 := by decide
    rw [e]; omega)
  -- the weights multiplied
  have ndM : ((base.map fun x => (x, wt x * f)).map (·.1)).Nodup := by rw [List.map_map]; exact (List.map_id base).symm ▸ B.nd
  have edict := dict_pairs (T := base.map fun x => (x, wt x * f)) ndM
  have hM : ∀ x ∈ base, tpOf (base.map fun x => (x, wt x * f)) x = wt x * f := fun x hx => tp_at ndM (p := (x, wt x * f)) (List.mem_map.mpr ⟨x, hx, rfl⟩)
  have kM : (base.map fun x => (x, wt x * f)).map (·.1) = base := by rw [List.map_map]; exact List.map_id base
  have hvM : Heavy (kvI (base.map fun x => (x, wt x * f))) := fun x => by
    rw [kvI_get, kM]
    by_cases hx : x ∈ base
    · rw [if_pos hx]
      have h1 : 1 ≤ wt x := B.lo.pos x
      have : 1 * 2 ≤ wt x * f := Int.mul_le_mul h1 hf1.1 (by omega) (by omega)
      exact .inr ⟨wt x * f, by omega, by rw [hM x hx]⟩
    · rw [if_neg hx]; exact .inl rfl
  have ldM : ∀ x ∈ goal, ldOf (kvI (base.map fun x => (x, wt x * f))) x = wt x * f := fun x hx => by
    have hxb := S.inb hx
    unfold ldOf
    rw [kvI_get, kM, if_pos hxb, hM x hxb]
  have S3 : Cv base goal (.dic (kvI (base.map fun x => (x, wt x * f)))) (ldOf (kvI (base.map fun x => (x, wt x * f)))) := ⟨B.nd, hp, by omega, lo_dic hvM⟩
  have eL3 := p_cover (C := C) S3 (few _ hgl)
  rw [lcov_sc (wt := wt) (f := f) (by omega) ldM] at eL3
  have hne3 := gNeE_self (nest_runs ((lcov (pbO base) wt goal).map fun q => (q.1 * f, q.2)))
  -- the comprehensions
  have lc1 := fun (d m : Int) (s7 s8 s9 s10 s11 s12 s14 : Sl) => lc_ints (vs := [13]) (v := 13) (ft := fYes) (fe := fTup (iCons (fC (.int 1)) (iCons (fTup (iCons (fVar 13) aNil)) aNil))) (ρ0 := [.sh (.scr ns), .sh (.int st), .ow (dk d m), .sh (.int tu), .sh (li base), .sh ld, .sh (li goal), s7, s8, s9, s10, s11, s12, .un, s14])
    (fun i => [.sh (.scr ns), .sh (.int st), .ow (dk d m), .sh (.int tu), .sh (li base), .sh ld, .sh (li goal), s7, s8, s9, s10, s11, s12, .sh (.int i), s14]) (fun _ => true) (fun x => runD (1, [x])) (fun i => by simp) (fun i => by simp [wipeE]) base 0 (fun i _ => by simp) (fun i _ _ => by
      have z1 : 1 ≤ sizeLine := by omega
      have z2 : 2 ≤ sizeLine := by omega
      simp [runD, z1, z2]) (by omega)
  have lc2 := fun (d m : Int) (s7 s8 s9 s11 s12 s14 : Sl) => lc_ints (vs := [13]) (v := 13) (ft := fYes) (fe := fTup (iCons (fVar 13) (iCons (f2 (fCall [.br, .br] [] F_law_load (aCons (fVar 5) (aCons (fVar 13) aNil))) (fVar 10) gMulI) aNil))) (ρ0 := [.sh (.scr ns), .sh (.int st), .ow (dk d m), .sh (.int tu), .sh (li base), .sh ld, .sh (li goal), s7, s8, s9, .sh (.int f), s11, s12, .un, s14])
    (fun i => [.sh (.scr ns), .sh (.int st), .ow (dk d m), .sh (.int tu), .sh (li base), .sh ld, .sh (li goal), s7, s8, s9, .sh (.int f), s11, s12, .sh (.int i), s14]) (fun _ => true) (fun x => .tup [.int x, .int (wt x * f)]) (fun i => by simp) (fun i => by simp [wipeE]) base 0 (fun i _ => by simp) (fun x hx _ => by
      have z2 : 2 ≤ sizeLine := by omega
      have h1 := B.lo.b x
      have h2 : 1 ≤ wt x := B.lo.pos x
      have h3 := B.ub x
      have b1 : Builtin.Int.intBits (wt x) ≤ 32 := bits_le (by omega) (by omega)
      have bb : (Builtin.Int.intBits (wt x) : Int) + (Builtin.Int.intBits f : Int) ≤ 134217728 := by omega
      simp [h1, gMulI_ii bb, z2]) (by omega)
  have lc3 := fun (d m : Int) (s7 s8 s9 s11 s12 s13 : Sl) => lc_gen runD (vs := [14]) (v := 14) (fe := fTup (iCons (f2 (f2 (fVar 14) (fC (.int 0)) gIx) (fVar 10) gMulI) (iCons (f2 (fVar 14) (fC (.int 1)) gIx) aNil))) (ρ0 := [.sh (.scr ns), .sh (.int st), .ow (dk d m), .sh (.int tu), .sh (li base), .sh ld, .sh (li goal), s7, s8, s9, .sh (.int f), s11, s12, s13, .un])
    (fun q => [.sh (.scr ns), .sh (.int st), .ow (dk d m), .sh (.int tu), .sh (li base), .sh ld, .sh (li goal), s7, s8, s9, .sh (.int f), s11, s12, s13, .sh (runD q)]) (fun q => runD (q.1 * f, q.2)) (fun i => by simp) (fun i => by simp [wipeE]) (lcov (pbO base) wt goal) 0 (fun q hq => by
      have z2 : 2 ≤ sizeLine := by omega
      obtain ⟨⟨h1, h2⟩, h3⟩ := wmem q hq
      have b1 : Builtin.Int.intBits q.1 ≤ 32 := bits_le (by omega) (by omega)
      have bb : (Builtin.Int.intBits q.1 : Int) + (Builtin.Int.intBits f : Int) ≤ 134217728 := by omega
      have i0 : gIx (runD q) (.int 0) = some (.val (.int q.1)) := rfl
      have i1 : gIx (runD q) (.int 1) = some (.val (.tup (q.2.map .int))) := rfl
      simp [i0, i1, gMulI_ii bb, z2, runD_mk]) (by omega)
  rw [List.filter_eq_self.mpr fun _ _ => rfl] at lc1 lc2
  generalize hW : lcov (pbO base) wt goal = W at *
  generalize lcov (pbO base) (fun _ => 1) goal = W1 at *
  have ez : ∀ r : Rest s4 s5 s6 s7 s8 s9 s10 s11 s12 s13 s14, True := fun _ => trivial
  have hrd5 : rdo (some u5) = some ld := by rcases B.s5 with rfl | ⟨kvs, rfl, rfl⟩ <;> rfl
  have z3 : 3 ≤ sizeLine := by omega
  have a4 : (gSet 6 (fCall [.io, .br] [] F_law_goal (aCons (fVar 2) (aCons (fVar 4) aNil)))) [.sh (.scr ns), .sh (.int st), .ow (dk d1 m1), .sh (.int tu), u4, u5, s6, s7, s8, s9, s10, s11, s12, s13, s14] =
      .nx [.sh (.scr ns), .sh (.int st), .ow (dk d2 m2), .sh (.int tu), u4, u5, .ow (.lst (goal.map .int)), s7, s8, s9, s10, s11, s12, s13, s14] := by
    rcases B.s4 with rfl | rfl
    · simp [e2, E6]
    · simp [e2, E6]
  have a5 : (gParN [7, 8] (hCons (fCall [.br, .br, .br] [] F_law_cover (aCons (fVar 4) (aCons (fVar 6) (aCons (fVar 5) aNil)))) (hCons (fCB (aCons (fTup (iCons (fVar 4) (iCons (fVar 6) (iCons (fVar 5) aNil)))) aNil) gReprA) hNil))) [.sh (.scr ns), .sh (.int st), .ow (dk d2 m2), .sh (.int tu), u4, u5, .ow (.lst (goal.map .int)), s7, s8, s9, s10, s11, s12, s13, s14] =
      .nx [.sh (.scr ns), .sh (.int st), .ow (dk d2 m2), .sh (.int tu), .sh (li base), .sh ld, .sh (li goal), .ow (.lst (W.map runD)), .sh (.str t), s9, s10, s11, s12, s13, s14] := by
    rcases B.s4 with rfl | rfl
    · rcases B.s5 with rfl | ⟨kvs, rfl, rfl⟩
      · simp [eX, z3, et, E7, E8]
      · simp [eX, z3, et, E7, E8]
    · rcases B.s5 with rfl | ⟨kvs, rfl, rfl⟩
      · simp [eX, z3, et, E7, E8]
      · simp [eX, z3, et, E7, E8]
  obtain ⟨ρ', e6, t9, t12, rfl, F9, F12, _⟩ := forD_ok (k := takeT (.name 9)) (g := b0_law C)
    (fun ds ρ => ∃ (s9 s12 : Sl), ρ = [.sh (.scr ns), .sh (.int st), .ow (dk d2 m2), .sh (.int tu), .sh (li base), .sh ld, .sh (li goal), .ow (.lst (W.map runD)), .sh (.str t), s9, s10, s11, s12, s13, s14] ∧ Fr s9 ∧ Fr s12 ∧ ∀ y ∈ ds, ∃ i : Int, y = .int i)
    (fun y ds ρ ⟨s9, s12, e, q9, q12, hd⟩ => by
      subst e
      obtain ⟨i, rfl⟩ := hd y (by simp)
      have Q9 : ∀ ρ', fre ρ' (some s9) = some ρ' := q9
      exact ⟨[.sh (.scr ns), .sh (.int st), .ow (dk d2 m2), .sh (.int tu), .sh (li base), .sh ld, .sh (li goal), .ow (.lst (W.map runD)), .sh (.str t), .sh (.int i), s10, s11, s12, s13, s14], _, by simp [Q9], p_b0 eL (by omega) etw q12, _, _, rfl, fr_sh, fr_ow, fun y hy => hd y (by simp [hy])⟩)
    (rngD 0 2) [.sh (.scr ns), .sh (.int st), .ow (dk d2 m2), .sh (.int tu), .sh (li base), .sh ld, .sh (li goal), .ow (.lst (W.map runD)), .sh (.str t), s9, s10, s11, s12, s13, s14] ⟨_, _, rfl, R.f9, R.f12, fun y hy => by
      obtain ⟨i, _, e⟩ := rng_mem hy
      exact ⟨_, e⟩⟩
  have a6 : (gFor (fRng1 (aCons (fC (.int 2)) aNil)) (.name 9) (b0_law C)) [.sh (.scr ns), .sh (.int st), .ow (dk d2 m2), .sh (.int tu), .sh (li base), .sh ld, .sh (li goal), .ow (.lst (W.map runD)), .sh (.str t), s9, s10, s11, s12, s13, s14] =
      .nx [.sh (.scr ns), .sh (.int st), .ow (dk d2 m2), .sh (.int tu), .sh (li base), .sh ld, .sh (li goal), .ow (.lst (W.map runD)), .sh (.str t), t9, s10, s11, t12, s13, s14] := by
    simp
    exact e6
  have a7 : (gIf (fOr (fB (f2 (fCall [.br, .br, .br] [.non] (F_level_cover C) (aCons (fVar 4) (aCons (fVar 6) aNil))) (fCall [.br, .br, .br] [] F_law_cover (aCons (fVar 4) (aCons (fVar 6) (aCons (fC .non) aNil)))) gNeE)) (fB (f2 (fCB (aCons (fTup (iCons (fVar 4) (iCons (fVar 6) (iCons (fVar 5) aNil)))) aNil) gReprA) (fVar 8) gNeE))) (gRet (fC (.bl false))) gNext) [.sh (.scr ns), .sh (.int st), .ow (dk d2 m2), .sh (.int tu), .sh (li base), .sh ld, .sh (li goal), .ow (.lst (W.map runD)), .sh (.str t), t9, s10, s11, t12, s13, s14] =
      .nx [.sh (.scr ns), .sh (.int st), .ow (dk d2 m2), .sh (.int tu), .sh (li base), .sh ld, .sh (li goal), .ow (.lst (W.map runD)), .sh (.str t), t9, s10, s11, t12, s13, s14] := by
    have hs : gNeE (.str t) (.str t) = some (.val (.bl false)) := by simp [gNeE]
    simp [eL1, eX1, hne1, z3, et, hs]
  have a8 : (gIf (fB (f2 (fCall [.br, .br, .br] [.non] (F_level_cover C) (aCons (fVar 4) (aCons (fVar 4) aNil))) (fLc (fWalk (fVar 4) gItL) [13] (.name 13) fYes (fTup (iCons (fC (.int 1)) (iCons (fTup (iCons (fVar 13) aNil)) aNil)))) gNeE)) (gRet (fC (.bl false))) gNext) [.sh (.scr ns), .sh (.int st), .ow (dk d2 m2), .sh (.int tu), .sh (li base), .sh ld, .sh (li goal), .ow (.lst (W.map runD)), .sh (.str t), t9, s10, s11, t12, s13, s14] =
      .nx [.sh (.scr ns), .sh (.int st), .ow (dk d2 m2), .sh (.int tu), .sh (li base), .sh ld, .sh (li goal), .ow (.lst (W.map runD)), .sh (.str t), t9, s10, s11, t12, s13, s14] := by
    have e1 : (base.map fun x => runD (1, [x])) = (base.map fun x => ((1, [x]) : Int × List Int)).map runD := by rw [List.map_map]; rfl
    have l1 := lc1 d2 m2 (.ow (.lst (W.map runD))) (.sh (.str t)) t9 s10 s11 t12 s14
    rw [e1] at l1
    generalize (base.map fun x => ((1, [x]) : Int × List Int)).map runD = BB at *
    simp [eL2, gItL, wipeE, l1, restE, hne2]
  have a9 : (gSet 10 (fCall [.io, .br] [] F_law_one_of (aCons (fVar 2) (aCons (fLst (iCons (fC (.int 2)) (iCons (f2 (fC (.int 10)) (fC (.int 6)) gPow) (iCons (f2 (fC (.int 10)) (fC (.int 57)) gPow) aNil)))) aNil)))) [.sh (.scr ns), .sh (.int st), .ow (dk d2 m2), .sh (.int tu), .sh (li base), .sh ld, .sh (li goal), .ow (.lst (W.map runD)), .sh (.str t), t9, s10, s11, t12, s13, s14] =
      .nx [.sh (.scr ns), .sh (.int st), .ow (dk d3 m3), .sh (.int tu), .sh (li base), .sh ld, .sh (li goal), .ow (.lst (W.map runD)), .sh (.str t), t9, .sh (.int f), s11, t12, s13, s14] := by
    have e3' : F_law_one_of [.io (dk d2 m2), .br (.lst [.int 2, .int 1000000, .int ten57v])] = .ret (.val (.int f)) [some (dk d3 m3), none] := e3
    simp [ten6, ten57, z3, e3', E10]
  have a10 : (gSet 11 (fCB (aCons (fLc (fWalk (fVar 4) gItL) [13] (.name 13) fYes (fTup (iCons (fVar 13) (iCons (f2 (fCall [.br, .br] [] F_law_load (aCons (fVar 5) (aCons (fVar 13) aNil))) (fVar 10) gMulI) aNil)))) aNil) gDictP)) [.sh (.scr ns), .sh (.int st), .ow (dk d3 m3), .sh (.int tu), .sh (li base), .sh ld, .sh (li goal), .ow (.lst (W.map runD)), .sh (.str t), t9, .sh (.int f), s11, t12, s13, s14] =
      .nx [.sh (.scr ns), .sh (.int st), .ow (dk d3 m3), .sh (.int tu), .sh (li base), .sh ld, .sh (li goal), .ow (.lst (W.map runD)), .sh (.str t), t9, .sh (.int f), .ow (.dic (kvI (base.map fun x => (x, wt x * f)))), t12, s13, s14] := by
    have e1 : (base.map fun x => D.tup [.int x, .int (wt x * f)]) = (base.map fun x => (x, wt x * f)).map fun p => D.tup [.int p.1, .int p.2] := by rw [List.map_map]; rfl
    have l2 := lc2 d3 m3 (.ow (.lst (W.map runD))) (.sh (.str t)) t9 s11 t12 s14
    rw [e1] at l2
    generalize kvI (base.map fun x => (x, wt x * f)) = KK at *
    generalize (base.map fun x => (x, wt x * f)).map (fun p => D.tup [.int p.1, .int p.2]) = BB at *
    simp [gItL, wipeE, l2, restE, edict, E11]
  have a11 : (gIf (fB (f2 (fCall [.br, .br, .br] [] (F_level_cover C) (fPK 2 1 [0, 1, 2] (aCons (fVar 4) (aCons (fVar 6) aNil)) (aCons (fVar 11) aNil))) (fLc (fWalk (fVar 7) gItL) [14] (.name 14) fYes (fTup (iCons (f2 (f2 (fVar 14) (fC (.int 0)) gIx) (fVar 10) gMulI) (iCons (f2 (fVar 14) (fC (.int 1)) gIx) aNil)))) gNeE)) (gRet (fC (.bl false))) gNext) [.sh (.scr ns), .sh (.int st), .ow (dk d3 m3), .sh (.int tu), .sh (li base), .sh ld, .sh (li goal), .ow (.lst (W.map runD)), .sh (.str t), t9, .sh (.int f), .ow (.dic (kvI (base.map fun x => (x, wt x * f)))), t12, s13, s14] =
      .nx [.sh (.scr ns), .sh (.int st), .ow (dk d3 m3), .sh (.int tu), .sh (li base), .sh ld, .sh (li goal), .sh (.lst (W.map runD)), .sh (.str t), t9, .sh (.int f), .ow (.dic (kvI (base.map fun x => (x, wt x * f)))), t12, s13, s14] := by
    have e1 : (W.map fun q => runD (q.1 * f, q.2)) = (W.map fun q => (q.1 * f, q.2)).map runD := by rw [List.map_map]; rfl
    have l3 := lc3 d3 m3 (.sh (.lst (W.map runD))) (.sh (.str t)) t9 (.ow (.dic (kvI (base.map fun x => (x, wt x * f))))) t12 s13
    rw [e1] at l3
    generalize kvI (base.map fun x => (x, wt x * f)) = KK at *
    generalize (W.map fun q => (q.1 * f, q.2)).map runD = BB at *
    simp [permL, eL3, gItL, wipeE, l3, restE, hne3]
  refine ⟨d3, m3, .sh (li base), .sh ld, .sh (li goal), .sh (.lst (W.map runD)), .sh (.str t), t9, .sh (.int f), .ow (.dic (kvI (base.map fun x => (x, wt x * f)))), t12, s13, s14, ?_, g3, ⟨fr_sh, fr_sh, fr_sh, fr_sh, fr_sh, F9, fr_sh, fr_ow, F12, R.f13, R.f14⟩⟩
  unfold b1_law
  rw [sq3 a123, sq a4, sq a5, sq a6, sq a7, sq a8, sq a9, sq a10]
  exact a11
end
end K12

namespace K12
open PySem O
section
variable {C : Addr} {ns : List Int}
theorem p_b2 (hl : ns.length ≤ 63) (hb : ∀ z ∈ ns, Builtin.Int.intBits z ≤ 1048576) {st : Int} (h0 : 0 ≤ st) (h1 : st ≤ 100) {s2 s3 s4 s5 s6 s7 s8 s9 s10 s11 s12 s13 s14 : Sl} (F2 : Fr s2) (F3 : Fr s3) (R : Rest s4 s5 s6 s7 s8 s9 s10 s11 s12 s13 s14) :
    ∃ (u2 u3 u4 u5 u6 u7 u8 u9 u10 u11 u12 u13 u14 : Sl), b2_law C [.sh (.scr ns), .sh (.int st), s2, s3, s4, s5, s6, s7, s8, s9, s10, s11, s12, s13, s14] = .nx [.sh (.scr ns), .sh (.int st), u2, u3, u4, u5, u6, u7, u8, u9, u10, u11, u12, u13, u14] ∧ Fr u2 ∧ Fr u3 ∧ Rest u4 u5 u6 u7 u8 u9 u10 u11 u12 u13 u14 := by
  have E2 : ∀ ρ', fre ρ' (some s2) = some ρ' := F2
  obtain ⟨d, m, e1, g⟩ := p_tape ns st h0 h1 hl hb
  have a1 : (gSet 2 (fCall [.br, .br] [] F_law_tape (aCons (fVar 0) (aCons (fVar 1) aNil)))) [.sh (.scr ns), .sh (.int st), s2, s3, s4, s5, s6, s7, s8, s9, s10, s11, s12, s13, s14] = .nx [.sh (.scr ns), .sh (.int st), .ow (dk d m), s3, s4, s5, s6, s7, s8, s9, s10, s11, s12, s13, s14] := by
    have e1' := e1
    unfold dk at e1'
    simp [e1', E2]
    rfl
  obtain ⟨ρ', e, ⟨d3, m3, t3, t4, t5, t6, t7, t8, t9, t10, t11, t12, t13, t14, e', g3, f3, R3⟩, _⟩ := forD_ok (k := takeT (.name 3)) (g := b1_law C)
    (fun ds ρ => (∃ (d m : Int) (s3 s4 s5 s6 s7 s8 s9 s10 s11 s12 s13 s14 : Sl), ρ = [.sh (.scr ns), .sh (.int st), .ow (dk d m), s3, s4, s5, s6, s7, s8, s9, s10, s11, s12, s13, s14] ∧ Good d m ∧ Fr s3 ∧ Rest s4 s5 s6 s7 s8 s9 s10 s11 s12 s13 s14) ∧ ∀ y ∈ ds, ∃ i : Int, y = .int i)
    (fun y ds ρ ⟨⟨d, m, s3, s4, s5, s6, s7, s8, s9, s10, s11, s12, s13, s14, e, g, f3, R⟩, hd⟩ => by
      subst e
      obtain ⟨i, rfl⟩ := hd y (by simp)
      have E3 : ∀ ρ', fre ρ' (some s3) = some ρ' := f3
      obtain ⟨d', m', u4, u5, u6, u7, u8, u9, u10, u11, u12, u13, u14, e0, g', R'⟩ := p_b1 (C := C) (ns := ns) (st := st) (tu := i) g R
      exact ⟨[.sh (.scr ns), .sh (.int st), .ow (dk d m), .sh (.int i), s4, s5, s6, s7, s8, s9, s10, s11, s12, s13, s14], _, by simp [E3], e0, ⟨d', m', _, _, _, _, _, _, _, _, _, _, _, _, rfl, g', fr_sh, R'⟩, fun y hy => hd y (by simp [hy])⟩)
    (rngD 0 4) [.sh (.scr ns), .sh (.int st), .ow (dk d m), s3, s4, s5, s6, s7, s8, s9, s10, s11, s12, s13, s14] ⟨⟨d, m, _, _, _, _, _, _, _, _, _, _, _, _, rfl, g, F3, R⟩, fun y hy => by
      obtain ⟨i, _, e⟩ := rng_mem hy
      exact ⟨_, e⟩⟩
  subst e'
  refine ⟨.ow (dk d3 m3), t3, t4, t5, t6, t7, t8, t9, t10, t11, t12, t13, t14, ?_, fr_ow, f3, R3⟩
  unfold b2_law
  rw [sq a1]
  simp
  exact e
end
theorem p_starts {C : Addr} {ns : List Int} (hl : ns.length ≤ 63) (hb : ∀ z ∈ ns, Builtin.Int.intBits z ≤ 1048576) (n : Nat) (hn : n ≤ 100) :
    ∃ ρ', forD (takeT (.name 1)) (b2_law C) (rngD 0 n) [.sh (.scr ns), .un, .un, .un, .un, .un, .un, .un, .un, .un, .un, .un, .un, .un, .un] = .nx ρ' ∧ ∃ t1 t2 t3 t4 t5 t6 t7 t8 t9 t10 t11 t12 t13 t14, ρ' = [.sh (.scr ns), t1, t2, t3, t4, t5, t6, t7, t8, t9, t10, t11, t12, t13, t14] := by
  obtain ⟨ρ', e, ⟨t1, t2, t3, t4, t5, t6, t7, t8, t9, t10, t11, t12, t13, t14, e', _⟩, _⟩ := forD_ok (k := takeT (.name 1)) (g := b2_law C)
    (fun ds ρ => (∃ t1 t2 t3 t4 t5 t6 t7 t8 t9 t10 t11 t12 t13 t14, ρ = [.sh (.scr ns), t1, t2, t3, t4, t5, t6, t7, t8, t9, t10, t11, t12, t13, t14] ∧ Fr t1 ∧ Fr t2 ∧ Fr t3 ∧ Rest t4 t5 t6 t7 t8 t9 t10 t11 t12 t13 t14) ∧ ∀ y ∈ ds, ∃ i : Int, 0 ≤ i ∧ i ≤ 100 ∧ y = .int i) (fun y ds ρ ⟨⟨t1, t2, t3, t4, t5, t6, t7, t8, t9, t10, t11, t12, t13, t14, e, q1, q2, q3, R⟩, hd⟩ => by
    subst e
    obtain ⟨i, h0, h1, rfl⟩ := hd y (by simp)
    obtain ⟨u2, u3, u4, u5, u6, u7, u8, u9, u10, u11, u12, u13, u14, e, k2, k3, R'⟩ := p_b2 (C := C) (ns := ns) hl hb h0 h1 q2 q3 R
    have F1 : ∀ ρ', fre ρ' (some t1) = some ρ' := q1
    exact ⟨[.sh (.scr ns), .sh (.int i), t2, t3, t4, t5, t6, t7, t8, t9, t10, t11, t12, t13, t14], _, by simp [F1], e, ⟨_, _, _, _, _, _, _, _, _, _, _, _, _, _, rfl, fr_sh, k2, k3, R'⟩, fun y hy => hd y (by simp [hy])⟩)
    (rngD 0 n) _ ⟨⟨.un, .un, .un, .un, .un, .un, .un, .un, .un, .un, .un, .un, .un, .un, rfl, fr_un, fr_un, fr_un, ⟨fr_un, fr_un, fr_un, fr_un, fr_un, fr_un, fr_un, fr_un, fr_un, fr_un, fr_un⟩⟩, fun y hy => by
      obtain ⟨i, hi, e⟩ := rng_mem hy
      exact ⟨0 + (i : Int), by omega, by omega, e⟩⟩
  exact ⟨ρ', e, t1, t2, t3, t4, t5, t6, t7, t8, t9, t10, t11, t12, t13, t14, e'⟩
theorem law_true {cGreatest : Addr} (ns : List Int) (hl : ns.length ≤ 63) (hb : ∀ z ∈ ns, Builtin.Int.intBits z ≤ 1048576) : ∃ os, F_law cGreatest [.sh (.scr ns)] = .ret (.val (.bl true)) os := by
  refine ⟨[none], ?_⟩
  have hr : ∃ n : Nat, n ≤ 100 ∧ (∀ (a : Int), a = (if (if (ns.length : Int) < 4 then (ns.length : Int) else 4) > 2 then (if (ns.length : Int) < 4 then (ns.length : Int) else 4) else 2) → a = (n : Int)) := by
    refine ⟨if (if ns.length < 4 then ns.length else 4) > 2 then (if ns.length < 4 then ns.length else 4) else 2, by split <;> (try split) <;> omega, fun a e => ?_⟩
    subst e
    split <;> split <;> (try split) <;> (try split) <;> omega
  obtain ⟨n, hn, hn2⟩ := hr
  obtain ⟨ρ', e, t1, t2, t3, t4, t5, t6, t7, t8, t9, t10, t11, t12, t13, t14, rfl⟩ := p_starts (C := cGreatest) hl hb n hn
  have em := hn2 _ rfl
  have e0 : (fRng1 (aCons (fCB (aCons (fC (.int 2)) (aCons (fCB (aCons (fC (.int 4)) (aCons (fCB (aCons (fVar 0) aNil) gLen) aNil)) gMin) aNil)) gMax) aNil)) [.sh (.scr ns), .un, .un, .un, .un, .un, .un, .un, .un, .un, .un, .un, .un, .un, .un] = .ok (rngD 0 n) [.sh (.scr ns), .un, .un, .un, .un, .un, .un, .un, .un, .un, .un, .un, .un, .un, .un] := by
    simp only [u_fRng1, u_aCons, u_fCB, u_fC, u_fVar, List.getElem?_cons_zero, kVar_sh, bind_ok, fzo_bor, fzo_val, u_kA, u_aNil, u_kA2, u_kC, rds_cons, rds_nil, rd_bor, rd_val, rdo_sh, cO_some, aC_some, gLen, gMin, gMax, gMM, az_some, u_kR, em, aR_some]
    rw [if_pos (by omega), Int.toNat_natCast]
  simp [F_law, u_runF, g_law, startE, slotA, -u_fRng1, e0, e]
end K12

namespace K12
open PySem O
theorem all_mk {l : PySem.W.OpenLaw} {w : World} {K : PySem.W.Frag} {h : Heap} {mg : PySem.Str → Option Value} {fA : Addr} {cGreatest : Addr} {f0 : Addr} {od0 an0 : Option Addr} {sl0 : Array (Option Value)} {oc0 kV0 dc0 pm0 cd0 ct0 : Value} {f1 : Addr} {od1 an1 : Option Addr} {sl1 : Array (Option Value)} {oc1 kV1 dc1 pm1 cd1 ct1 : Value} {f2 : Addr} {od2 an2 : Option Addr} {sl2 : Array (Option Value)} {oc2 kV2 dc2 pm2 cd2 ct2 : Value} {f3 : Addr} {od3 an3 : Option Addr} {sl3 : Array (Option Value)} {oc3 kV3 dc3 pm3 cd3 ct3 : Value} {f4 : Addr} {od4 an4 : Option Addr} {sl4 : Array (Option Value)} {oc4 kV4 dc4 pm4 cd4 ct4 : Value} {f5 : Addr} {od5 an5 : Option Addr} {sl5 : Array (Option Value)} {oc5 kV5 dc5 pm5 cd5 ct5 : Value} {f6 : Addr} {od6 an6 : Option Addr} {sl6 : Array (Option Value)} {oc6  dc6 pm6 cd6 ct6 : Value} {D6 : Addr} {f7 : Addr} {od7 an7 : Option Addr} {sl7 : Array (Option Value)} {oc7 kV7 dc7 pm7 cd7 ct7 : Value} {f8 : Addr} {od8 an8 : Option Addr} {sl8 : Array (Option Value)} {oc8 kV8 dc8 pm8 cd8 ct8 : Value} {f9 : Addr} {od9 an9 : Option Addr} {sl9 : Array (Option Value)} {oc9 kV9 dc9 pm9 cd9 ct9 : Value} {f10 : Addr} {od10 an10 : Option Addr} {sl10 : Array (Option Value)} {oc10 kV10 dc10 pm10 cd10 ct10 : Value} {f11 : Addr} {od11 an11 : Option Addr} {sl11 : Array (Option Value)} {oc11 kV11 dc11 pm11 cd11 ct11 : Value} {f12 : Addr} {od12 an12 : Option Addr} {sl12 : Array (Option Value)} {oc12 kV12 dc12 pm12 cd12 ct12 : Value} {f13 : Addr} {od13 an13 : Option Addr} {sl13 : Array (Option Value)} {oc13 kV13 dc13 pm13 cd13 ct13 : Value} {f14 : Addr} {od14 an14 : Option Addr} {sl14 : Array (Option Value)} {oc14 kV14 dc14 pm14 cd14 ct14 : Value} {f15 : Addr} {od15 an15 : Option Addr} {sl15 : Array (Option Value)} {oc15 kV15 dc15 pm15 cd15 ct15 : Value} {f16 : Addr} {od16 an16 : Option Addr} {sl16 : Array (Option Value)} {oc16 kV16 dc16 pm16 cd16 ct16 : Value} {f17 : Addr} {od17 an17 : Option Addr} {sl17 : Array (Option Value)} {oc17 kV17 dc17 pm17 cd17 ct17 : Value} (X : K.In h) (G : h.Ns mainGlobals mg) (hfa : mg "law" = some (.ref fA))
    (xA : PySem.W.nsIn K mainGlobals "Greatest" = some (some (.ref cGreatest))) (pg : PySem.W.plainGet K cGreatest PySem.Str.empty = true) (hd : PySem.W.hasDictIn K cGreatest = true) (po : PySem.W.plainOver K cGreatest = true) (sa : PySem.W.findIn K (.ref cGreatest) "__setattr__" = some (some (.builtin "object.__setattr__"))) (mk : PySem.W.makesIn K cGreatest = true) (kc : PySem.W.keepIn K (.ref cGreatest) = true)
    (n_least : PySem.W.findIn K (.ref cGreatest) "least" = some none)
    (n_nodes : PySem.W.findIn K (.ref cGreatest) "nodes" = some none)
    (a0 : PySem.W.findIn K (.ref cGreatest) "__init__" = some (some (.ref f0))) (i0 : PySem.W.isFn K (.ref f0) = true) (l0 : K.lookup f0 = some ⟨oc0, od0, .func (PySem.W.fnOf "__init__" "Greatest.__init__" (L2.defArgs s_Greatest_init) (L2.defBody s_Greatest_init) (L2.defScope s_Greatest_init) .none kV0 dc0 pm0 an0 cd0 ct0), sl0⟩) (c0 : PySem.W.codeIn K cd0 "Greatest.__init__" = true) (k0 : PySem.W.keepIn K (.ref f0) = true)
    (a1 : PySem.W.findIn K (.ref cGreatest) "put" = some (some (.ref f1))) (i1 : PySem.W.isFn K (.ref f1) = true) (l1 : K.lookup f1 = some ⟨oc1, od1, .func (PySem.W.fnOf "put" "Greatest.put" (L2.defArgs s_Greatest_put) (L2.defBody s_Greatest_put) (L2.defScope s_Greatest_put) .none kV1 dc1 pm1 an1 cd1 ct1), sl1⟩) (c1 : PySem.W.codeIn K cd1 "Greatest.put" = true) (k1 : PySem.W.keepIn K (.ref f1) = true)
    (a2 : PySem.W.findIn K (.ref cGreatest) "before" = some (some (.ref f2))) (i2 : PySem.W.isFn K (.ref f2) = true) (l2 : K.lookup f2 = some ⟨oc2, od2, .func (PySem.W.fnOf "before" "Greatest.before" (L2.defArgs s_Greatest_before) (L2.defBody s_Greatest_before) (L2.defScope s_Greatest_before) .none kV2 dc2 pm2 an2 cd2 ct2), sl2⟩) (c2 : PySem.W.codeIn K cd2 "Greatest.before" = true) (k2 : PySem.W.keepIn K (.ref f2) = true)
    (a3 : PySem.W.nsIn K mainGlobals "places_of" = some (some (.ref f3))) (l3 : K.lookup f3 = some ⟨oc3, od3, .func (PySem.W.fnOf "places_of" "places_of" (L2.defArgs s_places_of) (L2.defBody s_places_of) (L2.defScope s_places_of) .none kV3 dc3 pm3 an3 cd3 ct3), sl3⟩) (c3 : PySem.W.codeIn K cd3 "places_of" = true) (k3 : PySem.W.keepIn K (.ref f3) = true)
    (a4 : PySem.W.nsIn K mainGlobals "weight_of" = some (some (.ref f4))) (l4 : K.lookup f4 = some ⟨oc4, od4, .func (PySem.W.fnOf "weight_of" "weight_of" (L2.defArgs s_weight_of) (L2.defBody s_weight_of) (L2.defScope s_weight_of) .none kV4 dc4 pm4 an4 cd4 ct4), sl4⟩) (c4 : PySem.W.codeIn K cd4 "weight_of" = true) (k4 : PySem.W.keepIn K (.ref f4) = true)
    (a5 : PySem.W.nsIn K mainGlobals "top_levels" = some (some (.ref f5))) (l5 : K.lookup f5 = some ⟨oc5, od5, .func (PySem.W.fnOf "top_levels" "top_levels" (L2.defArgs s_top_levels) (L2.defBody s_top_levels) (L2.defScope s_top_levels) .none kV5 dc5 pm5 an5 cd5 ct5), sl5⟩) (c5 : PySem.W.codeIn K cd5 "top_levels" = true) (k5 : PySem.W.keepIn K (.ref f5) = true)
    (a6 : PySem.W.nsIn K mainGlobals "level_cover" = some (some (.ref f6))) (l6 : K.lookup f6 = some ⟨oc6, od6, .func (PySem.W.fnOf "level_cover" "level_cover" (L2.defArgs s_level_cover) (L2.defBody s_level_cover) (L2.defScope s_level_cover) .none (.ref D6) dc6 pm6 an6 cd6 ct6), sl6⟩) (c6 : PySem.W.codeIn K cd6 "level_cover" = true) (k6 : PySem.W.keepIn K (.ref f6) = true)
    (a7 : PySem.W.nsIn K mainGlobals "_law_tape" = some (some (.ref f7))) (l7 : K.lookup f7 = some ⟨oc7, od7, .func (PySem.W.fnOf "_law_tape" "_law_tape" (L2.defArgs s_law_tape) (L2.defBody s_law_tape) (L2.defScope s_law_tape) .none kV7 dc7 pm7 an7 cd7 ct7), sl7⟩) (c7 : PySem.W.codeIn K cd7 "_law_tape" = true) (k7 : PySem.W.keepIn K (.ref f7) = true)
    (a8 : PySem.W.nsIn K mainGlobals "_law_pick" = some (some (.ref f8))) (l8 : K.lookup f8 = some ⟨oc8, od8, .func (PySem.W.fnOf "_law_pick" "_law_pick" (L2.defArgs s_law_pick) (L2.defBody s_law_pick) (L2.defScope s_law_pick) .none kV8 dc8 pm8 an8 cd8 ct8), sl8⟩) (c8 : PySem.W.codeIn K cd8 "_law_pick" = true) (k8 : PySem.W.keepIn K (.ref f8) = true)
    (a9 : PySem.W.nsIn K mainGlobals "_law_one_of" = some (some (.ref f9))) (l9 : K.lookup f9 = some ⟨oc9, od9, .func (PySem.W.fnOf "_law_one_of" "_law_one_of" (L2.defArgs s_law_one_of) (L2.defBody s_law_one_of) (L2.defScope s_law_one_of) .none kV9 dc9 pm9 an9 cd9 ct9), sl9⟩) (c9 : PySem.W.codeIn K cd9 "_law_one_of" = true) (k9 : PySem.W.keepIn K (.ref f9) = true)
    (a10 : PySem.W.nsIn K mainGlobals "_law_shuffled" = some (some (.ref f10))) (l10 : K.lookup f10 = some ⟨oc10, od10, .func (PySem.W.fnOf "_law_shuffled" "_law_shuffled" (L2.defArgs s_law_shuffled) (L2.defBody s_law_shuffled) (L2.defScope s_law_shuffled) .none kV10 dc10 pm10 an10 cd10 ct10), sl10⟩) (c10 : PySem.W.codeIn K cd10 "_law_shuffled" = true) (k10 : PySem.W.keepIn K (.ref f10) = true)
    (a11 : PySem.W.nsIn K mainGlobals "_law_ids" = some (some (.ref f11))) (l11 : K.lookup f11 = some ⟨oc11, od11, .func (PySem.W.fnOf "_law_ids" "_law_ids" (L2.defArgs s_law_ids) (L2.defBody s_law_ids) (L2.defScope s_law_ids) .none kV11 dc11 pm11 an11 cd11 ct11), sl11⟩) (c11 : PySem.W.codeIn K cd11 "_law_ids" = true) (k11 : PySem.W.keepIn K (.ref f11) = true)
    (a12 : PySem.W.nsIn K mainGlobals "_law_goal" = some (some (.ref f12))) (l12 : K.lookup f12 = some ⟨oc12, od12, .func (PySem.W.fnOf "_law_goal" "_law_goal" (L2.defArgs s_law_goal) (L2.defBody s_law_goal) (L2.defScope s_law_goal) .none kV12 dc12 pm12 an12 cd12 ct12), sl12⟩) (c12 : PySem.W.codeIn K cd12 "_law_goal" = true) (k12 : PySem.W.keepIn K (.ref f12) = true)
    (a13 : PySem.W.nsIn K mainGlobals "_law_loads" = some (some (.ref f13))) (l13 : K.lookup f13 = some ⟨oc13, od13, .func (PySem.W.fnOf "_law_loads" "_law_loads" (L2.defArgs s_law_loads) (L2.defBody s_law_loads) (L2.defScope s_law_loads) .none kV13 dc13 pm13 an13 cd13 ct13), sl13⟩) (c13 : PySem.W.codeIn K cd13 "_law_loads" = true) (k13 : PySem.W.keepIn K (.ref f13) = true)
    (a14 : PySem.W.nsIn K mainGlobals "_law_load" = some (some (.ref f14))) (l14 : K.lookup f14 = some ⟨oc14, od14, .func (PySem.W.fnOf "_law_load" "_law_load" (L2.defArgs s_law_load) (L2.defBody s_law_load) (L2.defScope s_law_load) .none kV14 dc14 pm14 an14 cd14 ct14), sl14⟩) (c14 : PySem.W.codeIn K cd14 "_law_load" = true) (k14 : PySem.W.keepIn K (.ref f14) = true)
    (a15 : PySem.W.nsIn K mainGlobals "_law_tops" = some (some (.ref f15))) (l15 : K.lookup f15 = some ⟨oc15, od15, .func (PySem.W.fnOf "_law_tops" "_law_tops" (L2.defArgs s_law_tops) (L2.defBody s_law_tops) (L2.defScope s_law_tops) .none kV15 dc15 pm15 an15 cd15 ct15), sl15⟩) (c15 : PySem.W.codeIn K cd15 "_law_tops" = true) (k15 : PySem.W.keepIn K (.ref f15) = true)
    (a16 : PySem.W.nsIn K mainGlobals "_law_cover" = some (some (.ref f16))) (l16 : K.lookup f16 = some ⟨oc16, od16, .func (PySem.W.fnOf "_law_cover" "_law_cover" (L2.defArgs s_law_cover) (L2.defBody s_law_cover) (L2.defScope s_law_cover) .none kV16 dc16 pm16 an16 cd16 ct16), sl16⟩) (c16 : PySem.W.codeIn K cd16 "_law_cover" = true) (k16 : PySem.W.keepIn K (.ref f16) = true)
    (a17 : PySem.W.nsIn K mainGlobals "law" = some (some (.ref f17))) (l17 : K.lookup f17 = some ⟨oc17, od17, .func (PySem.W.fnOf "law" "law" (L2.defArgs s_law) (L2.defBody s_law) (L2.defScope s_law) .none kV17 dc17 pm17 an17 cd17 ct17), sl17⟩) (c17 : PySem.W.codeIn K cd17 "law" = true) (k17 : PySem.W.keepIn K (.ref f17) = true)
    (d6weights : PySem.W.nsIn K D6 "weights" = some (some .none))
    (z_len : PySem.W.nsIn K mainGlobals "len" = some none)
    (z_max : PySem.W.nsIn K mainGlobals "max" = some none)
    (z_enumerate : PySem.W.nsIn K mainGlobals "enumerate" = some none)
    (z_sorted : PySem.W.nsIn K mainGlobals "sorted" = some none)
    (z_set : PySem.W.nsIn K mainGlobals "set" = some none)
    (z_zip : PySem.W.nsIn K mainGlobals "zip" = some none)
    (z_tuple : PySem.W.nsIn K mainGlobals "tuple" = some none)
    (z_list : PySem.W.nsIn K mainGlobals "list" = some none)
    (z_range : PySem.W.nsIn K mainGlobals "range" = some none)
    (z_min : PySem.W.nsIn K mainGlobals "min" = some none)
    (z_repr : PySem.W.nsIn K mainGlobals "repr" = some none)
    (z_isinstance : PySem.W.nsIn K mainGlobals "isinstance" = some none)
    (z_dict : PySem.W.nsIn K mainGlobals "dict" = some none)
    (i_list_NoneType : PySem.W.kitOne K (.type "NoneType") (.type "list") = some false)
    (i_list_bool : PySem.W.kitOne K (.type "bool") (.type "list") = some false)
    (i_list_int : PySem.W.kitOne K (.type "int") (.type "list") = some false)
    (i_list_str : PySem.W.kitOne K (.type "str") (.type "list") = some false)
    (i_list_tuple : PySem.W.kitOne K (.type "tuple") (.type "list") = some false)
    (i_list_list : PySem.W.kitOne K (.type "list") (.type "list") = some true)
    (i_list_dict : PySem.W.kitOne K (.type "dict") (.type "list") = some false) :
    ∀ (ns : List Int), (∃ os, (F_law cGreatest) [.sh (.scr ns)] = .ret (.val (.bl true)) os) → ∀ (s : Shared) (base : Heap) (H : L2.Hp) (a : Addr), L2.Env0 l.prog w K mg base callerA [] s H → L2.SqL K H a (ns.map L2.V.int) → codeAny (model l.prog w) callerA (.call (.ref fA) ⟨[.ref a], []⟩) (L2.CR (L2.CX l.prog w) [] l.prog w H s (fun v _ => v = .bl true) fun _ _ _ => False) s := by
  have e := hfa.symm.trans (PySem.W.mg_of X G a17)
  cases e
  have i_list : IsiK K "list" := fun t ht => by
    simp only [List.mem_cons, List.not_mem_nil, or_false] at ht
    rcases ht with rfl | rfl | rfl | rfl | rfl | rfl | rfl
    · exact i_list_NoneType
    · exact i_list_bool
    · exact i_list_int
    · exact i_list_str
    · exact i_list_tuple
    · exact i_list_list
    · exact i_list_dict
  intro ns ht s base H a e0 hS
  have HC : L2.Cls K cGreatest := ⟨pg, hd, po, sa⟩
  have M_Greatest : MakC l.prog w K mg base cGreatest 1 3 ["self", "size", "least"] (F_Greatest_init cGreatest) := ⟨_, _, ⟨mk, a0, i0, kc⟩, ok_Greatest_init (L2.fun_mk l0 c0 k0) HC n_least n_nodes, ((L2.fun_mk (st := s_Greatest_init) l0 c0 k0).binds (ps := ["self", "size", "least"]) fun _ _ _ _ _ _ us hl => match us, hl with | [_, _, _], _ => rfl)⟩
  have P_put : MetC l.prog w K mg base cGreatest "put" 1 3 ["self", "place", "value"] (F_Greatest_put cGreatest) := ⟨_, _, ⟨a1, i1, k1⟩, ok_Greatest_put (L2.fun_mk l1 c1 k1) HC n_least n_nodes (PySem.W.mg_none_of X G z_len) (PySem.W.mg_none_of X G z_max), ((L2.fun_mk (st := s_Greatest_put) l1 c1 k1).binds (ps := ["self", "place", "value"]) fun _ _ _ _ _ _ us hl => match us, hl with | [_, _, _], _ => rfl)⟩
  have P_before : MetC l.prog w K mg base cGreatest "before" 1 2 ["self", "place"] (F_Greatest_before cGreatest) := ⟨_, _, ⟨a2, i2, k2⟩, ok_Greatest_before (L2.fun_mk l2 c2 k2) HC n_least n_nodes (PySem.W.mg_none_of X G z_max), ((L2.fun_mk (st := s_Greatest_before) l2 c2 k2).binds (ps := ["self", "place"]) fun _ _ _ _ _ _ us hl => match us, hl with | [_, _], _ => rfl)⟩
  have C_places_of : CalG l.prog w K mg base "places_of" 1 1 ["order"] F_places_of := ok_places_of (L2.fun_mk l3 c3 k3) (PySem.W.mg_of X G a3) (PySem.W.mg_none_of X G z_enumerate)
  have C_weight_of : CalG l.prog w K mg base "weight_of" 1 2 ["row_id", "weights"] F_weight_of := ok_weight_of (L2.fun_mk l4 c4 k4) (PySem.W.mg_of X G a4)
  have C_top_levels : CalG l.prog w K mg base "top_levels" 3 3 ["base", "goal", "weights"] (F_top_levels cGreatest) := ok_top_levels (L2.fun_mk l5 c5 k5) (PySem.W.mg_of X G a5) C_places_of C_weight_of HC P_before P_put M_Greatest (PySem.W.mg_of X G xA) (PySem.W.mg_none_of X G z_len)
  have G_level_cover : FnG l.prog w K mg base 4 f6 _ ["base", "goal", "weights"] (spF K 3 (F_level_cover cGreatest)) := fn_level_cover (L2.fun_mk l6 c6 k6) C_top_levels C_weight_of (PySem.W.mg_none_of X G z_sorted) (PySem.W.mg_none_of X G z_set) (PySem.W.mg_none_of X G z_zip) (PySem.W.mg_none_of X G z_tuple)
  have CP_level_cover : CalPK l.prog w K mg base "level_cover" 4 3 2 ["weights"] [0, 1, 2] (F_level_cover cGreatest) := okp_level_cover (L2.fun_mk l6 c6 k6) (PySem.W.mg_of X G a6) G_level_cover
  have CD_level_cover : CalD l.prog w K mg base "level_cover" 4 3 ["base", "goal", "weights"] [.non] [.non] (F_level_cover cGreatest) := okd_level_cover (funD_mk l6 c6 k6 (by intro q hq; simp only [List.mem_cons, List.not_mem_nil, or_false] at hq; rcases hq with rfl; exact ⟨_, d6weights, rfl⟩)) (PySem.W.mg_of X G a6) G_level_cover reps_n
  have C_law_tape : CalG l.prog w K mg base "_law_tape" 1 2 ["script", "start"] F_law_tape := ok_law_tape (L2.fun_mk l7 c7 k7) (PySem.W.mg_of X G a7) (PySem.W.mg_none_of X G z_len)
  have C_law_pick : CalG l.prog w K mg base "_law_pick" 1 2 ["tape", "size"] F_law_pick := ok_law_pick (L2.fun_mk l8 c8 k8) (PySem.W.mg_of X G a8)
  have C_law_one_of : CalG l.prog w K mg base "_law_one_of" 2 2 ["tape", "items"] F_law_one_of := ok_law_one_of (L2.fun_mk l9 c9 k9) (PySem.W.mg_of X G a9) C_law_pick (PySem.W.mg_none_of X G z_len)
  have C_law_shuffled : CalG l.prog w K mg base "_law_shuffled" 2 2 ["tape", "ids"] F_law_shuffled := ok_law_shuffled (L2.fun_mk l10 c10 k10) (PySem.W.mg_of X G a10) C_law_pick (PySem.W.mg_none_of X G z_list) (PySem.W.mg_none_of X G z_len)
  have C_law_ids : CalG l.prog w K mg base "_law_ids" 3 2 ["tape", "size"] F_law_ids := ok_law_ids (L2.fun_mk l11 c11 k11) (PySem.W.mg_of X G a11) C_law_one_of C_law_shuffled (PySem.W.mg_none_of X G z_range)
  have C_law_goal : CalG l.prog w K mg base "_law_goal" 3 2 ["tape", "base"] F_law_goal := ok_law_goal (L2.fun_mk l12 c12 k12) (PySem.W.mg_of X G a12) C_law_pick C_law_shuffled (PySem.W.mg_none_of X G z_list) (PySem.W.mg_none_of X G z_range) (PySem.W.mg_none_of X G z_len)
  have C_law_loads : CalG l.prog w K mg base "_law_loads" 3 3 ["tape", "base", "most"] F_law_loads := ok_law_loads (L2.fun_mk l13 c13 k13) (PySem.W.mg_of X G a13) C_law_pick C_law_one_of
  have C_law_load : CalG l.prog w K mg base "_law_load" 1 2 ["loads", "row_id"] F_law_load := ok_law_load (L2.fun_mk l14 c14 k14) (PySem.W.mg_of X G a14)
  have C_law_tops : CalG l.prog w K mg base "_law_tops" 2 3 ["base", "goal", "loads"] F_law_tops := ok_law_tops (L2.fun_mk l15 c15 k15) (PySem.W.mg_of X G a15) C_law_load (PySem.W.mg_none_of X G z_enumerate) (PySem.W.mg_none_of X G z_max)
  have C_law_cover : CalG l.prog w K mg base "_law_cover" 3 3 ["base", "goal", "loads"] F_law_cover := ok_law_cover (L2.fun_mk l16 c16 k16) (PySem.W.mg_of X G a16) C_law_tops C_law_load (PySem.W.mg_none_of X G z_range) (PySem.W.mg_none_of X G z_max) (PySem.W.mg_none_of X G z_list) (PySem.W.mg_none_of X G z_tuple)
  exact law_fn (L2.fun_mk l17 c17 k17) C_law_tape C_law_ids C_law_pick C_law_loads C_law_goal C_law_cover C_law_one_of C_law_load CP_level_cover CD_level_cover (PySem.W.mg_none_of X G z_range) (PySem.W.mg_none_of X G z_max) (PySem.W.mg_none_of X G z_min) (PySem.W.mg_none_of X G z_len) (PySem.W.mg_none_of X G z_repr) (PySem.W.mg_none_of X G z_isinstance) (PySem.W.mg_none_of X G z_list) (PySem.W.mg_none_of X G z_dict) i_list (v := .ref a) e0 (.of_eq rfl) rfl (law_end hS ht)
end K12
open PySem PySem.W PyProof.Rows
set_option maxHeartbeats 0 in
theorem PySem.Challenge.cw_handsorted_k12_level_covers_holds : PySem.Challenge.rw_handsorted_k12_level_covers.Holds := by
  w_on; o_law; k_head; (case hw => w_witness2)
  k_fill
  refine O.walk_law (l := PySem.Challenge.rw_handsorted_k12_level_covers) (n := 63) rfl (by decide) rfl (fun w h Y => PySem.W.kIn_of Y) ?F
  case F =>
    intro w mg fa h KX G hmg s base H a ns hl hb e0 hS
    replace hmg : mg "law" = some (.ref fa) := hmg
    refine' K12.all_mk KX G hmg ?xA ?pg ?hd ?po ?sa ?mk ?kc ?n_least ?n_nodes ?a0 ?i0 ?l0 ?c0 ?k0 ?a1 ?i1 ?l1 ?c1 ?k1 ?a2 ?i2 ?l2 ?c2 ?k2 ?a3 ?l3 ?c3 ?k3 ?a4 ?l4 ?c4 ?k4 ?a5 ?l5 ?c5 ?k5 ?a6 ?l6 ?c6 ?k6 ?a7 ?l7 ?c7 ?k7 ?a8 ?l8 ?c8 ?k8 ?a9 ?l9 ?c9 ?k9 ?a10 ?l10 ?c10 ?k10 ?a11 ?l11 ?c11 ?k11 ?a12 ?l12 ?c12 ?k12 ?a13 ?l13 ?c13 ?k13 ?a14 ?l14 ?c14 ?k14 ?a15 ?l15 ?c15 ?k15 ?a16 ?l16 ?c16 ?k16 ?a17 ?l17 ?c17 ?k17 ?d6weights ?z_len ?z_max ?z_enumerate ?z_sorted ?z_set ?z_zip ?z_tuple ?z_list ?z_range ?z_min ?z_repr ?z_isinstance ?z_dict ?i_list_NoneType ?i_list_bool ?i_list_int ?i_list_str ?i_list_tuple ?i_list_list ?i_list_dict ns (K12.law_true ns hl hb) s base H a e0 hS
    (case xA => k_is)
    (case pg => k_is)
    (case hd => k_is)
    (case po => k_is)
    (case sa => k_is)
    (case mk => k_is)
    (case kc => k_is)
    (case n_least => k_is)
    (case n_nodes => k_is)
    (case a0 => k_is)
    (case i0 => k_is)
    (case l0 => k_is)
    (case c0 => k_is)
    (case k0 => k_is)
    (case a1 => k_is)
    (case i1 => k_is)
    (case l1 => k_is)
    (case c1 => k_is)
    (case k1 => k_is)
    (case a2 => k_is)
    (case i2 => k_is)
    (case l2 => k_is)
    (case c2 => k_is)
    (case k2 => k_is)
    (case a3 => k_is)
    (case l3 => k_is)
    (case c3 => k_is)
    (case k3 => k_is)
    (case a4 => k_is)
    (case l4 => k_is)
    (case c4 => k_is)
    (case k4 => k_is)
    (case a5 => k_is)
    (case l5 => k_is)
    (case c5 => k_is)
    (case k5 => k_is)
    (case a6 => k_is)
    (case l6 => k_is)
    (case c6 => k_is)
    (case k6 => k_is)
    (case a7 => k_is)
    (case l7 => k_is)
    (case c7 => k_is)
    (case k7 => k_is)
    (case a8 => k_is)
    (case l8 => k_is)
    (case c8 => k_is)
    (case k8 => k_is)
    (case a9 => k_is)
    (case l9 => k_is)
    (case c9 => k_is)
    (case k9 => k_is)
    (case a10 => k_is)
    (case l10 => k_is)
    (case c10 => k_is)
    (case k10 => k_is)
    (case a11 => k_is)
    (case l11 => k_is)
    (case c11 => k_is)
    (case k11 => k_is)
    (case a12 => k_is)
    (case l12 => k_is)
    (case c12 => k_is)
    (case k12 => k_is)
    (case a13 => k_is)
    (case l13 => k_is)
    (case c13 => k_is)
    (case k13 => k_is)
    (case a14 => k_is)
    (case l14 => k_is)
    (case c14 => k_is)
    (case k14 => k_is)
    (case a15 => k_is)
    (case l15 => k_is)
    (case c15 => k_is)
    (case k15 => k_is)
    (case a16 => k_is)
    (case l16 => k_is)
    (case c16 => k_is)
    (case k16 => k_is)
    (case a17 => k_is)
    (case l17 => k_is)
    (case c17 => k_is)
    (case k17 => k_is)
    (case d6weights => k_is)
    (case z_len => k_is)
    (case z_max => k_is)
    (case z_enumerate => k_is)
    (case z_sorted => k_is)
    (case z_set => k_is)
    (case z_zip => k_is)
    (case z_tuple => k_is)
    (case z_list => k_is)
    (case z_range => k_is)
    (case z_min => k_is)
    (case z_repr => k_is)
    (case z_isinstance => k_is)
    (case z_dict => k_is)
    (case i_list_NoneType => kit_is)
    (case i_list_bool => kit_is)
    (case i_list_int => kit_is)
    (case i_list_str => kit_is)
    (case i_list_tuple => kit_is)
    (case i_list_list => kit_is)
    (case i_list_dict => kit_is)

