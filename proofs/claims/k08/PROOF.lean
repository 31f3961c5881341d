import PyProof.Rows.All
import Wide.All
import OpenK.AllK
import Wide.FinOn
import HandS.ForMost
import HandS.ForExc
import HandS.CallSlots
import HandS.Style
import HandS.TupAny
import HandS.Wide
import HandS.WideBits
import HandS.IsInst
import HandS.NoneIn
import HandS.Walk
import HandS.SortInts
import HandS.SetFor
import HandS.TupSets
import HandS.ExcOwn
import HandS.WordsExc
import HandS.EndBits
import HandS.TupLe
import HandS.Flow
import HandS.Conv
import HandS.Iter
import HandS.SortOrd
import HandS.Zip
import HandS.ExcInit
import HandS.ExcField
import HandS.Star
import HandS.GenOver
import HandS.Call
import PySem.Challenge.RW_handsorted_k08_arguments_by_name
set_option Elab.async false
set_option linter.all false
set_option maxRecDepth 100000
set_option maxHeartbeats 1000000
/-! Own1: plain data, ownership, the state's invariant, evaluators and their soundness -/
namespace O
open PySem

/-- plain data -/
inductive D where
  | non
  | bl (b : Bool)
  | int (i : Int)
  | str (x : Str)
  | tup (ds : List D)
  | lst (ds : List D)
  | dic (kvs : List (L2.Key × D))
  | set (xs : List Int)
  | scr (ns : List Int)
  | dlk (kvs : List (L2.Key × D))
/-- what a name owns -/
inductive OD where
  | fz (d : D)
  | lst (ds : List D)
  | dic (kvs : List (L2.Key × D))
  | ins (C : Addr) (fs : List (Str × OD))
def OD.top : OD → Option D
  | .fz d => some d
  | .lst ds => some (.lst ds)
  | .dic kvs => some (.dic kvs)
  | .ins _ _ => none

open L2 (V Hp HO Rd SqL SqT upd upd_same upd_ne ne_of ne_of_none TE TT TA TS VK XK Ends St)

mutual
inductive Rep (K : PySem.W.Frag) (H : Hp) : D → V → Prop
  | non : Rep K H .non .non
  | bl (b : Bool) : Rep K H (.bl b) (.bl b)
  | int (i : Int) : Rep K H (.int i) (.int i)
  | str (x : Str) : Rep K H (.str x) (.str x)
  | tup {a : Addr} {vs : List V} {ds : List D} : SqT K H a vs → Reps K H ds vs → Rep K H (.tup ds) (.ref a)
  | lst {a : Addr} {vs : List V} {ds : List D} : Rd H a (.lst vs) → Reps K H ds vs → Rep K H (.lst ds) (.ref a)
  | scr {a : Addr} {ns : List Int} : SqL K H a (ns.map V.int) → Rep K H (.scr ns) (.ref a)
  | dic {a : Addr} {kws : List (L2.Key × V)} {kvs : List (L2.Key × D)} : Rd H a (.dK kws) → Repk K H kvs kws → Rep K H (.dic kvs) (.ref a)
  | dlk {a : Addr} {o : Obj} {kws : List (L2.Key × V)} {kvs : List (L2.Key × D)} : H a = some (.frz o (.dK kws)) → Repk K H kvs kws → Rep K H (.dlk kvs) (.ref a)
inductive Reps (K : PySem.W.Frag) (H : Hp) : List D → List V → Prop
  | nil : Reps K H [] []
  | cons {d : D} {v : V} {ds : List D} {vs : List V} : Rep K H d v → Reps K H ds vs → Reps K H (d :: ds) (v :: vs)
inductive Repk (K : PySem.W.Frag) (H : Hp) : List (L2.Key × D) → List (L2.Key × V) → Prop
  | nil : Repk K H [] []
  | cons {k : L2.Key} {d : D} {v : V} {kvs : List (L2.Key × D)} {kws : List (L2.Key × V)} : Rep K H d v → Repk K H kvs kws → Repk K H ((k, d) :: kvs) ((k, v) :: kws)
end

/-- what can be read may still be read -/
structure Le (H H' : Hp) : Prop where
  rd : ∀ a u, Rd H a u → Rd H' a u
  fr : ∀ a o u, H a = some (.frz o u) → H' a = some (.frz o u)
instance {H H' : Hp} : CoeFun (Le H H') (fun _ => ∀ a u, Rd H a u → Rd H' a u) := ⟨Le.rd⟩
theorem Le.refl (H : Hp) : Le H H := ⟨fun _ _ h => h, fun _ _ _ h => h⟩
theorem Le.trans {H H1 H2 : Hp} (a : Le H H1) (b : Le H1 H2) : Le H H2 := ⟨fun x u h => b x u (a x u h), fun x o u h => b.fr x o u (a.fr x o u h)⟩
theorem Le.ne {H H' : Hp} (l : Le H H') {b : Addr} (h : H b ≠ none) : H' b ≠ none := by
  cases e : H b with
  | none => exact absurd e h
  | some o =>
    rcases l b o (Or.inl e) with q | ⟨u, q⟩ <;> rw [q] <;> intro z <;> cases z
theorem Le.noneB {H H' : Hp} (l : Le H H') {b : Addr} (h : H' b = none) : H b = none := by
  cases e : H b with
  | none => rfl
  | some o => exact absurd h (l.ne (by rw [e]; intro z; cases z))
theorem Le.of_ext {H H' : Hp} (e : ∀ b o, H b = some o → H' b = some o) : Le H H' := ⟨fun a u h => by
  rcases h with h | ⟨o, h⟩
  · exact Or.inl (e _ _ h)
  · exact Or.inr ⟨o, e _ _ h⟩, fun a o u h => e a _ h⟩
theorem Le.upd_new {H : Hp} {p : Addr} {o : HO} (h : H p = none) : Le H (upd H p o) := .of_ext fun b u e => by
  rw [upd_ne (ne_of_none e h)]; exact e
theorem Le.sqL {K : PySem.W.Frag} {H H' : Hp} {a : Addr} {xs : List V} (l : Le H H') (h : SqL K H a xs) : SqL K H' a xs := by
  rcases h with h | h
  · exact Or.inl (l _ _ h)
  · exact Or.inr h
theorem Le.sqT {K : PySem.W.Frag} {H H' : Hp} {a : Addr} {xs : List V} (l : Le H H') (h : SqT K H a xs) : SqT K H' a xs := by
  rcases h with h | h
  · exact Or.inl (l _ _ h)
  · exact Or.inr h
mutual
theorem Rep.mono {K : PySem.W.Frag} {H H' : Hp} (l : Le H H') : ∀ {d : D} {v : V}, Rep K H d v → Rep K H' d v
  | _, _, .non => .non
  | _, _, .bl b => .bl b
  | _, _, .int i => .int i
  | _, _, .str x => .str x
  | _, _, .tup h r => .tup (l.sqT h) (Reps.mono l r)
  | _, _, .lst h r => .lst (l _ _ h) (Reps.mono l r)
  | _, _, .scr h => .scr (l.sqL h)
  | _, _, .dic h r => .dic (l _ _ h) (Repk.mono l r)
  | _, _, .dlk h r => .dlk (l.fr _ _ _ h) (Repk.mono l r)
theorem Reps.mono {K : PySem.W.Frag} {H H' : Hp} (l : Le H H') : ∀ {ds : List D} {vs : List V}, Reps K H ds vs → Reps K H' ds vs
  | _, _, .nil => .nil
  | _, _, .cons h r => .cons (Rep.mono l h) (Reps.mono l r)
theorem Repk.mono {K : PySem.W.Frag} {H H' : Hp} (l : Le H H') : ∀ {ds : List (L2.Key × D)} {vs : List (L2.Key × V)}, Repk K H ds vs → Repk K H' ds vs
  | _, _, .nil => .nil
  | _, _, .cons h r => .cons (Rep.mono l h) (Repk.mono l r)
end
section
variable {K : PySem.W.Frag} {H : Hp}
theorem Reps.length : ∀ {ds : List D} {vs : List V}, Reps K H ds vs → vs.length = ds.length
  | _, _, .nil => rfl
  | _, _, .cons _ r => by simp [Reps.length r]
theorem Repk.length : ∀ {ds : List (L2.Key × D)} {vs : List (L2.Key × V)}, Repk K H ds vs → vs.length = ds.length
  | _, _, .nil => rfl
  | _, _, .cons _ r => by simp [Repk.length r]
theorem Reps.get : ∀ {ds : List D} {vs : List V} {i : Nat} {d : D}, Reps K H ds vs → ds[i]? = some d → ∃ v, vs[i]? = some v ∧ Rep K H d v
  | _, _, _, _, .nil, e => by simp at e
  | _, _, 0, _, .cons h _, e => by simp at e; subst e; exact ⟨_, rfl, h⟩
  | _, _, i + 1, _, .cons _ r, e => by
    obtain ⟨v, q, h⟩ := Reps.get (i := i) r (by simpa using e)
    exact ⟨v, by simpa using q, h⟩
theorem Reps.get' : ∀ {ds : List D} {vs : List V} {i : Nat} {v : V}, Reps K H ds vs → vs[i]? = some v → ∃ d, ds[i]? = some d ∧ Rep K H d v
  | _, _, _, _, .nil, e => by simp at e
  | _, _, 0, _, .cons h _, e => by simp at e; subst e; exact ⟨_, rfl, h⟩
  | _, _, i + 1, _, .cons _ r, e => by
    obtain ⟨v, q, h⟩ := Reps.get' (i := i) r (by simpa using e)
    exact ⟨v, by simpa using q, h⟩
theorem Reps.append : ∀ {ds es : List D} {vs ws : List V}, Reps K H ds vs → Reps K H es ws → Reps K H (ds ++ es) (vs ++ ws)
  | _, _, _, _, .nil, s => s
  | _, _, _, _, .cons h r, s => .cons h (Reps.append r s)
theorem Reps.take : ∀ {ds : List D} {vs : List V} (n : Nat), Reps K H ds vs → Reps K H (ds.take n) (vs.take n)
  | _, _, 0, _ => by simp; exact .nil
  | _, _, n + 1, .nil => .nil
  | _, _, n + 1, .cons h r => .cons h (Reps.take n r)
theorem Reps.drop : ∀ {ds : List D} {vs : List V} (n : Nat), Reps K H ds vs → Reps K H (ds.drop n) (vs.drop n)
  | _, _, 0, r => r
  | _, _, n + 1, .nil => .nil
  | _, _, n + 1, .cons h r => Reps.drop n r
theorem Reps.reverse {ds : List D} {vs : List V} (r : Reps K H ds vs) : Reps K H ds.reverse vs.reverse := by
  induction ds generalizing vs with
  | nil => cases r; exact .nil
  | cons d ds ih =>
    cases r with
    | cons h r => rw [List.reverse_cons, List.reverse_cons]; exact (ih r).append (.cons h .nil)
theorem Reps.set : ∀ {ds : List D} {vs : List V} (n : Nat) {d : D} {v : V}, Reps K H ds vs → Rep K H d v → Reps K H (ds.set n d) (vs.set n v)
  | _, _, _, _, _, .nil, _ => .nil
  | _, _, 0, _, _, .cons _ r, q => .cons q r
  | _, _, n + 1, _, _, .cons h r, q => .cons h (Reps.set n r q)
theorem Reps.insertIdx : ∀ {ds : List D} {vs : List V} (n : Nat) {d : D} {v : V}, Reps K H ds vs → Rep K H d v → Reps K H (ds.insertIdx n d) (vs.insertIdx n v)
  | _, _, 0, _, _, r, q => .cons q r
  | _, _, n + 1, _, _, .nil, q => .nil
  | _, _, n + 1, _, _, .cons h r, q => .cons h (Reps.insertIdx n r q)
theorem Reps.eraseIdx : ∀ {ds : List D} {vs : List V} (n : Nat), Reps K H ds vs → Reps K H (ds.eraseIdx n) (vs.eraseIdx n)
  | _, _, _, .nil => by simp; exact .nil
  | _, _, 0, .cons h r => r
  | _, _, n + 1, .cons h r => .cons h (Reps.eraseIdx n r)
end

/-- the top object stands in H, its parts in Hd -/
inductive Top (K : PySem.W.Frag) (Hd H : Hp) : D → V → Prop
  | rep {d : D} {v : V} : Rep K Hd d v → Top K Hd H d v
  | lst {a : Addr} {vs : List V} {ds : List D} : Rd H a (.lst vs) → Reps K Hd ds vs → Top K Hd H (.lst ds) (.ref a)
  | dic {a : Addr} {kws : List (L2.Key × V)} {kvs : List (L2.Key × D)} : Rd H a (.dK kws) → Repk K Hd kvs kws → Top K Hd H (.dic kvs) (.ref a)
theorem Top.all {K : PySem.W.Frag} {Hd H : Hp} {d : D} {v : V} (l : Le Hd H) (t : Top K Hd H d v) : Rep K H d v := by
  cases t with
  | rep r => exact r.mono l
  | lst h r => exact .lst h (r.mono l)
  | dic h r => exact .dic h (r.mono l)
theorem Top.lstD {K : PySem.W.Frag} {Hd H : Hp} {ds : List D} {v : V} (l : Le Hd H) (t : Top K Hd H (.lst ds) v) : ∃ a vs, v = .ref a ∧ Rd H a (.lst vs) ∧ Reps K Hd ds vs := by
  cases t with
  | rep r => cases r with | lst h r => exact ⟨_, _, rfl, l _ _ h, r⟩
  | lst h r => exact ⟨_, _, rfl, h, r⟩
theorem Top.scrD {K : PySem.W.Frag} {Hd H : Hp} {ns : List Int} {v : V} (l : Le Hd H) (t : Top K Hd H (.scr ns) v) : ∃ a, v = .ref a ∧ SqL K H a (ns.map V.int) := by
  cases t with
  | rep r => cases r with | scr h => exact ⟨_, rfl, l.sqL h⟩
theorem Top.tupD {K : PySem.W.Frag} {Hd H : Hp} {ds : List D} {v : V} (l : Le Hd H) (t : Top K Hd H (.tup ds) v) : ∃ a vs, v = .ref a ∧ SqT K H a vs ∧ Reps K Hd ds vs := by
  cases t with
  | rep r => cases r with | tup h r => exact ⟨_, _, rfl, l.sqT h, r⟩
theorem Top.dicD {K : PySem.W.Frag} {Hd H : Hp} {kvs : List (L2.Key × D)} {v : V} (l : Le Hd H) (t : Top K Hd H (.dic kvs) v) : ∃ a kws, v = .ref a ∧ Rd H a (.dK kws) ∧ Repk K Hd kvs kws := by
  cases t with
  | rep r => cases r with | dic h r => exact ⟨_, _, rfl, l _ _ h, r⟩
  | dic h r => exact ⟨_, _, rfl, h, r⟩
theorem Top.dlkD {K : PySem.W.Frag} {Hd H : Hp} {kvs : List (L2.Key × D)} {v : V} (l : Le Hd H) (t : Top K Hd H (.dlk kvs) v) : ∃ a o kws, v = .ref a ∧ H a = some (.frz o (.dK kws)) ∧ Repk K Hd kvs kws := by
  cases t with
  | rep r => cases r with | dlk h r => exact ⟨_, _, _, rfl, l.fr _ _ _ h, r⟩
theorem Top.intD {K : PySem.W.Frag} {Hd H : Hp} {i : Int} {v : V} (t : Top K Hd H (.int i) v) : v = .int i := by
  cases t with | rep r => cases r; rfl
theorem Top.blD {K : PySem.W.Frag} {Hd H : Hp} {i : Bool} {v : V} (t : Top K Hd H (.bl i) v) : v = .bl i := by
  cases t with | rep r => cases r; rfl
theorem Top.strD {K : PySem.W.Frag} {Hd H : Hp} {i : Str} {v : V} (t : Top K Hd H (.str i) v) : v = .str i := by
  cases t with | rep r => cases r; rfl
theorem Top.nonD {K : PySem.W.Frag} {Hd H : Hp} {v : V} (t : Top K Hd H .non v) : v = .non := by
  cases t with | rep r => cases r; rfl

mutual
inductive Own (K : PySem.W.Frag) (Hd H : Hp) : OD → V → List Addr → Prop
  | fz {d : D} {v : V} : Rep K Hd d v → Own K Hd H (.fz d) v []
  | lst {a : Addr} {vs : List V} {ds : List D} : H a = some (.lst vs) → Reps K Hd ds vs → Own K Hd H (.lst ds) (.ref a) [a]
  | dic {a : Addr} {kws : List (L2.Key × V)} {kvs : List (L2.Key × D)} : H a = some (.dK kws) → Repk K Hd kvs kws → Own K Hd H (.dic kvs) (.ref a) [a]
  | ins {a C dx : Addr} {gs : List (Str × V)} {fs : List (Str × OD)} {A : List Addr} : H a = some (.ins C dx gs) → H dx = some (.own a) → Owns K Hd H fs gs A → Own K Hd H (.ins C fs) (.ref a) (a :: dx :: A)
inductive Owns (K : PySem.W.Frag) (Hd H : Hp) : List (Str × OD) → List (Str × V) → List Addr → Prop
  | nil : Owns K Hd H [] [] []
  | cons {f : Str} {o : OD} {v : V} {A B : List Addr} {fs : List (Str × OD)} {gs : List (Str × V)} : Own K Hd H o v A → Owns K Hd H fs gs B → Owns K Hd H ((f, o) :: fs) ((f, v) :: gs) (A ++ B)
end
mutual
theorem Own.frame {K : PySem.W.Frag} {Hd H Hd' H' : Hp} (l : Le Hd Hd') : ∀ {o : OD} {v : V} {A : List Addr}, Own K Hd H o v A → (∀ a ∈ A, ∀ u, H a = some u → H' a = some u) → Own K Hd' H' o v A
  | _, _, _, .fz r, _ => .fz (r.mono l)
  | _, _, _, .lst h r, k => .lst (k _ (by simp) _ h) (r.mono l)
  | _, _, _, .dic h r, k => .dic (k _ (by simp) _ h) (r.mono l)
  | _, _, _, .ins h h' r, k => .ins (k _ (by simp) _ h) (k _ (by simp) _ h') (Owns.frame l r fun a ha => k a (by simp [ha]))
theorem Owns.frame {K : PySem.W.Frag} {Hd H Hd' H' : Hp} (l : Le Hd Hd') : ∀ {fs : List (Str × OD)} {gs : List (Str × V)} {A : List Addr}, Owns K Hd H fs gs A → (∀ a ∈ A, ∀ u, H a = some u → H' a = some u) → Owns K Hd' H' fs gs A
  | _, _, _, .nil, _ => .nil
  | _, _, _, .cons h r, k => .cons (Own.frame l h fun a ha => k a (by simp [ha])) (Owns.frame l r fun a ha => k a (by simp [ha]))
end
mutual
theorem Own.there {K : PySem.W.Frag} {Hd H : Hp} : ∀ {o : OD} {v : V} {A : List Addr}, Own K Hd H o v A → ∀ a ∈ A, H a ≠ none
  | _, _, _, .fz _, _, h => by simp at h
  | _, _, _, .lst e _, a, h => by simp at h; subst h; rw [e]; intro z; cases z
  | _, _, _, .dic e _, a, h => by simp at h; subst h; rw [e]; intro z; cases z
  | _, _, _, .ins e e' r, a, h => by
    rcases List.mem_cons.mp h with rfl | h
    · rw [e]; intro z; cases z
    · rcases List.mem_cons.mp h with rfl | h
      · rw [e']; intro z; cases z
      · exact Owns.there r a h
theorem Owns.there {K : PySem.W.Frag} {Hd H : Hp} : ∀ {fs : List (Str × OD)} {gs : List (Str × V)} {A : List Addr}, Owns K Hd H fs gs A → ∀ a ∈ A, H a ≠ none
  | _, _, _, .nil, _, h => by simp at h
  | _, _, _, .cons q r, a, h => by
    rcases List.mem_append.mp h with h | h
    · exact Own.there q a h
    · exact Owns.there r a h
end
theorem Own.topD {K : PySem.W.Frag} {Hd H : Hp} {o : OD} {v : V} {A : List Addr} {d : D} (h : Own K Hd H o v A) (e : o.top = some d) : Top K Hd H d v := by
  cases h with
  | fz r => cases e; exact .rep r
  | lst h r => cases e; exact .lst (.inl h) r
  | dic h r => cases e; exact .dic (.inl h) r
  | ins _ _ _ => cases e

/-! ### the state -/
inductive Sl where
  | un | sh (d : D) | br (d : D) | ow (o : OD) | io (o : OD)
abbrev Env := List Sl
inductive RV where
  | val (d : D) | own (o : OD) | bor (i : Nat)
structure Exc where
  cls : Value
  fs : Option (List (Str × D))
inductive Res (α : Type) where
  | ok (a : α) (ρ : Env) | ex (e : Exc) (ρ : Env) | no
def Res.bind {α β : Type} (x : Res α) (f : α → Env → Res β) : Res β :=
  match x with
  | .ok a ρ => f a ρ
  | .ex e ρ => .ex e ρ
  | .no => .no
structure Cn where
  H0 : Hp
  Hd0 : Hp
  M : Nat → List Addr
  io : Nat → V → Prop
abbrev Fp := Nat → List Addr

def SlotOk (K : PySem.W.Frag) (C : Cn) (Hd H : Hp) (i : Nat) (s : Sl) (ov : Option (Option V)) (A : List Addr) : Prop :=
  match s with
  | .un => A = []
  | .sh d => A = [] ∧ ∃ v, ov = some (some v) ∧ Rep K Hd d v
  | .br d => A = [] ∧ ∃ v, ov = some (some v) ∧ Top K C.Hd0 C.H0 d v ∧ (Rep K C.Hd0 d v ∨ ∀ a, v = .ref a → ∀ i, a ∉ C.M i)
  | .ow o => ∃ v, ov = some (some v) ∧ Own K Hd H o v A ∧ A.Nodup ∧ ∀ a ∈ A, Hd a = none ∧ C.H0 a = none
  | .io o => ∃ v, ov = some (some v) ∧ Own K Hd H o v A ∧ A.Nodup ∧ (∀ a ∈ A, Hd a = none ∧ (a ∈ C.M i ∨ C.H0 a = none)) ∧ C.io i v

structure Inv (K : PySem.W.Frag) (C : Cn) (fp : Fp) (Hd H : Hp) (σ : St) (ρ : Env) : Prop where
  le : Le Hd H
  hd0 : Le C.Hd0 Hd
  keep : ∀ b o, C.H0 b = some o → (∀ i, b ∉ C.M i) → H b = some o
  dom : ∀ b, C.H0 b ≠ none → H b ≠ none
  fresh : ∀ b, Hd b ≠ none → C.Hd0 b ≠ none ∨ C.H0 b = none
  len : σ.length = ρ.length
  slot : ∀ i s, ρ[i]? = some s → SlotOk K C Hd H i s σ[i]? (fp i)
  out : ∀ i, ρ.length ≤ i → fp i = []
  dis : ∀ i j a, a ∈ fp i → a ∈ fp j → i = j
/-- a step of the state -/
structure Stp (fp : Fp) (Hd H : Hp) (fp' : Fp) (Hd' H' : Hp) : Prop where
  hd : Le Hd Hd'
  fr : ∀ b, Hd' b ≠ none → Hd b ≠ none ∨ H b = none ∨ ∃ i, b ∈ fp i
  keep : ∀ b o, H b = some o → (∀ i, b ∉ fp i) → H' b = some o
  dom : ∀ b, H b ≠ none → H' b ≠ none
  fpx : ∀ i b, b ∈ fp' i → (∃ j, b ∈ fp j) ∨ H b = none
theorem Stp.refl (fp : Fp) (Hd H : Hp) : Stp fp Hd H fp Hd H := ⟨.refl _, fun _ h => .inl h, fun _ _ h _ => h, fun _ h => h, fun i _ h => .inl ⟨i, h⟩⟩
theorem none_back {H H' : Hp} (d : ∀ b, H b ≠ none → H' b ≠ none) {b : Addr} (h : H' b = none) : H b = none := by
  cases e : H b with
  | none => rfl
  | some o => exact absurd h (d b (by rw [e]; intro z; cases z))
theorem Stp.trans {fp fp1 fp2 : Fp} {Hd H Hd1 H1 Hd2 H2 : Hp} (a : Stp fp Hd H fp1 Hd1 H1) (b : Stp fp1 Hd1 H1 fp2 Hd2 H2) : Stp fp Hd H fp2 Hd2 H2 where
  hd := a.hd.trans b.hd
  fr := fun x h => by
    rcases b.fr x h with h | h | ⟨i, h⟩
    · exact a.fr x h
    · exact .inr (.inl (none_back a.dom h))
    · rcases a.fpx i x h with q | q
      · exact .inr (.inr q)
      · exact .inr (.inl q)
  keep := fun x o h n => b.keep x o (a.keep x o h n) fun i hi => by
    rcases a.fpx i x hi with ⟨j, hj⟩ | q
    · exact n j hj
    · rw [q] at h; cases h
  dom := fun x h => b.dom x (a.dom x h)
  fpx := fun i x h => by
    rcases b.fpx i x h with ⟨j, hj⟩ | q
    · exact a.fpx j x hj
    · exact .inr (none_back a.dom q)

/-- an owned value by itself -/
def Loose (K : PySem.W.Frag) (C : Cn) (fp : Fp) (Hd H : Hp) (o : OD) (v : V) : Prop :=
  ∃ A, Own K Hd H o v A ∧ A.Nodup ∧ ∀ a ∈ A, Hd a = none ∧ C.H0 a = none ∧ ∀ i, a ∉ fp i
def RVal (K : PySem.W.Frag) (C : Cn) (fp : Fp) (Hd H : Hp) (σ : St) (r : RV) (v : V) : Prop :=
  match r with
  | .val d => Rep K Hd d v
  | .own o => Loose K C fp Hd H o v
  | .bor i => σ[i]? = some (some v)
theorem Loose.stp {K : PySem.W.Frag} {C : Cn} {fp fp' : Fp} {Hd H Hd' H' : Hp} {o : OD} {v : V} (s : Stp fp Hd H fp' Hd' H') (h : Loose K C fp Hd H o v) : Loose K C fp' Hd' H' o v := by
  obtain ⟨A, ow, nd, f⟩ := h
  refine ⟨A, ow.frame s.hd fun a ha u e => s.keep a u e (f a ha).2.2, nd, fun a ha => ⟨?_, (f a ha).2.1, fun i hi => ?_⟩⟩
  · cases e : Hd' a with
    | none => rfl
    | some u =>
      rcases s.fr a (by rw [e]; intro z; cases z) with q | q | ⟨i, q⟩
      · exact absurd (f a ha).1 q
      · exact absurd q (ow.there a ha)
      · exact absurd q ((f a ha).2.2 i)
  · rcases s.fpx i a hi with ⟨j, hj⟩ | q
    · exact (f a ha).2.2 j hj
    · exact ow.there a ha q
theorem RVal.stp {K : PySem.W.Frag} {C : Cn} {fp fp' : Fp} {Hd H Hd' H' : Hp} {σ : St} {r : RV} {v : V} (s : Stp fp Hd H fp' Hd' H') (h : RVal K C fp Hd H σ r v) : RVal K C fp' Hd' H' σ r v := by
  cases r with
  | val d => exact Rep.mono s.hd h
  | own o => exact Loose.stp s h
  | bor i => exact h
/-- an exception's dict -/
inductive ExAt (K : PySem.W.Frag) (Hd H : Hp) : Exc → Option Addr → Prop
  | none {c : Value} : ExAt K Hd H ⟨c, none⟩ none
  | some {c : Value} {fs : List (Str × D)} {gs : List (Str × V)} {a : Addr} : H a = some (.xd gs) → gs.map (·.1) = fs.map (·.1) → Reps K Hd (fs.map (·.2)) (gs.map (·.2)) → ExAt K Hd H ⟨c, some fs⟩ (some a)

/-! ### soundness -/
/-- what is known of an answer: Hs the heap ahead of the run -/
structure Rel (α β : Type) where
  r : Cn → Hp → Fp → Hp → Hp → St → α → β → Prop
  back : ∀ {C : Cn} {Hs Hs' : Hp} {fp : Fp} {Hd H : Hp} {σ : St} {a : α} {b : β}, (∀ x, Hs x ≠ none → Hs' x ≠ none) → r C Hs' fp Hd H σ a b → r C Hs fp Hd H σ a b
/-- what stands behind a run, relative to a state -/
def Post {α β : Type} (K : PySem.W.Frag) (W : St → XK) (C : Cn) (rel : Rel α β) (fp : Fp) (Hd H : Hp) (σ : St) (x : Res α) (Q : β → Hp → Prop) : Prop :=
  match x with
  | .ok r ρ' => ∀ v fp' Hd' H', Stp fp Hd H fp' Hd' H' → Inv K C fp' Hd' H' σ ρ' → rel.r C H fp' Hd' H' σ r v → Q v H'
  | .ex c ρ' => ∀ d fp' Hd' H', Stp fp Hd H fp' Hd' H' → Inv K C fp' Hd' H' σ ρ' → ExAt K Hd' H' c d → W σ c.cls d H'
  | .no => False
def Sd {α β : Type} (K : PySem.W.Frag) (W : St → XK) (rel : Rel α β) (t : St → Hp → (β → Hp → Prop) → Prop) (f : Env → Res α) : Prop :=
  ∀ (C : Cn) (fp : Fp) (Hd H : Hp) (σ : St) (ρ : Env), Inv K C fp Hd H σ ρ → ∀ Q : β → Hp → Prop, Post K W C rel fp Hd H σ (f ρ) Q → t σ H Q
/-- a value: an owned one is new -/
def rV (K : PySem.W.Frag) : Rel RV V where
  r := fun C Hs fp Hd H σ r v => match r with
    | .val d => Rep K Hd d v
    | .own o => ∃ A, Own K Hd H o v A ∧ A.Nodup ∧ ∀ a ∈ A, Hd a = none ∧ C.H0 a = none ∧ (∀ i, a ∉ fp i) ∧ Hs a = none
    | .bor i => σ[i]? = some (some v)
  back := fun {C Hs Hs' fp Hd H σ a b} d h => by
    cases a with
    | val x => exact h
    | own o =>
      obtain ⟨A, ow, nd, f⟩ := h
      exact ⟨A, ow, nd, fun a ha => ⟨(f a ha).1, (f a ha).2.1, (f a ha).2.2.1, none_back d (f a ha).2.2.2⟩⟩
    | bor i => exact h
theorem rV_loose {K : PySem.W.Frag} {C : Cn} {Hs : Hp} {fp : Fp} {Hd H : Hp} {σ : St} {r : RV} {v : V} (h : (rV K).r C Hs fp Hd H σ r v) : RVal K C fp Hd H σ r v := by
  cases r with
  | val x => exact h
  | own o =>
    obtain ⟨A, ow, nd, f⟩ := h
    exact ⟨A, ow, nd, fun a ha => ⟨(f a ha).1, (f a ha).2.1, (f a ha).2.2.1⟩⟩
  | bor i => exact h
def rB : Rel Bool Bool := ⟨fun _ _ _ _ _ _ b b' => b' = b, fun _ h => h⟩
/-- frozen data -/
def rD (K : PySem.W.Frag) : Rel D V := ⟨fun _ _ _ Hd _ _ d v => Rep K Hd d v, fun _ h => h⟩
/-- a step ahead -/
theorem Post.stp {α β : Type} {K : PySem.W.Frag} {W : St → XK} {C : Cn} {rel : Rel α β} {fp fp' : Fp} {Hd H Hd' H' : Hp} {σ : St} {x : Res α} {Q : β → Hp → Prop}
    (s : Stp fp Hd H fp' Hd' H') (h : Post K W C rel fp Hd H σ x Q) : Post K W C rel fp' Hd' H' σ x Q := by
  cases x with
  | ok r ρ' => exact fun v fp2 Hd2 H2 s2 I2 r2 => h v fp2 Hd2 H2 (s.trans s2) I2 (rel.back s.dom r2)
  | ex c ρ' => exact fun d fp2 Hd2 H2 s2 => h d fp2 Hd2 H2 (s.trans s2)
  | no => exact h
theorem Sd.run {α α' β β' : Type} {K : PySem.W.Frag} {W : St → XK} {rel : Rel α β} {rel' : Rel α' β'} {t : St → Hp → (β → Hp → Prop) → Prop} {f : Env → Res α} {g : α → Env → Res α'} (h : Sd K W rel t f)
    {C : Cn} {fp : Fp} {Hd H : Hp} {σ : St} {ρ : Env} (I : Inv K C fp Hd H σ ρ) {Q : β' → Hp → Prop} {Q' : β → Hp → Prop} (p : Post K W C rel' fp Hd H σ ((f ρ).bind g) Q)
    (k : ∀ (r : α) (v : β) (fp1 : Fp) (Hd1 H1 : Hp) (ρ1 : Env), Stp fp Hd H fp1 Hd1 H1 → Inv K C fp1 Hd1 H1 σ ρ1 → rel.r C H fp1 Hd1 H1 σ r v → Post K W C rel' fp1 Hd1 H1 σ (g r ρ1) Q → Q' v H1) : t σ H Q' := by
  refine h C fp Hd H σ ρ I _ ?_
  cases e : f ρ with
  | ok r ρ1 =>
    have p' : Post K W C rel' fp Hd H σ (g r ρ1) Q := by
      have q := p
      simp only [e, Res.bind] at q
      exact q
    exact fun v fp1 Hd1 H1 s1 I1 r1 => k r v fp1 Hd1 H1 ρ1 s1 I1 r1 (p'.stp s1)
  | ex c ρ1 =>
    have q := p
    simp only [e, Res.bind] at q
    exact q
  | no =>
    have q := p
    simp only [e, Res.bind] at q
    exact q
theorem Sd.bind {α α' β β' : Type} {K : PySem.W.Frag} {W : St → XK} {rel : Rel α β} {rel' : Rel α' β'} {t : St → Hp → (β → Hp → Prop) → Prop} {f : Env → Res α} {k : β → St → Hp → (β' → Hp → Prop) → Prop} {g : α → Env → Res α'} (h : Sd K W rel t f)
    (hk : ∀ (C : Cn) (Hs : Hp) (fp : Fp) (Hd H : Hp) (σ : St) (ρ : Env) (r : α) (v : β), Inv K C fp Hd H σ ρ → (∀ x, Hs x ≠ none → H x ≠ none) → rel.r C Hs fp Hd H σ r v → ∀ Q : β' → Hp → Prop, Post K W C rel' fp Hd H σ (g r ρ) Q → k v σ H Q) :
    Sd K W rel' (fun σ H Q => t σ H fun v H1 => k v σ H1 Q) (fun ρ => (f ρ).bind g) := fun C fp Hd H σ ρ I Q p =>
  h.run I p fun r v fp1 Hd1 H1 ρ1 s1 I1 r1 p1 => hk C H fp1 Hd1 H1 σ ρ1 r v I1 s1.dom r1 Q p1
/-- the answer is there at once -/
theorem Post.now {α β : Type} {K : PySem.W.Frag} {W : St → XK} {C : Cn} {rel : Rel α β} {fp : Fp} {Hd H : Hp} {σ : St} {ρ : Env} {r : α} {v : β} {Q : β → Hp → Prop}
    (p : Post K W C rel fp Hd H σ (.ok r ρ) Q) (I : Inv K C fp Hd H σ ρ) (h : rel.r C H fp Hd H σ r v) : Q v H := p v fp Hd H (.refl _ _ _) I h

/-! ### reading -/
def rdS : Sl → Option D
  | .un => none
  | .sh d => some d
  | .br d => some d
  | .ow o => o.top
  | .io o => o.top
def rd (r : RV) (ρ : Env) : Option D :=
  match r with
  | .val d => some d
  | .own o => o.top
  | .bor i => match ρ[i]? with
    | some s => rdS s
    | none => none
section
variable {K : PySem.W.Frag} {C : Cn} {fp : Fp} {Hd H : Hp} {σ : St} {ρ : Env}
theorem Inv.brTop {d : D} {v : V} (I : Inv K C fp Hd H σ ρ) (t : Top K C.Hd0 C.H0 d v) (n : Rep K C.Hd0 d v ∨ ∀ a, v = .ref a → ∀ i, a ∉ C.M i) : Top K Hd H d v := by
  rcases n with n | n
  · exact .rep (n.mono I.hd0)
  have rdk : ∀ {a : Addr} {u : HO}, (∀ i, a ∉ C.M i) → Rd C.H0 a u → Rd H a u := fun {a u} na r => by
    rcases r with r | ⟨o, r⟩
    · exact .inl (I.keep _ _ r na)
    · exact .inr ⟨o, I.keep _ _ r na⟩
  cases t with
  | rep r => exact .rep (r.mono I.hd0)
  | lst h r => exact .lst (rdk (n _ rfl) h) (r.mono I.hd0)
  | dic h r => exact .dic (rdk (n _ rfl) h) (r.mono I.hd0)
theorem Inv.rdTop {r : RV} {v : V} {d : D} (I : Inv K C fp Hd H σ ρ) (h : RVal K C fp Hd H σ r v) (e : rd r ρ = some d) : Top K Hd H d v := by
  cases r with
  | val x => cases e; exact .rep h
  | own o =>
    obtain ⟨A, ow, _⟩ := h
    exact ow.topD e
  | bor i =>
    have h : σ[i]? = some (some v) := h
    simp only [rd] at e
    cases es : ρ[i]? with
    | none => rw [es] at e; cases e
    | some s =>
      rw [es] at e
      have q := I.slot i s es
      rw [h] at q
      cases s with
      | un => cases e
      | sh x =>
        cases e
        obtain ⟨_, w, ew, r⟩ := q
        cases ew
        exact .rep r
      | br x =>
        cases e
        obtain ⟨_, w, ew, t, n⟩ := q
        cases ew
        exact I.brTop t n
      | ow o =>
        obtain ⟨w, ew, ow, _⟩ := q
        cases ew
        exact ow.topD e
      | io o =>
        obtain ⟨w, ew, ow, _⟩ := q
        cases ew
        exact ow.topD e
/-- only new things -/
structure Ext (Hd H Hd' H' : Hp) : Prop where
  hd : Le Hd Hd'
  le : Le Hd' H'
  fr : ∀ b, Hd' b ≠ none → Hd b ≠ none ∨ H b = none
  keep : ∀ b o, H b = some o → H' b = some o
theorem Ext.refl (l : Le Hd H) : Ext Hd H Hd H := ⟨.refl _, l, fun _ h => .inl h, fun _ _ h => h⟩
theorem Ext.dom {Hd' H' : Hp} (x : Ext Hd H Hd' H') : ∀ b, H b ≠ none → H' b ≠ none := fun b h => by
  cases e : H b with
  | none => exact absurd e h
  | some o => rw [x.keep b o e]; intro z; cases z
theorem Ext.noneF {Hd' H' : Hp} (x : Ext Hd H Hd' H') {b : Addr} (h : Hd b = none) (h' : H b ≠ none) : Hd' b = none := by
  cases e : Hd' b with
  | none => rfl
  | some u =>
    rcases x.fr b (by rw [e]; intro z; cases z) with q | q
    · exact absurd h q
    · exact absurd q h'
theorem SlotOk.ext {Hd' H' : Hp} {i : Nat} {s : Sl} {ov : Option (Option V)} {A : List Addr} (l : Le Hd Hd') (hn : ∀ a ∈ A, Hd a = none → Hd' a = none) (k : ∀ a ∈ A, ∀ u, H a = some u → H' a = some u) (h : SlotOk K C Hd H i s ov A) : SlotOk K C Hd' H' i s ov A := by
  cases s with
  | un => exact h
  | sh d => obtain ⟨a, v, e, r⟩ := h; exact ⟨a, v, e, r.mono l⟩
  | br d => exact h
  | ow o => obtain ⟨v, e, ow, nd, f⟩ := h; exact ⟨v, e, ow.frame l k, nd, fun a ha => ⟨hn a ha (f a ha).1, (f a ha).2⟩⟩
  | io o => obtain ⟨v, e, ow, nd, f, m⟩ := h; exact ⟨v, e, ow.frame l k, nd, fun a ha => ⟨hn a ha (f a ha).1, (f a ha).2⟩, m⟩
theorem SlotOk.there {i : Nat} {s : Sl} {ov : Option (Option V)} {A : List Addr} (h : SlotOk K C Hd H i s ov A) : ∀ a ∈ A, H a ≠ none := by
  cases s with
  | un => have h : A = [] := h; subst h; intro a ha; cases ha
  | sh d => obtain ⟨h, _⟩ := h; subst h; intro a ha; cases ha
  | br d => obtain ⟨h, _⟩ := h; subst h; intro a ha; cases ha
  | ow o => obtain ⟨v, e, ow, _⟩ := h; exact ow.there
  | io o => obtain ⟨v, e, ow, _⟩ := h; exact ow.there
theorem SlotOk.hdn {i : Nat} {s : Sl} {ov : Option (Option V)} {A : List Addr} (h : SlotOk K C Hd H i s ov A) : ∀ a ∈ A, Hd a = none ∧ (a ∈ C.M i ∨ C.H0 a = none) := by
  cases s with
  | un => have h : A = [] := h; subst h; intro a ha; cases ha
  | sh d => obtain ⟨h, _⟩ := h; subst h; intro a ha; cases ha
  | br d => obtain ⟨h, _⟩ := h; subst h; intro a ha; cases ha
  | ow o => obtain ⟨v, e, ow, _, f⟩ := h; exact fun a ha => ⟨(f a ha).1, .inr (f a ha).2⟩
  | io o => obtain ⟨v, e, ow, _, f, _⟩ := h; exact f
theorem Inv.fpOk (I : Inv K C fp Hd H σ ρ) {i : Nat} {a : Addr} (h : a ∈ fp i) : H a ≠ none ∧ Hd a = none ∧ (a ∈ C.M i ∨ C.H0 a = none) := by
  by_cases hi : i < ρ.length
  · have e : ρ[i]? = some ρ[i] := by simp [hi]
    have q := I.slot i _ e
    exact ⟨q.there a h, q.hdn a h⟩
  · rw [I.out i (by omega)] at h; cases h
theorem Inv.ext {Hd' H' : Hp} (I : Inv K C fp Hd H σ ρ) (x : Ext Hd H Hd' H') : Inv K C fp Hd' H' σ ρ where
  le := x.le
  hd0 := I.hd0.trans x.hd
  keep := fun b o e n => x.keep b o (I.keep b o e n)
  dom := fun b h => x.dom b (I.dom b h)
  fresh := fun b h => by
    rcases x.fr b h with q | q
    · exact I.fresh b q
    · exact .inr (none_back I.dom q)
  len := I.len
  slot := fun i s e => (I.slot i s e).ext x.hd (fun a ha n => x.noneF n ((I.fpOk ha).1)) fun a _ u h => x.keep a u h
  out := I.out
  dis := I.dis
theorem Inv.stp {Hd' H' : Hp} (I : Inv K C fp Hd H σ ρ) (x : Ext Hd H Hd' H') : Stp fp Hd H fp Hd' H' :=
  ⟨x.hd, fun b h => (x.fr b h).imp_right .inl, fun b o h _ => x.keep b o h, x.dom, fun i _ h => .inl ⟨i, h⟩⟩
/-- a new object, loose -/
theorem ext_new {p : Addr} {o : HO} (l : Le Hd H) (h : H p = none) : Ext Hd H Hd (upd H p o) :=
  ⟨.refl _, l.trans (.upd_new h), fun _ q => .inl q, fun b u e => by rw [upd_ne (ne_of_none e h)]; exact e⟩
/-- a new object, frozen -/
theorem ext_frozen {p : Addr} {o : HO} (l : Le Hd H) (h : H p = none) : Ext Hd H (upd Hd p o) (upd H p o) :=
  ⟨.upd_new (l.noneB h), ⟨fun a u r => by
    by_cases e : a = p
    · subst e
      rcases r with r | ⟨x, r⟩
      · rw [upd_same] at r; cases r; exact .inl upd_same
      · rw [upd_same] at r; cases r; exact .inr ⟨x, upd_same⟩
    · have r' : Rd Hd a u := by
        rcases r with r | ⟨x, r⟩
        · rw [upd_ne e] at r; exact .inl r
        · rw [upd_ne e] at r; exact .inr ⟨x, r⟩
      exact (Le.upd_new h) a u (l a u r'), fun a x u r => by
    by_cases e : a = p
    · subst e
      rw [upd_same] at r ⊢
      exact r
    · rw [upd_ne e] at r ⊢
      exact l.fr a x u r⟩, fun b q => by
    by_cases e : b = p
    · subst e; exact .inr h
    · rw [upd_ne e] at q; exact .inl q, fun b u e => by rw [upd_ne (ne_of_none e h)]; exact e⟩
theorem Ext.trans {Hd1 H1 Hd2 H2 : Hp} (a : Ext Hd H Hd1 H1) (b : Ext Hd1 H1 Hd2 H2) : Ext Hd H Hd2 H2 :=
  ⟨a.hd.trans b.hd, b.le, fun x h => by
    rcases b.fr x h with q | q
    · exact a.fr x q
    · exact .inr (none_back a.dom q), fun x o h => b.keep x o (a.keep x o h)⟩
/-- what an operation hands back -/
def NewR (K : PySem.W.Frag) (Hd H : Hp) (r : RV) (v : V) (H' : Hp) : Prop :=
  ∃ Hd', Ext Hd H Hd' H' ∧ match r with
    | .val d => Rep K Hd' d v
    | .own o => ∃ A, Own K Hd' H' o v A ∧ A.Nodup ∧ ∀ a ∈ A, H a = none ∧ Hd' a = none
    | .bor _ => False
theorem NewR.at (I : Inv K C fp Hd H σ ρ) {r : RV} {v : V} {H' : Hp} (n : NewR K Hd H r v H') : ∃ Hd', Stp fp Hd H fp Hd' H' ∧ Inv K C fp Hd' H' σ ρ ∧ (rV K).r C H fp Hd' H' σ r v := by
  obtain ⟨Hd', x, h⟩ := n
  refine ⟨Hd', I.stp x, I.ext x, ?_⟩
  cases r with
  | val d => exact h
  | own o =>
    obtain ⟨A, ow, nd, f⟩ := h
    exact ⟨A, ow, nd, fun a ha => ⟨(f a ha).2, none_back I.dom (f a ha).1, fun i hi => (I.fpOk hi).1 (f a ha).1, (f a ha).1⟩⟩
  | bor i => exact h.elim
theorem Post.new {W : St → XK} {r : RV} {v : V} {H' : Hp} {Q : VK} (p : Post K W C (rV K) fp Hd H σ (.ok r ρ) Q) (I : Inv K C fp Hd H σ ρ) (n : NewR K Hd H r v H') : Q v H' := by
  obtain ⟨Hd', s, I', h⟩ := n.at I
  exact p v fp Hd' H' s I' h
theorem newR_here {d : D} {v : V} (l : Le Hd H) (h : Rep K Hd d v) : NewR K Hd H (.val d) v H := ⟨Hd, .refl l, h⟩
theorem newR_lst {p : Addr} {vs : List V} {ds : List D} (l : Le Hd H) (h : H p = none) (r : Reps K Hd ds vs) : NewR K Hd H (.own (.lst ds)) (.ref p) (upd H p (.lst vs)) :=
  ⟨Hd, ext_new l h, [p], .lst upd_same r, by simp, fun a ha => by simp at ha; subst ha; exact ⟨h, l.noneB h⟩⟩
theorem newR_dic {p : Addr} {vs : List (L2.Key × V)} {ds : List (L2.Key × D)} (l : Le Hd H) (h : H p = none) (r : Repk K Hd ds vs) : NewR K Hd H (.own (.dic ds)) (.ref p) (upd H p (.dK vs)) :=
  ⟨Hd, ext_new l h, [p], .dic upd_same r, by simp, fun a ha => by simp at ha; subst ha; exact ⟨h, l.noneB h⟩⟩
theorem newR_tup {p : Addr} {vs : List V} {ds : List D} (l : Le Hd H) (h : H p = none) (r : Reps K Hd ds vs) : NewR K Hd H (.val (.tup ds)) (.ref p) (upd H p (.tup vs)) :=
  ⟨upd Hd p (.tup vs), ext_frozen l h, .tup (.of upd_same) (r.mono (.upd_new (l.noneB h)))⟩
end
end O

/-! Own2: judgements; freezing, moving, storing; expressions and tests in general -/
namespace O
open PySem
open L2 (V Hp HO Rd SqL SqT upd upd_same upd_ne ne_of ne_of_none TE TT TA TS VK XK Ends St PE PT PW PA PS PSs PG PI Cx OpR UnR CallR R2 tOp tUn tVar tC tCons tNil tTup tLst tTest tB tAnd tOr tNot tAndV tOrV tNotV tIf tCB)

/-! ### slots set, things frozen -/
section
variable {K : PySem.W.Frag} {C : Cn} {fp : Fp} {Hd H : Hp} {σ : St} {ρ : Env}
def setF (fp : Fp) (i : Nat) (A : List Addr) : Fp := fun j => if j = i then A else fp j
theorem setF_same {fp : Fp} {i : Nat} {A : List Addr} : setF fp i A i = A := by simp [setF]
theorem setF_ne {fp : Fp} {i j : Nat} {A : List Addr} (h : j ≠ i) : setF fp i A j = fp j := by simp [setF, h]
theorem Inv.set_slot {i : Nat} {s' : Sl} {A' : List Addr} {σ' : St} (I : Inv K C fp Hd H σ ρ) (hi : i < ρ.length) (h : SlotOk K C Hd H i s' σ'[i]? A') (dj : ∀ a ∈ A', ∀ j, j ≠ i → a ∉ fp j)
    (hl : σ'.length = σ.length) (hs : ∀ j, j ≠ i → σ'[j]? = σ[j]?) : Inv K C (setF fp i A') Hd H σ' (ρ.set i s') where
  le := I.le
  hd0 := I.hd0
  keep := I.keep
  dom := I.dom
  fresh := I.fresh
  len := by rw [hl, List.length_set]; exact I.len
  slot := fun j s e => by
    by_cases hj : j = i
    · subst hj
      rw [List.getElem?_set_self hi] at e
      cases e
      rw [setF_same]; exact h
    · rw [List.getElem?_set_ne (Ne.symm hj)] at e
      rw [setF_ne hj, hs j hj]; exact I.slot j s e
  out := fun j hj => by
    rw [List.length_set] at hj
    rw [setF_ne (by omega)]; exact I.out j hj
  dis := fun j k a h1 h2 => by
    by_cases hj : j = i
    · by_cases hk : k = i
      · rw [hj, hk]
      · subst hj
        rw [setF_same] at h1
        rw [setF_ne hk] at h2
        exact absurd h2 (dj a h1 k hk)
    · by_cases hk : k = i
      · subst hk
        rw [setF_same] at h2
        rw [setF_ne hj] at h1
        exact absurd h1 (dj a h2 j hj)
      · rw [setF_ne hj] at h1
        rw [setF_ne hk] at h2
        exact I.dis j k a h1 h2
theorem stp_setF {i : Nat} {A' : List Addr} (h : ∀ a ∈ A', a ∈ fp i ∨ H a = none) : Stp fp Hd H (setF fp i A') Hd H :=
  ⟨.refl _, fun _ h => .inl h, fun _ _ h _ => h, fun _ h => h, fun j b hb => by
    by_cases hj : j = i
    · subst hj
      rw [setF_same] at hb
      exact (h b hb).imp_left fun q => ⟨j, q⟩
    · rw [setF_ne hj] at hb
      exact .inl ⟨j, hb⟩⟩
theorem stp_loose {i : Nat} {A' : List Addr} {fp0 : Fp} {Hd0 H0 : Hp} (s : Stp fp0 Hd0 H0 fp Hd H) (h : ∀ a ∈ A', H0 a = none) : Stp fp0 Hd0 H0 (setF fp i A') Hd H :=
  ⟨s.hd, s.fr, s.keep, s.dom, fun j b hb => by
    by_cases hj : j = i
    · subst hj
      rw [setF_same] at hb
      exact .inr (h b hb)
    · rw [setF_ne hj] at hb
      exact s.fpx j b hb⟩
/-- a slot forgotten, its name unbound in the reading or not -/
theorem Inv.drop {i : Nat} (I : Inv K C fp Hd H σ ρ) (hi : i < ρ.length) : Inv K C (setF fp i []) Hd H σ (ρ.set i .un) :=
  I.set_slot hi rfl (fun _ h => by cases h) rfl fun _ _ => rfl
theorem freezeOwn {o : OD} {d : D} {v : V} {A : List Addr} (e : o.top = some d) (l : Le Hd H) (ow : Own K Hd H o v A) (hn : ∀ a ∈ A, Hd a = none) :
    ∃ Hd', Le Hd Hd' ∧ Le Hd' H ∧ (∀ b, Hd' b ≠ none → Hd b ≠ none ∨ b ∈ A) ∧ Rep K Hd' d v := by
  have lu : ∀ {p : Addr} {u : HO}, H p = some u → Le (upd Hd p u) H := fun {p u} hp => ⟨fun a w r => by
    by_cases q : a = p
    · subst q
      rcases r with r | ⟨x, r⟩ <;> rw [upd_same] at r <;> cases r
      · exact .inl hp
      · exact .inr ⟨_, hp⟩
    · rcases r with r | ⟨x, r⟩ <;> rw [upd_ne q] at r
      · exact l _ _ (.inl r)
      · exact l _ _ (.inr ⟨_, r⟩), fun a x w r => by
    by_cases q : a = p
    · subst q
      rw [upd_same] at r
      rw [hp]; exact r
    · rw [upd_ne q] at r
      exact l.fr a x w r⟩
  have fr : ∀ {p : Addr} {u : HO} {b : Addr}, upd Hd p u b ≠ none → Hd b ≠ none ∨ b ∈ [p] := fun {p u b} h => by
    by_cases q : b = p
    · exact .inr (by simp [q])
    · rw [upd_ne q] at h; exact .inl h
  cases ow with
  | fz r => cases e; exact ⟨Hd, .refl _, l, fun _ h => .inl h, r⟩
  | lst h r =>
    cases e
    exact ⟨_, .upd_new (hn _ (by simp)), lu h, fun b => fr, .lst (.inl upd_same) (r.mono (.upd_new (hn _ (by simp))))⟩
  | dic h r =>
    cases e
    exact ⟨_, .upd_new (hn _ (by simp)), lu h, fun b => fr, .dic (.inl upd_same) (r.mono (.upd_new (hn _ (by simp))))⟩
  | ins _ _ _ => cases e
theorem Inv.freeze {Hd' : Hp} {A : List Addr} (I : Inv K C fp Hd H σ ρ) (l : Le Hd Hd') (l' : Le Hd' H) (n : ∀ b, Hd' b ≠ none → Hd b ≠ none ∨ b ∈ A) (hA : ∀ a ∈ A, C.H0 a = none ∧ ∀ i, a ∉ fp i) : Inv K C fp Hd' H σ ρ where
  le := l'
  hd0 := I.hd0.trans l
  keep := I.keep
  dom := I.dom
  fresh := fun b h => (n b h).elim (fun q => I.fresh b q) fun q => .inr (hA b q).1
  len := I.len
  slot := fun i s e => (I.slot i s e).ext l (fun a ha q => by
    cases e : Hd' a with
    | none => rfl
    | some u =>
      rcases n a (by rw [e]; intro z; cases z) with q' | q'
      · exact absurd q q'
      · exact absurd ha ((hA a q').2 i)) fun _ _ _ h => h
  out := I.out
  dis := I.dis
end

/-- data that carries no list or dict itself -/
def D.still : D → Bool
  | .lst _ => false
  | .dic _ => false
  | .set _ => false
  | _ => true
theorem Top.still {K : PySem.W.Frag} {Hd H : Hp} {d : D} {v : V} (t : Top K Hd H d v) (h : d.still = true) : Rep K Hd d v := by
  cases t with
  | rep r => exact r
  | lst _ _ => cases h
  | dic _ _ => cases h
/-- a value as frozen data -/
def fz (r : RV) (ρ : Env) : Res D :=
  match r with
  | .val d => .ok d ρ
  | .own o => match o.top with
    | some d => .ok d ρ
    | none => .no
  | .bor i => match ρ[i]? with
    | some (.sh d) => .ok d ρ
    | some (.br d) => if d.still then .ok d ρ else .no
    | some (.ow o) => match o.top with
      | some d => .ok d (ρ.set i (.sh d))
      | none => .no
    | _ => .no
theorem fz_at {K : PySem.W.Frag} {W : St → XK} {C : Cn} {fp fp1 : Fp} {Hd H Hd1 H1 : Hp} {σ : St} {ρ1 : Env} {r : RV} {v : V} {Q : VK} (s1 : Stp fp Hd H fp1 Hd1 H1) (I1 : Inv K C fp1 Hd1 H1 σ ρ1)
    (hr : (rV K).r C H fp1 Hd1 H1 σ r v) (p : Post K W C (rD K) fp Hd H σ (O.fz r ρ1) Q) : Q v H1 := by
  cases r with
  | val d => exact p v fp1 Hd1 H1 s1 I1 hr
  | own o =>
    obtain ⟨A, ow, nd, f⟩ := hr
    cases et : o.top with
    | none => simp only [O.fz, et] at p; exact p.elim
    | some d =>
      simp only [O.fz, et] at p
      obtain ⟨Hd2, l, l', n, r⟩ := freezeOwn et I1.le ow fun a ha => (f a ha).1
      refine p v fp1 Hd2 H1 ⟨s1.hd.trans l, fun b hb => ?_, s1.keep, s1.dom, s1.fpx⟩ (I1.freeze l l' n fun a ha => ⟨(f a ha).2.1, (f a ha).2.2.1⟩) r
      rcases n b hb with q | q
      · exact s1.fr b q
      · exact .inr (.inl (f b q).2.2.2)
  | bor i =>
    have hr : σ[i]? = some (some v) := hr
    simp only [O.fz] at p
    cases es : ρ1[i]? with
    | none => simp only [es] at p; exact p.elim
    | some s =>
      have q := I1.slot i s es
      rw [hr] at q
      have hi : i < ρ1.length := (List.getElem?_eq_some_iff.mp es).1
      cases s with
      | un => simp only [es] at p; exact p.elim
      | io o => simp only [es] at p; exact p.elim
      | sh d =>
        simp only [es] at p
        obtain ⟨_, w, ew, r⟩ := q
        cases ew
        exact p v fp1 Hd1 H1 s1 I1 r
      | br d =>
        simp only [es] at p
        obtain ⟨_, w, ew, t, n⟩ := q
        cases ew
        cases hs : d.still with
        | false => rw [hs] at p; exact p.elim
        | true =>
          rw [hs] at p
          exact p v fp1 Hd1 H1 s1 I1 ((I1.brTop t n).still hs)
      | ow o =>
        simp only [es] at p
        obtain ⟨w, ew, ow, nd, f⟩ := q
        cases ew
        cases et : o.top with
        | none => simp only [et] at p; exact p.elim
        | some d =>
          simp only [et] at p
          have I2 := I1.drop hi
          obtain ⟨Hd2, l, l', n, r⟩ := freezeOwn et I1.le ow fun a ha => (f a ha).1
          have hA : ∀ a ∈ fp1 i, C.H0 a = none ∧ ∀ j, a ∉ setF fp1 i [] j := fun a ha => ⟨(f a ha).2, fun j hj => by
            by_cases ej : j = i
            · subst ej; rw [setF_same] at hj; cases hj
            · rw [setF_ne ej] at hj
              exact ej (I1.dis j i a hj ha)⟩
          have I3 := I2.freeze l l' n hA
          have I4 := I3.set_slot (s' := .sh d) (A' := []) (σ' := σ) (i := i) (by rw [List.length_set]; exact hi) ⟨rfl, v, hr, r⟩ (fun _ h => by cases h) rfl fun _ _ => rfl
          rw [List.set_set] at I4
          refine p v _ Hd2 H1 ⟨s1.hd.trans l, fun b hb => ?_, s1.keep, s1.dom, fun j b hb => ?_⟩ I4 r
          · rcases n b hb with q | q
            · exact s1.fr b q
            · rcases s1.fpx i b q with q | q
              · exact .inr (.inr q)
              · exact .inr (.inl q)
          · by_cases ej : j = i
            · subst ej; rw [setF_same] at hb; cases hb
            · rw [setF_ne ej, setF_ne ej] at hb
              exact s1.fpx j b hb
theorem Sd.fz {K : PySem.W.Frag} {W : St → XK} {t : TE} {f : Env → Res RV} (h : Sd K W (rV K) t f) : Sd K W (rD K) t (fun ρ => (f ρ).bind O.fz) := by
  intro C fp Hd H σ ρ I Q p
  refine h C fp Hd H σ ρ I Q ?_
  cases e : f ρ with
  | no => simp only [e, Res.bind] at p; exact p
  | ex c ρ1 => simp only [e, Res.bind] at p; exact p
  | ok r ρ1 =>
    simp only [e, Res.bind] at p
    intro v fp1 Hd1 H1 s1 I1 hr
    exact fz_at s1 I1 hr p

/-! ### judgements -/
/-- arguments: frozen or borrowed -/
inductive RVs (K : PySem.W.Frag) (Hd : Hp) (σ : St) : List RV → List V → Prop
  | nil : RVs K Hd σ [] []
  | val {d : D} {v : V} {rs : List RV} {vs : List V} : Rep K Hd d v → RVs K Hd σ rs vs → RVs K Hd σ (.val d :: rs) (v :: vs)
  | bor {i : Nat} {v : V} {rs : List RV} {vs : List V} : σ[i]? = some (some v) → RVs K Hd σ rs vs → RVs K Hd σ (.bor i :: rs) (v :: vs)
theorem RVs.mono {K : PySem.W.Frag} {Hd Hd' : Hp} {σ : St} (l : Le Hd Hd') : ∀ {rs : List RV} {vs : List V}, RVs K Hd σ rs vs → RVs K Hd' σ rs vs
  | _, _, .nil => .nil
  | _, _, .val r q => .val (r.mono l) (q.mono l)
  | _, _, .bor r q => .bor r (q.mono l)
def rA (K : PySem.W.Frag) : Rel (List RV) (List V) := ⟨fun _ _ _ Hd _ σ rs vs => RVs K Hd σ rs vs, fun _ h => h⟩
structure JE (X : Cx) (W : St → XK) (e : Expr) (t : TE) (f : Env → Res RV) : Prop where
  pe : PE X e t
  se : Sd X.K W (rV X.K) t f
structure JT (X : Cx) (W : St → XK) (e : Expr) (t : TT) (f : Env → Res Bool) : Prop where
  pt : PT X e t
  st : Sd X.K W rB t f
structure JW (X : Cx) (W : St → XK) (e : Expr) (t : TT) (f : Env → Res Bool) : Prop where
  pw : PW X e t
  st : Sd X.K W rB t f
structure JA (X : Cx) (W : St → XK) (es : List Expr) (t : TA) (f : Env → Res (List RV)) : Prop where
  pa : PA X es t
  sa : Sd X.K W (rA X.K) t f

/-! ### expressions -/
section
variable {K : PySem.W.Frag} {W : St → XK}
/-- owned values frozen, borrowed ones left -/
def fzo (r : RV) (ρ : Env) : Res RV :=
  match r with
  | .val d => .ok (.val d) ρ
  | .own o => match o.top with
    | some d => .ok (.val d) ρ
    | none => .no
  | .bor i => .ok (.bor i) ρ
/-- frozen or borrowed -/
def rF (K : PySem.W.Frag) : Rel RV V where
  r := fun _ _ _ Hd _ σ r v => match r with
    | .val d => Rep K Hd d v
    | .own _ => False
    | .bor i => σ[i]? = some (some v)
  back := fun {C Hs Hs' fp Hd H σ a b} _ h => h
theorem Sd.fzo {t : TE} {f : Env → Res RV} (h : Sd K W (rV K) t f) : Sd K W (rF K) t (fun ρ => (f ρ).bind fzo) := by
  intro C fp Hd H σ ρ I Q p
  refine h C fp Hd H σ ρ I Q ?_
  cases e : f ρ with
  | no => simp only [e, Res.bind] at p; exact p
  | ex c ρ1 => simp only [e, Res.bind] at p; exact p
  | ok r ρ1 =>
    simp only [e, Res.bind] at p
    intro v fp1 Hd1 H1 s1 I1 hr
    cases r with
    | val d => exact p v fp1 Hd1 H1 s1 I1 hr
    | bor i => exact p v fp1 Hd1 H1 s1 I1 hr
    | own o =>
      obtain ⟨A, ow, nd, f⟩ := hr
      cases et : o.top with
      | none => simp only [O.fzo, et] at p; exact p.elim
      | some d =>
        simp only [O.fzo, et] at p
        obtain ⟨Hd2, l, l', n, r⟩ := freezeOwn et I1.le ow fun a ha => (f a ha).1
        refine p v fp1 Hd2 H1 ⟨s1.hd.trans l, fun b hb => ?_, s1.keep, s1.dom, s1.fpx⟩ (I1.freeze l l' n fun a ha => ⟨(f a ha).2.1, (f a ha).2.2.1⟩) r
        rcases n b hb with q | q
        · exact s1.fr b q
        · exact .inr (.inl (f b q).2.2.2)
theorem rF_loose {C : Cn} {Hs : Hp} {fp : Fp} {Hd H : Hp} {σ : St} {r : RV} {v : V} (h : (rF K).r C Hs fp Hd H σ r v) : RVal K C fp Hd H σ r v := by
  cases r with
  | val x => exact h
  | own o => exact h.elim
  | bor i => exact h

/-- a name -/
def fVar (i : Nat) : Env → Res RV := fun ρ => match ρ[i]? with
  | some .un => .no
  | some _ => .ok (.bor i) ρ
  | none => .no
theorem sd_var {i : Nat} : Sd K W (rV K) (tVar i) (fVar i) := by
  intro C fp Hd H σ ρ I Q p
  unfold fVar at p
  cases es : ρ[i]? with
  | none => simp only [es] at p; exact p.elim
  | some s =>
    have q := I.slot i s es
    have fin : ∀ v, σ[i]? = some (some v) → (Post K W C (rV K) fp Hd H σ (.ok (.bor i) ρ) Q) → tVar i σ H Q := fun v ev p => ⟨v, ev, p.now I ev⟩
    cases s with
    | un => simp only [es] at p; exact p.elim
    | sh d => simp only [es] at p; obtain ⟨_, v, ev, _⟩ := q; exact fin v ev p
    | br d => simp only [es] at p; obtain ⟨_, v, ev, _⟩ := q; exact fin v ev p
    | ow d => simp only [es] at p; obtain ⟨v, ev, _⟩ := q; exact fin v ev p
    | io d => simp only [es] at p; obtain ⟨v, ev, _⟩ := q; exact fin v ev p
def fC (d : D) : Env → Res RV := fun ρ => .ok (.val d) ρ
theorem sd_c {v : V} {d : D} (h : ∀ H, Rep K H d v) : Sd K W (rV K) (tC v) (fC d) := fun C fp Hd H σ ρ I Q p => p.now I (h Hd)
/-- of one operand that is read -/
def f1 (fa : Env → Res RV) (g : D → Option RV) : Env → Res RV := fun ρ => (fa ρ).bind fun r ρ1 => match rd r ρ1 with
  | some d => match g d with
    | some z => .ok z ρ1
    | none => .no
  | none => .no
/-- of two operands that are read -/
def f2 (fa fb : Env → Res RV) (g : D → D → Option RV) : Env → Res RV := fun ρ => (fa ρ).bind fun r1 ρ1 => (fb ρ1).bind fun r2 ρ2 => match rd r1 ρ2, rd r2 ρ2 with
  | some d1, some d2 => match g d1 d2 with
    | some z => .ok z ρ2
    | none => .no
  | _, _ => .no
def rG (K : PySem.W.Frag) (g : D → D → Option RV) : R2 := fun x y H Q => ∃ Hd d1 d2 z, Le Hd H ∧ Top K Hd H d1 x ∧ Top K Hd H d2 y ∧ g d1 d2 = some z ∧ ∀ v H', NewR K Hd H z v H' → Q v H'
def rG1 (K : PySem.W.Frag) (g : D → Option RV) : V → Hp → VK → Prop := fun x H Q => ∃ Hd d z, Le Hd H ∧ Top K Hd H d x ∧ g d = some z ∧ ∀ v H', NewR K Hd H z v H' → Q v H'
theorem sd_op2 {ta tb : TE} {fa fb : Env → Res RV} {g : D → D → Option RV} (ha : Sd K W (rV K) ta fa) (hb : Sd K W (rV K) tb fb) : Sd K W (rV K) (tOp (rG K g) ta tb) (f2 fa fb g) := fun C fp Hd H σ ρ I Q p =>
  ha.run I p fun r1 v1 fp0 Hd0 H0 ρ0 s0 I0 h1 p => hb.run I0 p fun r2 v2 fp1 Hd1 H1 ρ1 s1 I1 h2 p => by
    have h1 := (rV_loose h1).stp s1
    have h2 := rV_loose h2
    cases e1 : rd r1 ρ1 with
    | none => simp only [e1] at p; exact p.elim
    | some d1 =>
      cases e2 : rd r2 ρ1 with
      | none => simp only [e1, e2] at p; exact p.elim
      | some d2 =>
        simp only [e1, e2] at p
        cases eg : g d1 d2 with
        | none => simp only [eg] at p; exact p.elim
        | some z =>
          simp only [eg] at p
          exact ⟨Hd1, d1, d2, z, I1.le, I1.rdTop h1 e1, I1.rdTop h2 e2, eg, fun v H' n => p.new I1 n⟩
theorem sd_op1 {ta : TE} {fa : Env → Res RV} {g : D → Option RV} (ha : Sd K W (rV K) ta fa) : Sd K W (rV K) (tUn (rG1 K g) ta) (f1 fa g) := fun C fp Hd H σ ρ I Q p =>
  ha.run I p fun r1 v1 fp0 Hd0 H0 ρ0 s0 I0 h1 p => by
    have h1 := rV_loose h1
    cases e1 : rd r1 ρ0 with
    | none => simp only [e1] at p; exact p.elim
    | some d1 =>
      simp only [e1] at p
      cases eg : g d1 with
      | none => simp only [eg] at p; exact p.elim
      | some z =>
        simp only [eg] at p
        exact ⟨Hd0, d1, z, I0.le, I0.rdTop h1 e1, eg, fun v H' n => p.new I0 n⟩
/-! tests -/
/-- a value that is a bool -/
def fB (fa : Env → Res RV) : Env → Res Bool := fun ρ => (fa ρ).bind fun r ρ1 => match rd r ρ1 with
  | some (.bl b) => .ok b ρ1
  | _ => .no
theorem sd_tB {ta : TE} {fa : Env → Res RV} (ha : Sd K W (rV K) ta fa) : Sd K W rB (tB ta) (fB fa) := by
  refine Sd.bind (k := fun x σ H Q => ∃ c, x = .bl c ∧ Q c H) ha fun C Hs fp Hd H σ ρ r1 v1 I _ h1 Q p => ?_
  have h1 := rV_loose h1
  cases e1 : rd r1 ρ with
  | none => simp only [e1] at p; exact p.elim
  | some d =>
    cases d with
    | bl b =>
      simp only [e1] at p
      exact ⟨b, (I.rdTop h1 e1).blD, p.now I rfl⟩
    | _ => simp only [e1] at p; exact p.elim
theorem sd_tTest {ta : TE} {fa : Env → Res RV} (ha : Sd K W (rV K) ta fa) : Sd K W rB (tTest ta) (fB fa) := sd_tB ha
/-- truth -/
def truD : D → Option Bool
  | .non => some false
  | .bl b => some b
  | .int i => some (i != 0)
  | .str y => if y.length ≤ sizeLine then some ((y.length : Int) != 0) else none
  | .lst ds => some (!ds.isEmpty)
  | .tup ds => some (!ds.isEmpty)
  | _ => none
def fTru (fa : Env → Res RV) : Env → Res Bool := fun ρ => (fa ρ).bind fun r ρ1 => match rd r ρ1 with
  | some d => match truD d with
    | some b => .ok b ρ1
    | none => .no
  | none => .no
theorem isEmpty_reps {H : Hp} {ds : List D} {vs : List V} (r : Reps K H ds vs) : vs.isEmpty = ds.isEmpty := by
  cases r <;> rfl
theorem truV_of {Hd H : Hp} {d : D} {v : V} {b : Bool} (l : Le Hd H) (t : Top K Hd H d v) (e : truD d = some b) : L2.TruV K v H b := by
  cases d with
  | non => cases e; rw [t.nonD]; rfl
  | bl k => cases e; rw [t.blD]; rfl
  | int i => cases e; rw [t.intD]; rfl
  | str y =>
    rw [t.strD]
    simp only [truD] at e
    by_cases h : y.length ≤ sizeLine
    · rw [if_pos h] at e
      exact ⟨h, (Option.some.inj e).symm⟩
    · rw [if_neg h] at e; cases e
  | lst ds =>
    cases e
    obtain ⟨a, vs, rfl, h, r⟩ := t.lstD l
    exact .inl ⟨vs, .inl h, by rw [isEmpty_reps r]⟩
  | tup ds =>
    cases e
    obtain ⟨a, vs, rfl, h, r⟩ := t.tupD l
    exact .inr (.inl ⟨vs, h, by rw [isEmpty_reps r]⟩)
  | dic _ => cases e
  | set _ => cases e
  | dlk _ => cases e
  | scr _ => cases e
theorem sd_tru {ta : TE} {fa : Env → Res RV} (ha : Sd K W (rV K) ta fa) : Sd K W rB (fun σ H Q => ta σ H fun x H' => ∃ k, L2.TruV K x H' k ∧ Q k H') (fTru fa) := by
  refine Sd.bind (k := fun x σ H Q => ∃ k, L2.TruV K x H k ∧ Q k H) ha fun C Hs fp Hd H σ ρ r1 v1 I _ h1 Q p => ?_
  have h1 := rV_loose h1
  cases e1 : rd r1 ρ with
  | none => simp only [e1] at p; exact p.elim
  | some d =>
    simp only [e1] at p
    cases et : truD d with
    | none => simp only [et] at p; exact p.elim
    | some b =>
      simp only [et] at p
      exact ⟨b, truV_of I.le (I.rdTop h1 e1) et, p.now I rfl⟩
def fAnd (fa fb : Env → Res Bool) : Env → Res Bool := fun ρ => (fa ρ).bind fun b ρ1 => if b = true then fb ρ1 else .ok false ρ1
def fOr (fa fb : Env → Res Bool) : Env → Res Bool := fun ρ => (fa ρ).bind fun b ρ1 => if b = true then .ok true ρ1 else fb ρ1
def fNot (fa : Env → Res Bool) : Env → Res Bool := fun ρ => (fa ρ).bind fun b ρ1 => .ok (!b) ρ1
theorem sd_and {ta tb : TT} {fa fb : Env → Res Bool} (ha : Sd K W rB ta fa) (hb : Sd K W rB tb fb) : Sd K W rB (tAnd ta tb) (fAnd fa fb) := by
  refine Sd.bind (k := fun c σ H Q => if c = true then tb σ H Q else Q false H) ha fun C Hs fp Hd H σ ρ b b' I _ e Q p => ?_
  have e : b' = b := e
  subst e
  cases b' with
  | true => exact hb C fp Hd H σ ρ I Q p
  | false => exact p.now I rfl
theorem sd_or {ta tb : TT} {fa fb : Env → Res Bool} (ha : Sd K W rB ta fa) (hb : Sd K W rB tb fb) : Sd K W rB (tOr ta tb) (fOr fa fb) := by
  refine Sd.bind (k := fun c σ H Q => if c = true then Q true H else tb σ H Q) ha fun C Hs fp Hd H σ ρ b b' I _ e Q p => ?_
  have e : b' = b := e
  subst e
  cases b' with
  | true => exact p.now I rfl
  | false => exact hb C fp Hd H σ ρ I Q p
theorem sd_not {ta : TT} {fa : Env → Res Bool} (ha : Sd K W rB ta fa) : Sd K W rB (tNot ta) (fNot fa) := by
  refine Sd.bind (k := fun c σ H Q => Q (!c) H) ha fun C Hs fp Hd H σ ρ b b' I _ e Q p => ?_
  have e : b' = b := e
  subst e
  exact p.now I rfl
/-- and, or, not, as values of bools -/
def fAndV (fa fb : Env → Res RV) : Env → Res RV := fun ρ => (fB fa ρ).bind fun b ρ1 => if b = true then fb ρ1 else .ok (.val (.bl false)) ρ1
def fOrV (fa fb : Env → Res RV) : Env → Res RV := fun ρ => (fB fa ρ).bind fun b ρ1 => if b = true then .ok (.val (.bl true)) ρ1 else fb ρ1
def fNotV (fa : Env → Res RV) : Env → Res RV := fun ρ => (fB fa ρ).bind fun b ρ1 => .ok (.val (.bl (!b))) ρ1
theorem sd_andV {ta tb : TE} {fa fb : Env → Res RV} (ha : Sd K W (rV K) ta fa) (hb : Sd K W (rV K) tb fb) : Sd K W (rV K) (tAndV ta tb) (fAndV fa fb) := by
  intro C fp Hd H σ ρ I Q p
  have h := Sd.bind (rel' := rV K) (k := fun c σ H Q => if c = true then tb σ H Q else Q (.bl false) H) (g := fun b ρ1 => if b = true then fb ρ1 else .ok (.val (.bl false)) ρ1) (sd_tB ha) (fun C Hs fp Hd H σ ρ b b' I _ e Q p => by
    have e : b' = b := e
    subst e
    cases b' with
    | true => exact hb C fp Hd H σ ρ I Q p
    | false => exact p.now I (Rep.bl false)) C fp Hd H σ ρ I Q p
  exact h
theorem sd_orV {ta tb : TE} {fa fb : Env → Res RV} (ha : Sd K W (rV K) ta fa) (hb : Sd K W (rV K) tb fb) : Sd K W (rV K) (tOrV ta tb) (fOrV fa fb) := by
  intro C fp Hd H σ ρ I Q p
  have h := Sd.bind (rel' := rV K) (k := fun c σ H Q => if c = true then Q (.bl true) H else tb σ H Q) (g := fun b ρ1 => if b = true then .ok (.val (.bl true)) ρ1 else fb ρ1) (sd_tB ha) (fun C Hs fp Hd H σ ρ b b' I _ e Q p => by
    have e : b' = b := e
    subst e
    cases b' with
    | true => exact p.now I (Rep.bl true)
    | false => exact hb C fp Hd H σ ρ I Q p) C fp Hd H σ ρ I Q p
  exact h
theorem sd_notV {ta : TE} {fa : Env → Res RV} (ha : Sd K W (rV K) ta fa) : Sd K W (rV K) (tNotV ta) (fNotV fa) := by
  intro C fp Hd H σ ρ I Q p
  have h := Sd.bind (rel' := rV K) (k := fun c σ H Q => Q (.bl (!c)) H) (g := fun b ρ1 => .ok (.val (.bl (!b))) ρ1) (sd_tB ha) (fun C Hs fp Hd H σ ρ b b' I _ e Q p => by
    have e : b' = b := e
    subst e
    exact p.now I (Rep.bl _)) C fp Hd H σ ρ I Q p
  exact h
/-- a if t else b -/
def fIf (ft : Env → Res Bool) (fa fb : Env → Res RV) : Env → Res RV := fun ρ => (ft ρ).bind fun b ρ1 => if b = true then fa ρ1 else fb ρ1
theorem sd_if {tt : TT} {ta tb : TE} {ft : Env → Res Bool} {fa fb : Env → Res RV} (ht : Sd K W rB tt ft) (ha : Sd K W (rV K) ta fa) (hb : Sd K W (rV K) tb fb) : Sd K W (rV K) (tIf tt ta tb) (fIf ft fa fb) := by
  refine Sd.bind (k := fun c σ H Q => if c = true then ta σ H Q else tb σ H Q) ht fun C Hs fp Hd H σ ρ b b' I _ e Q p => ?_
  have e : b' = b := e
  subst e
  cases b' with
  | true => exact ha C fp Hd H σ ρ I Q p
  | false => exact hb C fp Hd H σ ρ I Q p
/-! arguments, displays -/
def aNil : Env → Res (List RV) := fun ρ => .ok [] ρ
/-- an argument: owned ones are frozen, borrowed ones stay borrowed -/
def aCons (fa : Env → Res RV) (fr : Env → Res (List RV)) : Env → Res (List RV) := fun ρ => ((fa ρ).bind fzo).bind fun r ρ1 => (fr ρ1).bind fun rs ρ2 => .ok (r :: rs) ρ2
/-- an item: frozen -/
def iCons (fa : Env → Res RV) (fr : Env → Res (List RV)) : Env → Res (List RV) := fun ρ => ((fa ρ).bind fz).bind fun d ρ1 => (fr ρ1).bind fun rs ρ2 => .ok (.val d :: rs) ρ2
theorem sa_nil : Sd K W (rA K) tNil aNil := fun C fp Hd H σ ρ I Q p => p.now I RVs.nil
theorem sa_cons {ta : TE} {fa : Env → Res RV} {tr : TA} {fr : Env → Res (List RV)} (ha : Sd K W (rV K) ta fa) (hr : Sd K W (rA K) tr fr) : Sd K W (rA K) (tCons ta tr) (aCons fa fr) := fun C fp Hd H σ ρ I Q p =>
  ha.fzo.run I p fun r v fp0 Hd0 H0 ρ0 s0 I0 h p => hr.run I0 p fun rs vs fp1 Hd1 H1 ρ1 s1 I1 hs p => by
    refine p.now I1 ?_
    cases r with
    | val d => exact .val (Rep.mono s1.hd h) hs
    | own o => exact h.elim
    | bor i => exact .bor h hs
theorem sa_item {ta : TE} {fa : Env → Res RV} {tr : TA} {fr : Env → Res (List RV)} (ha : Sd K W (rV K) ta fa) (hr : Sd K W (rA K) tr fr) : Sd K W (rA K) (tCons ta tr) (iCons fa fr) := fun C fp Hd H σ ρ I Q p =>
  ha.fz.run I p fun d v fp0 Hd0 H0 ρ0 s0 I0 h p => hr.run I0 p fun rs vs fp1 Hd1 H1 ρ1 s1 I1 hs p => p.now I1 (.val (Rep.mono s1.hd h) hs)
end
end O

/-! Own3: calls of built-ins, displays, the promise of a def, its call -/
namespace O
open PySem
open L2 (V Hp HO Rd SqL SqT upd upd_same upd_ne ne_of ne_of_none TE TT TA TS VK XK Ends St PE PT PW PA PS PSs PG PI Cx OpR UnR CallR R2 tOp tUn tVar tC tCons tNil tTup tLst tTest tB tAnd tOr tNot tAndV tOrV tNotV tIf tCB Sp FnOk)
section
variable {K : PySem.W.Frag} {W : St → XK}
/-! ### built-ins -/
inductive Tops (K : PySem.W.Frag) (Hd H : Hp) : List D → List V → Prop
  | nil : Tops K Hd H [] []
  | cons {d : D} {v : V} {ds : List D} {vs : List V} : Top K Hd H d v → Tops K Hd H ds vs → Tops K Hd H (d :: ds) (v :: vs)
def rds : List RV → Env → Option (List D)
  | [], _ => some []
  | r :: rs, ρ => match rd r ρ, rds rs ρ with
    | some d, some ds => some (d :: ds)
    | _, _ => none
theorem tops_of {C : Cn} {fp : Fp} {Hd H : Hp} {σ : St} {ρ : Env} (I : Inv K C fp Hd H σ ρ) : ∀ {rs : List RV} {vs : List V} {ds : List D}, RVs K Hd σ rs vs → rds rs ρ = some ds → Tops K Hd H ds vs
  | _, _, _, .nil, e => by cases e; exact .nil
  | _, _, _, .val (d := d) (rs := rs) h r, e => by
    simp only [rds, rd] at e
    cases e2 : rds rs ρ with
    | none => rw [e2] at e; cases e
    | some es => rw [e2] at e; cases e; exact .cons (.rep h) (tops_of I r e2)
  | _, _, _, .bor (i := i) (rs := rs) h r, e => by
    simp only [rds] at e
    cases e1 : rd (.bor i) ρ with
    | none => rw [e1] at e; cases e
    | some d =>
      cases e2 : rds rs ρ with
      | none => rw [e1, e2] at e; cases e
      | some es => rw [e1, e2] at e; cases e; exact .cons (I.rdTop (r := .bor i) h e1) (tops_of I r e2)
def rGC (K : PySem.W.Frag) (g : List D → Option RV) : List V → Hp → VK → Prop := fun xs H Q => ∃ Hd ds z, Le Hd H ∧ Tops K Hd H ds xs ∧ g ds = some z ∧ ∀ v H', NewR K Hd H z v H' → Q v H'
def fCB (fa : Env → Res (List RV)) (g : List D → Option RV) : Env → Res RV := fun ρ => (fa ρ).bind fun rs ρ1 => match rds rs ρ1 with
  | some ds => match g ds with
    | some z => .ok z ρ1
    | none => .no
  | none => .no
theorem sd_cb {ta : TA} {fa : Env → Res (List RV)} {g : List D → Option RV} (ha : Sd K W (rA K) ta fa) : Sd K W (rV K) (tCB (rGC K g) ta) (fCB fa g) := fun C fp Hd H σ ρ I Q p =>
  ha.run I p fun rs vs fp0 Hd0 H0 ρ0 s0 I0 h p => by
    cases e1 : rds rs ρ0 with
    | none => simp only [e1] at p; exact p.elim
    | some ds =>
      simp only [e1] at p
      cases eg : g ds with
      | none => simp only [eg] at p; exact p.elim
      | some z =>
        simp only [eg] at p
        exact ⟨Hd0, ds, z, I0.le, tops_of I0 h e1, eg, fun v H' n => p.new I0 n⟩
/-! ### displays -/
def vals : List RV → Option (List D)
  | [] => some []
  | .val d :: rs => match vals rs with
    | some ds => some (d :: ds)
    | none => none
  | _ :: _ => none
theorem reps_of {Hd : Hp} {σ : St} : ∀ {rs : List RV} {vs : List V} {ds : List D}, RVs K Hd σ rs vs → vals rs = some ds → Reps K Hd ds vs
  | _, _, _, .nil, e => by cases e; exact .nil
  | _, _, _, .val (d := d) (rs := rs) h r, e => by
    simp only [vals] at e
    cases e2 : vals rs with
    | none => rw [e2] at e; cases e
    | some es => rw [e2] at e; cases e; exact .cons h (reps_of r e2)
  | _, _, _, .bor h r, e => by cases e
def fTup (fa : Env → Res (List RV)) : Env → Res RV := fun ρ => (fa ρ).bind fun rs ρ1 => match vals rs with
  | some ds => if ds.length ≤ sizeLine then .ok (.val (.tup ds)) ρ1 else .no
  | none => .no
def fLst (fa : Env → Res (List RV)) : Env → Res RV := fun ρ => (fa ρ).bind fun rs ρ1 => match vals rs with
  | some ds => if ds.length ≤ sizeLine then .ok (.own (.lst ds)) ρ1 else .no
  | none => .no
theorem sd_tup {ta : TA} {fa : Env → Res (List RV)} (ha : Sd K W (rA K) ta fa) : Sd K W (rV K) (tTup ta) (fTup fa) := fun C fp Hd H σ ρ I Q p =>
  ha.run I p fun rs vs fp0 Hd0 H0 ρ0 s0 I0 h p => by
    cases e1 : vals rs with
    | none => simp only [e1] at p; exact p.elim
    | some ds =>
      simp only [e1] at p
      have r := reps_of h e1
      by_cases hz : ds.length ≤ sizeLine
      · rw [if_pos hz] at p
        exact ⟨by rw [r.length]; exact hz, fun q hq => p.new I0 (newR_tup I0.le hq r)⟩
      · rw [if_neg hz] at p; exact p.elim
theorem sd_lst {ta : TA} {fa : Env → Res (List RV)} (ha : Sd K W (rA K) ta fa) : Sd K W (rV K) (tLst ta) (fLst fa) := fun C fp Hd H σ ρ I Q p =>
  ha.run I p fun rs vs fp0 Hd0 H0 ρ0 s0 I0 h p => by
    cases e1 : vals rs with
    | none => simp only [e1] at p; exact p.elim
    | some ds =>
      simp only [e1] at p
      have r := reps_of h e1
      by_cases hz : ds.length ≤ sizeLine
      · rw [if_pos hz] at p
        exact ⟨by rw [r.length]; exact hz, fun q hq => p.new I0 (newR_lst I0.le hq r)⟩
      · rw [if_neg hz] at p; exact p.elim

/-! ### a def's promise -/
inductive Md where
  | sh | br | io
inductive Ar where
  | sh (d : D) | br (d : D) | io (o : OD)
inductive FO where
  | ret (r : RV) (outs : List (Option OD)) | exc (e : Exc) (outs : List (Option OD)) | no
def ArOk (K : PySem.W.Frag) (Hd H : Hp) (fp : Fp) (j : Nat) (a : Ar) (v : V) : Prop :=
  match a with
  | .sh d => fp j = [] ∧ Rep K Hd d v
  | .br d => fp j = [] ∧ Top K Hd H d v ∧ (Rep K Hd d v ∨ ∀ a, v = .ref a → ∀ i, a ∉ fp i)
  | .io o => Own K Hd H o v (fp j) ∧ (fp j).Nodup ∧ ∀ a ∈ fp j, Hd a = none
structure ArgsOk (K : PySem.W.Frag) (Hd H : Hp) (as : List Ar) (vs : List V) (fp : Fp) : Prop where
  len : as.length = vs.length
  ok : ∀ j a v, as[j]? = some a → vs[j]? = some v → ArOk K Hd H fp j a v
  dis : ∀ i j a, a ∈ fp i → a ∈ fp j → i = j
  out : ∀ j, as.length ≤ j → fp j = []
structure FinOk (K : PySem.W.Frag) (Hd H : Hp) (fp : Fp) (vs : List V) (outs : List (Option OD)) (Hd' H' : Hp) (fp' : Fp) : Prop where
  hd : Le Hd Hd'
  le : Le Hd' H'
  fr : ∀ b, Hd' b ≠ none → Hd b ≠ none ∨ H b = none
  keep : ∀ b o, H b = some o → (∀ i, b ∉ fp i) → H' b = some o
  dom : ∀ b, H b ≠ none → H' b ≠ none
  outs : ∀ j o v, outs[j]? = some (some o) → vs[j]? = some v → Own K Hd' H' o v (fp' j) ∧ (fp' j).Nodup ∧ ∀ a ∈ fp' j, Hd' a = none ∧ (a ∈ fp j ∨ H a = none)
  dis : ∀ i j a, a ∈ fp' i → a ∈ fp' j → i = j
def RetOk (K : PySem.W.Frag) (H Hd' H' : Hp) (fp' : Fp) (r : RV) (v : V) : Prop :=
  match r with
  | .val d => Rep K Hd' d v
  | .own o => ∃ B, Own K Hd' H' o v B ∧ B.Nodup ∧ ∀ b ∈ B, Hd' b = none ∧ H b = none ∧ ∀ i, b ∉ fp' i
  | .bor _ => False
def spF (K : PySem.W.Frag) (n : Nat) (F : List Ar → FO) : Sp := fun vs H Q E => ∃ (Hd : Hp) (as : List Ar) (fp : Fp), Le Hd H ∧ as.length = n ∧ ArgsOk K Hd H as vs fp ∧
  match F as with
  | .ret r outs => ∀ v Hd' H' fp', FinOk K Hd H fp vs outs Hd' H' fp' → RetOk K H Hd' H' fp' r v → Q v H'
  | .exc e outs => ∀ d Hd' H' fp', FinOk K Hd H fp vs outs Hd' H' fp' → ExAt K Hd' H' e d → E e.cls d H'
  | .no => False
theorem spF_len {n : Nat} {F : List Ar → FO} {vs : List V} {H : Hp} {Q : VK} {E : XK} (h : spF K n F vs H Q E) : vs.length = n := by
  obtain ⟨Hd, as, fp, _, e, a, _⟩ := h
  rw [← a.len]; exact e

/-! ### the call -/
/-- the slots that are handed over to be changed -/
def ioAt : List Md → List RV → Nat → Option Nat
  | .io :: _, .bor i :: _, 0 => some i
  | _ :: ms, _ :: rs, j + 1 => ioAt ms rs j
  | _, _, _ => none
def ioIx : List Md → List RV → List Nat
  | .io :: ms, .bor i :: rs => i :: ioIx ms rs
  | _ :: ms, _ :: rs => ioIx ms rs
  | _, _ => []
def mkArs (ios : List Nat) : List Md → List RV → Env → Option (List Ar)
  | [], [], _ => some []
  | .sh :: ms, .val d :: rs, ρ => (mkArs ios ms rs ρ).map (.sh d :: ·)
  | .br :: ms, .val d :: rs, ρ => (mkArs ios ms rs ρ).map (.br d :: ·)
  | .br :: ms, .bor i :: rs, ρ => if i ∈ ios then none else match rd (.bor i) ρ with
    | some d => (mkArs ios ms rs ρ).map (.br d :: ·)
    | none => none
  | .io :: ms, .bor i :: rs, ρ => match ρ[i]? with
    | some (.ow o) => (mkArs ios ms rs ρ).map (.io o :: ·)
    | some (.io o) => (mkArs ios ms rs ρ).map (.io o :: ·)
    | _ => none
  | _, _, _ => none
def drops : List Md → List RV → Env → Env
  | .io :: ms, .bor i :: rs, ρ => drops ms rs (ρ.set i .un)
  | _ :: ms, _ :: rs, ρ => drops ms rs ρ
  | _, _, ρ => ρ
def outE (ρ : Env) : List Md → List RV → List (Option OD) → Env → Option Env
  | [], [], [], acc => some acc
  | .io :: ms, .bor i :: rs, some o :: os, acc => match ρ[i]? with
    | some (.ow _) => outE ρ ms rs os (acc.set i (.ow o))
    | some (.io _) => outE ρ ms rs os (acc.set i (.io o))
    | _ => none
  | .sh :: ms, _ :: rs, none :: os, acc => outE ρ ms rs os acc
  | .br :: ms, _ :: rs, none :: os, acc => outE ρ ms rs os acc
  | _, _, _, _ => none
def callR (ms : List Md) (F : List Ar → FO) (rs : List RV) (ρ : Env) : Res RV :=
  if (ioIx ms rs).Nodup then
    match mkArs (ioIx ms rs) ms rs ρ with
    | some as => match F as with
      | .ret r outs => match outE ρ ms rs outs (drops ms rs ρ) with
        | some ρ' => match r with
          | .bor _ => .no
          | r => .ok r ρ'
        | none => .no
      | .exc e outs => match outE ρ ms rs outs (drops ms rs ρ) with
        | some ρ' => .ex e ρ'
        | none => .no
      | .no => .no
    | none => .no
  else .no
theorem ioAt_mem : ∀ {ms : List Md} {rs : List RV} {j i : Nat}, ioAt ms rs j = some i → i ∈ ioIx ms rs
  | .io :: ms, .bor k :: rs, 0, i, h => by simp only [ioAt, Option.some.injEq] at h; subst h; simp [ioIx]
  | .io :: ms, .bor k :: rs, j + 1, i, h => by simp only [ioIx]; exact List.mem_cons_of_mem _ (ioAt_mem (ms := ms) (rs := rs) (j := j) (by simpa [ioAt] using h))
  | .io :: ms, .val d :: rs, 0, i, h => by simp [ioAt] at h
  | .io :: ms, .val d :: rs, j + 1, i, h => by simp only [ioIx]; exact ioAt_mem (j := j) (by simpa [ioAt] using h)
  | .io :: ms, .own d :: rs, 0, i, h => by simp [ioAt] at h
  | .io :: ms, .own d :: rs, j + 1, i, h => by simp only [ioIx]; exact ioAt_mem (j := j) (by simpa [ioAt] using h)
  | .sh :: ms, r :: rs, 0, i, h => by simp [ioAt] at h
  | .sh :: ms, r :: rs, j + 1, i, h => by simp only [ioIx]; exact ioAt_mem (j := j) (by simpa [ioAt] using h)
  | .br :: ms, r :: rs, 0, i, h => by simp [ioAt] at h
  | .br :: ms, r :: rs, j + 1, i, h => by simp only [ioIx]; exact ioAt_mem (j := j) (by simpa [ioAt] using h)
  | [], _, _, _, h => by simp [ioAt] at h
  | _ :: _, [], _, _, h => by simp [ioAt] at h
theorem ioAt_inj : ∀ {ms : List Md} {rs : List RV} {j k i : Nat}, (ioIx ms rs).Nodup → ioAt ms rs j = some i → ioAt ms rs k = some i → j = k
  | .io :: ms, .bor q :: rs, 0, 0, i, _, _, _ => rfl
  | .io :: ms, .bor q :: rs, 0, k + 1, i, n, h, h' => by
    simp only [ioAt, Option.some.injEq] at h
    subst h
    exact absurd (ioAt_mem (ms := ms) (rs := rs) (j := k) (by simpa [ioAt] using h')) (List.nodup_cons.mp (by simpa [ioIx] using n)).1
  | .io :: ms, .bor q :: rs, j + 1, 0, i, n, h, h' => by
    simp only [ioAt, Option.some.injEq] at h'
    subst h'
    exact absurd (ioAt_mem (ms := ms) (rs := rs) (j := j) (by simpa [ioAt] using h)) (List.nodup_cons.mp (by simpa [ioIx] using n)).1
  | .io :: ms, .bor q :: rs, j + 1, k + 1, i, n, h, h' => by
    rw [ioAt_inj (ms := ms) (rs := rs) (j := j) (k := k) (i := i) (List.nodup_cons.mp (by simpa [ioIx] using n)).2 (by simpa [ioAt] using h) (by simpa [ioAt] using h')]
  | .io :: ms, .val d :: rs, 0, _, i, _, h, _ => by simp [ioAt] at h
  | .io :: ms, .val d :: rs, j + 1, 0, i, n, h, h' => by simp [ioAt] at h'
  | .io :: ms, .val d :: rs, j + 1, k + 1, i, n, h, h' => by rw [ioAt_inj (ms := ms) (rs := rs) (j := j) (k := k) (i := i) (by simpa [ioIx] using n) (by simpa [ioAt] using h) (by simpa [ioAt] using h')]
  | .io :: ms, .own d :: rs, 0, _, i, _, h, _ => by simp [ioAt] at h
  | .io :: ms, .own d :: rs, j + 1, 0, i, n, h, h' => by simp [ioAt] at h'
  | .io :: ms, .own d :: rs, j + 1, k + 1, i, n, h, h' => by rw [ioAt_inj (ms := ms) (rs := rs) (j := j) (k := k) (i := i) (by simpa [ioIx] using n) (by simpa [ioAt] using h) (by simpa [ioAt] using h')]
  | .sh :: ms, r :: rs, 0, _, i, _, h, _ => by simp [ioAt] at h
  | .sh :: ms, r :: rs, j + 1, 0, i, n, h, h' => by simp [ioAt] at h'
  | .sh :: ms, r :: rs, j + 1, k + 1, i, n, h, h' => by rw [ioAt_inj (ms := ms) (rs := rs) (j := j) (k := k) (i := i) (by simpa [ioIx] using n) (by simpa [ioAt] using h) (by simpa [ioAt] using h')]
  | .br :: ms, r :: rs, 0, _, i, _, h, _ => by simp [ioAt] at h
  | .br :: ms, r :: rs, j + 1, 0, i, n, h, h' => by simp [ioAt] at h'
  | .br :: ms, r :: rs, j + 1, k + 1, i, n, h, h' => by rw [ioAt_inj (ms := ms) (rs := rs) (j := j) (k := k) (i := i) (by simpa [ioIx] using n) (by simpa [ioAt] using h) (by simpa [ioAt] using h')]
  | [], _, _, _, _, _, h, _ => by simp [ioAt] at h
  | _ :: _, [], _, _, _, _, h, _ => by simp [ioAt] at h
def argFp (fp : Fp) (ms : List Md) (rs : List RV) : Fp := fun j => match ioAt ms rs j with
  | some i => fp i
  | none => []
theorem argFp_mem {fp : Fp} {ms : List Md} {rs : List RV} {j : Nat} {a : Addr} (h : a ∈ argFp fp ms rs j) : ∃ i, ioAt ms rs j = some i ∧ a ∈ fp i := by
  unfold argFp at h
  cases e : ioAt ms rs j with
  | none => rw [e] at h; cases h
  | some i => rw [e] at h; exact ⟨i, rfl, h⟩
theorem argFp_none {fp : Fp} {ms : List Md} {rs : List RV} {j : Nat} (h : ioAt ms rs j = none) : argFp fp ms rs j = [] := by
  unfold argFp; rw [h]
theorem argFp_some {fp : Fp} {ms : List Md} {rs : List RV} {j i : Nat} (h : ioAt ms rs j = some i) : argFp fp ms rs j = fp i := by
  unfold argFp; rw [h]
end
section
variable {K : PySem.W.Frag} {C : Cn} {fp : Fp} {Hd H : Hp} {σ : St} {ρ : Env}
/-- one argument, as the callee wants it -/
theorem ars_ok (I : Inv K C fp Hd H σ ρ) {MS : List Md} {RS : List RV} (nd : (ioIx MS RS).Nodup) :
    ∀ {ms : List Md} {rs : List RV} {vs : List V} {as : List Ar} (n : Nat), (∀ j, ioAt ms rs j = ioAt MS RS (n + j)) → RVs K Hd σ rs vs → mkArs (ioIx MS RS) ms rs ρ = some as →
      as.length = vs.length ∧ ms.length = vs.length ∧ ∀ j a v, as[j]? = some a → vs[j]? = some v → ArOk K Hd H (argFp fp MS RS) (n + j) a v := by
  -- nothing of M is read
  have apart : ∀ {i : Nat} {v : V} {d : D}, i ∉ ioIx MS RS → σ[i]? = some (some v) → rd (.bor i) ρ = some d → Rep K Hd d v ∨ ∀ a, v = .ref a → ∀ k, a ∉ argFp fp MS RS k := fun {i v d} ni hv hr => by
    simp only [rd] at hr
    cases es : ρ[i]? with
    | none => rw [es] at hr; cases hr
    | some s =>
      rw [es] at hr
      have q := I.slot i s es
      rw [hv] at q
      have own : ∀ {o : OD} {A : List Addr}, Own K Hd H o v A → (∀ a ∈ A, a ∈ fp i) → rdS s = some d → (∀ d', rdS s = o.top) → Rep K Hd d v ∨ ∀ a, v = .ref a → ∀ k, a ∉ argFp fp MS RS k := fun {o A} ow hA hr ho => by
        have far : ∀ a, a ∈ fp i → ∀ k, a ∉ argFp fp MS RS k := fun a ha k hk => by
          obtain ⟨i', e, ha'⟩ := argFp_mem hk
          have := I.dis i i' a ha ha'
          subst this
          exact ni (ioAt_mem e)
        have hr' := (ho d).symm.trans hr
        cases ow with
        | fz r => cases hr'; exact .inl r
        | lst h r => exact .inr fun a e => by cases e; exact far _ (hA _ (by simp))
        | dic h r => exact .inr fun a e => by cases e; exact far _ (hA _ (by simp))
        | ins _ _ _ => cases hr'
      cases s with
      | un => cases hr
      | sh x => cases hr; obtain ⟨_, w, ew, r⟩ := q; cases ew; exact .inl r
      | br x =>
        cases hr
        obtain ⟨_, w, ew, t, n⟩ := q
        cases ew
        rcases n with n | n
        · exact .inl (n.mono I.hd0)
        · cases t with
          | rep r => exact .inl (r.mono I.hd0)
          | lst h r =>
            refine .inr fun a e k hk => ?_
            cases e
            obtain ⟨i', e', ha'⟩ := argFp_mem hk
            rcases (I.fpOk ha').2.2 with z | z
            · exact n _ rfl i' z
            · rcases h with h | ⟨_, h⟩ <;> rw [z] at h <;> cases h
          | dic h r =>
            refine .inr fun a e k hk => ?_
            cases e
            obtain ⟨i', e', ha'⟩ := argFp_mem hk
            rcases (I.fpOk ha').2.2 with z | z
            · exact n _ rfl i' z
            · rcases h with h | ⟨_, h⟩ <;> rw [z] at h <;> cases h
      | ow o => obtain ⟨w, ew, ow, _⟩ := q; cases ew; exact own ow (fun _ h => h) hr fun _ => rfl
      | io o => obtain ⟨w, ew, ow, _⟩ := q; cases ew; exact own ow (fun _ h => h) hr fun _ => rfl
  intro ms
  induction ms with
  | nil =>
    intro rs vs as n hn r e
    cases r with
    | nil => cases e; exact ⟨rfl, rfl, fun j a v h => by simp at h⟩
    | val _ _ => cases e
    | bor _ _ => cases e
  | cons m ms ih =>
    intro rs vs as n hn r e
    have tail : ∀ {x : RV} {rs' : List RV} {vs' : List V} {as' : List Ar} {v0 : V} {a0 : Ar}, (∀ j, ioAt (m :: ms) (x :: rs') j = ioAt MS RS (n + j)) → RVs K Hd σ rs' vs' → mkArs (ioIx MS RS) ms rs' ρ = some as' → ArOk K Hd H (argFp fp MS RS) n a0 v0 →
        (a0 :: as').length = (v0 :: vs').length ∧ (m :: ms).length = (v0 :: vs').length ∧ ∀ j a v, (a0 :: as')[j]? = some a → (v0 :: vs')[j]? = some v → ArOk K Hd H (argFp fp MS RS) (n + j) a v := fun {x rs' vs' as' v0 a0} hx r' e' h0 => by
      obtain ⟨q1, q2, q3⟩ := ih (n + 1) (fun j => by
        have z := hx (j + 1)
        have : ioAt (m :: ms) (x :: rs') (j + 1) = ioAt ms rs' j := by cases m <;> cases x <;> rfl
        rw [this] at z
        rw [z]; congr 1; omega) r' e'
      refine ⟨by simp [q1], by simp [q2], fun j a v h h' => ?_⟩
      cases j with
      | zero => simp at h h'; subst h h'; exact h0
      | succ j =>
        have := q3 j a v (by simpa using h) (by simpa using h')
        rw [show n + (j + 1) = n + 1 + j by omega]; exact this
    have none0 : ∀ {x : RV} {rs' : List RV}, (∀ j, ioAt (m :: ms) (x :: rs') j = ioAt MS RS (n + j)) → ioAt (m :: ms) (x :: rs') 0 = none → argFp fp MS RS n = [] := fun {x rs'} hx h0 => argFp_none (by rw [← Nat.add_zero n, ← hx 0]; exact h0)
    cases r with
    | nil => cases m <;> cases e
    | val h r' =>
      rename_i d v0 rs' vs'
      cases m with
      | io => cases e
      | sh =>
        simp only [mkArs] at e
        cases e2 : mkArs (ioIx MS RS) ms rs' ρ with
        | none => rw [e2] at e; cases e
        | some as' => rw [e2] at e; cases e; exact tail hn r' e2 ⟨none0 hn rfl, h⟩
      | br =>
        simp only [mkArs] at e
        cases e2 : mkArs (ioIx MS RS) ms rs' ρ with
        | none => rw [e2] at e; cases e
        | some as' => rw [e2] at e; cases e; exact tail hn r' e2 ⟨none0 hn rfl, .rep h, .inl h⟩
    | bor h r' =>
      rename_i i v0 rs' vs'
      cases m with
      | sh => cases e
      | br =>
        simp only [mkArs] at e
        by_cases hi : i ∈ ioIx MS RS
        · rw [if_pos hi] at e; cases e
        · rw [if_neg hi] at e
          cases e1 : rd (.bor i) ρ with
          | none => rw [e1] at e; cases e
          | some d =>
            rw [e1] at e
            cases e2 : mkArs (ioIx MS RS) ms rs' ρ with
            | none => rw [e2] at e; cases e
            | some as' => rw [e2] at e; cases e; exact tail hn r' e2 ⟨none0 hn rfl, I.rdTop (r := .bor i) h e1, apart hi h e1⟩
      | io =>
        have hat : ioAt MS RS n = some i := by rw [← Nat.add_zero n, ← hn 0]; rfl
        simp only [mkArs] at e
        cases es : ρ[i]? with
        | none => rw [es] at e; cases e
        | some s =>
          rw [es] at e
          have q := I.slot i s es
          rw [h] at q
          cases s with
          | un => cases e
          | sh _ => cases e
          | br _ => cases e
          | ow o =>
            obtain ⟨w, ew, ow, nd, f⟩ := q
            cases ew
            simp only at e
            cases e2 : mkArs (ioIx MS RS) ms rs' ρ with
            | none => rw [e2] at e; cases e
            | some as' => rw [e2] at e; cases e; exact tail hn r' e2 ⟨by rw [argFp_some hat]; exact ow, by rw [argFp_some hat]; exact nd, by rw [argFp_some hat]; exact fun a ha => (f a ha).1⟩
          | io o =>
            obtain ⟨w, ew, ow, nd, f, _⟩ := q
            cases ew
            simp only at e
            cases e2 : mkArs (ioIx MS RS) ms rs' ρ with
            | none => rw [e2] at e; cases e
            | some as' => rw [e2] at e; cases e; exact tail hn r' e2 ⟨by rw [argFp_some hat]; exact ow, by rw [argFp_some hat]; exact nd, by rw [argFp_some hat]; exact fun a ha => (f a ha).1⟩
/-- other things changed -/
theorem Inv.change {Hd' H' : Hp} {N : Addr → Prop} (I : Inv K C fp Hd H σ ρ) (hd : Le Hd Hd') (le : Le Hd' H') (fr : ∀ b, Hd' b ≠ none → Hd b ≠ none ∨ H b = none) (keep : ∀ b o, H b = some o → ¬ N b → H' b = some o) (dom : ∀ b, H b ≠ none → H' b ≠ none)
    (hN : ∀ b, N b → (∃ i, b ∈ C.M i) ∨ C.H0 b = none) (hfp : ∀ i, ∀ a ∈ fp i, ¬ N a) : Inv K C fp Hd' H' σ ρ where
  le := le
  hd0 := I.hd0.trans hd
  keep := fun b o e n => keep b o (I.keep b o e n) fun z => by
    rcases hN b z with ⟨i, q⟩ | q
    · exact n i q
    · rw [q] at e; cases e
  dom := fun b h => dom b (I.dom b h)
  fresh := fun b h => by
    rcases fr b h with q | q
    · exact I.fresh b q
    · exact .inr (none_back I.dom q)
  len := I.len
  slot := fun i s e => (I.slot i s e).ext hd (fun a ha n => by
    cases e : Hd' a with
    | none => rfl
    | some u =>
      rcases fr a (by rw [e]; intro z; cases z) with q | q
      · exact absurd n q
      · exact absurd q (I.fpOk ha).1) fun a ha u h => keep a u h (hfp i a ha)
  out := I.out
  dis := I.dis
theorem drops_len : ∀ (ms : List Md) (rs : List RV) (ρ : Env), (drops ms rs ρ).length = ρ.length
  | [], _, _ => by simp [drops]
  | _ :: _, [], _ => by unfold drops; split <;> simp_all
  | .io :: ms, .bor i :: rs, ρ => by unfold drops; rw [drops_len ms rs]; simp
  | .io :: ms, .val _ :: rs, ρ => by unfold drops; exact drops_len ms rs ρ
  | .io :: ms, .own _ :: rs, ρ => by unfold drops; exact drops_len ms rs ρ
  | .sh :: ms, _ :: rs, ρ => by unfold drops; exact drops_len ms rs ρ
  | .br :: ms, _ :: rs, ρ => by unfold drops; exact drops_len ms rs ρ
theorem drops_inv : ∀ (ms : List Md) (rs : List RV) {fp : Fp} {ρ : Env}, Inv K C fp Hd H σ ρ → ∃ fp0, Inv K C fp0 Hd H σ (drops ms rs ρ) ∧ ∀ i a, a ∈ fp0 i → a ∈ fp i ∧ i ∉ ioIx ms rs
  | [], _, fp, ρ, I => ⟨fp, by unfold drops; exact I, fun i a h => ⟨h, by simp [ioIx]⟩⟩
  | m :: ms, [], fp, ρ, I => ⟨fp, by
      have e : drops (m :: ms) [] ρ = ρ := by unfold drops; split <;> simp_all
      rw [e]; exact I, fun i a h => ⟨h, by
      have e : ioIx (m :: ms) [] = [] := by unfold ioIx; split <;> simp_all
      rw [e]; simp⟩⟩
  | .io :: ms, .bor k :: rs, fp, ρ, I => by
    unfold drops
    by_cases hk : k < ρ.length
    · obtain ⟨fp0, I0, h0⟩ := drops_inv ms rs (I.drop hk)
      refine ⟨fp0, I0, fun i a h => ?_⟩
      obtain ⟨q1, q2⟩ := h0 i a h
      by_cases e : i = k
      · subst e; rw [setF_same] at q1; cases q1
      · rw [setF_ne e] at q1
        exact ⟨q1, by simp [ioIx, e, q2]⟩
    · rw [List.set_eq_of_length_le (by omega)]
      obtain ⟨fp0, I0, h0⟩ := drops_inv ms rs I
      refine ⟨fp0, I0, fun i a h => ?_⟩
      obtain ⟨q1, q2⟩ := h0 i a h
      refine ⟨q1, ?_⟩
      simp only [ioIx, List.mem_cons, not_or]
      refine ⟨fun e => ?_, q2⟩
      subst e
      rw [I.out i (by omega)] at q1; cases q1
  | .io :: ms, .val _ :: rs, fp, ρ, I => by unfold drops ioIx; exact drops_inv ms rs I
  | .io :: ms, .own _ :: rs, fp, ρ, I => by unfold drops ioIx; exact drops_inv ms rs I
  | .sh :: ms, _ :: rs, fp, ρ, I => by unfold drops ioIx; exact drops_inv ms rs I
  | .br :: ms, _ :: rs, fp, ρ, I => by unfold drops ioIx; exact drops_inv ms rs I
/-- the changed arguments are put back -/
theorem outE_inv {Hd0 H0' : Hp} {fp fp0 fpB : Fp} {MS : List Md} {RS : List RV} (I0 : Inv K C fp Hd0 H0' σ ρ) (nd : (ioIx MS RS).Nodup)
    (h0 : ∀ i a, a ∈ fp0 i → a ∈ fp i ∧ i ∉ ioIx MS RS) (dB : ∀ i j a, a ∈ fpB i → a ∈ fpB j → i = j) :
    ∀ (ms : List Md) (rs : List RV) (vs : List V) (os : List (Option OD)) (n : Nat) (fpc : Fp) (acc ρ' : Env), (∀ j, ioAt ms rs j = ioAt MS RS (n + j)) → RVs K Hd0 σ rs vs →
      (∀ j o v, os[j]? = some (some o) → vs[j]? = some v → Own K Hd H o v (fpB (n + j)) ∧ (fpB (n + j)).Nodup ∧ ∀ a ∈ fpB (n + j), Hd a = none ∧ (a ∈ argFp fp MS RS (n + j) ∨ H0' a = none)) →
      acc.length = ρ.length → Inv K C fpc Hd H σ acc → (∀ i a, a ∈ fpc i → a ∈ fp0 i ∨ ∃ j, j < n ∧ a ∈ fpB j ∧ (a ∈ argFp fp MS RS j ∨ H0' a = none)) → outE ρ ms rs os acc = some ρ' →
      ∃ fp', Inv K C fp' Hd H σ ρ' ∧ ∀ i a, a ∈ fp' i → a ∈ fp0 i ∨ ∃ j, a ∈ fpB j ∧ (a ∈ argFp fp MS RS j ∨ H0' a = none) := by
  intro ms
  induction ms with
  | nil =>
    intro rs vs os n fpc acc ρ' hn r ho hl I hf e
    cases rs with
    | cons _ _ => cases e
    | nil =>
      cases os with
      | cons _ _ => cases e
      | nil =>
        cases e
        exact ⟨fpc, I, fun i a h => (hf i a h).imp_right fun ⟨j, _, q⟩ => ⟨j, q⟩⟩
  | cons m ms ih =>
    intro rs vs os n fpc acc ρ' hn r ho hl I hf e
    have next : ∀ {x : RV} {rs' : List RV} {v0 : V} {vs' : List V} {o0 : Option OD} {os' : List (Option OD)} {fpc' : Fp} {acc' : Env}, (∀ j, ioAt (m :: ms) (x :: rs') j = ioAt MS RS (n + j)) → RVs K Hd0 σ rs' vs' →
        (∀ j o v, (o0 :: os')[j]? = some (some o) → (v0 :: vs')[j]? = some v → Own K Hd H o v (fpB (n + j)) ∧ (fpB (n + j)).Nodup ∧ ∀ a ∈ fpB (n + j), Hd a = none ∧ (a ∈ argFp fp MS RS (n + j) ∨ H0' a = none)) →
        acc'.length = ρ.length → Inv K C fpc' Hd H σ acc' → (∀ i a, a ∈ fpc' i → a ∈ fp0 i ∨ ∃ j, j < n + 1 ∧ a ∈ fpB j ∧ (a ∈ argFp fp MS RS j ∨ H0' a = none)) → outE ρ ms rs' os' acc' = some ρ' →
        ∃ fp', Inv K C fp' Hd H σ ρ' ∧ ∀ i a, a ∈ fp' i → a ∈ fp0 i ∨ ∃ j, a ∈ fpB j ∧ (a ∈ argFp fp MS RS j ∨ H0' a = none) := fun {x rs' v0 vs' o0 os' fpc' acc'} hx r' ho' hl' I' hf' e' => by
      refine ih rs' vs' os' (n + 1) fpc' acc' ρ' (fun j => ?_) r' (fun j o v h h' => ?_) hl' I' hf' e'
      · have z := hx (j + 1)
        have : ioAt (m :: ms) (x :: rs') (j + 1) = ioAt ms rs' j := by cases m <;> cases x <;> rfl
        rw [this] at z
        rw [z]; congr 1; omega
      · have q := ho' (j + 1) o v (by simpa using h) (by simpa using h')
        rw [show n + (j + 1) = n + 1 + j by omega] at q
        exact q
    have more : ∀ i a, a ∈ fpc i → a ∈ fp0 i ∨ ∃ j, j < n + 1 ∧ a ∈ fpB j ∧ (a ∈ argFp fp MS RS j ∨ H0' a = none) := fun i a h => (hf i a h).imp_right fun ⟨j, l, q⟩ => ⟨j, by omega, q⟩
    -- one that is put back
    have put : ∀ {i : Nat} {rs' : List RV} {v0 : V} {vs' : List V} {o0 : OD} {os' : List (Option OD)} {s' : Sl}, (∀ j, ioAt (m :: ms) (.bor i :: rs') j = ioAt MS RS (n + j)) → ioAt (m :: ms) (.bor i :: rs') 0 = some i → RVs K Hd0 σ rs' vs' → i < ρ.length →
        (∀ j o v, (some o0 :: os')[j]? = some (some o) → (v0 :: vs')[j]? = some v → Own K Hd H o v (fpB (n + j)) ∧ (fpB (n + j)).Nodup ∧ ∀ a ∈ fpB (n + j), Hd a = none ∧ (a ∈ argFp fp MS RS (n + j) ∨ H0' a = none)) →
        (Own K Hd H o0 v0 (fpB n) → (fpB n).Nodup → (∀ a ∈ fpB n, Hd a = none ∧ (a ∈ fp i ∨ H0' a = none)) → SlotOk K C Hd H i s' σ[i]? (fpB n)) → outE ρ ms rs' os' (acc.set i s') = some ρ' →
        ∃ fp', Inv K C fp' Hd H σ ρ' ∧ ∀ i a, a ∈ fp' i → a ∈ fp0 i ∨ ∃ j, a ∈ fpB j ∧ (a ∈ argFp fp MS RS j ∨ H0' a = none) := fun {i rs' v0 vs' o0 os' s'} hx h00 r' hi ho' hs e' => by
      have hat : ioAt MS RS n = some i := by rw [← Nat.add_zero n, ← hx 0]; exact h00
      obtain ⟨q1, q2, q3⟩ := ho' 0 o0 v0 rfl rfl
      rw [Nat.add_zero] at q1 q2 q3
      rw [argFp_some hat] at q3
      have I2 := I.set_slot (i := i) (s' := s') (A' := fpB n) (σ' := σ) (by rw [hl]; exact hi) (hs q1 q2 q3) (fun a ha k hk h => by
        rcases hf k a h with z | ⟨j, l, z, _⟩
        · obtain ⟨z1, z2⟩ := h0 k a z
          rcases (q3 a ha).2 with w | w
          · exact hk (I0.dis k i a z1 w)
          · exact (I0.fpOk z1).1 w
        · have := dB j n a z ha
          omega) rfl fun _ _ => rfl
      refine next hx r' ho' (by rw [List.length_set]; exact hl) I2 (fun k a h => ?_) e'
      by_cases e : k = i
      · subst e
        rw [setF_same] at h
        exact .inr ⟨n, by omega, h, by rw [argFp_some hat]; exact (q3 a h).2⟩
      · rw [setF_ne e] at h
        exact more k a h
    cases r with
    | nil => cases m <;> cases e
    | val h r' =>
      cases os with
      | nil => cases m <;> cases e
      | cons o0 os' =>
        cases m with
        | io => cases o0 <;> cases e
        | sh => cases o0 with
          | some _ => cases e
          | none => exact next hn r' ho hl I more (by simpa [outE] using e)
        | br => cases o0 with
          | some _ => cases e
          | none => exact next hn r' ho hl I more (by simpa [outE] using e)
    | bor h r' =>
      rename_i i v0 rs' vs'
      cases os with
      | nil => cases m <;> cases e
      | cons o0 os' =>
        cases m with
        | sh => cases o0 with
          | some _ => cases e
          | none => exact next hn r' ho hl I more (by simpa [outE] using e)
        | br => cases o0 with
          | some _ => cases e
          | none => exact next hn r' ho hl I more (by simpa [outE] using e)
        | io => cases o0 with
          | none => cases e
          | some o =>
            simp only [outE] at e
            cases es : ρ[i]? with
            | none => rw [es] at e; cases e
            | some s =>
              have hi : i < ρ.length := (List.getElem?_eq_some_iff.mp es).1
              have q := I0.slot i s es
              rw [h] at q
              rw [es] at e
              cases s with
              | un => cases e
              | sh _ => cases e
              | br _ => cases e
              | ow o' =>
                obtain ⟨w, ew, ow, nd', f⟩ := q
                cases ew
                refine put (s' := .ow o) hn rfl r' hi ho (fun p1 p2 p3 => ⟨v0, h, p1, p2, fun a ha => ⟨(p3 a ha).1, ?_⟩⟩) e
                rcases (p3 a ha).2 with z | z
                · exact (f a z).2
                · exact none_back I0.dom z
              | io o' =>
                obtain ⟨w, ew, ow, nd', f, m⟩ := q
                cases ew
                refine put (s' := .io o) hn rfl r' hi ho (fun p1 p2 p3 => ⟨v0, h, p1, p2, fun a ha => ⟨(p3 a ha).1, ?_⟩, m⟩) e
                rcases (p3 a ha).2 with z | z
                · exact (f a z).2
                · exact .inr (none_back I0.dom z)
/-- behind a callee's end: the new state -/
theorem call_end {ms : List Md} {rs : List RV} {vs : List V} {outs : List (Option OD)} {Hd' H' : Hp} {fpB : Fp} {ρ' : Env} (I : Inv K C fp Hd H σ ρ) (nd : (ioIx ms rs).Nodup) (r : RVs K Hd σ rs vs)
    (F : FinOk K Hd H (argFp fp ms rs) vs outs Hd' H' fpB) (e : outE ρ ms rs outs (drops ms rs ρ) = some ρ') : ∃ fp', Stp fp Hd H fp' Hd' H' ∧ Inv K C fp' Hd' H' σ ρ' ∧ ∀ i a, a ∈ fp' i → a ∈ fp i ∨ ∃ j, a ∈ fpB j := by
  obtain ⟨fp0, I0, h0⟩ := drops_inv ms rs I
  have I1 : Inv K C fp0 Hd' H' σ (drops ms rs ρ) := I0.change (N := fun b => ∃ i, b ∈ argFp fp ms rs i) F.hd F.le F.fr (fun b o q n => F.keep b o q fun i hi => n ⟨i, hi⟩) F.dom (fun b ⟨j, hb⟩ => by
    obtain ⟨i, _, hb⟩ := argFp_mem hb
    exact (I.fpOk hb).2.2.imp_left fun z => ⟨i, z⟩) fun i a ha ⟨j, hb⟩ => by
    obtain ⟨k, e', hb⟩ := argFp_mem hb
    obtain ⟨z1, z2⟩ := h0 i a ha
    have := I.dis i k a z1 hb
    subst this
    exact z2 (ioAt_mem e')
  obtain ⟨fp', I2, hf⟩ := outE_inv (Hd := Hd') (H := H') (fpB := fpB) I nd h0 F.dis ms rs vs outs 0 fp0 _ ρ' (fun j => by rw [Nat.zero_add]) r (fun j o v q q' => by rw [Nat.zero_add]; exact F.outs j o v q q') (drops_len ms rs ρ) I1 (fun i a h => .inl h) e
  refine ⟨fp', ⟨F.hd, fun b hb => (F.fr b hb).imp_right .inl, fun b o q n => F.keep b o q fun i hi => ?_, F.dom, fun i b hb => ?_⟩, I2, fun i a h => ?_⟩
  · obtain ⟨k, _, hb⟩ := argFp_mem hi
    exact n k hb
  · rcases hf i b hb with z | ⟨j, _, z⟩
    · exact .inl ⟨i, (h0 i b z).1⟩
    · rcases z with z | z
      · obtain ⟨k, _, hb⟩ := argFp_mem z
        exact .inl ⟨k, hb⟩
      · exact .inr z
  · rcases hf i a h with z | ⟨j, z, _⟩
    · exact .inl (h0 i a z).1
    · exact .inr ⟨j, z⟩
end
section
variable {K : PySem.W.Frag} {W : St → XK}
/-- the call of a def of the text; dds: the defaults' data -/
def fCall (ms : List Md) (dds : List D) (F : List Ar → FO) (fa : Env → Res (List RV)) : Env → Res RV := fun ρ => (fa ρ).bind fun rs ρ1 => callR ms F (rs ++ dds.map .val) ρ1
theorem RVs.append {Hd : Hp} {σ : St} : ∀ {rs rs' : List RV} {vs vs' : List V}, RVs K Hd σ rs vs → RVs K Hd σ rs' vs' → RVs K Hd σ (rs ++ rs') (vs ++ vs')
  | _, _, _, _, .nil, s => s
  | _, _, _, _, .val h r, s => .val h (RVs.append r s)
  | _, _, _, _, .bor h r, s => .bor h (RVs.append r s)
theorem rvs_vals {Hd : Hp} {σ : St} : ∀ {ds : List D} {vs : List V}, Reps K Hd ds vs → RVs K Hd σ (ds.map .val) vs
  | _, _, .nil => .nil
  | _, _, .cons h r => .val h (rvs_vals r)
theorem mkArs_len {ios : List Nat} {ρ : Env} : ∀ {ms : List Md} {rs : List RV} {as : List Ar}, mkArs ios ms rs ρ = some as → as.length = ms.length := by
  intro ms
  induction ms with
  | nil => intro rs as h; cases rs <;> cases h; rfl
  | cons m ms ih =>
    intro rs as h
    cases rs with
    | nil => cases m <;> cases h
    | cons r rs =>
      have fin : ∀ {a : Ar}, (mkArs ios ms rs ρ).map (a :: ·) = some as → as.length = (m :: ms).length := fun {a} e => by
        cases e2 : mkArs ios ms rs ρ with
        | none => rw [e2] at e; cases e
        | some as' => rw [e2] at e; cases e; simp [ih e2]
      cases m with
      | sh => cases r with
        | val d => exact fin h
        | own _ => cases h
        | bor _ => cases h
      | br => cases r with
        | val d => exact fin h
        | own _ => cases h
        | bor i =>
          simp only [mkArs] at h
          split at h
          · cases h
          · split at h
            · exact fin h
            · cases h
      | io => cases r with
        | val _ => cases h
        | own _ => cases h
        | bor i =>
          simp only [mkArs] at h
          split at h
          · exact fin h
          · exact fin h
          · cases h
theorem callR_ok {ms : List Md} {n : Nat} {F : List Ar → FO} {C : Cn} {fp : Fp} {Hd H : Hp} {σ : St} {ρ : Env} {rs : List RV} {vs : List V} {Q : VK} (I : Inv K C fp Hd H σ ρ) (hn : ms.length = n) (r : RVs K Hd σ rs vs)
    (p : Post K W C (rV K) fp Hd H σ (callR ms F rs ρ) Q) : spF K n F vs H Q (W σ) := by
  unfold callR at p
  by_cases nd : (ioIx ms rs).Nodup
  · rw [if_pos nd] at p
    cases ea : mkArs (ioIx ms rs) ms rs ρ with
    | none => simp only [ea] at p; exact p.elim
    | some as =>
      simp only [ea] at p
      obtain ⟨q1, q2, q3⟩ := ars_ok I nd (ms := ms) (rs := rs) 0 (fun j => by rw [Nat.zero_add]) r ea
      have hl := mkArs_len ea
      have A : ArgsOk K Hd H as vs (argFp fp ms rs) := ⟨q1, fun j a v h h' => by
        have q := q3 j a v h h'
        rw [Nat.zero_add] at q
        exact q, fun i j a h h' => by
        obtain ⟨k, e1, h1⟩ := argFp_mem h
        obtain ⟨k', e2, h2⟩ := argFp_mem h'
        have := I.dis k k' a h1 h2
        subst this
        exact ioAt_inj nd e1 e2, fun j hj => by
        refine argFp_none ?_
        have : ∀ (ms : List Md) (rs : List RV) (j : Nat), ms.length ≤ j → ioAt ms rs j = none := fun ms => by
          induction ms with
          | nil => intro rs j _; cases rs <;> cases j <;> rfl
          | cons m ms ih =>
            intro rs j hj
            cases j with
            | zero => simp at hj
            | succ j =>
              cases rs with
              | nil => cases m <;> rfl
              | cons x rs =>
                have : ioAt (m :: ms) (x :: rs) (j + 1) = ioAt ms rs j := by cases m <;> cases x <;> rfl
                rw [this]; exact ih rs j (by simpa using hj)
        exact this ms rs j (by omega)⟩
      refine ⟨Hd, as, argFp fp ms rs, I.le, by omega, A, ?_⟩
      cases eF : F as with
      | no => simp only [eF] at p; exact p.elim
      | exc ex outs =>
        simp only [eF] at p
        cases eo : outE ρ ms rs outs (drops ms rs ρ) with
        | none => simp only [eo] at p; exact p.elim
        | some ρ' =>
          simp only [eo] at p
          intro d Hd' H' fpB fin hx
          obtain ⟨fp', s, I', _⟩ := call_end I nd r fin eo
          exact p d fp' Hd' H' s I' hx
      | ret z outs =>
        simp only [eF] at p
        cases eo : outE ρ ms rs outs (drops ms rs ρ) with
        | none => simp only [eo] at p; exact p.elim
        | some ρ' =>
          simp only [eo] at p
          intro v Hd' H' fpB fin hr
          obtain ⟨fp', s, I', hf⟩ := call_end I nd r fin eo
          cases z with
          | bor _ => exact p.elim
          | val d => exact p v fp' Hd' H' s I' hr
          | own o =>
            obtain ⟨B, ow, ndB, f⟩ := hr
            refine p v fp' Hd' H' s I' ⟨B, ow, ndB, fun b hb => ⟨(f b hb).1, none_back I.dom (f b hb).2.1, fun i hi => ?_, (f b hb).2.1⟩⟩
            rcases hf i b hi with z | ⟨j, z⟩
            · exact (I.fpOk z).1 (f b hb).2.1
            · exact (f b hb).2.2 j z
  · rw [if_neg nd] at p; exact p.elim
theorem sd_call {ms : List Md} {n : Nat} {dds : List D} {dvs : List V} {F : List Ar → FO} {ta : TA} {fa : Env → Res (List RV)} (hn : ms.length = n) (hd : ∀ Hd : Hp, Reps K Hd dds dvs) (ha : Sd K W (rA K) ta fa) :
    Sd K W (rV K) (L2.tCallSD (spF K n F) dvs W ta) (fCall ms dds F fa) := fun C fp Hd H σ ρ I Q p =>
  ha.run I p fun rs vs fp0 Hd0 H0 ρ0 s0 I0 h p => callR_ok I0 hn (h.append (rvs_vals (hd Hd0))) p
end
end O

/-! Own4: statements, loops, comprehensions, a def's promise by its body -/
namespace O
open PySem
open L2 (V Hp HO Rd SqL SqT upd upd_same upd_ne ne_of ne_of_none TE TT TA TS TG TGs TI It VK XK Ends St PE PT PW PA PS PSs PG PGs PI Cx OpR UnR CallR R2 tOp tUn tVar tC tCons tNil tTup tLst tTest tB tAnd tOr tNot tAndV tOrV tNotV tIf tCB Sp FnOk)
/-! ### statements -/
inductive SR where
  | nx (ρ : Env) | rt (r : RV) (ρ : Env) | bk (ρ : Env) | ct (ρ : Env) | ex (e : Exc) (ρ : Env) | no
def PostS (K : PySem.W.Frag) (W : St → XK) (C : Cn) (fp : Fp) (Hd H : Hp) (x : SR) (D : Ends) : Prop :=
  match x with
  | .nx ρ' => ∀ σ' fp' Hd' H', Stp fp Hd H fp' Hd' H' → Inv K C fp' Hd' H' σ' ρ' → D.nx σ' H'
  | .bk ρ' => ∀ σ' fp' Hd' H', Stp fp Hd H fp' Hd' H' → Inv K C fp' Hd' H' σ' ρ' → D.bk σ' H'
  | .ct ρ' => ∀ σ' fp' Hd' H', Stp fp Hd H fp' Hd' H' → Inv K C fp' Hd' H' σ' ρ' → D.ct σ' H'
  | .rt r ρ' => ∀ v σ' fp' Hd' H', Stp fp Hd H fp' Hd' H' → Inv K C fp' Hd' H' σ' ρ' → RVal K C fp' Hd' H' σ' r v → D.rt v H'
  | .ex c ρ' => ∀ d σ' fp' Hd' H', Stp fp Hd H fp' Hd' H' → Inv K C fp' Hd' H' σ' ρ' → ExAt K Hd' H' c d → W σ' c.cls d H'
  | .no => False
def Ss (K : PySem.W.Frag) (W : St → XK) (t : TS) (g : Env → SR) : Prop :=
  ∀ (C : Cn) (fp : Fp) (Hd H : Hp) (σ : St) (ρ : Env), Inv K C fp Hd H σ ρ → ∀ D : Ends, PostS K W C fp Hd H (g ρ) D → t D σ H
structure JS (X : Cx) (W : St → XK) (s : Stmt) (t : TS) (g : Env → SR) : Prop where
  ps : PS X s t
  ss : Ss X.K W t g
structure JB (X : Cx) (W : St → XK) (s : List Stmt) (t : TS) (g : Env → SR) : Prop where
  pss : PSs X s t
  ss : Ss X.K W t g
theorem PostS.stp {K : PySem.W.Frag} {W : St → XK} {C : Cn} {fp fp' : Fp} {Hd H Hd' H' : Hp} {x : SR} {D : Ends} (s : Stp fp Hd H fp' Hd' H') (h : PostS K W C fp Hd H x D) : PostS K W C fp' Hd' H' x D := by
  cases x with
  | nx ρ' => exact fun σ' fp2 Hd2 H2 s2 => h σ' fp2 Hd2 H2 (s.trans s2)
  | bk ρ' => exact fun σ' fp2 Hd2 H2 s2 => h σ' fp2 Hd2 H2 (s.trans s2)
  | ct ρ' => exact fun σ' fp2 Hd2 H2 s2 => h σ' fp2 Hd2 H2 (s.trans s2)
  | rt r ρ' => exact fun v σ' fp2 Hd2 H2 s2 => h v σ' fp2 Hd2 H2 (s.trans s2)
  | ex c ρ' => exact fun d σ' fp2 Hd2 H2 s2 => h d σ' fp2 Hd2 H2 (s.trans s2)
  | no => exact h
/-- an answer, then a statement's end -/
def Res.thn {α : Type} (x : Res α) (f : α → Env → SR) : SR :=
  match x with
  | .ok a ρ => f a ρ
  | .ex e ρ => .ex e ρ
  | .no => .no
def SR.seq (x : SR) (f : Env → SR) : SR :=
  match x with
  | .nx ρ => f ρ
  | x => x
theorem Sd.runS {α β : Type} {K : PySem.W.Frag} {W : St → XK} {rel : Rel α β} {t : St → Hp → (β → Hp → Prop) → Prop} {f : Env → Res α} {g : α → Env → SR} (h : Sd K W rel t f)
    {C : Cn} {fp : Fp} {Hd H : Hp} {σ : St} {ρ : Env} (I : Inv K C fp Hd H σ ρ) {D : Ends} {Q' : β → Hp → Prop} (p : PostS K W C fp Hd H ((f ρ).thn g) D)
    (k : ∀ (r : α) (v : β) (fp1 : Fp) (Hd1 H1 : Hp) (ρ1 : Env), Stp fp Hd H fp1 Hd1 H1 → Inv K C fp1 Hd1 H1 σ ρ1 → rel.r C H fp1 Hd1 H1 σ r v → PostS K W C fp1 Hd1 H1 (g r ρ1) D → Q' v H1) : t σ H Q' := by
  refine h C fp Hd H σ ρ I _ ?_
  cases e : f ρ with
  | ok r ρ1 =>
    simp only [e, Res.thn] at p
    exact fun v fp1 Hd1 H1 s1 I1 r1 => k r v fp1 Hd1 H1 ρ1 s1 I1 r1 (p.stp s1)
  | ex c ρ1 =>
    simp only [e, Res.thn] at p
    exact fun d fp1 Hd1 H1 s1 I1 hx => p d σ fp1 Hd1 H1 s1 I1 hx
  | no =>
    simp only [e, Res.thn] at p
    exact p
section
variable {K : PySem.W.Frag} {W : St → XK}
theorem PostS.now {C : Cn} {fp : Fp} {Hd H : Hp} {σ : St} {ρ : Env} {D : Ends} (p : PostS K W C fp Hd H (.nx ρ) D) (I : Inv K C fp Hd H σ ρ) : D.nx σ H := p σ fp Hd H (.refl _ _ _) I
def gNext : Env → SR := fun ρ => .nx ρ
theorem ss_next : Ss K W L2.tNext gNext := fun C fp Hd H σ ρ I D p => p.now I
def gBrk : Env → SR := fun ρ => .bk ρ
theorem ss_brk : Ss K W L2.tBreak gBrk := fun C fp Hd H σ ρ I D p => p σ fp Hd H (.refl _ _ _) I
def gCont : Env → SR := fun ρ => .ct ρ
theorem ss_cont : Ss K W L2.tCont gCont := fun C fp Hd H σ ρ I D p => p σ fp Hd H (.refl _ _ _) I
def gNever : Env → SR := fun _ => .no
theorem ss_never : Ss K W L2.tNever gNever := fun C fp Hd H σ ρ I D p => p
def gSeq (g1 g2 : Env → SR) : Env → SR := fun ρ => (g1 ρ).seq g2
theorem ss_seq {t1 t2 : TS} {g1 g2 : Env → SR} (h1 : Ss K W t1 g1) (h2 : Ss K W t2 g2) : Ss K W (L2.tSeq t1 t2) (gSeq g1 g2) := fun C fp Hd H σ ρ I D p => by
  refine h1 C fp Hd H σ ρ I { D with nx := t2 D } ?_
  have p : PostS K W C fp Hd H ((g1 ρ).seq g2) D := p
  cases e : g1 ρ with
  | nx ρ1 =>
    rw [e] at p
    exact fun σ' fp' Hd' H' s' I' => h2 C fp' Hd' H' σ' ρ1 I' D (PostS.stp s' p)
  | rt r ρ1 => rw [e] at p; exact p
  | bk ρ1 => rw [e] at p; exact p
  | ct ρ1 => rw [e] at p; exact p
  | ex c ρ1 => rw [e] at p; exact p
  | no => rw [e] at p; exact p
def gIf (ft : Env → Res Bool) (g1 g2 : Env → SR) : Env → SR := fun ρ => (ft ρ).thn fun b ρ1 => if b = true then g1 ρ1 else g2 ρ1
theorem ss_if {tt : TT} {t1 t2 : TS} {ft : Env → Res Bool} {g1 g2 : Env → SR} (ht : Sd K W rB tt ft) (h1 : Ss K W t1 g1) (h2 : Ss K W t2 g2) : Ss K W (L2.tIfS tt t1 t2) (gIf ft g1 g2) := fun C fp Hd H σ ρ I D p =>
  ht.runS I p fun b b' fp1 Hd1 H1 ρ1 s1 I1 e p => by
    have e : b' = b := e
    subst e
    cases b' with
    | true => exact h1 C fp1 Hd1 H1 σ ρ1 I1 D p
    | false => exact h2 C fp1 Hd1 H1 σ ρ1 I1 D p
def gDrop (fa : Env → Res RV) : Env → SR := fun ρ => (fa ρ).thn fun _ ρ1 => .nx ρ1
theorem ss_drop {ta : TE} {fa : Env → Res RV} (h : Sd K W (rV K) ta fa) : Ss K W (L2.tDrop ta) (gDrop fa) := fun C fp Hd H σ ρ I D p =>
  h.runS I p fun r v fp1 Hd1 H1 ρ1 s1 I1 _ p => p.now I1
/-- a value moved out -/
def mv (r : RV) (ρ : Env) : Res RV :=
  match r with
  | .val d => .ok (.val d) ρ
  | .own o => .ok (.own o) ρ
  | .bor i => match ρ[i]? with
    | some (.sh d) => .ok (.val d) ρ
    | some (.br d) => if d.still then .ok (.val d) ρ else .no
    | some (.ow o) => .ok (.own o) (ρ.set i .un)
    | _ => .no
theorem mv_ok {C : Cn} {fp : Fp} {Hd H : Hp} {σ : St} {ρ ρ' : Env} {r z : RV} {v : V} (I : Inv K C fp Hd H σ ρ) (h : RVal K C fp Hd H σ r v) (e : mv r ρ = .ok z ρ') : ∃ fp', Stp fp Hd H fp' Hd H ∧ Inv K C fp' Hd H σ ρ' ∧ RVal K C fp' Hd H σ z v ∧ ∀ i, z ≠ .bor i := by
  cases r with
  | val d => cases e; exact ⟨fp, .refl _ _ _, I, h, fun _ z => nomatch z⟩
  | own o => cases e; exact ⟨fp, .refl _ _ _, I, h, fun _ z => nomatch z⟩
  | bor i =>
    simp only [mv] at e
    have h : σ[i]? = some (some v) := h
    cases es : ρ[i]? with
    | none => simp only [es] at e; cases e
    | some s =>
      have q := I.slot i s es
      rw [h] at q
      have hi : i < ρ.length := (List.getElem?_eq_some_iff.mp es).1
      cases s with
      | un => simp only [es] at e; cases e
      | io o => simp only [es] at e; cases e
      | sh d =>
        simp only [es] at e
        cases e
        obtain ⟨_, w, ew, r⟩ := q
        cases ew
        exact ⟨fp, .refl _ _ _, I, r, fun _ z => nomatch z⟩
      | br d =>
        simp only [es] at e
        obtain ⟨_, w, ew, t, n⟩ := q
        cases ew
        cases hs : d.still with
        | false => rw [hs] at e; cases e
        | true =>
          rw [hs] at e
          cases e
          exact ⟨fp, .refl _ _ _, I, (I.brTop t n).still hs, fun _ z => nomatch z⟩
      | ow o =>
        simp only [es] at e
        cases e
        obtain ⟨w, ew, ow, nd, f⟩ := q
        cases ew
        refine ⟨setF fp i [], stp_setF (fun _ h => by cases h), I.drop hi, ⟨fp i, ow, nd, fun a ha => ⟨(f a ha).1, (f a ha).2, fun j hj => ?_⟩⟩, fun _ z => nomatch z⟩
        by_cases ej : j = i
        · subst ej; rw [setF_same] at hj; cases hj
        · rw [setF_ne ej] at hj
          exact ej (I.dis j i a hj ha)
def gRet (fa : Env → Res RV) : Env → SR := fun ρ => (fa ρ).thn fun r ρ1 => (mv r ρ1).thn fun z ρ2 => .rt z ρ2
theorem ss_ret {ta : TE} {fa : Env → Res RV} (h : Sd K W (rV K) ta fa) : Ss K W (L2.tRet ta) (gRet fa) := fun C fp Hd H σ ρ I D p =>
  h.runS I p fun r v fp1 Hd1 H1 ρ1 s1 I1 hr p => by
    have hr := rV_loose hr
    cases em : mv r ρ1 with
    | no => rw [em] at p; exact p.elim
    | ex c ρ2 =>
      exfalso
      cases r with
      | val d => cases em
      | own o => cases em
      | bor i => simp only [mv] at em; split at em <;> first | cases em | (split at em <;> cases em)
    | ok z ρ2 =>
      rw [em] at p
      obtain ⟨fp2, s2, I2, hz, _⟩ := mv_ok I1 hr em
      exact p v σ fp2 Hd1 H1 s2 I2 hz
def gRetN : Env → SR := fun ρ => .rt (.val .non) ρ
theorem ss_retN : Ss K W L2.tRetN gRetN := fun C fp Hd H σ ρ I D p => p .non σ fp Hd H (.refl _ _ _) I Rep.non
/-! ### a name is stored -/
/-- what a slot gets -/
def slotOf (i : Nat) (r : RV) (ρ : Env) : Option Sl :=
  match r with
  | .val d => some (.sh d)
  | .own (.fz d) => some (.sh d)
  | .own o => some (.ow o)
  | .bor j => match ρ[j]? with
    | some (.sh d) => some (.sh d)
    | some (.br d) => some (.br d)
    | _ => none
/-- a slot that may be stored to -/
def free (i : Nat) (ρ : Env) : Bool := match ρ[i]? with
  | some (.io _) => false
  | some _ => true
  | none => false
def putSlot (i : Nat) (r : RV) (ρ : Env) : Option Env :=
  if free i ρ then (slotOf i r ρ).map fun s => ρ.set i s else none
theorem put_ok {C : Cn} {fp : Fp} {Hs Hd H : Hp} {fps : Fp} {Hds : Hp} {σ : St} {ρ ρ' : Env} {r : RV} {v : V} {i : Nat} (s : Stp fps Hds Hs fp Hd H) (I : Inv K C fp Hd H σ ρ) (h : (rV K).r C Hs fp Hd H σ r v) (e : putSlot i r ρ = some ρ') :
    ∃ fp', Stp fps Hds Hs fp' Hd H ∧ Inv K C fp' Hd H (σ.set i (some v)) ρ' := by
  unfold putSlot at e
  cases hf : free i ρ with
  | false => rw [hf] at e; cases e
  | true =>
    rw [hf] at e
    unfold free at hf
    cases es : ρ[i]? with
    | none => rw [es] at hf; cases hf
    | some s0 =>
      have hi : i < ρ.length := (List.getElem?_eq_some_iff.mp es).1
      have hσ : (σ.set i (some v))[i]? = some (some v) := List.getElem?_set_self (by rw [I.len]; exact hi)
      have fin : ∀ {s' : Sl} {A' : List Addr}, ρ' = ρ.set i s' → SlotOk K C Hd H i s' (σ.set i (some v))[i]? A' → (∀ a ∈ A', Hs a = none ∧ ∀ j, a ∉ fp j) → ∃ fp', Stp fps Hds Hs fp' Hd H ∧ Inv K C fp' Hd H (σ.set i (some v)) ρ' := fun {s' A'} e' hs hA => by
        subst e'
        exact ⟨_, stp_loose s fun a ha => (hA a ha).1, I.set_slot hi hs (fun a ha j _ => (hA a ha).2 j) (by simp) fun j hj => List.getElem?_set_ne (Ne.symm hj)⟩
      cases r with
      | val d => cases e; exact fin rfl ⟨rfl, v, hσ, h⟩ fun _ h => by cases h
      | own o =>
        obtain ⟨A, ow, nd, f⟩ := h
        have go : ∀ o', o' = o → ρ' = ρ.set i (.ow o') → ∃ fp', Stp fps Hds Hs fp' Hd H ∧ Inv K C fp' Hd H (σ.set i (some v)) ρ' := fun o' eo e' => by
          subst eo
          exact fin e' ⟨v, hσ, ow, nd, fun a ha => ⟨(f a ha).1, (f a ha).2.1⟩⟩ fun a ha => ⟨(f a ha).2.2.2, (f a ha).2.2.1⟩
        cases o with
        | fz d => cases e; cases ow; rename_i r; exact fin rfl ⟨rfl, v, hσ, r⟩ fun _ h => by cases h
        | lst ds => cases e; exact go _ rfl rfl
        | dic ds => cases e; exact go _ rfl rfl
        | ins c fs => cases e; exact go _ rfl rfl
      | bor j =>
        have h : σ[j]? = some (some v) := h
        simp only [slotOf] at e
        cases ej : ρ[j]? with
        | none => rw [ej] at e; cases e
        | some s1 =>
          have q := I.slot j s1 ej
          rw [h] at q
          rw [ej] at e
          cases s1 with
          | un => cases e
          | ow o => cases e
          | io o => cases e
          | sh d =>
            cases e
            obtain ⟨_, w, ew, r⟩ := q
            cases ew
            exact fin rfl ⟨rfl, v, hσ, r⟩ fun _ h => by cases h
          | br d =>
            cases e
            obtain ⟨_, w, ew, t⟩ := q
            cases ew
            exact fin rfl ⟨rfl, v, hσ, t⟩ fun _ h => by cases h
def gSet (i : Nat) (fa : Env → Res RV) : Env → SR := fun ρ => (fa ρ).thn fun r ρ1 => match putSlot i r ρ1 with
  | some ρ2 => .nx ρ2
  | none => .no
theorem ss_set {i : Nat} {ta : TE} {fa : Env → Res RV} (h : Sd K W (rV K) ta fa) : Ss K W (L2.tAsg ta (L2.gName i)) (gSet i fa) := fun C fp Hd H σ ρ I D p =>
  -- the heap ahead is asked for: the run's own
  h C fp Hd H σ ρ I _ (by
    have p : PostS K W C fp Hd H ((fa ρ).thn fun r ρ1 => match putSlot i r ρ1 with | some ρ2 => .nx ρ2 | none => .no) D := p
    cases e : fa ρ with
    | no => rw [e] at p; exact p
    | ex c ρ1 => rw [e] at p; exact fun d fp1 Hd1 H1 s1 I1 hx => p d σ fp1 Hd1 H1 s1 I1 hx
    | ok r ρ1 =>
      rw [e] at p
      intro v fp1 Hd1 H1 s1 I1 hr
      simp only [Res.thn] at p
      cases ep : putSlot i r ρ1 with
      | none => rw [ep] at p; exact p.elim
      | some ρ2 =>
        rw [ep] at p
        obtain ⟨fp2, s2, I2⟩ := put_ok s1 I1 hr ep
        exact p _ fp2 Hd1 H1 s2 I2)
/-- several targets of a value -/
inductive Tg where
  | name (i : Nat) | tup (ts : List Tg)
def takeN (i : Nat) (d : D) (ρ : Env) : Option Env := putSlot i (.val d) ρ
mutual
def takeT : Tg → D → Env → Option Env
  | .name i, d, ρ => putSlot i (.val d) ρ
  | .tup ts, .tup ds, ρ => takeTs ts ds ρ
  | .tup _, _, _ => none
def takeTs : List Tg → List D → Env → Option Env
  | [], [], ρ => some ρ
  | t :: ts, d :: ds, ρ => match takeT t d ρ with
    | some ρ1 => takeTs ts ds ρ1
    | none => none
  | _, _, _ => none
end
mutual
def slotsT : Tg → List Nat
  | .name i => [i]
  | .tup ts => slotsTs ts
def slotsTs : List Tg → List Nat
  | [] => []
  | t :: ts => slotsT t ++ slotsTs ts
end
/-- but for some slots the frame is as it was -/
def SameS (us : List Nat) (σ σ' : St) : Prop := ∀ vs : List Nat, (∀ u ∈ us, u ∈ vs) → L2.wipe σ' vs = L2.wipe σ vs
theorem setC {α : Type} : ∀ (l : List α) {i j : Nat} {a b : α}, i ≠ j → (l.set i a).set j b = (l.set j b).set i a
  | [], _, _, _, _, _ => rfl
  | _ :: _, 0, 0, _, _, h => absurd rfl h
  | _ :: _, 0, _ + 1, _, _, _ => rfl
  | _ :: _, _ + 1, 0, _, _, _ => rfl
  | x :: l, i + 1, j + 1, a, b, h => by
    show x :: (l.set i a).set j b = x :: (l.set j b).set i a
    rw [setC l (fun e => h (by rw [e]))]
theorem wipe_set {σ : St} {j : Nat} {x : Option V} : ∀ {vs : List Nat}, j ∈ vs → L2.wipe (σ.set j x) vs = L2.wipe σ vs
  | [], h => by cases h
  | v :: vs, h => by
    unfold L2.wipe
    by_cases e : j ∈ vs
    · rw [wipe_set e]
    · have e' : j = v := (List.mem_cons.mp h).elim id fun z => absurd z e
      subst e'
      have out : ∀ (σ : St) (vs : List Nat), j ∉ vs → ∀ x y, (L2.wipe (σ.set j x) vs).set j y = (L2.wipe σ vs).set j y := by
        intro σ vs
        induction vs with
        | nil => intro _ x y; unfold L2.wipe; rw [List.set_set]
        | cons w vs ih =>
          intro hn x y
          have h1 : j ≠ w := fun z => hn (by simp [z])
          have h2 : j ∉ vs := fun z => hn (by simp [z])
          unfold L2.wipe
          rw [setC _ h1.symm, setC _ h1.symm, ih h2 x y]
      exact out σ vs e x none
theorem SameS.refl {us : List Nat} {σ : St} : SameS us σ σ := fun _ _ => rfl
theorem SameS.trans {us us' : List Nat} {σ σ1 σ2 : St} (a : SameS us σ σ1) (b : SameS us' σ1 σ2) : SameS (us ++ us') σ σ2 := fun vs h =>
  (b vs fun u hu => h u (by simp [hu])).trans (a vs fun u hu => h u (by simp [hu]))
theorem SameS.set {j : Nat} {σ : St} {x : Option V} : SameS [j] σ (σ.set j x) := fun vs h => wipe_set (h j (by simp))
/-- what a target's reading does with frozen data -/
def Gt (K : PySem.W.Frag) (g : TG) (t : Tg) : Prop :=
  ∀ (C : Cn) (fp : Fp) (Hd H : Hp) (σ : St) (ρ ρ' : Env) (d : D) (v : V), Inv K C fp Hd H σ ρ → Rep K Hd d v → takeT t d ρ = some ρ' → ∀ Q : St → Hp → Prop, (∀ σ' fp', SameS (slotsT t) σ σ' → Stp fp Hd H fp' Hd H → Inv K C fp' Hd H σ' ρ' → Q σ' H) → g v σ H Q
def Gts (K : PySem.W.Frag) (g : TGs) (ts : List Tg) : Prop :=
  ∀ (C : Cn) (fp : Fp) (Hd H : Hp) (σ : St) (ρ ρ' : Env) (ds : List D) (vs : List V), Inv K C fp Hd H σ ρ → Reps K Hd ds vs → takeTs ts ds ρ = some ρ' → ∀ Q : St → Hp → Prop, (∀ σ' fp', SameS (slotsTs ts) σ σ' → Stp fp Hd H fp' Hd H → Inv K C fp' Hd H σ' ρ' → Q σ' H) → g vs σ H Q
theorem gt_name {i : Nat} : Gt K (L2.gName i) (.name i) := fun C fp Hd H σ ρ ρ' d v I h e Q q => by
  obtain ⟨fp', s, I'⟩ := put_ok (r := .val d) (.refl fp Hd H) I h (by simpa [takeT] using e)
  exact q _ fp' .set s I'
theorem gts_nil : Gts K L2.gNil [] := fun C fp Hd H σ ρ ρ' ds vs I r e Q q => by
  cases r with
  | nil => simp [takeTs] at e; subst e; exact ⟨rfl, q σ fp .refl (.refl _ _ _) I⟩
  | cons _ _ => simp [takeTs] at e
theorem gts_cons {g : TG} {gs : TGs} {t : Tg} {ts : List Tg} (h : Gt K g t) (hs : Gts K gs ts) : Gts K (L2.gCons g gs) (t :: ts) := fun C fp Hd H σ ρ ρ' ds vs I r e Q q => by
  cases r with
  | nil => simp [takeTs] at e
  | cons h1 r =>
    rename_i d v ds vs
    simp only [takeTs] at e
    cases e1 : takeT t d ρ with
    | none => rw [e1] at e; cases e
    | some ρ1 =>
      rw [e1] at e
      exact ⟨v, vs, rfl, h C fp Hd H σ ρ ρ1 d v I h1 e1 _ fun σ1 fp1 m1 s1 I1 => hs C fp1 Hd H σ1 ρ1 ρ' ds vs I1 r e Q fun σ2 fp2 m2 s2 I2 => q σ2 fp2 (by rw [slotsTs]; exact m1.trans m2) (s1.trans s2) I2⟩
theorem takeTs_len : ∀ {ts : List Tg} {ds : List D} {ρ ρ' : Env}, takeTs ts ds ρ = some ρ' → ds.length = ts.length
  | [], [], _, _, _ => rfl
  | [], _ :: _, _, _, e => by simp [takeTs] at e
  | _ :: _, [], _, _, e => by simp [takeTs] at e
  | t :: ts, d :: ds, ρ, ρ', e => by
    simp only [takeTs] at e
    cases e1 : takeT t d ρ with
    | none => rw [e1] at e; cases e
    | some ρ1 => rw [e1] at e; simp [takeTs_len e]
theorem gt_tup {gs : TGs} {ts : List Tg} {n : Nat} (hn : ts.length = n) (h : Gts K gs ts) : Gt K (L2.gTup K n gs) (.tup ts) := fun C fp Hd H σ ρ ρ' d v I hr e Q q => by
  cases d with
  | tup ds =>
    simp only [takeT] at e
    cases hr with
    | tup ht r => exact ⟨_, _, rfl, I.le.sqT ht, by rw [r.length, takeTs_len e]; exact hn, h C fp Hd H σ ρ ρ' ds _ I r e Q (by rw [slotsT] at q; exact q)⟩
  | _ => simp [takeT] at e
/-- target = value, the value frozen -/
def gAsg (t : Tg) (fa : Env → Res RV) : Env → SR := fun ρ => ((fa ρ).bind fz).thn fun d ρ1 => match takeT t d ρ1 with
  | some ρ2 => .nx ρ2
  | none => .no
theorem ss_asg {g : TG} {t : Tg} {ta : TE} {fa : Env → Res RV} (h : Sd K W (rV K) ta fa) (hg : Gt K g t) : Ss K W (L2.tAsg ta g) (gAsg t fa) := fun C fp Hd H σ ρ I D p =>
  h.fz.runS I p fun d v fp1 Hd1 H1 ρ1 s1 I1 hr p => by
    cases e : takeT t d ρ1 with
    | none => rw [e] at p; exact p.elim
    | some ρ2 => rw [e] at p; exact hg C fp1 Hd1 H1 σ ρ1 ρ2 d v I1 hr e _ fun σ' fp' _ s' I' => p σ' fp' Hd1 H1 s' I'
/-- an answer with what it was before -/
theorem rV_stp {C : Cn} {Hs : Hp} {fp fp' : Fp} {Hd H Hd' H' : Hp} {σ : St} {r : RV} {v : V} (s : Stp fp Hd H fp' Hd' H') (h : (rV K).r C Hs fp Hd H σ r v) : (rV K).r C Hs fp' Hd' H' σ r v := by
  cases r with
  | val d => exact Rep.mono s.hd h
  | bor i => exact h
  | own o =>
    obtain ⟨A, ow, nd, f⟩ := h
    refine ⟨A, ow.frame s.hd fun a ha u e => s.keep a u e (f a ha).2.2.1, nd, fun a ha => ⟨?_, (f a ha).2.1, fun i hi => ?_, (f a ha).2.2.2⟩⟩
    · cases e : Hd' a with
      | none => rfl
      | some u =>
        rcases s.fr a (by rw [e]; intro z; cases z) with q | q | ⟨i, q⟩
        · exact absurd (f a ha).1 q
        · exact absurd q (ow.there a ha)
        · exact absurd q ((f a ha).2.2.1 i)
    · rcases s.fpx i a hi with ⟨j, hj⟩ | q
      · exact (f a ha).2.2.1 j hj
      · exact ow.there a ha q
/-- borrowed things are taken along as what they are -/
def hold (r : RV) (ρ : Env) : Option RV :=
  match r with
  | .bor j => match ρ[j]? with
    | some (.sh d) => some (.val d)
    | some (.br d) => if d.still then some (.val d) else none
    | _ => none
  | r => some r
theorem hold_ok {C : Cn} {Hs : Hp} {fp : Fp} {Hd H : Hp} {σ : St} {ρ : Env} {r z : RV} {v : V} (I : Inv K C fp Hd H σ ρ) (h : (rV K).r C Hs fp Hd H σ r v) (e : hold r ρ = some z) : (rV K).r C Hs fp Hd H σ z v ∧ ∀ i, z ≠ .bor i := by
  cases r with
  | val d => cases e; exact ⟨h, fun _ z => nomatch z⟩
  | own o => cases e; exact ⟨h, fun _ z => nomatch z⟩
  | bor j =>
    have h : σ[j]? = some (some v) := h
    simp only [hold] at e
    cases es : ρ[j]? with
    | none => rw [es] at e; cases e
    | some s =>
      have q := I.slot j s es
      rw [h] at q
      rw [es] at e
      cases s with
      | un => cases e
      | ow _ => cases e
      | io _ => cases e
      | sh d => cases e; obtain ⟨_, w, ew, r⟩ := q; cases ew; exact ⟨r, fun _ z => nomatch z⟩
      | br d =>
        obtain ⟨_, w, ew, t, n⟩ := q
        cases ew
        simp only at e
        cases hs : d.still with
        | false => rw [hs] at e; cases e
        | true => rw [hs] at e; cases e; exact ⟨(I.brTop t n).still hs, fun _ z => nomatch z⟩
/-- a value by itself, made between Hs and He -/
def rW (K : PySem.W.Frag) (C : Cn) (Hs He : Hp) (fp : Fp) (Hd H : Hp) (r : RV) (v : V) : Prop :=
  match r with
  | .val d => Rep K Hd d v
  | .own o => ∃ A, Own K Hd H o v A ∧ A.Nodup ∧ ∀ a ∈ A, Hd a = none ∧ C.H0 a = none ∧ (∀ i, a ∉ fp i) ∧ Hs a = none ∧ He a ≠ none
  | .bor _ => False
theorem rW_of {C : Cn} {Hs : Hp} {fp : Fp} {Hd H : Hp} {σ : St} {r : RV} {v : V} (hn : ∀ j, r ≠ .bor j) (h : (rV K).r C Hs fp Hd H σ r v) : rW K C Hs H fp Hd H r v := by
  cases r with
  | val d => exact h
  | bor j => exact absurd rfl (hn j)
  | own o =>
    obtain ⟨A, ow, nd, f⟩ := h
    exact ⟨A, ow, nd, fun a ha => ⟨(f a ha).1, (f a ha).2.1, (f a ha).2.2.1, (f a ha).2.2.2, ow.there a ha⟩⟩
theorem rW_back {C : Cn} {Hs Hs' He : Hp} {fp : Fp} {Hd H : Hp} {r : RV} {v : V} (d : ∀ x, Hs x ≠ none → Hs' x ≠ none) (h : rW K C Hs' He fp Hd H r v) : rW K C Hs He fp Hd H r v := by
  cases r with
  | val d => exact h
  | bor j => exact h
  | own o =>
    obtain ⟨A, ow, nd, f⟩ := h
    exact ⟨A, ow, nd, fun a ha => ⟨(f a ha).1, (f a ha).2.1, (f a ha).2.2.1, none_back d (f a ha).2.2.2.1, (f a ha).2.2.2.2⟩⟩
theorem rW_stp {C : Cn} {Hs He : Hp} {fp fp' : Fp} {Hd H Hd' H' : Hp} {r : RV} {v : V} (s : Stp fp Hd H fp' Hd' H') (h : rW K C Hs He fp Hd H r v) : rW K C Hs He fp' Hd' H' r v := by
  cases r with
  | val d => exact Rep.mono s.hd h
  | bor i => exact h
  | own o =>
    obtain ⟨A, ow, nd, f⟩ := h
    refine ⟨A, ow.frame s.hd fun a ha u e => s.keep a u e (f a ha).2.2.1, nd, fun a ha => ⟨?_, (f a ha).2.1, fun i hi => ?_, (f a ha).2.2.2⟩⟩
    · cases e : Hd' a with
      | none => rfl
      | some u =>
        rcases s.fr a (by rw [e]; intro z; cases z) with q | q | ⟨i, q⟩
        · exact absurd (f a ha).1 q
        · exact absurd q (ow.there a ha)
        · exact absurd q ((f a ha).2.2.1 i)
    · rcases s.fpx i a hi with ⟨j, hj⟩ | q
      · exact (f a ha).2.2.1 j hj
      · exact ow.there a ha q
/-- values one after the other, each made behind the one before it -/
def Chain (K : PySem.W.Frag) (C : Cn) (fp : Fp) (Hd H : Hp) : Hp → List RV → List V → Prop
  | _, [], [] => True
  | Hs, r :: rs, v :: vs => ∃ He, rW K C Hs He fp Hd H r v ∧ (∀ x, Hs x ≠ none → He x ≠ none) ∧ Chain K C fp Hd H He rs vs
  | _, _, _ => False
theorem Chain.back {C : Cn} {Hs Hs' : Hp} {fp : Fp} {Hd H : Hp} {rs : List RV} {vs : List V} (d : ∀ x, Hs x ≠ none → Hs' x ≠ none) (h : Chain K C fp Hd H Hs' rs vs) : Chain K C fp Hd H Hs rs vs := by
  cases rs with
  | nil => cases vs with
    | nil => trivial
    | cons _ _ => exact h
  | cons r rs => cases vs with
    | nil => exact h
    | cons v vs =>
      obtain ⟨He, h1, d1, h2⟩ := h
      exact ⟨He, rW_back d h1, fun x q => d1 x (d x q), h2⟩
theorem Chain.imp {C : Cn} {fp fp' : Fp} {Hd H Hd' H' H0 : Hp} (hw : ∀ {Hs He : Hp} {r : RV} {v : V}, (∀ x, H0 x ≠ none → Hs x ≠ none) → rW K C Hs He fp Hd H r v → rW K C Hs He fp' Hd' H' r v) :
    ∀ {rs : List RV} {vs : List V} {Hs : Hp}, (∀ x, H0 x ≠ none → Hs x ≠ none) → Chain K C fp Hd H Hs rs vs → Chain K C fp' Hd' H' Hs rs vs
  | [], [], _, _, _ => trivial
  | [], _ :: _, _, _, h => h
  | _ :: _, [], _, _, h => h
  | r :: rs, v :: vs, Hs, d, h => by
    obtain ⟨He, h1, d1, h2⟩ := h
    exact ⟨He, hw d h1, d1, Chain.imp hw (fun x q => d1 x (d x q)) h2⟩
/-- a value stored; what was made behind it stays as it is -/
theorem put_W {C : Cn} {fps fp : Fp} {Hds Hs He Hd H : Hp} {σ : St} {ρ ρ' : Env} {r : RV} {v : V} {i : Nat} {Hb : Hp} (s : Stp fps Hds Hb fp Hd H) (db : ∀ x, Hb x ≠ none → Hs x ≠ none) (I : Inv K C fp Hd H σ ρ) (h : rW K C Hs He fp Hd H r v) (e : putSlot i r ρ = some ρ') :
    ∃ fp', Stp fps Hds Hb fp' Hd H ∧ Inv K C fp' Hd H (σ.set i (some v)) ρ' ∧ ∀ {rs : List RV} {vs : List V}, Chain K C fp Hd H He rs vs → Chain K C fp' Hd H He rs vs := by
  have keep : ∀ {A : List Addr}, (∀ a ∈ A, He a ≠ none) → ∀ {rs : List RV} {vs : List V}, Chain K C fp Hd H He rs vs → Chain K C (setF fp i A) Hd H He rs vs := fun {A} hA {rs vs} h =>
    Chain.imp (fun {Hq Hr r v} d h => by
      cases r with
      | val x => exact h
      | bor j => exact h
      | own o =>
        obtain ⟨B, ow, nd, f⟩ := h
        refine ⟨B, ow, nd, fun a ha => ⟨(f a ha).1, (f a ha).2.1, fun j hj => ?_, (f a ha).2.2.2⟩⟩
        by_cases ej : j = i
        · subst ej
          rw [setF_same] at hj
          exact d a (hA a hj) (f a ha).2.2.2.1
        · rw [setF_ne ej] at hj
          exact (f a ha).2.2.1 j hj) (fun _ h => h) h
  unfold putSlot at e
  cases hf : free i ρ with
  | false => rw [hf] at e; cases e
  | true =>
    rw [hf] at e
    have hi : i < ρ.length := by
      unfold free at hf
      cases es : ρ[i]? with
      | none => rw [es] at hf; cases hf
      | some _ => exact (List.getElem?_eq_some_iff.mp es).1
    have hσ : (σ.set i (some v))[i]? = some (some v) := List.getElem?_set_self (by rw [I.len]; exact hi)
    cases r with
    | bor j => exact h.elim
    | val d =>
      cases e
      exact ⟨_, stp_loose s (fun _ h => by cases h), I.set_slot hi ⟨rfl, v, hσ, h⟩ (fun _ h => by cases h) (by simp) fun j hj => List.getElem?_set_ne (Ne.symm hj), keep (fun _ h => by cases h)⟩
    | own o =>
      obtain ⟨A, ow, nd, f⟩ := h
      have go : ∀ {s' : Sl} {A' : List Addr}, ρ' = ρ.set i s' → (∀ a ∈ A', a ∈ A) → SlotOk K C Hd H i s' (σ.set i (some v))[i]? A' → ∃ fp', Stp fps Hds Hb fp' Hd H ∧ Inv K C fp' Hd H (σ.set i (some v)) ρ' ∧ ∀ {rs : List RV} {vs : List V}, Chain K C fp Hd H He rs vs → Chain K C fp' Hd H He rs vs := fun {s' A'} e' hA hs => by
        subst e'
        exact ⟨_, stp_loose s (fun a ha => none_back db (f a (hA a ha)).2.2.2.1), I.set_slot hi hs (fun a ha j _ => (f a (hA a ha)).2.2.1 j) (by simp) fun j hj => List.getElem?_set_ne (Ne.symm hj), keep fun a ha => (f a (hA a ha)).2.2.2.2⟩
      have slot : ∀ {o' : OD}, o' = o → SlotOk K C Hd H i (.ow o') (σ.set i (some v))[i]? A := fun {o'} e => by
        subst e
        exact ⟨v, hσ, ow, nd, fun a ha => ⟨(f a ha).1, (f a ha).2.1⟩⟩
      cases o with
      | fz d => cases e; cases ow; rename_i r; exact go (A' := []) rfl (fun _ h => by cases h) ⟨rfl, v, hσ, r⟩
      | lst ds => cases e; exact go (A' := A) rfl (fun _ h => h) (slot rfl)
      | dic ds => cases e; exact go (A' := A) rfl (fun _ h => h) (slot rfl)
      | ins c fs => cases e; exact go (A' := A) rfl (fun _ h => h) (slot rfl)
/-- what several places take -/
def putMany : List Nat → List RV → Env → Option Env
  | [], [], ρ => some ρ
  | i :: is, r :: rs, ρ => match putSlot i r ρ with
    | some ρ1 => putMany is rs ρ1
    | none => none
  | _, _, _ => none
def setMany : List Nat → List V → St → St
  | i :: is, v :: vs, σ => setMany is vs (σ.set i (some v))
  | _, _, σ => σ
theorem putMany_ok : ∀ {is : List Nat} {rs : List RV} {vs : List V} {C : Cn} {Hs Hb : Hp} {fp : Fp} {Hd H : Hp} {fps : Fp} {Hds : Hp} {σ : St} {ρ ρ' : Env}, Stp fps Hds Hb fp Hd H → (∀ x, Hb x ≠ none → Hs x ≠ none) → Inv K C fp Hd H σ ρ → Chain K C fp Hd H Hs rs vs → putMany is rs ρ = some ρ' →
    vs.length = is.length ∧ ∃ fp', Stp fps Hds Hb fp' Hd H ∧ Inv K C fp' Hd H (setMany is vs σ) ρ' := by
  intro is
  induction is with
  | nil =>
    intro rs vs C Hs Hb fp Hd H fps Hds σ ρ ρ' s d I m e
    cases rs with
    | cons _ _ => cases e
    | nil => cases vs with
      | nil => cases e; exact ⟨rfl, fp, s, I⟩
      | cons _ _ => exact False.elim m
  | cons i is ih =>
    intro rs vs C Hs Hb fp Hd H fps Hds σ ρ ρ' s d I m e
    cases rs with
    | nil => cases e
    | cons r rs => cases vs with
      | nil => exact False.elim m
      | cons v vs =>
        simp only [putMany] at e
        cases e1 : putSlot i r ρ with
        | none => rw [e1] at e; cases e
        | some ρ1 =>
          rw [e1] at e
          obtain ⟨He, h1, d1, h2⟩ := m
          obtain ⟨fp1, s1, I1, k1⟩ := put_W s d I h1 e1
          obtain ⟨q, fp2, s2, I2⟩ := ih s1 (fun x h => d1 x (d x h)) I1 (k1 h2) e
          exact ⟨by simp [q], fp2, s2, I2⟩
/-- several values in a row, held -/
def hNil : Env → Res (List RV) := fun ρ => .ok [] ρ
def hCons (fa : Env → Res RV) (fr : Env → Res (List RV)) : Env → Res (List RV) := fun ρ => (fa ρ).bind fun r ρ1 => match hold r ρ1 with
  | some z => (fr ρ1).bind fun rs ρ2 => .ok (z :: rs) ρ2
  | none => .no
def rM (K : PySem.W.Frag) : Rel (List RV) (List V) := ⟨fun C Hs fp Hd H _ rs vs => Chain K C fp Hd H Hs rs vs, fun d m => Chain.back d m⟩
theorem sm_nil : Sd K W (rM K) tNil hNil := fun C fp Hd H σ ρ I Q p => p.now I trivial
theorem sm_cons {ta : TE} {fa : Env → Res RV} {tr : TA} {fr : Env → Res (List RV)} (ha : Sd K W (rV K) ta fa) (hr : Sd K W (rM K) tr fr) : Sd K W (rM K) (tCons ta tr) (hCons fa fr) := fun C fp Hd H σ ρ I Q p => by
  refine ha C fp Hd H σ ρ I _ ?_
  have p : Post K W C (rM K) fp Hd H σ (hCons fa fr ρ) Q := p
  unfold hCons at p
  cases e : fa ρ with
  | no => rw [e] at p; exact p
  | ex c ρ1 => rw [e] at p; exact p
  | ok r ρ1 =>
    simp only [e, Res.bind] at p
    intro v fp1 Hd1 H1 s1 I1 h1
    cases eh : hold r ρ1 with
    | none => simp only [eh] at p; exact p.elim
    | some z =>
      simp only [eh] at p
      obtain ⟨h1, hz⟩ := hold_ok I1 h1 eh
      refine hr C fp1 Hd1 H1 σ ρ1 I1 _ ?_
      cases e2 : fr ρ1 with
      | no => simp only [e2] at p; exact p
      | ex c ρ2 => simp only [e2] at p; exact fun d fp2 Hd2 H2 s2 => p d fp2 Hd2 H2 (s1.trans s2)
      | ok rs ρ2 =>
        simp only [e2] at p
        intro vs fp2 Hd2 H2 s2 I2 m
        exact p (v :: vs) fp2 Hd2 H2 (s1.trans s2) I2 ⟨H1, rW_stp s2 (rW_of hz h1), s1.dom, m⟩
def gParN (is : List Nat) (fa : Env → Res (List RV)) : Env → SR := fun ρ => (fa ρ).thn fun rs ρ1 => match putMany is rs ρ1 with
  | some ρ2 => .nx ρ2
  | none => .no
theorem parN {is : List Nat} {ta : TA} {fa : Env → Res (List RV)} (ha : Sd K W (rM K) ta fa) {C : Cn} {fp : Fp} {Hd H : Hp} {σ : St} {ρ : Env} (I : Inv K C fp Hd H σ ρ) {D : Ends} (p : PostS K W C fp Hd H (gParN is fa ρ) D) {Q : List V → Hp → Prop}
    (q : ∀ vs H', vs.length = is.length → D.nx (setMany is vs σ) H' → Q vs H') : ta σ H Q := by
  refine ha C fp Hd H σ ρ I _ ?_
  unfold gParN at p
  cases e : fa ρ with
  | no => rw [e] at p; exact p
  | ex c ρ1 => rw [e] at p; exact fun d fp1 Hd1 H1 s1 I1 hx => p d σ fp1 Hd1 H1 s1 I1 hx
  | ok rs ρ1 =>
    simp only [e, Res.thn] at p
    intro vs fp1 Hd1 H1 s1 I1 m
    cases e1 : putMany is rs ρ1 with
    | none => simp only [e1] at p; exact p.elim
    | some ρ2 =>
      simp only [e1] at p
      obtain ⟨hl, fp2, s2, I2⟩ := putMany_ok s1 (fun _ h => h) I1 m e1
      exact q vs H1 hl (p _ fp2 Hd1 H1 s2 I2)
theorem ss_par {i j : Nat} {ta : TA} {fa : Env → Res (List RV)} (ha : Sd K W (rM K) ta fa) : Ss K W (L2.tPar i j ta) (gParN [i, j] fa) := fun C fp Hd H σ ρ I D p =>
  parN ha I p fun vs H' hl q => match vs, hl with
    | [v, w], _ => ⟨v, w, rfl, q⟩
theorem ss_par3 {i j l : Nat} {ta : TA} {fa : Env → Res (List RV)} (ha : Sd K W (rM K) ta fa) : Ss K W (L2.tPar3 i j l ta) (gParN [i, j, l] fa) := fun C fp Hd H σ ρ I D p =>
  parN ha I p fun vs H' hl q => match vs, hl with
    | [u, v, w], _ => ⟨u, v, w, rfl, q⟩
end
end O

/-! Own5: what is walked, for, while, comprehensions, things changed in place, a def's promise by its body -/
namespace O
open PySem
open L2 (V Hp HO Rd SqL SqT upd upd_same upd_ne ne_of ne_of_none TE TT TA TS TG TGs TI It VK XK Ends St PE PT PW PA PS PSs PG PGs PI Cx OpR UnR CallR R2 tOp tUn tVar tC tCons tNil tTup tLst tTest tB tAnd tOr tNot tAndV tOrV tNotV tIf tCB Sp FnOk)
section
variable {K : PySem.W.Frag} {W : St → XK}
/-! ### what is walked -/
def WalkD (K : PySem.W.Frag) (C : Cn) (Hd0 : Hp) (J : It) (ds : List D) : Prop :=
  L2.Walk J ds.length (fun H => ∃ fp Hd σ ρ, Inv K C fp Hd H σ ρ ∧ Le Hd0 Hd) fun i H x H' => ∃ d, ds[i]? = some d ∧ ∀ fp Hd σ ρ, Inv K C fp Hd H σ ρ → Le Hd0 Hd → NewR K Hd H (.val d) x H'
def PostI (K : PySem.W.Frag) (W : St → XK) (C : Cn) (fp : Fp) (Hd H : Hp) (σ : St) (x : Res (List D)) (R : It → Hp → Prop) : Prop :=
  match x with
  | .ok ds ρ' => ∀ J fp' Hd' H', Stp fp Hd H fp' Hd' H' → Inv K C fp' Hd' H' σ ρ' → WalkD K C Hd' J ds → R J H'
  | .ex c ρ' => ∀ d fp' Hd' H', Stp fp Hd H fp' Hd' H' → Inv K C fp' Hd' H' σ ρ' → ExAt K Hd' H' c d → W σ c.cls d H'
  | .no => False
def Si (K : PySem.W.Frag) (W : St → XK) (wi : TI) (fi : Env → Res (List D)) : Prop :=
  ∀ (C : Cn) (fp : Fp) (Hd H : Hp) (σ : St) (ρ : Env), Inv K C fp Hd H σ ρ → ∀ R : It → Hp → Prop, PostI K W C fp Hd H σ (fi ρ) R → wi σ H R
structure JI (X : Cx) (W : St → XK) (tg iter : Expr) (wi : TI) (fi : Env → Res (List D)) : Prop where
  pi : PI X tg iter wi
  si : Si X.K W wi fi
/-! ### for -/
def forD (k : D → Env → Option Env) (g : Env → SR) : List D → Env → SR
  | [], ρ => .nx ρ
  | d :: ds, ρ => match k d ρ with
    | none => .no
    | some ρ1 => match g ρ1 with
      | .nx ρ2 => forD k g ds ρ2
      | .ct ρ2 => forD k g ds ρ2
      | .bk ρ2 => .nx ρ2
      | .rt r ρ2 => .rt r ρ2
      | .ex e ρ2 => .ex e ρ2
      | .no => .no
def gFor (fi : Env → Res (List D)) (t : Tg) (g : Env → SR) : Env → SR := fun ρ => (fi ρ).thn fun ds ρ1 => forD (takeT t) g ds ρ1
theorem Inv.newD {C : Cn} {fp : Fp} {Hd H : Hp} {σ : St} {ρ : Env} {d : D} {x : V} {H' : Hp} (I : Inv K C fp Hd H σ ρ) (n : NewR K Hd H (.val d) x H') : ∃ Hd', Stp fp Hd H fp Hd' H' ∧ Inv K C fp Hd' H' σ ρ ∧ Rep K Hd' d x := by
  obtain ⟨Hd', s, I', h⟩ := n.at I
  exact ⟨Hd', s, I', h⟩
theorem ss_for {wi : TI} {fi : Env → Res (List D)} {gt : TG} {t : Tg} {tb : TS} {g : Env → SR} (hi : Si K W wi fi) (hg : Gt K gt t) (hb : Ss K W tb g) : Ss K W (L2.tFor wi gt tb) (gFor fi t g) := fun C fp Hd H σ ρ I D p => by
  refine hi C fp Hd H σ ρ I _ ?_
  have p : PostS K W C fp Hd H ((fi ρ).thn fun ds ρ1 => forD (takeT t) g ds ρ1) D := p
  cases e : fi ρ with
  | no => rw [e] at p; exact p
  | ex c ρ1 => rw [e] at p; exact fun d fp1 Hd1 H1 s1 I1 hx => p d σ fp1 Hd1 H1 s1 I1 hx
  | ok ds ρ1 =>
    rw [e] at p
    simp only [Res.thn] at p
    intro J fp1 Hd1 H1 s1 I1 w
    refine L2.for_it w (fun i σ' H' => ∃ fp' Hd' ρ', Inv K C fp' Hd' H' σ' ρ' ∧ Le Hd1 Hd' ∧ PostS K W C fp' Hd' H' (forD (takeT t) g (ds.drop i) ρ') D) ⟨fp1, Hd1, ρ1, I1, .refl _, PostS.stp s1 p⟩ (fun i σ' H' _ ⟨fp', Hd', ρ', I', l, _⟩ => ⟨fp', Hd', σ', ρ', I', l⟩) ?_ ?_
    · rintro i x σ' H' H'' hi ⟨fp', Hd', ρ', I', l, p'⟩ ⟨d, hd, hy⟩
      obtain ⟨Hd2, s2, I2, r2⟩ := I'.newD (hy fp' Hd' σ' ρ' I' l)
      have p2 := PostS.stp s2 p'
      have e1 : ds.drop i = d :: ds.drop (i + 1) := by
        obtain ⟨hl, e⟩ := List.getElem?_eq_some_iff.mp hd
        rw [← e]; exact (List.drop_eq_getElem_cons hl)
      rw [e1] at p2
      simp only [forD] at p2
      cases ek : takeT t d ρ' with
      | none => simp only [ek] at p2; exact p2.elim
      | some ρ3 =>
        simp only [ek] at p2
        refine hg C fp' Hd2 H'' σ' ρ' ρ3 d x I2 r2 ek _ fun σ3 fp3 _ s3 I3 => ?_
        have p3 := PostS.stp s3 p2
        refine hb C fp3 Hd2 H'' σ3 ρ3 I3 _ ?_
        have l3 : Le Hd1 Hd2 := l.trans s2.hd
        cases eg : g ρ3 with
        | nx ρ4 => simp only [eg] at p3; exact fun σ4 fp4 Hd4 H4 s4 I4 => ⟨fp4, Hd4, ρ4, I4, l3.trans s4.hd, PostS.stp s4 p3⟩
        | ct ρ4 => simp only [eg] at p3; exact fun σ4 fp4 Hd4 H4 s4 I4 => ⟨fp4, Hd4, ρ4, I4, l3.trans s4.hd, PostS.stp s4 p3⟩
        | bk ρ4 => simp only [eg] at p3; exact p3
        | rt r ρ4 => simp only [eg] at p3; exact p3
        | ex c ρ4 => simp only [eg] at p3; exact p3
        | no => simp only [eg] at p3; exact p3
    · rintro σ' H' ⟨fp', Hd', ρ', I', l, p'⟩
      rw [List.drop_length] at p'
      exact p'.now I'
/-! ### while -/
def whileF (c : Env → Res Bool) (g : Env → SR) : Nat → Env → SR
  | 0, _ => .no
  | n + 1, ρ => (c ρ).thn fun b ρ1 => if b = true then
      match g ρ1 with
      | .nx ρ2 => whileF c g n ρ2
      | .ct ρ2 => whileF c g n ρ2
      | .bk ρ2 => .nx ρ2
      | .rt r ρ2 => .rt r ρ2
      | .ex e ρ2 => .ex e ρ2
      | .no => .no
    else .nx ρ1
@[irreducible] def FU : Nat := 1000000000
def gWhile (c : Env → Res Bool) (g : Env → SR) : Env → SR := whileF c g FU
theorem ss_while {tc : TT} {tb : TS} {c : Env → Res Bool} {g : Env → SR} (hc : Sd K W rB tc c) (hb : Ss K W tb g) : Ss K W (L2.tWhile tc tb) (gWhile c g) := fun C fp Hd H σ ρ I D p => by
  refine ⟨fun n σ' H' => ∃ fp' Hd' ρ', Inv K C fp' Hd' H' σ' ρ' ∧ PostS K W C fp' Hd' H' (whileF c g n ρ') D, ⟨FU, fp, Hd, ρ, I, p⟩, ?_⟩
  rintro n σ' H' ⟨fp', Hd', ρ', I', p'⟩
  cases n with
  | zero => exact p'.elim
  | succ n =>
    refine hc.runS I' p' fun b b' fp1 Hd1 H1 ρ1 s1 I1 e p1 => ?_
    have e : b' = b := e
    subst e
    cases b' with
    | false => exact p1.now I1
    | true =>
      refine ⟨fun σ2 H2 => ∃ fp2 Hd2 ρ2, Inv K C fp2 Hd2 H2 σ2 ρ2 ∧ PostS K W C fp2 Hd2 H2 (whileF c g n ρ2) D, fun σ2 H2 h => ⟨n, by omega, h⟩, ?_⟩
      refine hb C fp1 Hd1 H1 σ' ρ1 I1 _ ?_
      simp only [if_true] at p1
      cases eg : g ρ1 with
      | nx ρ4 => simp only [eg] at p1; exact fun σ4 fp4 Hd4 H4 s4 I4 => ⟨fp4, Hd4, ρ4, I4, PostS.stp s4 p1⟩
      | ct ρ4 => simp only [eg] at p1; exact fun σ4 fp4 Hd4 H4 s4 I4 => ⟨fp4, Hd4, ρ4, I4, PostS.stp s4 p1⟩
      | bk ρ4 => simp only [eg] at p1; exact p1
      | rt r ρ4 => simp only [eg] at p1; exact p1
      | ex c ρ4 => simp only [eg] at p1; exact p1
      | no => simp only [eg] at p1; exact p1
end
/-! ### things changed in place -/
section
variable {K : PySem.W.Frag} {C : Cn} {fp : Fp} {Hd H : Hp} {σ : St} {ρ : Env}
def ownAt (i : Nat) (ρ : Env) : Option OD := match ρ[i]? with
  | some (.ow o) => some o
  | some (.io o) => some o
  | _ => none
def setOw (i : Nat) (o : OD) (ρ : Env) : Env := match ρ[i]? with
  | some (.ow _) => ρ.set i (.ow o)
  | some (.io _) => ρ.set i (.io o)
  | _ => ρ
/-- the owned thing of a name -/
theorem ownAt_ok {i : Nat} {o : OD} (I : Inv K C fp Hd H σ ρ) (e : ownAt i ρ = some o) : ∃ v, σ[i]? = some (some v) ∧ Own K Hd H o v (fp i) ∧ (fp i).Nodup ∧ ∀ a ∈ fp i, Hd a = none := by
  unfold ownAt at e
  cases es : ρ[i]? with
  | none => rw [es] at e; cases e
  | some s =>
    have q := I.slot i s es
    rw [es] at e
    cases s with
    | un => cases e
    | sh _ => cases e
    | br _ => cases e
    | ow o' => cases e; obtain ⟨v, ev, ow, nd, f⟩ := q; exact ⟨v, ev, ow, nd, fun a ha => (f a ha).1⟩
    | io o' => cases e; obtain ⟨v, ev, ow, nd, f, _⟩ := q; exact ⟨v, ev, ow, nd, fun a ha => (f a ha).1⟩
/-- its top object changed -/
theorem Inv.mutate {i : Nat} {o o' : OD} {v : V} {a : Addr} {u : HO} (I : Inv K C fp Hd H σ ρ) (e : ownAt i ρ = some o) (hv : σ[i]? = some (some v)) (ha : a ∈ fp i) (hn : Own K Hd (upd H a u) o' v (fp i)) :
    Stp fp Hd H fp Hd (upd H a u) ∧ Inv K C fp Hd (upd H a u) σ (setOw i o' ρ) := by
  have hHd : Hd a = none := (I.fpOk ha).2.1
  have st : Stp fp Hd H fp Hd (upd H a u) := ⟨.refl _, fun _ h => .inl h, fun b o h n => by
    rw [upd_ne (fun z => n i (by rw [z]; exact ha))]; exact h, fun b h => by
    by_cases z : b = a
    · rw [z, upd_same]; intro w; cases w
    · rw [upd_ne z]; exact h, fun j b h => .inl ⟨j, h⟩⟩
  have le' : Le Hd (upd H a u) := ⟨fun b w r => by
    have nb : b ≠ a := fun z => by
      rw [z] at r
      rcases r with r | ⟨_, r⟩ <;> rw [hHd] at r <;> cases r
    rcases I.le b w r with q | ⟨x, q⟩
    · exact .inl (by rw [upd_ne nb]; exact q)
    · exact .inr ⟨x, by rw [upd_ne nb]; exact q⟩, fun b x w r => by
    have nb : b ≠ a := fun z => by rw [z, hHd] at r; cases r
    rw [upd_ne nb]; exact I.le.fr b x w r⟩
  refine ⟨st, ?_⟩
  have hC : a ∈ C.M i ∨ C.H0 a = none := (I.fpOk ha).2.2
  have slots : ∀ j s, j ≠ i → ρ[j]? = some s → SlotOk K C Hd (upd H a u) j s σ[j]? (fp j) := fun j s hj es => (I.slot j s es).ext (.refl _) (fun _ _ h => h) fun b hb w h => by
    rw [upd_ne (fun z => hj (I.dis j i b hb (by rw [z]; exact ha)))]; exact h
  have fin : ∀ s', (∃ s0, ρ[i]? = some s0) → SlotOk K C Hd (upd H a u) i s' σ[i]? (fp i) → Inv K C fp Hd (upd H a u) σ (ρ.set i s') := fun s' ⟨s0, es⟩ hs => by
    have hi : i < ρ.length := (List.getElem?_eq_some_iff.mp es).1
    refine ⟨le', I.hd0, fun b o h n => ?_, fun b h => st.dom b (I.dom b h), I.fresh, by rw [List.length_set]; exact I.len, fun j s es' => ?_, fun j hj => I.out j (by rw [List.length_set] at hj; exact hj), I.dis⟩
    · have nb : b ≠ a := fun z => by
        subst z
        rcases hC with q | q
        · exact n i q
        · rw [q] at h; cases h
      rw [upd_ne nb]; exact I.keep b o h n
    · by_cases hj : j = i
      · subst hj
        rw [List.getElem?_set_self hi] at es'
        cases es'
        exact hs
      · rw [List.getElem?_set_ne (Ne.symm hj)] at es'
        exact slots j s hj es'
  unfold setOw
  unfold ownAt at e
  cases es : ρ[i]? with
  | none => rw [es] at e; cases e
  | some s =>
    have q := I.slot i s es
    rw [es] at e
    cases s with
    | un => cases e
    | sh _ => cases e
    | br _ => cases e
    | ow x =>
      cases e
      obtain ⟨w, ew, ow, nd, f⟩ := q
      rw [hv] at ew; cases ew
      exact fin _ ⟨_, es⟩ ⟨v, hv, hn, nd, f⟩
    | io x =>
      cases e
      obtain ⟨w, ew, ow, nd, f, m⟩ := q
      rw [hv] at ew; cases ew
      exact fin _ ⟨_, es⟩ ⟨v, hv, hn, nd, f, m⟩
end
section
variable {K : PySem.W.Frag} {W : St → XK}
/-- a method that changes the list of a name; its arguments are frozen -/
def rGMut (K : PySem.W.Frag) (g : List D → List D → Option (List D × D)) : V → List V → Hp → VK → Prop := fun x vs H Q => ∃ (l : Addr) (xs : List V) (Hd : Hp) (ds es : List D) (ds' : List D) (z : D), x = .ref l ∧ H l = some (.lst xs) ∧ Reps K Hd ds xs ∧ Reps K Hd es vs ∧ g ds es = some (ds', z) ∧
  ∀ xs' v, Reps K Hd ds' xs' → Rep K Hd z v → Q v (upd H l (.lst xs'))
def fMut (i : Nat) (fa : Env → Res (List RV)) (g : List D → List D → Option (List D × D)) : Env → Res RV := fun ρ => (fa ρ).bind fun rs ρ1 => match vals rs, ownAt i ρ1 with
  | some es, some (.lst ds) => match g ds es with
    | some (ds', z) => .ok (.val z) (setOw i (.lst ds') ρ1)
    | none => .no
  | _, _ => .no
theorem tyV_list {H : Hp} {a : Addr} {xs : List V} (h : H a = some (.lst xs)) : L2.tyV K "list" (.ref a) H := .inl ⟨rfl, xs, .of h⟩
/-- ahead of the arguments the name must hold a list, too -/
theorem sd_mut {i : Nat} {ta : TA} {fa : Env → Res (List RV)} {g : List D → List D → Option (List D × D)} (ha : Sd K W (rA K) ta fa) : Sd K W (rV K) (L2.tBM K "list" (rGMut K g) (tVar i) ta) (fun ρ => match ownAt i ρ with
    | some (.lst _) => fMut i fa g ρ
    | _ => .no) := fun C fp Hd H σ ρ I Q p => by
  have p : Post K W C (rV K) fp Hd H σ (match ownAt i ρ with | some (.lst _) => fMut i fa g ρ | _ => .no) Q := p
  cases eo : ownAt i ρ with
  | none => rw [eo] at p; exact p.elim
  | some o =>
    cases o with
    | fz d => rw [eo] at p; exact p.elim
    | dic d => rw [eo] at p; exact p.elim
    | ins c d => rw [eo] at p; exact p.elim
    | lst ds0 =>
      rw [eo] at p
      obtain ⟨v, hv, ow, nd, hn⟩ := ownAt_ok I eo
      generalize hA : fp i = A at ow nd hn
      cases ow with
      | lst h r =>
        refine ⟨_, hv, tyV_list h, ?_⟩
        refine ha.run I p fun rs vs fp1 Hd1 H1 ρ1 s1 I1 hr p1 => ?_
        cases ev : vals rs with
        | none => simp only [ev] at p1; exact p1.elim
        | some es =>
          cases eo1 : ownAt i ρ1 with
          | none => simp only [ev, eo1] at p1; exact p1.elim
          | some o1 =>
            cases o1 with
            | fz d => simp only [ev, eo1] at p1; exact p1.elim
            | dic d => simp only [ev, eo1] at p1; exact p1.elim
            | ins c d => simp only [ev, eo1] at p1; exact p1.elim
            | lst ds =>
              simp only [ev, eo1] at p1
              cases eg : g ds es with
              | none => simp only [eg] at p1; exact p1.elim
              | some q =>
                obtain ⟨ds', z⟩ := q
                simp only [eg] at p1
                obtain ⟨v1, hv1, ow1, nd1, hn1⟩ := ownAt_ok I1 eo1
                rw [hv] at hv1
                cases hv1
                generalize hA1 : fp1 i = A1 at ow1
                cases ow1 with
                | lst h1 r1 =>
                  refine ⟨_, _, Hd1, ds, es, ds', z, rfl, h1, r1, reps_of hr ev, eg, fun xs' v' r' rz => ?_⟩
                  obtain ⟨s2, I2⟩ := I1.mutate (o' := .lst ds') (u := .lst xs') eo1 hv (by rw [hA1]; exact List.mem_singleton.mpr rfl) (by rw [hA1]; exact .lst upd_same r')
                  exact p1 v' fp1 Hd1 _ s2 I2 rz
/-- xs[i] = e, of an owned list -/
def gSetI (i : Nat) (fi fe : Env → Res RV) : Env → SR := fun ρ => ((fe ρ).bind fz).thn fun d ρ1 => match ownAt i ρ1 with
  | some (.lst _) => (fi ρ1).thn fun r ρ2 => match rd r ρ2, ownAt i ρ2 with
    | some (.int k), some (.lst ds) => match L2.ixN ds.length k with
      | some j => .nx (setOw i (.lst (ds.set j d)) ρ2)
      | none => .no
    | _, _ => .no
  | _ => .no
theorem ss_setI {i : Nat} {ti te : TE} {fi fe : Env → Res RV} (hi : Sd K W (rV K) ti fi) (he : Sd K W (rV K) te fe) : Ss K W (L2.tAsg te (L2.gSub (tVar i) ti L2.rSetL)) (gSetI i fi fe) := fun C fp Hd H σ ρ I D p =>
  he.fz.runS I p fun d v fp1 Hd1 H1 ρ1 s1 I1 hd p1 => by
    cases eo : ownAt i ρ1 with
    | none => simp only [eo] at p1; exact p1.elim
    | some o =>
      obtain ⟨w, hw, ow, nd, hn⟩ := ownAt_ok I1 eo
      cases o with
      | fz d => simp only [eo] at p1; exact p1.elim
      | dic d => simp only [eo] at p1; exact p1.elim
      | ins c d => simp only [eo] at p1; exact p1.elim
      | lst ds0 =>
        simp only [eo] at p1
        refine ⟨w, hw, ?_⟩
        refine hi.runS I1 p1 fun r x fp2 Hd2 H2 ρ2 s2 I2 hr p2 => ?_
        cases er : rd r ρ2 with
        | none => simp only [er] at p2; exact p2.elim
        | some dk =>
          cases dk with
          | int k =>
            cases eo2 : ownAt i ρ2 with
            | none => simp only [er, eo2] at p2; exact p2.elim
            | some o2 =>
              cases o2 with
              | fz d => simp only [er, eo2] at p2; exact p2.elim
              | dic d => simp only [er, eo2] at p2; exact p2.elim
              | ins c d => simp only [er, eo2] at p2; exact p2.elim
              | lst ds =>
                simp only [er, eo2] at p2
                cases ej : L2.ixN ds.length k with
                | none => simp only [ej] at p2; exact p2.elim
                | some j =>
                  simp only [ej] at p2
                  obtain ⟨v2, hv2, ow2, nd2, hn2⟩ := ownAt_ok I2 eo2
                  rw [hw] at hv2
                  cases hv2
                  generalize hA2 : fp2 i = A2 at ow2
                  cases ow2 with
                  | lst h2 r2 =>
                    obtain ⟨s3, I3⟩ := I2.mutate (o' := .lst (ds.set j d)) (u := .lst (List.set _ j v)) eo2 hw (by rw [hA2]; exact List.mem_singleton.mpr rfl) (by rw [hA2]; exact .lst upd_same (r2.set j (hd.mono s2.hd)))
                    exact ⟨_, _, k, j, rfl, (I2.rdTop (rV_loose hr) er).intD, h2, by rw [r2.length]; exact ej, p2 σ fp2 Hd2 _ s3 I3⟩
          | _ => simp only [er] at p2; exact p2.elim
/-! dicts -/
def keyD : D → Option L2.Key
  | .int i => some (.inl i)
  | .str x => some (.inr x)
  | _ => none
theorem key_v {Hd H : Hp} {d : D} {v : V} {k : L2.Key} (t : Top K Hd H d v) (e : keyD d = some k) : v = L2.kV k := by
  cases d with
  | int i => cases e; exact t.intD
  | str x => cases e; exact t.strD
  | _ => cases e
def getD (kvs : List (L2.Key × D)) (k : L2.Key) : Option D := (kvs.find? fun kv => decide (kv.1 = k)).map (·.2)
def putD (kvs : List (L2.Key × D)) (k : L2.Key) (d : D) : List (L2.Key × D) :=
  if (kvs.any fun kv => decide (kv.1 = k)) = true then kvs.map (fun kv => if kv.1 = k then (kv.1, d) else kv) else kvs ++ [(k, d)]
theorem Repk.any {H : Hp} {k : L2.Key} : ∀ {kvs : List (L2.Key × D)} {kws : List (L2.Key × V)}, Repk K H kvs kws → (kws.any fun kv => decide (kv.1 = k)) = (kvs.any fun kv => decide (kv.1 = k))
  | _, _, .nil => rfl
  | _, _, .cons _ r => by simp [Repk.any r]
theorem Repk.get {H : Hp} {k : L2.Key} : ∀ {kvs : List (L2.Key × D)} {kws : List (L2.Key × V)}, Repk K H kvs kws → (getD kvs k = none ∧ L2.valV kws k = none) ∨ ∃ d v, getD kvs k = some d ∧ L2.valV kws k = some v ∧ Rep K H d v
  | _, _, .nil => .inl ⟨rfl, rfl⟩
  | _, _, .cons (k := k') (d := d) (v := v) h r => by
    by_cases e : k' = k
    · exact .inr ⟨d, v, by simp [getD, List.find?_cons, e], by simp [L2.valV, List.find?_cons, e], h⟩
    · rcases Repk.get (k := k) r with ⟨q1, q2⟩ | ⟨d', v', q1, q2, q3⟩
      · exact .inl ⟨by simpa [getD, List.find?_cons, e] using q1, by simpa [L2.valV, List.find?_cons, e] using q2⟩
      · exact .inr ⟨d', v', by simpa [getD, List.find?_cons, e] using q1, by simpa [L2.valV, List.find?_cons, e] using q2, q3⟩
theorem Repk.append {H : Hp} : ∀ {a b : List (L2.Key × D)} {a' b' : List (L2.Key × V)}, Repk K H a a' → Repk K H b b' → Repk K H (a ++ b) (a' ++ b')
  | _, _, _, _, .nil, s => s
  | _, _, _, _, .cons h r, s => .cons h (Repk.append r s)
theorem Repk.mapPut {H : Hp} {k : L2.Key} {d : D} {v : V} (h : Rep K H d v) : ∀ {a : List (L2.Key × D)} {a' : List (L2.Key × V)}, Repk K H a a' → Repk K H (a.map fun kv => if kv.1 = k then (kv.1, d) else kv) (a'.map fun kv => if kv.1 = k then (kv.1, v) else kv)
  | _, _, .nil => .nil
  | _, _, .cons (k := k') q r => by
    by_cases e : k' = k
    · simp only [List.map_cons, e, if_true]; exact .cons h (Repk.mapPut h r)
    · simp only [List.map_cons, e, if_false]; exact .cons q (Repk.mapPut h r)
theorem Repk.put {H : Hp} {k : L2.Key} {d : D} {v : V} {a : List (L2.Key × D)} {a' : List (L2.Key × V)} (r : Repk K H a a') (h : Rep K H d v) : Repk K H (putD a k d) (L2.putK a' k v) := by
  unfold putD L2.putK
  rw [r.any]
  split
  · exact r.mapPut h
  · exact r.append (.cons h .nil)
/-- d[k] = e, of an owned dict -/
def gPutI (i : Nat) (fi fe : Env → Res RV) : Env → SR := fun ρ => ((fe ρ).bind fz).thn fun d ρ1 => match ownAt i ρ1 with
  | some _ => (fi ρ1).thn fun r ρ2 => match (rd r ρ2).bind keyD, ownAt i ρ2 with
    | some k, some (.dic kvs) => if kvs.length < sizeLine then .nx (setOw i (.dic (putD kvs k d)) ρ2) else .no
    | _, _ => .no
  | none => .no
theorem ss_putI {i : Nat} {ti te : TE} {fi fe : Env → Res RV} (hi : Sd K W (rV K) ti fi) (he : Sd K W (rV K) te fe) : Ss K W (L2.sDPut (tVar i) ti te) (gPutI i fi fe) := fun C fp Hd H σ ρ I D p =>
  he.fz.runS I p fun d v fp1 Hd1 H1 ρ1 s1 I1 hd p1 => by
    cases eo : ownAt i ρ1 with
    | none => simp only [eo] at p1; exact p1.elim
    | some o =>
      simp only [eo] at p1
      obtain ⟨w, hw, ow, nd, hn⟩ := ownAt_ok I1 eo
      refine ⟨w, hw, ?_⟩
      refine hi.runS I1 p1 fun r x fp2 Hd2 H2 ρ2 s2 I2 hr p2 => ?_
      cases er : rd r ρ2 with
      | none => simp only [er, Option.bind] at p2; exact p2.elim
      | some dk =>
        cases ek : keyD dk with
        | none => simp only [er, Option.bind, ek] at p2; exact p2.elim
        | some k =>
          cases eo2 : ownAt i ρ2 with
          | none => simp only [er, Option.bind, ek, eo2] at p2; exact p2.elim
          | some o2 =>
            cases o2 with
            | fz d => simp only [er, Option.bind, ek, eo2] at p2; exact p2.elim
            | lst d => simp only [er, Option.bind, ek, eo2] at p2; exact p2.elim
            | ins c d => simp only [er, Option.bind, ek, eo2] at p2; exact p2.elim
            | dic kvs =>
              simp only [er, Option.bind, ek, eo2] at p2
              by_cases hz : kvs.length < sizeLine
              · rw [if_pos hz] at p2
                obtain ⟨v2, hv2, ow2, nd2, hn2⟩ := ownAt_ok I2 eo2
                rw [hw] at hv2
                cases hv2
                generalize hA2 : fp2 i = A2 at ow2
                cases ow2 with
                | dic h2 r2 =>
                  rename_i a kws
                  obtain ⟨s3, I3⟩ := I2.mutate (o' := .dic (putD kvs k d)) (u := .dK (L2.putK kws k v)) eo2 hw (by rw [hA2]; exact List.mem_singleton.mpr rfl) (by rw [hA2]; exact .dic upd_same (r2.put (hd.mono s2.hd)))
                  have := key_v (I2.rdTop (rV_loose hr) er) ek
                  subst this
                  exact ⟨a, _, rfl, L2.DPut.k h2 (by rw [r2.length]; exact hz), p2 σ fp2 Hd2 _ s3 I3⟩
              · rw [if_neg hz] at p2; exact p2.elim
end
/-! ### a def's promise by its body -/
section
variable {K : PySem.W.Frag}
def slotA : Ar → Sl
  | .sh d => .sh d
  | .br d => .br d
  | .io o => .io o
def startE (n : Nat) (as : List Ar) : Env := as.map slotA ++ List.replicate (n - as.length) .un
/-- what became of the arguments that are changed -/
def outsOf : List Ar → Env → Option (List (Option OD))
  | [], _ => some []
  | .io _ :: as, .io o :: ρ => (outsOf as ρ).map (some o :: ·)
  | .io _ :: _, _ => none
  | _ :: as, _ :: ρ => (outsOf as ρ).map (none :: ·)
  | _ :: _, [] => none
def runF (n : Nat) (g : Env → SR) (as : List Ar) : FO :=
  match g (startE n as) with
  | .nx ρ => match outsOf as ρ with
    | some os => .ret (.val .non) os
    | none => .no
  | .rt r ρ => match outsOf as ρ with
    | some os => match r with
      | .bor _ => .no
      | r => .ret r os
    | none => .no
  | .ex e ρ => match outsOf as ρ with
    | some os => .exc e os
    | none => .no
  | _ => .no
theorem outsOf_io : ∀ {as : List Ar} {ρ : Env} {os : List (Option OD)}, outsOf as ρ = some os → ∀ (j : Nat) (o : OD), os[j]? = some (some o) → ρ[j]? = some (Sl.io o) ∧ ∃ o0, as[j]? = some (Ar.io o0)
  | [], _, _, h, j, o, e => by cases h; simp at e
  | .io o0 :: as, .io o1 :: ρ, os, h, j, o, e => by
    simp only [outsOf] at h
    cases h1 : outsOf as ρ with
    | none => rw [h1] at h; cases h
    | some os' =>
      rw [h1] at h; cases h
      cases j with
      | zero => simp at e; subst e; exact ⟨rfl, o0, rfl⟩
      | succ j => exact outsOf_io (as := as) (ρ := ρ) (os := os') h1 j o (by simpa using e)
  | .io _ :: _, .un :: _, _, h, _, _, _ => by cases h
  | .io _ :: _, .sh _ :: _, _, h, _, _, _ => by cases h
  | .io _ :: _, .br _ :: _, _, h, _, _, _ => by cases h
  | .io _ :: _, .ow _ :: _, _, h, _, _, _ => by cases h
  | .io _ :: _, [], _, h, _, _, _ => by cases h
  | .sh _ :: as, s :: ρ, os, h, j, o, e => by
    simp only [outsOf] at h
    cases h1 : outsOf as ρ with
    | none => rw [h1] at h; cases h
    | some os' =>
      rw [h1] at h; cases h
      cases j with
      | zero => simp at e
      | succ j => exact outsOf_io (as := as) (ρ := ρ) (os := os') h1 j o (by simpa using e)
  | .br _ :: as, s :: ρ, os, h, j, o, e => by
    simp only [outsOf] at h
    cases h1 : outsOf as ρ with
    | none => rw [h1] at h; cases h
    | some os' =>
      rw [h1] at h; cases h
      cases j with
      | zero => simp at e
      | succ j => exact outsOf_io (as := as) (ρ := ρ) (os := os') h1 j o (by simpa using e)
  | .sh _ :: _, [], _, h, _, _, _ => by cases h
  | .br _ :: _, [], _, h, _, _, _ => by cases h
theorem body_ok {n m : Nat} {N : List Str} {g : Env → SR} {t : TS} {vs : List V} {H : Hp} {Q : VK} {E : XK} (hN : N.length = n) (hm : m ≤ n) (hb : Ss K (fun _ => E) t g) (h : spF K m (runF n g) vs H Q E) :
    t { nx := fun _ H' => Q .non H', rt := Q } (L2.start N vs) H := by
  obtain ⟨Hd, as, fp, l, hl, A, p⟩ := h
  have hv : vs.length = m := by rw [← A.len]; exact hl
  let C : Cn := { H0 := H, Hd0 := Hd, M := fp, io := fun i v => vs[i]? = some v }
  have σ0 : ∀ i v, vs[i]? = some v → (L2.start N vs)[i]? = some (some v) := fun i v e => by
    unfold L2.start
    have hi : i < vs.length := (List.getElem?_eq_some_iff.mp e).1
    rw [List.getElem?_append_left (by simpa using hi), List.getElem?_map, e]; rfl
  have I : Inv K C fp Hd H (L2.start N vs) (startE n as) := by
    refine ⟨l, .refl _, fun b o e _ => e, fun b h => h, fun b h => .inl h, ?_, fun i s e => ?_, fun i hi => ?_, A.dis⟩
    · unfold L2.start startE
      simp only [List.length_append, List.length_map, List.length_replicate]
      omega
    · by_cases hi : i < as.length
      · unfold startE at e
        rw [List.getElem?_append_left (by simpa using hi), List.getElem?_map] at e
        cases ea : as[i]? with
        | none => rw [ea] at e; cases e
        | some a =>
          rw [ea] at e
          cases e
          have hiv : i < vs.length := by rw [← A.len]; exact hi
          have ev : vs[i]? = some vs[i] := by simp [hiv]
          have q := A.ok i a _ ea ev
          have eσ := σ0 i _ ev
          cases a with
          | sh d => exact ⟨q.1, _, eσ, q.2⟩
          | br d => exact ⟨q.1, _, eσ, q.2.1, q.2.2⟩
          | io o => exact ⟨_, eσ, q.1, q.2.1, fun a ha => ⟨q.2.2 a ha, .inl ha⟩, ev⟩
      · have : s = .un := by
          unfold startE at e
          rw [List.getElem?_append_right (by simpa using Nat.le_of_not_lt hi), List.getElem?_replicate] at e
          split at e
          · cases e; rfl
          · cases e
        subst this
        exact A.out i (Nat.le_of_not_lt hi)
    · refine A.out i ?_
      have : as.length ≤ (startE n as).length := by unfold startE; simp
      omega
  have fin : ∀ {σ' : St} {fp' : Fp} {Hd' H' : Hp} {ρ' : Env} {os : List (Option OD)}, Stp fp Hd H fp' Hd' H' → Inv K C fp' Hd' H' σ' ρ' → outsOf as ρ' = some os → FinOk K Hd H fp vs os Hd' H' fp' := fun {σ' fp' Hd' H' ρ' os} s I' eo => by
    refine ⟨I'.hd0, I'.le, I'.fresh, I'.keep, I'.dom, fun j o v e1 e2 => ?_, I'.dis⟩
    obtain ⟨e3, o0, e4⟩ := outsOf_io eo j o e1
    have q := I'.slot j _ e3
    obtain ⟨w, ew, ow, nd, f, m⟩ := q
    have m : vs[j]? = some w := m
    rw [e2] at m
    cases m
    exact ⟨ow, nd, f⟩
  refine hb C fp Hd H _ _ I _ ?_
  unfold runF at p
  cases eg : g (startE n as) with
  | nx ρ' =>
    rw [eg] at p
    simp only at p
    cases eo : outsOf as ρ' with
    | none => rw [eo] at p; exact p.elim
    | some os => rw [eo] at p; exact fun σ' fp' Hd' H' s I' => p .non Hd' H' fp' (fin s I' eo) Rep.non
  | rt r ρ' =>
    rw [eg] at p
    simp only at p
    cases eo : outsOf as ρ' with
    | none => rw [eo] at p; exact p.elim
    | some os =>
      rw [eo] at p
      intro v σ' fp' Hd' H' s I' hr
      cases r with
      | bor i => exact p.elim
      | val d => exact p v Hd' H' fp' (fin s I' eo) hr
      | own o =>
        obtain ⟨B, ow, nd, f⟩ := hr
        exact p v Hd' H' fp' (fin s I' eo) ⟨B, ow, nd, f⟩
  | ex c ρ' =>
    rw [eg] at p
    simp only at p
    cases eo : outsOf as ρ' with
    | none => rw [eo] at p; exact p.elim
    | some os => rw [eo] at p; exact fun d σ' fp' Hd' H' s I' hx => p d Hd' H' fp' (fin s I' eo) hx
  | bk ρ' => rw [eg] at p; exact p.elim
  | ct ρ' => rw [eg] at p; exact p.elim
  | no => rw [eg] at p; exact p.elim
end
end O

/-! Own6: list comprehensions; what lists, tuples, ranges .. give to a walk -/
namespace O
open PySem
open L2 (V Hp HO Rd SqL SqT upd upd_same upd_ne ne_of ne_of_none TE TT TA TS TG TGs TI It VK XK Ends St PE PT PW PA PS PSs PG PGs PI Cx OpR UnR CallR R2 tOp tUn tVar tC tCons tNil tTup tLst tTest tB tAnd tOr tNot tAndV tOrV tNotV tIf tCB Sp FnOk wipe)
section
variable {K : PySem.W.Frag} {C : Cn} {fp : Fp} {Hd H : Hp} {σ : St} {ρ : Env}
def wipeE (ρ : Env) : List Nat → Env
  | [] => ρ
  | v :: vs => (wipeE ρ vs).set v .un
def restE (ρ0 : Env) : List Nat → Env → Env
  | [], ρ => ρ
  | v :: vs, ρ => restE ρ0 vs (ρ.set v ((wipeE ρ0 vs)[v]?.getD .un))
theorem wipeE_len (ρ : Env) : ∀ vs, (wipeE ρ vs).length = ρ.length
  | [] => rfl
  | v :: vs => by unfold wipeE; rw [List.length_set, wipeE_len ρ vs]
theorem set_out {α : Type} {l : List α} {i : Nat} {a : α} (h : l.length ≤ i) : l.set i a = l := List.set_eq_of_length_le h
theorem Inv.drop1 {v : Nat} (I : Inv K C fp Hd H σ ρ) : Inv K C (setF fp v []) Hd H (σ.set v none) (ρ.set v .un) := by
  by_cases hi : v < ρ.length
  · exact I.set_slot hi rfl (fun _ h => by cases h) (by simp) fun j hj => List.getElem?_set_ne (Ne.symm hj)
  · rw [set_out (l := ρ) (by omega), set_out (l := σ) (by rw [I.len]; omega)]
    have e : setF fp v [] = fp := by
      funext j
      unfold setF
      split
      · rename_i e; subst e; rw [I.out j (by omega)]
      · rfl
    rw [e]; exact I
theorem stp_drop1 {v : Nat} : Stp fp Hd H (setF fp v []) Hd H := stp_setF fun _ h => by cases h
theorem Inv.wipe (I : Inv K C fp Hd H σ ρ) : ∀ vs : List Nat, ∃ fp', Inv K C fp' Hd H (L2.wipe σ vs) (wipeE ρ vs) ∧ Stp fp Hd H fp' Hd H
  | [] => ⟨fp, I, .refl _ _ _⟩
  | v :: vs => by
    obtain ⟨fp', I', s'⟩ := Inv.wipe I vs
    exact ⟨setF fp' v [], I'.drop1, s'.trans stp_drop1⟩
/-- the block's names are given back -/
theorem Inv.rest : ∀ (vs : List Nat) {fp0 fpb : Fp} {Hd0 H0 Hd' H' : Hp} {ρ0 ρb : Env}, Inv K C fp0 Hd0 H0 σ ρ0 →
    ∀ {fpw : Fp}, (∀ j, fpw j = if j ∈ vs then [] else fp0 j) → Stp fpw Hd0 H0 fpb Hd' H' → Inv K C fpb Hd' H' (L2.wipe σ vs) ρb → ∃ fp', Inv K C fp' Hd' H' σ (restE ρ0 vs ρb) ∧ Stp fp0 Hd0 H0 fp' Hd' H' ∧ ∀ j a, a ∈ fp' j → a ∈ fpb j ∨ a ∈ fp0 j := by
  intro vs
  induction vs with
  | nil =>
    intro fp0 fpb Hd0 H0 Hd' H' ρ0 ρb I0 fpw hw s I
    have e : fpw = fp0 := by funext j; rw [hw]; simp
    subst e
    exact ⟨fpb, I, s, fun _ _ h => .inl h⟩
  | cons v vs ih =>
    intro fp0 fpb Hd0 H0 Hd' H' ρ0 ρb I0 fpw hw s I
    -- the slot v as it is with the others wiped
    have Iw : ∀ (us : List Nat), Inv K C (fun j => if j ∈ us then [] else fp0 j) Hd0 H0 (L2.wipe σ us) (wipeE ρ0 us) := by
      intro us
      induction us with
      | nil => simpa [L2.wipe, wipeE] using I0
      | cons u us ihu =>
        have := ihu.drop1 (v := u)
        have e : setF (fun j => if j ∈ us then [] else fp0 j) u [] = fun j => if j ∈ u :: us then [] else fp0 j := by
          funext j
          unfold setF
          by_cases h : j = u
          · simp [h]
          · by_cases h2 : j ∈ us <;> simp [h, h2]
        rw [e] at this
        exact this
    have I1 := Iw vs
    unfold restE
    by_cases hv : v < ρ0.length
    · have hvw : v < (wipeE ρ0 vs).length := by rw [wipeE_len]; exact hv
      have es : (wipeE ρ0 vs)[v]? = some (wipeE ρ0 vs)[v] := by simp [hvw]
      have q := I1.slot v _ es
      generalize hA : (if v ∈ vs then [] else fp0 v) = A at q
      have hlen : ρb.length = ρ0.length := by rw [← I.len, L2.wipe_length]; exact I0.len
      have far : ∀ a ∈ A, ∀ j, a ∉ fpw j := fun a ha j hj => by
        rw [hw] at hj
        by_cases h1 : j ∈ v :: vs
        · rw [if_pos h1] at hj; cases hj
        · rw [if_neg h1] at hj
          by_cases h2 : v ∈ vs
          · rw [if_pos h2] at hA; subst hA; cases ha
          · rw [if_neg h2] at hA
            subst hA
            have := I0.dis j v a hj ha
            exact h1 (by simp [this])
      have q2 : SlotOk K C Hd' H' v (wipeE ρ0 vs)[v] (L2.wipe σ vs)[v]? A := q.ext s.hd (fun a ha n => by
        cases e : Hd' a with
        | none => rfl
        | some u =>
          rcases s.fr a (by rw [e]; intro z; cases z) with z | z | ⟨j, z⟩
          · exact absurd n z
          · exact absurd z (q.there a ha)
          · exact absurd z (far a ha j)) fun a ha u h => s.keep a u h (far a ha)
      have dj : ∀ a ∈ A, ∀ j, a ∉ fpb j := fun a ha j hj => by
        rcases s.fpx j a hj with ⟨k, z⟩ | z
        · exact far a ha k z
        · exact q.there a ha z
      have I2 := I.set_slot (i := v) (s' := (wipeE ρ0 vs)[v]) (A' := A) (σ' := L2.wipe σ vs) (by rw [hlen]; exact hv) q2 (fun a ha j _ => dj a ha j) (by rw [L2.wipe_length, L2.wipe_length]) (fun j hj => by
        show (L2.wipe σ vs)[j]? = ((L2.wipe σ vs).set v none)[j]?
        rw [List.getElem?_set_ne (Ne.symm hj)])
      have e3 : (wipeE ρ0 vs)[v]?.getD .un = (wipeE ρ0 vs)[v] := by rw [es]; rfl
      rw [e3]
      have st : Stp (fun j => if j ∈ vs then [] else fp0 j) Hd0 H0 (setF fpb v A) Hd' H' := ?st
      · obtain ⟨fp', J1, J2, J3⟩ := ih I0 (fpw := fun j => if j ∈ vs then [] else fp0 j) (fun _ => rfl) st I2
        refine ⟨fp', J1, J2, fun j a h => ?_⟩
        rcases J3 j a h with z | z
        · by_cases e : j = v
          · subst e
            rw [setF_same] at z
            by_cases h2 : j ∈ vs
            · rw [if_pos h2] at hA; subst hA; cases z
            · rw [if_neg h2] at hA; subst hA; exact .inr z
          · rw [setF_ne e] at z; exact .inl z
        · exact .inr z
      refine ⟨s.hd, fun b h => ?_, fun b o h n => s.keep b o h fun j hj => ?_, s.dom, fun j b h => ?_⟩
      · rcases s.fr b h with z | z | ⟨j, z⟩
        · exact .inl z
        · exact .inr (.inl z)
        · refine .inr (.inr ⟨j, ?_⟩)
          rw [hw] at z
          by_cases h1 : j ∈ v :: vs
          · rw [if_pos h1] at z; cases z
          · rw [if_neg h1] at z
            show b ∈ (if j ∈ vs then [] else fp0 j)
            rw [if_neg fun h2 => h1 (List.mem_cons_of_mem _ h2)]; exact z
      · rw [hw] at hj
        by_cases h1 : j ∈ v :: vs
        · rw [if_pos h1] at hj; cases hj
        · rw [if_neg h1] at hj
          refine n j ?_
          show b ∈ (if j ∈ vs then [] else fp0 j)
          rw [if_neg fun h2 => h1 (List.mem_cons_of_mem _ h2)]; exact hj
      · by_cases e : j = v
        · subst e
          rw [setF_same] at h
          refine .inl ⟨j, ?_⟩
          show b ∈ (if j ∈ vs then [] else fp0 j)
          rw [hA]; exact h
        · rw [setF_ne e] at h
          rcases s.fpx j b h with ⟨k, z⟩ | z
          · refine .inl ⟨k, ?_⟩
            rw [hw] at z
            by_cases h1 : k ∈ v :: vs
            · rw [if_pos h1] at z; cases z
            · rw [if_neg h1] at z
              show b ∈ (if k ∈ vs then [] else fp0 k)
              rw [if_neg fun h2 => h1 (List.mem_cons_of_mem _ h2)]; exact z
          · exact .inr z
    · have hlen : ρb.length = ρ0.length := by rw [← I.len, L2.wipe_length]; exact I0.len
      have e1 : ρb.set v ((wipeE ρ0 vs)[v]?.getD .un) = ρb := set_out (by omega)
      have e2 : L2.wipe σ (v :: vs) = L2.wipe σ vs := set_out (by rw [L2.wipe_length, I0.len]; omega)
      rw [e1]
      rw [e2] at I
      have e3 : ∀ j, fpw j = if j ∈ vs then [] else fp0 j := fun j => by
        rw [hw]
        by_cases h : j = v
        · subst h
          rw [if_pos (by simp), I0.out j (by omega)]
          split <;> rfl
        · by_cases h2 : j ∈ vs <;> simp [h, h2]
      exact ih I0 e3 s I
/-- a thing that no slot owns is changed -/
theorem Inv.loose {p : Addr} {u : HO} (I : Inv K C fp Hd H σ ρ) (h1 : Hd p = none) (h2 : C.H0 p = none) (h3 : ∀ i, p ∉ fp i) : Inv K C fp Hd (upd H p u) σ ρ := by
  refine ⟨⟨fun b w r => ?_, fun b x w r => ?_⟩, I.hd0, fun b o h n => ?_, fun b h => ?_, I.fresh, I.len, fun i s e => (I.slot i s e).ext (.refl _) (fun _ _ h => h) fun a ha w h => ?_, I.out, I.dis⟩
  · have nb : b ≠ p := fun z => by
      rw [z] at r
      rcases r with r | ⟨_, r⟩ <;> rw [h1] at r <;> cases r
    rcases I.le b w r with q | ⟨x, q⟩
    · exact .inl (by rw [upd_ne nb]; exact q)
    · exact .inr ⟨x, by rw [upd_ne nb]; exact q⟩
  · have nb : b ≠ p := fun z => by rw [z, h1] at r; cases r
    rw [upd_ne nb]; exact I.le.fr b x w r
  · rw [upd_ne (fun z => by rw [z, h2] at h; cases h)]; exact I.keep b o h n
  · by_cases z : b = p
    · rw [z, upd_same]; intro w; cases w
    · rw [upd_ne z]; exact I.dom b h
  · rw [upd_ne (fun z => h3 i (by rw [← z]; exact ha))]; exact h
end
section
variable {K : PySem.W.Frag} {W : St → XK}
/-- no exception is wished for -/
abbrev W0 : St → XK := fun _ _ _ _ => False
def lcD (vs : List Nat) (t : Tg) (ft : Env → Res Bool) (fe : Env → Res RV) : Nat → List D → Env → Res (List D)
  | _, [], ρ => .ok [] ρ
  | n, d :: ds, ρ => match takeT t d ρ with
    | none => .no
    | some ρ1 => match ft ρ1 with
      | .ok true ρ2 => match (fe ρ2).bind fz with
        | .ok y ρ3 => if n < sizeLine then match lcD vs t ft fe (n + 1) ds (wipeE ρ3 vs) with
            | .ok ys ρ4 => .ok (y :: ys) ρ4
            | _ => .no
          else .no
        | _ => .no
      | .ok false ρ2 => lcD vs t ft fe n ds (wipeE ρ2 vs)
      | _ => .no
def fLc (fi : Env → Res (List D)) (vs : List Nat) (t : Tg) (ft : Env → Res Bool) (fe : Env → Res RV) : Env → Res RV := fun ρ => (fi ρ).bind fun ds ρ1 => match lcD vs t ft fe 0 ds (wipeE ρ1 vs) with
  | .ok ys ρ2 => .ok (.own (.lst ys)) (restE ρ1 vs ρ2)
  | _ => .no
theorem wipe_wipe {σ : St} {vs : List Nat} : L2.wipe (L2.wipe σ vs) vs = L2.wipe σ vs := by
  have : ∀ us : List Nat, (∀ u ∈ us, u ∈ vs) → ∀ τ : St, L2.wipe (L2.wipe τ us) vs = L2.wipe τ vs := by
    intro us
    induction us with
    | nil => intro _ τ; rfl
    | cons u us ih =>
      intro h τ
      show L2.wipe ((L2.wipe τ us).set u none) vs = _
      rw [wipe_set (h u (by simp)), ih (fun x hx => h x (by simp [hx]))]
  exact this vs (fun _ h => h) σ
theorem sd_lc {wi : TI} {fi : Env → Res (List D)} {g : TG} {t : Tg} {tt : TT} {ft : Env → Res Bool} {te : TE} {fe : Env → Res RV} {vs : List Nat} (hi : Si K W wi fi) (hg : Gt K g t) (hv : ∀ u ∈ slotsT t, u ∈ vs) (ht : Sd K W0 rB tt ft) (he : Sd K W0 (rV K) te fe) :
    Sd K W (rV K) (L2.tLc wi g tt te vs) (fLc fi vs t ft fe) := fun C fp Hd H σ ρ I Q p => by
  refine hi C fp Hd H σ ρ I _ ?_
  have p : Post K W C (rV K) fp Hd H σ ((fi ρ).bind fun ds ρ1 => match lcD vs t ft fe 0 ds (wipeE ρ1 vs) with | .ok ys ρ2 => .ok (.own (.lst ys)) (restE ρ1 vs ρ2) | _ => .no) Q := p
  cases e : fi ρ with
  | no => rw [e] at p; exact p
  | ex c ρ1 => rw [e] at p; exact p
  | ok ds ρ1 =>
    simp only [e, Res.bind] at p
    intro J fp1 Hd1 H1 s1 I1 w Dl hD
    cases el : lcD vs t ft fe 0 ds (wipeE ρ1 vs) with
    | no => simp only [el] at p; exact p.elim
    | ex c ρ2 => simp only [el] at p; exact p.elim
    | ok ys0 ρ2 =>
      simp only [el] at p
      have hd1 : Hd1 Dl = none := I1.le.noneB hD
      have hc : C.H0 Dl = none := none_back I1.dom hD
      -- the block's start
      have Iw : ∃ fpw, (∀ j, fpw j = if j ∈ vs then [] else fp1 j) ∧ Inv K C fpw Hd1 H1 (L2.wipe σ vs) (wipeE ρ1 vs) := by
        refine ⟨_, fun _ => rfl, ?_⟩
        have : ∀ us : List Nat, Inv K C (fun j => if j ∈ us then [] else fp1 j) Hd1 H1 (L2.wipe σ us) (wipeE ρ1 us) := by
          intro us
          induction us with
          | nil => simpa [L2.wipe, wipeE] using I1
          | cons u us ihu =>
            have := ihu.drop1 (v := u)
            have e : setF (fun j => if j ∈ us then [] else fp1 j) u [] = fun j => if j ∈ u :: us then [] else fp1 j := by
              funext j
              unfold setF
              by_cases h : j = u
              · simp [h]
              · by_cases h2 : j ∈ us <;> simp [h, h2]
            rw [e] at this
            exact this
        exact this vs
      obtain ⟨fpw, hw, Iw⟩ := Iw
      have nfw : ∀ j, Dl ∉ fpw j := fun j hj => (Iw.fpOk hj).1 hD
      refine L2.lc_it w (fun i H' => ∃ fpb Hdb ρb acc accd ys, Inv K C fpb Hdb H' (L2.wipe σ vs) ρb ∧ Stp fpw Hd1 H1 fpb Hdb H' ∧ H' Dl = some (.lst acc) ∧ Reps K Hdb accd acc ∧ Hdb Dl = none ∧ (∀ j, Dl ∉ fpb j) ∧ lcD vs t ft fe acc.length (ds.drop i) ρb = .ok ys ρ2 ∧ accd ++ ys = ys0) ?_ ?_ ?_ ?_
      · refine ⟨fpw, Hd1, wipeE ρ1 vs, [], [], ys0, Iw.loose hd1 hc nfw, ⟨.refl _, fun _ h => .inl h, fun b o h _ => ?_, fun b h => ?_, fun j _ h => .inl ⟨j, h⟩⟩, upd_same, .nil, hd1, nfw, el, rfl⟩
        · rw [upd_ne (ne_of_none h hD)]; exact h
        · by_cases z : b = Dl
          · rw [z, upd_same]; intro w; cases w
          · rw [upd_ne z]; exact h
      · rintro i H' _ ⟨fpb, Hdb, ρb, _, _, _, Ib, sb, _⟩
        exact ⟨fpb, Hdb, _, ρb, Ib, sb.hd⟩
      · rintro i x H' H'' hi ⟨fpb, Hdb, ρb, acc, accd, ys, Ib, sb, hl, ra, hdn, nf, el2, ey⟩ ⟨d, hd, hy⟩
        obtain ⟨Hd2, s2, I2, r2⟩ := Ib.newD (hy fpb Hdb _ ρb Ib sb.hd)
        have e1 : ds.drop i = d :: ds.drop (i + 1) := by
          obtain ⟨hl, e⟩ := List.getElem?_eq_some_iff.mp hd
          rw [← e]; exact (List.drop_eq_getElem_cons hl)
        rw [e1] at el2
        simp only [lcD] at el2
        cases ek : takeT t d ρb with
        | none => simp only [ek] at el2; cases el2
        | some ρ3 =>
          simp only [ek] at el2
          refine hg C fpb Hd2 H'' _ ρb ρ3 d x I2 r2 ek _ fun σ3 fp3 m3 s3 I3 => ?_
          have w3 : L2.wipe σ3 vs = L2.wipe σ vs := (m3 vs hv).trans wipe_wipe
          refine ⟨w3, ?_⟩
          have s23 := s2.trans s3
          -- the new list through a step
          have thru : ∀ {fp' : Fp} {Hd' H3 : Hp}, Stp fpb Hdb H' fp' Hd' H3 → H3 Dl = some (.lst acc) ∧ Hd' Dl = none ∧ (∀ j, Dl ∉ fp' j) ∧ Reps K Hd' accd acc := fun {fp' Hd' H3} s => by
            refine ⟨s.keep _ _ hl nf, ?_, fun j hj => ?_, ra.mono s.hd⟩
            · cases e : Hd' Dl with
              | none => rfl
              | some u =>
                rcases s.fr Dl (by rw [e]; intro z; cases z) with z | z | ⟨j, z⟩
                · exact absurd hdn z
                · rw [hl] at z; cases z
                · exact absurd z (nf j)
            · rcases s.fpx j Dl hj with ⟨k, z⟩ | z
              · exact nf k z
              · rw [hl] at z; cases z
          refine ht C fp3 Hd2 H'' σ3 ρ3 I3 _ ?_
          cases et : ft ρ3 with
          | no => simp only [et] at el2; cases el2
          | ex c ρ4 => simp only [et] at el2; cases el2
          | ok b ρ4 =>
            simp only [et] at el2
            intro b' fp4 Hd4 H4 s4 I4 eb
            have eb : b' = b := eb
            subst eb
            have s24 := s23.trans s4
            cases b' with
            | false =>
              simp only at el2
              obtain ⟨fp5, I5, s5⟩ := I4.wipe vs
              have s25 := s24.trans s5
              obtain ⟨q1, q2, q3, q4⟩ := thru s25
              rw [w3] at I5
              exact ⟨fp5, Hd4, _, acc, accd, ys, I5, sb.trans s25, q1, q4, q2, q3, el2, ey⟩
            | true =>
              simp only at el2
              have hef := he.fz
              refine hef C fp4 Hd4 H4 σ3 ρ4 I4 _ ?_
              show Post K W0 C (rD K) fp4 Hd4 H4 σ3 ((fe ρ4).bind O.fz) _
              cases ee : (fe ρ4).bind fz with
              | no => simp only [ee] at el2; cases el2
              | ex c ρ5 => simp only [ee] at el2; cases el2
              | ok y ρ5 =>
                simp only [ee] at el2
                by_cases hz : acc.length < sizeLine
                · rw [if_pos hz] at el2
                  cases er : lcD vs t ft fe (acc.length + 1) (ds.drop (i + 1)) (wipeE ρ5 vs) with
                  | no => simp only [er] at el2; cases el2
                  | ex c ρ6 => simp only [er] at el2; cases el2
                  | ok ys' ρ6 =>
                    simp only [er] at el2
                    cases el2
                    intro yv fp5 Hd5 H5 s5 I5 ry
                    have s25 := s24.trans s5
                    obtain ⟨q1, q2, q3, q4⟩ := thru s25
                    refine ⟨acc, q1, hz, ?_⟩
                    obtain ⟨fp6, I6, s6⟩ := I5.wipe vs
                    rw [w3] at I6
                    have s26 := s25.trans s6
                    obtain ⟨_, _, q3', _⟩ := thru s26
                    have su : Stp fp6 Hd5 H5 fp6 Hd5 (upd H5 Dl (.lst (acc ++ [yv]))) ∨ True := .inr trivial
                    refine ⟨fp6, Hd5, _, acc ++ [yv], accd ++ [y], ys', I6.loose q2 hc q3', ?_, upd_same, q4.append (.cons ry .nil), q2, q3', by rw [List.length_append]; exact er, by rw [List.append_assoc]; exact ey⟩
                    have s16 := sb.trans s26
                    refine ⟨s16.hd, s16.fr, fun b o h n => ?_, fun b h => ?_, s16.fpx⟩
                    · rw [upd_ne (ne_of_none h hD)]; exact s16.keep b o h n
                    · by_cases z : b = Dl
                      · rw [z, upd_same]; intro w; cases w
                      · rw [upd_ne z]; exact s16.dom b h
                · rw [if_neg hz] at el2; cases el2
      · rintro H' ⟨fpb, Hdb, ρb, acc, accd, ys, Ib, sb, hl, ra, hdn, nf, el2, ey⟩
        rw [List.drop_length] at el2
        simp only [lcD] at el2
        cases el2
        rw [List.append_nil] at ey
        subst ey
        obtain ⟨fp', I', s', f'⟩ := Inv.rest vs I1 hw sb Ib
        refine p _ fp' Hdb H' (s1.trans s') I' ⟨[Dl], .lst hl ra, by simp, fun a ha => ?_⟩
        have e : a = Dl := by simpa using ha
        subst e
        refine ⟨hdn, hc, fun j hj => ?_, none_back s1.dom hD⟩
        rcases f' j _ hj with z | z
        · exact nf j z
        · exact (I1.fpOk z).1 hD
end
end O

/-! Own7: operators on data: arithmetic, comparison, equality, membership, subscripts, slices -/
namespace O
open PySem
open L2 (V Hp HO Rd SqL SqT upd upd_same upd_ne ne_of ne_of_none TE TT TA TS TG TGs TI TO It VK XK Ends St PE PT PW PA PS PSs PG PGs PI PO Cx OpR UnR CallR IxR SlR R2 tOp tUn tVar tC tCons tNil tTup tLst tTest tB tAnd tOr tNot tAndV tOrV tNotV tIf tCB Sp FnOk)
section
variable {X : Cx} {f : Value → Value → Sem Value}
theorem op_imp {r r' : R2} (h : OpR X f r) (k : ∀ x y H Q, r' x y H Q → r x y H Q) : OpR X f r' := fun pins s σ H x y v u Q I rx ry q => h pins s σ H x y v u Q I rx ry (k x y H Q q)
theorem cb_imp {f : Value} {r r' : List V → Hp → VK → Prop} (h : CallR X f r) (k : ∀ xs H Q, r' xs H Q → r xs H Q) : CallR X f r' := fun pins s σ H xs us Q I rx q => h pins s σ H xs us Q I rx (k xs H Q q)
theorem ix_imp {r r' : R2} (h : IxR X r) (k : ∀ x y H Q, r' x y H Q → r x y H Q) : IxR X r' := fun va sl pins s σ H x y v u Q I rx ry q => h va sl pins s σ H x y v u Q I rx ry (k x y H Q q)
/-- of two ints -/
def gII (c : Int → Int → Bool) (g : Int → Int → D) : D → D → Option RV
  | .int i, .int j => if c i j = true then some (.val (g i j)) else none
  | _, _ => none
theorem op_gII {C : Int → Int → Prop} {c : Int → Int → Bool} {g : Int → Int → D} {gv : Int → Int → V} (h : OpR X f (L2.rI C gv)) (hc : ∀ i j, c i j = true → C i j) (hg : ∀ K H i j, Rep K H (g i j) (gv i j)) : OpR X f (rG X.K (gII c g)) :=
  op_imp h fun x y H Q ⟨Hd, d1, d2, z, l, t1, t2, eg, q⟩ => by
    cases d1 with
    | int i => cases d2 with
      | int j =>
        simp only [gII] at eg
        by_cases hh : c i j = true
        · rw [if_pos hh] at eg
          cases eg
          exact ⟨i, j, t1.intD, t2.intD, hc i j hh, q _ _ (newR_here l (hg _ _ i j))⟩
        · rw [if_neg hh] at eg; cases eg
      | _ => cases eg
    | _ => cases eg
theorem op_r0 {g : Int → Int → V} (h : OpR X f (L2.rI0 g)) : OpR X f (L2.rI (fun _ _ => True) g) := op_imp h fun x y H Q ⟨i, j, a, b, _, q⟩ => ⟨i, j, a, b, q⟩
def gLt : D → D → Option RV := gII (fun _ _ => true) fun i j => .bl (decide (i < j))
def gLe : D → D → Option RV := gII (fun _ _ => true) fun i j => .bl (decide (i ≤ j))
def gGt : D → D → Option RV := gII (fun _ _ => true) fun i j => .bl (decide (j < i))
def gGe : D → D → Option RV := gII (fun _ _ => true) fun i j => .bl (decide (j ≤ i))
theorem op_gLt : OpR X (compareOp .Lt) (rG X.K gLt) := op_gII (op_r0 L2.op_lt) (fun _ _ _ => trivial) fun _ _ _ _ => .bl _
theorem op_gLe : OpR X (compareOp .LtE) (rG X.K gLe) := op_gII (op_r0 L2.op_le) (fun _ _ _ => trivial) fun _ _ _ _ => .bl _
theorem op_gGt : OpR X (compareOp .Gt) (rG X.K gGt) := op_gII (op_r0 L2.op_gt) (fun _ _ _ => trivial) fun _ _ _ _ => .bl _
theorem op_gGe : OpR X (compareOp .GtE) (rG X.K gGe) := op_gII (op_r0 L2.op_ge) (fun _ _ _ => trivial) fun _ _ _ _ => .bl _
def gSub : D → D → Option RV := gII (fun _ _ => true) fun i j => .int (i - j)
theorem op_gSub : OpR X (binaryOp .Sub) (rG X.K gSub) := op_gII (op_r0 L2.op_sub) (fun _ _ _ => trivial) fun _ _ _ _ => .int _
def gMod : D → D → Option RV := gII (fun _ j => decide (0 < j)) fun i j => .int (i % j)
theorem op_gMod : OpR X (binaryOp .Mod) (rG X.K gMod) := op_gII L2.op_mod (fun _ _ h => of_decide_eq_true h) fun _ _ _ _ => .int _
def gFdiv : D → D → Option RV := gII (fun _ j => decide (0 < j ∧ j < 1073741824)) fun i j => .int (i / j)
theorem op_gFdiv : OpR X (binaryOp .FloorDiv) (rG X.K gFdiv) := op_imp L2.op_fdivN fun x y H Q ⟨Hd, d1, d2, z, l, t1, t2, eg, q⟩ => by
  cases d1 with
  | int i => cases d2 with
    | int j =>
      simp only [gFdiv, gII] at eg
      by_cases hh : decide (0 < j ∧ j < 1073741824) = true
      · rw [if_pos hh] at eg
        cases eg
        have hj := of_decide_eq_true hh
        refine ⟨i, j, t1.intD, t2.intD, ⟨by omega, by omega⟩, ?_⟩
        show Q (.int (i.fdiv j)) H
        rw [Int.fdiv_eq_ediv_of_nonneg i (by omega)]
        exact q _ _ (newR_here l (.int _))
      · rw [if_neg hh] at eg; cases eg
    | _ => cases eg
  | _ => cases eg
def gMulI : D → D → Option RV := gII (fun i j => decide ((Builtin.Int.intBits i : Int) + (Builtin.Int.intBits j : Int) ≤ 134217728)) fun i j => .int (i * j)
theorem op_gMulI : OpR X (binaryOp .Mult) (rG X.K gMulI) := op_gII L2.op_mulX (fun i j h => of_decide_eq_true (p := (Builtin.Int.intBits i : Int) + (Builtin.Int.intBits j : Int) ≤ 134217728) h) fun _ _ _ _ => .int _
def gPow : D → D → Option RV := gII (fun i j => decide (0 ≤ j ∧ (Builtin.Int.intBits i : Int) * j ≤ 2 ^ 27)) fun i j => .int (i ^ j.toNat)
theorem op_powX : OpR X (binaryOp .Pow) (L2.rI (fun i j => 0 ≤ j ∧ (Builtin.Int.intBits i : Int) * j ≤ 2 ^ 27) fun i j => .int (i ^ j.toNat)) :=
  L2.opI fun _ _ _ _ _ _ _ hc q => PyProof.Rows.pow_int hc.1 hc.2 q
theorem op_gPow : OpR X (binaryOp .Pow) (rG X.K gPow) := op_gII op_powX (fun _ _ h => of_decide_eq_true h) fun _ _ _ _ => .int _
/-- + of ints, lists, tuples -/
def gAdd : D → D → Option RV
  | .int i, .int j => some (.val (.int (i + j)))
  | .lst xs, .lst ys => if xs.length + ys.length ≤ sizeLine then some (.own (.lst (xs ++ ys))) else none
  | .tup xs, .tup ys => if xs.length + ys.length ≤ sizeLine then some (.val (.tup (xs ++ ys))) else none
  | _, _ => none
theorem op_gAdd : OpR X (binaryOp .Add) (rG X.K gAdd) := by
  intro pins s σ H x y v u Q I rx ry ⟨Hd, d1, d2, z, l, t1, t2, eg, q⟩
  cases d1 with
  | int i => cases d2 with
    | int j =>
      cases eg
      exact L2.op_add pins s σ H _ _ v u Q I rx ry ⟨i, j, t1.intD, t2.intD, q _ _ (newR_here l (.int _))⟩
    | _ => cases eg
  | lst ds => cases d2 with
    | lst es =>
      simp only [gAdd] at eg
      by_cases hz : ds.length + es.length ≤ sizeLine
      · rw [if_pos hz] at eg
        cases eg
        obtain ⟨a, xs, rfl, h1, r1⟩ := t1.lstD l
        obtain ⟨b, ys, rfl, h2, r2⟩ := t2.lstD l
        cases rx
        cases ry
        obtain ⟨z1, its, n, v1, e1⟩ := h1.ok I.hok
        obtain ⟨z2, its2, n2, v2, e2⟩ := h2.ok I.hok
        have hl : (xs ++ ys).length ≤ sizeLine := by rw [List.length_append, r1.length, r2.length]; exact hz
        refine PySem.P.add_list e1 e2 ?_ (by rw [List.size_toArray, List.size_toArray, ← v1.length, ← v2.length, r1.length, r2.length]; exact hz)
        have ea : its.toArray ++ its2.toArray = (its ++ its2).toArray := by simp
        rw [ea]
        exact ⟨.ref _, _, I.lnew (t' := s.toks) (v1.append v2) hl, rfl, q _ _ (newR_lst l I.fresh (r1.append r2))⟩
      · rw [if_neg hz] at eg; cases eg
    | _ => cases eg
  | tup ds => cases d2 with
    | tup es =>
      simp only [gAdd] at eg
      by_cases hz : ds.length + es.length ≤ sizeLine
      · rw [if_pos hz] at eg
        cases eg
        obtain ⟨a, xs, rfl, h1, r1⟩ := t1.tupD l
        obtain ⟨b, ys, rfl, h2, r2⟩ := t2.tupD l
        refine L2.op_catA pins s σ H _ _ v u Q I rx ry ⟨a, b, xs, ys, rfl, rfl, h1, h2, by rw [r1.length, r2.length]; exact hz, fun e => ?_, fun _ e => ?_, fun _ _ p hp => q _ _ (newR_tup l hp (r1.append r2))⟩
        · subst e
          cases r1
          cases t2 with
          | rep r => exact q _ _ (newR_here l r)
        · subst e
          cases r2
          cases t1 with
          | rep r => rw [List.append_nil] at q; exact q _ _ (newR_here l r)
      · rw [if_neg hz] at eg; cases eg
    | _ => cases eg
  | _ => cases eg
/-- list * int, int * int -/
def gMul : D → D → Option RV
  | .lst xs, .int k => if 0 ≤ k ∧ k < 2 ^ 63 ∧ xs.length * k.toNat ≤ sizeLine then some (.own (.lst (List.replicate k.toNat xs).flatten)) else none
  | d, e => gMulI d e

/-! ### equality -/
mutual
def toPy : D → Option PyData
  | .non => some .none
  | .bl b => some (.bool b)
  | .int i => some (.int i)
  | .str x => some (.str x)
  | .tup ds => (toPys ds).map .tuple
  | .lst ds => (toPys ds).map .list
  | .scr ns => some (.list (ns.map .int))
  | .dic _ => none
  | .set _ => none
  | .dlk _ => none
def toPys : List D → Option (List PyData)
  | [] => some []
  | d :: ds => match toPy d, toPys ds with
    | some p, some ps => some (p :: ps)
    | _, _ => none
end
theorem dp_ints {K : PySem.W.Frag} {H : Hp} : ∀ ns : List Int, L2.DpAll K H (ns.map V.int) (ns.map PyData.int)
  | [] => .nil
  | n :: ns => .cons (.int n) (dp_ints ns)
mutual
theorem Rep.dp {K : PySem.W.Frag} {H : Hp} : ∀ {d : D} {v : V} {p : PyData}, Rep K H d v → toPy d = some p → L2.Dp K H v p
  | _, _, _, .non, e => by simp only [toPy, Option.some.injEq] at e; subst e; exact .non
  | _, _, _, .bl b, e => by simp only [toPy, Option.some.injEq] at e; subst e; exact .bl b
  | _, _, _, .int b, e => by simp only [toPy, Option.some.injEq] at e; subst e; exact .int b
  | _, _, _, .str b, e => by simp only [toPy, Option.some.injEq] at e; subst e; exact .str b
  | _, _, _, .scr (ns := ns) h, e => by simp only [toPy, Option.some.injEq] at e; subst e; exact .lst h (dp_ints ns)
  | _, _, _, .tup (ds := ds) h r, e => by
    simp only [toPy] at e
    cases e1 : toPys ds with
    | none => rw [e1] at e; cases e
    | some ps => rw [e1] at e; cases e; exact .tup h (Reps.dp r e1)
  | _, _, _, .lst (ds := ds) h r, e => by
    simp only [toPy] at e
    cases e1 : toPys ds with
    | none => rw [e1] at e; cases e
    | some ps => rw [e1] at e; cases e; exact .lst (.inl h) (Reps.dp r e1)
  | _, _, _, .dic _ _, e => by simp [toPy] at e
  | _, _, _, .dlk _ _, e => by simp [toPy] at e
theorem Reps.dp {K : PySem.W.Frag} {H : Hp} : ∀ {d : List D} {v : List V} {p : List PyData}, Reps K H d v → toPys d = some p → L2.DpAll K H v p
  | _, _, _, .nil, e => by simp only [toPys, Option.some.injEq] at e; subst e; exact .nil
  | _, _, _, .cons (d := d) (ds := ds) h r, e => by
    simp only [toPys] at e
    cases e1 : toPy d with
    | none => rw [e1] at e; cases e
    | some p =>
      cases e2 : toPys ds with
      | none => rw [e1, e2] at e; cases e
      | some ps => rw [e1, e2] at e; cases e; exact .cons (Rep.dp h e1) (Reps.dp r e2)
end
/-- are they equal -/
def eqB (d e : D) : Option Bool := match toPy d, toPy e with
  | some p, some q => if (SeqAt.shaped p && SeqAt.shaped q) = true then some (PyData.eqv p q) else none
  | _, _ => none
def gEq (d e : D) : Option RV := (eqB d e).map fun b => .val (.bl b)
def gNe (d e : D) : Option RV := (eqB d e).map fun b => .val (.bl (!b))
theorem eqB_dp {K : PySem.W.Frag} {Hd H : Hp} {d e : D} {x y : V} {b : Bool} (l : Le Hd H) (t1 : Top K Hd H d x) (t2 : Top K Hd H e y) (h : eqB d e = some b) :
    ∃ p q, L2.Dp K H x p ∧ L2.Dp K H y q ∧ SeqAt.shaped p = true ∧ SeqAt.shaped q = true ∧ PyData.eqv p q = b := by
  unfold eqB at h
  cases e1 : toPy d with
  | none => rw [e1] at h; cases h
  | some p =>
    cases e2 : toPy e with
    | none => rw [e1, e2] at h; cases h
    | some q =>
      rw [e1, e2] at h
      simp only at h
      by_cases hs : (SeqAt.shaped p && SeqAt.shaped q) = true
      · rw [if_pos hs] at h
        rw [Bool.and_eq_true] at hs
        exact ⟨p, q, (t1.all l).dp e1, (t2.all l).dp e2, hs.1, hs.2, Option.some.inj h⟩
      · rw [if_neg hs] at h; cases h
theorem op_gEq (hu : X.A.units + 64 < cLine) : OpR X (compareOp .Eq) (rG X.K gEq) := op_imp (L2.op_eqD hu) fun x y H Q ⟨Hd, d1, d2, z, l, t1, t2, eg, q⟩ => by
  unfold gEq at eg
  cases e : eqB d1 d2 with
  | none => rw [e] at eg; cases eg
  | some b =>
    rw [e] at eg
    cases eg
    obtain ⟨p, p', h1, h2, h3, h4, h5⟩ := eqB_dp l t1 t2 e
    subst h5
    exact ⟨p, p', h1, h2, h3, h4, q _ _ (newR_here l (.bl _))⟩
theorem op_gNe (hu : X.A.units + 64 < cLine) : OpR X (compareOp .NotEq) (rG X.K gNe) := op_imp (L2.op_neD hu) fun x y H Q ⟨Hd, d1, d2, z, l, t1, t2, eg, q⟩ => by
  unfold gNe at eg
  cases e : eqB d1 d2 with
  | none => rw [e] at eg; cases eg
  | some b =>
    rw [e] at eg
    cases eg
    obtain ⟨p, p', h1, h2, h3, h4, h5⟩ := eqB_dp l t1 t2 e
    subst h5
    exact ⟨p, p', h1, h2, h3, h4, q _ _ (newR_here l (.bl _))⟩
/-! ### membership: flat things in lists and tuples of flat things -/
def fv : D → Option V
  | .non => some .non
  | .bl b => some (.bl b)
  | .int i => some (.int i)
  | .str x => some (.str x)
  | _ => none
def fvs : List D → Option (List V)
  | [] => some []
  | d :: ds => match fv d, fvs ds with
    | some v, some vs => some (v :: vs)
    | _, _ => none
theorem fv_ok {K : PySem.W.Frag} {H : Hp} {d : D} {v w : V} (r : Rep K H d v) (e : fv d = some w) : v = w ∧ L2.flatV v = true := by
  cases r <;> first | (cases e; exact ⟨rfl, rfl⟩) | cases e
theorem fvs_ok {K : PySem.W.Frag} {H : Hp} : ∀ {ds : List D} {vs ws : List V}, Reps K H ds vs → fvs ds = some ws → vs = ws ∧ vs.all L2.flatV = true
  | _, _, _, .nil, e => by cases e; exact ⟨rfl, rfl⟩
  | _, _, _, .cons (d := d) (ds := ds) h r, e => by
    simp only [fvs] at e
    cases e1 : fv d with
    | none => rw [e1] at e; cases e
    | some p =>
      cases e2 : fvs ds with
      | none => rw [e1, e2] at e; cases e
      | some ps =>
        rw [e1, e2] at e
        cases e
        obtain ⟨a, b⟩ := fv_ok h e1
        obtain ⟨c, d⟩ := fvs_ok r e2
        exact ⟨by rw [a, c], by rw [List.all_cons, b, d]; rfl⟩
def inB (d e : D) : Option Bool := match fv d, e with
  | some x, .lst ds => (fvs ds).map fun vs => L2.inV x vs
  | some x, .tup ds => (fvs ds).map fun vs => L2.inV x vs
  | _, _ => none
def gIn (d e : D) : Option RV := (inB d e).map fun b => .val (.bl b)
def gNotIn (d e : D) : Option RV := (inB d e).map fun b => .val (.bl (!b))
theorem inB_ok {K : PySem.W.Frag} {Hd H : Hp} {d e : D} {x y : V} {b : Bool} (l : Le Hd H) (t1 : Top K Hd H d x) (t2 : Top K Hd H e y) (h : inB d e = some b) :
    ∃ p xs, y = .ref p ∧ (SqL K H p xs ∨ SqT K H p xs) ∧ L2.flatV x = true ∧ xs.all L2.flatV = true ∧ L2.inV x xs = b := by
  unfold inB at h
  cases e1 : fv d with
  | none => rw [e1] at h; cases h
  | some w =>
    rw [e1] at h
    obtain ⟨a, b1⟩ := fv_ok (t1.all l) e1
    subst a
    cases e with
    | lst ds =>
      simp only at h
      cases e2 : fvs ds with
      | none => rw [e2] at h; cases h
      | some vs =>
        rw [e2] at h
        cases h
        obtain ⟨p, xs, rfl, hp, r⟩ := t2.lstD l
        obtain ⟨c, d⟩ := fvs_ok r e2
        subst c
        exact ⟨p, xs, rfl, .inl (.inl hp), b1, d, rfl⟩
    | tup ds =>
      simp only at h
      cases e2 : fvs ds with
      | none => rw [e2] at h; cases h
      | some vs =>
        rw [e2] at h
        cases h
        obtain ⟨p, xs, rfl, hp, r⟩ := t2.tupD l
        obtain ⟨c, d⟩ := fvs_ok r e2
        subst c
        exact ⟨p, xs, rfl, .inr hp, b1, d, rfl⟩
    | _ => cases h
theorem op_gIn : OpR X (compareOp .In) (rG X.K gIn) := op_imp L2.op_in_seq fun x y H Q ⟨Hd, d1, d2, z, l, t1, t2, eg, q⟩ => by
  unfold gIn at eg
  cases e : inB d1 d2 with
  | none => rw [e] at eg; cases eg
  | some b =>
    rw [e] at eg
    cases eg
    obtain ⟨p, xs, h0, h1, h2, h3, h4⟩ := inB_ok l t1 t2 e
    exact ⟨p, xs, h0, h1, h2, h3, by rw [h4]; exact q _ _ (newR_here l (.bl _))⟩
theorem op_gNotIn : OpR X (compareOp .NotIn) (rG X.K gNotIn) := op_imp L2.op_notIn_seq fun x y H Q ⟨Hd, d1, d2, z, l, t1, t2, eg, q⟩ => by
  unfold gNotIn at eg
  cases e : inB d1 d2 with
  | none => rw [e] at eg; cases eg
  | some b =>
    rw [e] at eg
    cases eg
    obtain ⟨p, xs, h0, h1, h2, h3, h4⟩ := inB_ok l t1 t2 e
    exact ⟨p, xs, h0, h1, h2, h3, by rw [h4]; exact q _ _ (newR_here l (.bl _))⟩
/-! ### subscripts -/
def gIx : D → D → Option RV
  | .lst ds, .int i => (L2.atI ds i).map .val
  | .tup ds, .int i => (L2.atI ds i).map .val
  | .scr ns, .int i => (L2.atI ns i).map fun n => .val (.int n)
  | _, _ => none
theorem Reps.atI {K : PySem.W.Frag} {H : Hp} {ds : List D} {vs : List V} {i : Int} {d : D} (r : Reps K H ds vs) (e : L2.atI ds i = some d) : ∃ v, L2.atI vs i = some v ∧ Rep K H d v := by
  unfold L2.atI at e ⊢
  rw [r.length]
  cases ej : L2.ixN ds.length i with
  | none => rw [ej] at e; cases e
  | some j => rw [ej] at e; exact r.get e
theorem atI_map {α β : Type} {f : α → β} {xs : List α} {i : Int} : L2.atI (xs.map f) i = (L2.atI xs i).map f := by
  unfold L2.atI
  rw [List.length_map]
  cases L2.ixN xs.length i with
  | none => rfl
  | some j => simp
theorem ix_gIx : IxR X (rG X.K gIx) := ix_imp (L2.ix_list.or L2.ix_tup) fun x y H Q ⟨Hd, d1, d2, z, l, t1, t2, eg, q⟩ => by
  cases d2 with
  | int i =>
    have hy := t2.intD
    cases d1 with
    | lst ds =>
      simp only [gIx] at eg
      cases e : L2.atI ds i with
      | none => rw [e] at eg; cases eg
      | some d =>
        rw [e] at eg
        cases eg
        obtain ⟨a, xs, rfl, h1, r1⟩ := t1.lstD l
        obtain ⟨v, ev, rv⟩ := r1.atI e
        exact .inl ⟨a, xs, i, v, rfl, hy, .inl h1, ev, q _ _ (newR_here l rv)⟩
    | tup ds =>
      simp only [gIx] at eg
      cases e : L2.atI ds i with
      | none => rw [e] at eg; cases eg
      | some d =>
        rw [e] at eg
        cases eg
        obtain ⟨a, xs, rfl, h1, r1⟩ := t1.tupD l
        obtain ⟨v, ev, rv⟩ := r1.atI e
        exact .inr ⟨a, xs, i, v, rfl, hy, h1, ev, q _ _ (newR_here l rv)⟩
    | scr ns =>
      simp only [gIx] at eg
      cases e : L2.atI ns i with
      | none => rw [e] at eg; cases eg
      | some d =>
        rw [e] at eg
        cases eg
        obtain ⟨a, rfl, h1⟩ := t1.scrD l
        exact .inl ⟨a, _, i, .int d, rfl, hy, h1, by rw [atI_map, e]; rfl, q _ _ (newR_here l (.int d))⟩
    | _ => cases eg
  | _ => cases d1 <;> cases eg
/-- d[k] of a dict -/
def keyO : D → Option L2.Key
  | .int i => some (.inl i)
  | .str x => some (.inr x)
  | _ => none
end
end O

/-! Own8: slices, dict subscripts, built-ins, what is walked -/
namespace O
open PySem
open L2 (V Hp HO Rd SqL SqT upd upd_same upd_ne ne_of ne_of_none TE TT TA TS TG TGs TI TO It VK XK Ends St PE PT PW PA PS PSs PG PGs PI PO Cx OpR UnR CallR IxR SlR R2 tOp tUn tVar tC tCons tNil tTup tLst tTest tB tAnd tOr tNot tAndV tOrV tNotV tIf tCB Sp FnOk)
section
variable {K : PySem.W.Frag} {W : St → XK}
/-- sd_op2, for a reading that the general one gives -/
theorem sd_op2' {r : R2} {g : D → D → Option RV} (hr : ∀ x y H Q, rG K g x y H Q → r x y H Q) {ta tb : TE} {fa fb : Env → Res RV} (ha : Sd K W (rV K) ta fa) (hb : Sd K W (rV K) tb fb) : Sd K W (rV K) (tOp r ta tb) (f2 fa fb g) := fun C fp Hd H σ ρ I Q p =>
  ha.run I p fun r1 v1 fp0 Hd0 H0 ρ0 s0 I0 h1 p => hb.run I0 p fun r2 v2 fp1 Hd1 H1 ρ1 s1 I1 h2 p => by
    have h1 := (rV_loose h1).stp s1
    have h2 := rV_loose h2
    refine hr _ _ _ _ ?_
    cases e1 : rd r1 ρ1 with
    | none => simp only [e1] at p; exact p.elim
    | some d1 =>
      cases e2 : rd r2 ρ1 with
      | none => simp only [e1, e2] at p; exact p.elim
      | some d2 =>
        simp only [e1, e2] at p
        cases eg : g d1 d2 with
        | none => simp only [eg] at p; exact p.elim
        | some z =>
          simp only [eg] at p
          exact ⟨Hd1, d1, d2, z, I1.le, I1.rdTop h1 e1, I1.rdTop h2 e2, eg, fun v H' n => p.new I1 n⟩
theorem sd_cb' {r : List V → Hp → VK → Prop} {g : List D → Option RV} (hr : ∀ xs H Q, rGC K g xs H Q → r xs H Q) {ta : TA} {fa : Env → Res (List RV)} (ha : Sd K W (rA K) ta fa) : Sd K W (rV K) (tCB r ta) (fCB fa g) := fun C fp Hd H σ ρ I Q p =>
  ha.run I p fun rs vs fp0 Hd0 H0 ρ0 s0 I0 h p => by
    refine hr _ _ _ ?_
    cases e1 : rds rs ρ0 with
    | none => simp only [e1] at p; exact p.elim
    | some ds =>
      simp only [e1] at p
      cases eg : g ds with
      | none => simp only [eg] at p; exact p.elim
      | some z =>
        simp only [eg] at p
        exact ⟨Hd0, ds, z, I0.le, tops_of I0 h e1, eg, fun v H' n => p.new I0 n⟩
/-! ### d[k] -/
def rDG : R2 := fun x y H Q => ∃ a v, x = .ref a ∧ L2.DGet H a y (some v) ∧ Q v H
def gDGet : D → D → Option RV
  | .dic kvs, k => match keyD k with
    | some q => (getD kvs q).map .val
    | none => none
  | .dlk kvs, k => match keyD k with
    | some q => (getD kvs q).map .val
    | none => none
  | _, _ => none
theorem rDG_of : ∀ x y H Q, rG K gDGet x y H Q → rDG x y H Q := fun x y H Q ⟨Hd, d1, d2, z, l, t1, t2, eg, q⟩ => by
  have go : ∀ {kvs : List (L2.Key × D)} {a : Addr} {kws : List (L2.Key × V)}, x = .ref a → Rd H a (.dK kws) → Repk K Hd kvs kws → (match keyD d2 with | some q => (getD kvs q).map RV.val | none => none) = some z → rDG x y H Q := fun {kvs a kws} e h1 r1 eg => by
    cases ek : keyD d2 with
    | none => rw [ek] at eg; cases eg
    | some k =>
      rw [ek] at eg
      simp only at eg
      rcases r1.get (k := k) with ⟨q1, _⟩ | ⟨d, v, q1, q2, q3⟩
      · rw [q1] at eg; cases eg
      · rw [q1] at eg
        cases eg
        exact ⟨a, v, e, .inl ⟨kws, k, h1, key_v t2 ek, q2.symm⟩, q _ _ (newR_here l q3)⟩
  cases d1 with
  | dic kvs =>
    obtain ⟨a, kws, e, h1, r1⟩ := t1.dicD l
    exact go e h1 r1 eg
  | dlk kvs =>
    obtain ⟨a, o, kws, e, h1, r1⟩ := t1.dlkD l
    exact go e (.inr ⟨o, h1⟩) r1 eg
  | _ => cases eg
theorem sd_dget {ta tb : TE} {fa fb : Env → Res RV} (ha : Sd K W (rV K) ta fa) (hb : Sd K W (rV K) tb fb) : Sd K W (rV K) (L2.tDGet ta tb) (f2 fa fb gDGet) := sd_op2' rDG_of ha hb
/-! ### slices -/
def rO : Rel (Option Int) (Option Int) := ⟨fun _ _ _ _ _ _ b b' => b' = b, fun _ h => h⟩
def fNoPart : Env → Res (Option Int) := fun ρ => .ok none ρ
def fPart (fa : Env → Res RV) : Env → Res (Option Int) := fun ρ => (fa ρ).bind fun r ρ1 => match rd r ρ1 with
  | some (.int i) => .ok (some i) ρ1
  | _ => .no
theorem so_none : Sd K W rO L2.tNoPart fNoPart := fun C fp Hd H σ ρ I Q p => p.now I rfl
theorem so_some {ta : TE} {fa : Env → Res RV} (ha : Sd K W (rV K) ta fa) : Sd K W rO (L2.tPart ta) (fPart fa) := by
  refine Sd.bind (k := fun x σ H Q => ∃ i, x = .int i ∧ Q (some i) H) ha fun C Hs fp Hd H σ ρ r1 v1 I _ h1 Q p => ?_
  have h1 := rV_loose h1
  cases e1 : rd r1 ρ with
  | none => simp only [e1] at p; exact p.elim
  | some d =>
    cases d with
    | int i =>
      simp only [e1] at p
      exact ⟨i, (I.rdTop h1 e1).intD, p.now I rfl⟩
    | _ => simp only [e1] at p; exact p.elim
def cutD {α : Type} (xs : List α) (lo hi : Option Int) : List α := (xs.drop (HT.sIx xs.length 0 lo)).take (HT.sIx xs.length xs.length hi - HT.sIx xs.length 0 lo)
def gSl : D → Option Int → Option Int → Option RV
  | .lst ds, lo, hi => some (.own (.lst (cutD ds lo hi)))
  | .tup ds, lo, hi => some (.val (.tup (cutD ds lo hi)))
  | _, _, _ => none
def rSG (K : PySem.W.Frag) (g : D → Option Int → Option Int → Option RV) : V → Option Int → Option Int → Hp → VK → Prop := fun x lo hi H Q => ∃ Hd d z, Le Hd H ∧ Top K Hd H d x ∧ g d lo hi = some z ∧ ∀ v H', NewR K Hd H z v H' → Q v H'
def fSl (fe : Env → Res RV) (fl fh : Env → Res (Option Int)) (g : D → Option Int → Option Int → Option RV) : Env → Res RV := fun ρ => (fe ρ).bind fun r ρ1 => (fl ρ1).bind fun lo ρ2 => (fh ρ2).bind fun hi ρ3 => match rd r ρ3 with
  | some d => match g d lo hi with
    | some z => .ok z ρ3
    | none => .no
  | none => .no
theorem sd_sl {g : D → Option Int → Option Int → Option RV} {te : TE} {tl th : TO} {fe : Env → Res RV} {fl fh : Env → Res (Option Int)} (he : Sd K W (rV K) te fe) (hl : Sd K W rO tl fl) (hh : Sd K W rO th fh) : Sd K W (rV K) (L2.tSl (rSG K g) te tl th) (fSl fe fl fh g) := fun C fp Hd H σ ρ I Q p =>
  he.run I p fun r v fp0 Hd0 H0 ρ0 s0 I0 h p => hl.run I0 p fun lo lo' fp1 Hd1 H1 ρ1 s1 I1 h1 p => hh.run I1 p fun hi hi' fp2 Hd2 H2 ρ2 s2 I2 h2 p => by
    have h1 : lo' = lo := h1
    have h2 : hi' = hi := h2
    subst h1 h2
    have h := ((rV_loose h).stp s1).stp s2
    cases e1 : rd r ρ2 with
    | none => simp only [e1] at p; exact p.elim
    | some d =>
      simp only [e1] at p
      cases eg : g d lo' hi' with
      | none => simp only [eg] at p; exact p.elim
      | some z =>
        simp only [eg] at p
        exact ⟨Hd2, d, z, I2.le, I2.rdTop h e1, eg, fun v H' n => p.new I2 n⟩
theorem Reps.cut {H : Hp} {ds : List D} {vs : List V} (r : Reps K H ds vs) (lo hi : Option Int) : Reps K H (cutD ds lo hi) (L2.cutV vs lo hi) := by
  unfold cutD L2.cutV
  rw [r.length]
  exact (r.drop _).take _
theorem Reps.eq_len {H : Hp} {ds es : List D} {vs : List V} (a : Reps K H ds vs) (b : es = ds) : Reps K H es vs := b ▸ a
end
section
variable {X : Cx}
theorem cut_all {α : Type} {xs : List α} {lo hi : Option Int} (h : HT.sIx xs.length 0 lo = 0 ∧ HT.sIx xs.length xs.length hi = xs.length) : cutD xs lo hi = xs := by
  unfold cutD
  rw [h.1, h.2]
  simp
theorem sl_gSl : SlR X (rSG X.K gSl) := by
  intro pins s σ H x v vl vu lo hi sl Q I rx hs pl pu ⟨Hd, d, z, l, t, eg, q⟩
  cases d with
  | lst ds =>
    cases eg
    obtain ⟨a, xs, rfl, h1, r1⟩ := t.lstD l
    exact L2.sl_list pins s σ H _ v vl vu lo hi sl Q I rx hs pl pu ⟨a, xs, rfl, .inl h1, fun p hp => q _ _ (newR_lst l hp (r1.cut lo hi))⟩
  | tup ds =>
    cases eg
    obtain ⟨a, xs, rfl, h1, r1⟩ := t.tupD l
    refine L2.sl_tupA pins s σ H _ v vl vu lo hi sl Q I rx hs pl pu ⟨a, xs, rfl, h1, fun hw => ?_, fun _ p hp => q _ _ (newR_tup l hp (r1.cut lo hi))⟩
    cases t with
    | rep r =>
      have e : cutD ds lo hi = ds := cut_all (by rw [← r1.length]; exact hw)
      exact q _ _ (newR_here l (by rw [e]; exact r))
  | _ => cases eg
/-! ### built-ins -/
theorem tops1 {K : PySem.W.Frag} {Hd H : Hp} {d : D} {xs : List V} (t : Tops K Hd H [d] xs) : ∃ x, xs = [x] ∧ Top K Hd H d x := by
  cases t with | cons h r => cases r; exact ⟨_, rfl, h⟩
theorem tops2 {K : PySem.W.Frag} {Hd H : Hp} {d e : D} {xs : List V} (t : Tops K Hd H [d, e] xs) : ∃ x y, xs = [x, y] ∧ Top K Hd H d x ∧ Top K Hd H e y := by
  cases t with | cons h r => cases r with | cons h2 r => cases r; exact ⟨_, _, rfl, h, h2⟩
def gLen : List D → Option RV
  | [.lst ds] => some (.val (.int (ds.length : Nat)))
  | [.tup ds] => some (.val (.int (ds.length : Nat)))
  | [.scr ns] => some (.val (.int (ns.length : Nat)))
  | _ => none
theorem cb_len : CallR X (.builtin "len") (rGC X.K gLen) := cb_imp L2.call_len_seq fun xs H Q ⟨Hd, ds, z, l, t, eg, q⟩ => by
  match ds, t, eg with
  | [.lst es], t, eg =>
    cases eg
    obtain ⟨x, rfl, w⟩ := tops1 t
    obtain ⟨a, ys, rfl, h1, r1⟩ := w.lstD l
    exact ⟨a, ys, rfl, .inl (.inl h1), by rw [r1.length]; exact q _ _ (newR_here l (.int _))⟩
  | [.tup es], t, eg =>
    cases eg
    obtain ⟨x, rfl, w⟩ := tops1 t
    obtain ⟨a, ys, rfl, h1, r1⟩ := w.tupD l
    exact ⟨a, ys, rfl, .inr h1, by rw [r1.length]; exact q _ _ (newR_here l (.int _))⟩
  | [.scr ns], t, eg =>
    cases eg
    obtain ⟨x, rfl, w⟩ := tops1 t
    obtain ⟨a, rfl, h1⟩ := w.scrD l
    exact ⟨a, _, rfl, .inl h1, by rw [List.length_map]; exact q _ _ (newR_here l (.int _))⟩
def gList : List D → Option RV
  | [.lst ds] => some (.own (.lst ds))
  | [.tup ds] => some (.own (.lst ds))
  | _ => none
theorem cb_list : CallR X (.type "list") (rGC X.K gList) := cb_imp L2.call_list_of fun xs H Q ⟨Hd, ds, z, l, t, eg, q⟩ => by
  match ds, t, eg with
  | [.lst es], t, eg =>
    cases eg
    obtain ⟨x, rfl, w⟩ := tops1 t
    obtain ⟨a, ys, rfl, h1, r1⟩ := w.lstD l
    exact ⟨a, ys, rfl, .inl (.inl h1), fun p hp => q _ _ (newR_lst l hp r1)⟩
  | [.tup es], t, eg =>
    cases eg
    obtain ⟨x, rfl, w⟩ := tops1 t
    obtain ⟨a, ys, rfl, h1, r1⟩ := w.tupD l
    exact ⟨a, ys, rfl, .inr h1, fun p hp => q _ _ (newR_lst l hp r1)⟩
def gTuple : List D → Option RV
  | [.lst ds] => some (.val (.tup ds))
  | [.tup ds] => some (.val (.tup ds))
  | _ => none
theorem cb_tuple : CallR X (.type "tuple") (rGC X.K gTuple) := cb_imp L2.call_tuple_of fun xs H Q ⟨Hd, ds, z, l, t, eg, q⟩ => by
  match ds, t, eg with
  | [.lst es], t, eg =>
    cases eg
    obtain ⟨x, rfl, w⟩ := tops1 t
    obtain ⟨a, ys, rfl, h1, r1⟩ := w.lstD l
    exact ⟨a, ys, rfl, .inl ⟨.inl h1, fun p hp => q _ _ (newR_tup l hp r1)⟩⟩
  | [.tup es], t, eg =>
    cases eg
    obtain ⟨x, rfl, w⟩ := tops1 t
    obtain ⟨a, ys, rfl, h1, r1⟩ := w.tupD l
    refine ⟨a, ys, rfl, .inr ⟨h1, ?_⟩⟩
    cases w with
    | rep r => exact q _ _ (newR_here l r)
def gMM (g : Int → Int → Int) : List D → Option RV
  | [.int i, .int j] => some (.val (.int (g i j)))
  | _ => none
theorem cb_mm {f : Value} {g : Int → Int → Int} (h : CallR X f (fun xs H Q => ∃ i j, xs = [.int i, .int j] ∧ Q (.int (g i j)) H)) : CallR X f (rGC X.K (gMM g)) := cb_imp h fun xs H Q ⟨Hd, ds, z, l, t, eg, q⟩ => by
  match ds, t, eg with
  | [.int i, .int j], t, eg =>
    cases eg
    obtain ⟨x, y, rfl, t1, t2⟩ := tops2 t
    rw [t1.intD, t2.intD]
    exact ⟨i, j, rfl, q _ _ (newR_here l (.int _))⟩
def gMax : List D → Option RV := gMM fun i j => if j > i then j else i
def gMin : List D → Option RV := gMM fun i j => if j < i then j else i
theorem cb_max (hc : X.calm = true) : CallR X (.builtin "max") (rGC X.K gMax) := cb_mm (L2.call_max2 hc)
theorem cb_min (hc : X.calm = true) : CallR X (.builtin "min") (rGC X.K gMin) := cb_mm (L2.call_min2 hc)
/-- ints of a row -/
def intsD : List D → Option (List Int)
  | [] => some []
  | .int i :: ds => (intsD ds).map (i :: ·)
  | _ :: _ => none
theorem intsD_ok {K : PySem.W.Frag} {H : Hp} : ∀ {ds : List D} {vs : List V} {ns : List Int}, Reps K H ds vs → intsD ds = some ns → vs = ns.map V.int
  | _, _, _, .nil, e => by cases e; rfl
  | _, _, _, .cons (d := d) (ds := ds) h r, e => by
    cases d with
    | int i =>
      simp only [intsD] at e
      cases e1 : intsD ds with
      | none => rw [e1] at e; cases e
      | some ms => rw [e1] at e; cases e; cases h; rw [intsD_ok r e1]; rfl
    | _ => cases e
theorem ints_reps {K : PySem.W.Frag} {H : Hp} : ∀ ns : List Int, Reps K H (ns.map D.int) (ns.map V.int)
  | [] => .nil
  | n :: ns => .cons (.int n) (ints_reps ns)
theorem intsD_map : ∀ ns : List Int, intsD (ns.map D.int) = some ns
  | [] => rfl
  | n :: ns => by simp [intsD, intsD_map ns]
def leB (i j : Int) : Bool := decide (i ≤ j)
def sortI (ns : List Int) : List Int := ns.mergeSort leB
theorem sortI_perm (ns : List Int) : (sortI ns).Perm ns := List.mergeSort_perm ns _
theorem sortI_sorted (ns : List Int) : (sortI ns).Pairwise (· ≤ ·) := by
  have h := List.pairwise_mergeSort (le := leB) (fun a b c h1 h2 => by
    have h1 := of_decide_eq_true (p := a ≤ b) h1
    have h2 := of_decide_eq_true (p := b ≤ c) h2
    exact decide_eq_true (p := a ≤ c) (by omega)) (fun a b => by
    unfold leB
    rw [Bool.or_eq_true, decide_eq_true_eq, decide_eq_true_eq]
    omega) ns
  exact h.imp fun h => of_decide_eq_true h
theorem sorted_uniq {a b : List Int} (p : a.Perm b) (ha : a.Pairwise (· ≤ ·)) (hb : b.Pairwise (· ≤ ·)) : a = b :=
  p.eq_of_pairwise (fun x y _ _ h1 h2 => Int.le_antisymm h1 h2) ha hb
def gSorted : List D → Option RV
  | [.lst ds] => (intsD ds).map fun ns => .own (.lst ((sortI ns).map .int))
  | _ => none
theorem cb_sorted : CallR X (.builtin "sorted") (rGC X.K gSorted) := cb_imp L2.cr_sortedI fun xs H Q ⟨Hd, ds, z, l, t, eg, q⟩ => by
  match ds, t, eg with
  | [.lst es], t, eg =>
    simp only [gSorted] at eg
    cases e1 : intsD es with
    | none => rw [e1] at eg; cases eg
    | some ns =>
      rw [e1] at eg
      cases eg
      obtain ⟨x, rfl, w⟩ := tops1 t
      obtain ⟨a, ys, rfl, h1, r1⟩ := w.lstD l
      have ey := intsD_ok r1 e1
      subst ey
      refine ⟨a, ns, rfl, .inl h1, fun ns' p hp hs hn => ?_⟩
      have e : ns' = sortI ns := sorted_uniq (hp.trans (sortI_perm ns).symm) hs (sortI_sorted ns)
      subst e
      exact q _ _ (newR_lst l hn (ints_reps _))
/-- bools of a row -/
def blsD : List D → Option (List Bool)
  | [] => some []
  | .bl i :: ds => (blsD ds).map (i :: ·)
  | _ :: _ => none
theorem blsD_ok {K : PySem.W.Frag} {H : Hp} : ∀ {ds : List D} {vs : List V} {ns : List Bool}, Reps K H ds vs → blsD ds = some ns → vs = ns.map V.bl
  | _, _, _, .nil, e => by cases e; rfl
  | _, _, _, .cons (d := d) (ds := ds) h r, e => by
    cases d with
    | bl i =>
      simp only [blsD] at e
      cases e1 : blsD ds with
      | none => rw [e1] at e; cases e
      | some ms => rw [e1] at e; cases e; cases h; rw [blsD_ok r e1]; rfl
    | _ => cases e
def gAll : List D → Option RV
  | [.lst ds] => (blsD ds).map fun bs => .val (.bl (bs.all id))
  | _ => none
theorem cb_all (hc : X.calm = true) : CallR X (.builtin "all") (rGC X.K gAll) := cb_imp (L2.cr_all hc) fun xs H Q ⟨Hd, ds, z, l, t, eg, q⟩ => by
  match ds, t, eg with
  | [.lst es], t, eg =>
    simp only [gAll] at eg
    cases e1 : blsD es with
    | none => rw [e1] at eg; cases eg
    | some ns =>
      rw [e1] at eg
      cases eg
      obtain ⟨x, rfl, w⟩ := tops1 t
      obtain ⟨a, ys, rfl, h1, r1⟩ := w.lstD l
      have ey := blsD_ok r1 e1
      subst ey
      exact ⟨a, ns, rfl, .inl h1, q _ _ (newR_here l (.bl _))⟩
/-- isinstance(x, T) -/
def tyN : D → Option String
  | .non => some "NoneType"
  | .bl _ => some "bool"
  | .int _ => some "int"
  | .str _ => some "str"
  | .tup _ => some "tuple"
  | .lst _ => some "list"
  | .dic _ => some "dict"
  | .dlk _ => some "dict"
  | _ => none
def isT (T t : String) : Bool := t == T || (t == "bool" && T == "int")
def IsiK (K : PySem.W.Frag) (T : String) : Prop := ∀ t ∈ (["NoneType", "bool", "int", "str", "tuple", "list", "dict"] : List String), PySem.W.kitOne K (.type t) (.type T) = some (isT T t)
def gIsi (T : String) (d : D) : Option RV := (tyN d).map fun t => .val (.bl (isT T t))
theorem tyX_of {K : PySem.W.Frag} {Hd H : Hp} {d : D} {x : V} {t : String} (l : Le Hd H) (h : Top K Hd H d x) (e : tyN d = some t) : L2.TyX K H x (.type t) := by
  cases d with
  | non => cases e; rw [h.nonD]; exact .base .non
  | bl b => cases e; rw [h.blD]; exact .base (.bl _)
  | int b => cases e; rw [h.intD]; exact .base (.int _)
  | str b => cases e; rw [h.strD]; exact .base (.str _)
  | tup ds =>
    cases e
    obtain ⟨a, ys, rfl, h1, _⟩ := h.tupD l
    rcases h1 with (h1 | ⟨o, h1⟩) | ⟨o, its, n, h1, h2, _⟩
    · exact .base (.tup h1)
    · exact .fTuple h1
    · exact .kTuple h1 h2
  | lst ds =>
    cases e
    obtain ⟨a, ys, rfl, h1, _⟩ := h.lstD l
    rcases h1 with h1 | ⟨o, h1⟩
    · exact .base (.lst h1)
    · exact .base (.frz h1)
  | dic ds =>
    cases e
    obtain ⟨a, ys, rfl, h1, _⟩ := h.dicD l
    rcases h1 with h1 | ⟨o, h1⟩
    · exact .base (.dK h1)
    · exact .fDict h1
  | dlk ds =>
    cases e
    obtain ⟨a, o, ys, rfl, h1, _⟩ := h.dlkD l
    exact .fDict h1
  | set _ => cases e
  | scr _ => cases e
end
section
variable {K : PySem.W.Frag} {W : St → XK}
theorem sd_isi {T : String} (hk : IsiK K T) {ta : TE} {fa : Env → Res RV} (ha : Sd K W (rV K) ta fa) : Sd K W (rV K) (tCB (L2.rIsi K) (tCons ta (tCons (tC (.ty T)) tNil))) (f1 fa (gIsi T)) := fun C fp Hd H σ ρ I Q p =>
  ha.run I p fun r1 v1 fp0 Hd0 H0 ρ0 s0 I0 h1 p => by
    have h1 := rV_loose h1
    cases e1 : rd r1 ρ0 with
    | none => simp only [e1] at p; exact p.elim
    | some d1 =>
      simp only [e1] at p
      unfold gIsi at p
      cases et : tyN d1 with
      | none => simp only [et, Option.map] at p; exact p.elim
      | some t =>
        simp only [et, Option.map] at p
        have hm : t ∈ (["NoneType", "bool", "int", "str", "tuple", "list", "dict"] : List String) := by
          cases d1 <;> first | (cases et; simp) | cases et
        exact ⟨v1, .ty T, .type t, .type T, _, rfl, .ty T, tyX_of I0.le (I0.rdTop h1 e1) et, hk t hm, p.new I0 (newR_here I0.le (.bl _))⟩
/-! ### what is walked -/
/-- what stays as it is while things are done -/
def rWk (K : PySem.W.Frag) : Rel D V := ⟨fun C _ _ Hd _ _ d v => Rep K Hd d v ∨ (Top K C.Hd0 C.H0 d v ∧ (Rep K C.Hd0 d v ∨ ∀ a, v = .ref a → ∀ i, a ∉ C.M i)), fun _ h => h⟩
def fk (r : RV) (ρ : Env) : Res D :=
  match r with
  | .bor i => match ρ[i]? with
    | some (.br d) => .ok d ρ
    | _ => fz r ρ
  | r => fz r ρ
theorem Post.imp_rel {α β : Type} {C : Cn} {rel rel' : Rel α β} {fp : Fp} {Hd H : Hp} {σ : St} {x : Res α} {Q : β → Hp → Prop} (h : ∀ {Hs fp Hd H a b}, rel.r C Hs fp Hd H σ a b → rel'.r C Hs fp Hd H σ a b)
    (p : Post K W C rel' fp Hd H σ x Q) : Post K W C rel fp Hd H σ x Q := by
  cases x with
  | ok a ρ => exact fun v fp' Hd' H' s I r => p v fp' Hd' H' s I (h r)
  | ex c ρ => exact p
  | no => exact p
theorem Sd.fk {t : TE} {f : Env → Res RV} (h : Sd K W (rV K) t f) : Sd K W (rWk K) t (fun ρ => (f ρ).bind O.fk) := by
  intro C fp Hd H σ ρ I Q p
  refine h C fp Hd H σ ρ I Q ?_
  cases e : f ρ with
  | no => simp only [e, Res.bind] at p; exact p
  | ex c ρ1 => simp only [e, Res.bind] at p; exact p
  | ok r ρ1 =>
    simp only [e, Res.bind] at p
    intro v fp1 Hd1 H1 s1 I1 hr
    have go : O.fk r ρ1 = O.fz r ρ1 → Q v H1 := fun ef => by
      rw [ef] at p
      exact fz_at s1 I1 hr (Post.imp_rel (rel' := rWk K) (fun h => Or.inl h) p)
    cases r with
    | val d => exact go rfl
    | own o => exact go rfl
    | bor i =>
      cases es : ρ1[i]? with
      | none => exact go (by simp only [O.fk, es])
      | some s =>
        cases s with
        | br d =>
          simp only [O.fk, es] at p
          have q := I1.slot i _ es
          have hr : σ[i]? = some (some v) := hr
          rw [hr] at q
          obtain ⟨_, w, ew, t, n⟩ := q
          cases ew
          exact p v fp1 Hd1 H1 s1 I1 (.inr ⟨t, n⟩)
        | _ => exact go (by simp only [O.fk, es])
theorem rWk_rd {C : Cn} {Hs : Hp} {fp : Fp} {Hd1 H1 : Hp} {σ : St} {ds : List D} {v : V} (h : (rWk K).r C Hs fp Hd1 H1 σ (.lst ds) v) :
    ∃ a xs, v = .ref a ∧ xs.length = ds.length ∧ ∀ fp Hd H σ ρ, Inv K C fp Hd H σ ρ → Le Hd1 Hd → Rd H a (.lst xs) ∧ Reps K Hd ds xs := by
  have ofR : ∀ {H0 : Hp}, Rep K H0 (.lst ds) v → (∀ fp Hd H σ ρ, Inv K C fp Hd H σ ρ → Le Hd1 Hd → Le H0 Hd) → ∃ a xs, v = .ref a ∧ xs.length = ds.length ∧ ∀ fp Hd H σ ρ, Inv K C fp Hd H σ ρ → Le Hd1 Hd → Rd H a (.lst xs) ∧ Reps K Hd ds xs := fun {H0} h k => by
    cases h with
    | lst hr r => exact ⟨_, _, rfl, r.length, fun fp Hd H σ ρ I l => ⟨I.le _ _ (k fp Hd H σ ρ I l _ _ hr), r.mono (k fp Hd H σ ρ I l)⟩⟩
  rcases h with h | ⟨t, n⟩
  · exact ofR h fun _ _ _ _ _ _ l => l
  · rcases n with n | n
    · exact ofR n fun _ _ _ _ _ I _ => I.hd0
    · cases t with
      | rep r => exact ofR r fun _ _ _ _ _ I _ => I.hd0
      | lst hr r =>
        refine ⟨_, _, rfl, r.length, fun fp Hd H σ ρ I l => ⟨?_, r.mono I.hd0⟩⟩
        rcases hr with hr | ⟨o, hr⟩
        · exact .inl (I.keep _ _ hr (n _ rfl))
        · exact .inr ⟨o, I.keep _ _ hr (n _ rfl)⟩
theorem rWk_rep {C : Cn} {Hs : Hp} {fp : Fp} {Hd1 H1 : Hp} {σ : St} {d : D} {v : V} (hd : d.still = true) (h : (rWk K).r C Hs fp Hd1 H1 σ d v) : ∀ fp Hd H σ ρ, Inv K C fp Hd H σ ρ → Le Hd1 Hd → Rep K Hd d v := fun fp Hd H σ ρ I l => by
  rcases h with h | ⟨t, n⟩
  · exact h.mono l
  · exact (I.brTop t n).still hd
def fWalk (fe : Env → Res RV) (g : D → Option (List D)) : Env → Res (List D) := fun ρ => ((fe ρ).bind fk).bind fun d ρ1 => match g d with
  | some ds => .ok ds ρ1
  | none => .no
def gItL : D → Option (List D)
  | .lst ds => some ds
  | .scr ns => some (ns.map .int)
  | _ => none
def gItT : D → Option (List D)
  | .tup ds => some ds
  | _ => none
theorem si_of {te : TE} {fe : Env → Res RV} (he : Sd K W (rV K) te fe) {g : D → Option (List D)} {ti : TI} {k : V → Hp → (It → Hp → Prop) → Prop} (ht : ti = fun σ H R => te σ H fun x H1 => k x H1 R)
    (hk : ∀ (C : Cn) (Hs : Hp) (fp : Fp) (Hd H : Hp) (σ : St) (ρ : Env) (d : D) (ds : List D) (v : V), Inv K C fp Hd H σ ρ → (rWk K).r C Hs fp Hd H σ d v → g d = some ds → ∀ R : It → Hp → Prop, (∀ J, WalkD K C Hd J ds → R J H) → k v H R) : Si K W ti (fWalk fe g) := fun C fp Hd H σ ρ I R p => by
  rw [ht]
  refine he.fk C fp Hd H σ ρ I _ ?_
  unfold fWalk at p
  show Post K W C (rWk K) fp Hd H σ ((fe ρ).bind O.fk) _
  cases e : (fe ρ).bind O.fk with
  | no => rw [e] at p; exact p
  | ex c ρ1 => rw [e] at p; exact p
  | ok d ρ1 =>
    rw [e] at p
    have p : PostI K W C fp Hd H σ (match g d with | some ds => Res.ok ds ρ1 | none => .no) R := p
    cases eg : g d with
    | none => rw [eg] at p; exact p.elim
    | some ds =>
      rw [eg] at p
      exact fun v fp1 Hd1 H1 s1 I1 hr => hk C H fp1 Hd1 H1 σ ρ1 d ds v I1 hr eg R fun J w => p J fp1 Hd1 H1 s1 I1 w
theorem si_list {te : TE} {fe : Env → Res RV} (he : Sd K W (rV K) te fe) : Si K W (L2.iList K te) (fWalk fe gItL) :=
  si_of (k := fun x H1 R => ∃ a, x = .ref a ∧ (∃ xs, SqL K H1 a xs) ∧ R (L2.Itl K a) H1) he rfl fun C Hs fp Hd H σ ρ d ds v I hr eg R p => by
    cases d with
    | lst es =>
      cases eg
      obtain ⟨a, xs, rfl, hl, h⟩ := rWk_rd hr
      refine ⟨a, rfl, ⟨xs, .inl (h _ _ _ _ _ I (.refl _)).1⟩, p _ ?_⟩
      unfold WalkD
      rw [← hl]
      exact L2.walk_list.mono (fun H' ⟨fp', Hd', σ', ρ', I', l'⟩ => .inl (h _ _ _ _ _ I' l').1) fun i H' x H'' hi ⟨fp', Hd', σ', ρ', I', l'⟩ ⟨e1, e2⟩ => by
        subst e1
        obtain ⟨d, hd, _⟩ := (h _ _ _ _ _ I' l').2.get' e2
        refine ⟨d, hd, fun fp3 Hd3 σ3 ρ3 I3 l3 => ?_⟩
        obtain ⟨d', hd', r'⟩ := (h _ _ _ _ _ I3 l3).2.get' e2
        rw [hd] at hd'
        cases hd'
        exact newR_here I3.le r'
    | scr ns =>
      cases eg
      have h := rWk_rep rfl hr
      have h0 := h _ _ _ _ _ I (.refl _)
      have ht : ∀ {Hx : Hp}, Rep K Hx (.scr ns) v → ∃ a, v = .ref a ∧ SqL K Hx a (ns.map V.int) := fun r => by cases r with | scr q => exact ⟨_, rfl, q⟩
      obtain ⟨a, rfl, _⟩ := ht h0
      have hs : ∀ fp Hd' H σ ρ, Inv K C fp Hd' H σ ρ → Le Hd Hd' → SqL K H a (ns.map V.int) := fun fp Hd' H σ ρ I l => by
        obtain ⟨a', e, q⟩ := ht (h fp Hd' H σ ρ I l)
        cases e
        exact I.le.sqL q
      refine ⟨a, rfl, ⟨_, hs _ _ _ _ _ I (.refl _)⟩, p _ ?_⟩
      unfold WalkD
      have hl : (ns.map D.int).length = (ns.map V.int).length := by simp
      rw [hl]
      exact L2.walk_list.mono (fun H' ⟨fp', Hd', σ', ρ', I', l'⟩ => hs _ _ _ _ _ I' l') fun i H' x H'' hi ⟨fp', Hd', σ', ρ', I', l'⟩ ⟨e1, e2⟩ => by
        subst e1
        rw [List.getElem?_map] at e2
        cases en : ns[i]? with
        | none => rw [en] at e2; cases e2
        | some n =>
          rw [en] at e2
          cases e2
          exact ⟨.int n, by rw [List.getElem?_map, en]; rfl, fun fp3 Hd3 σ3 ρ3 I3 l3 => newR_here I3.le (.int n)⟩
    | _ => cases eg
theorem si_tup {te : TE} {fe : Env → Res RV} (he : Sd K W (rV K) te fe) : Si K W (L2.iTup K te) (fWalk fe gItT) :=
  si_of (k := fun x H1 R => ∃ a, x = .ref a ∧ (∃ xs, SqT K H1 a xs) ∧ R (L2.Itt K a) H1) he rfl fun C Hs fp Hd H σ ρ d ds v I hr eg R p => by
    cases d with
    | tup es =>
      cases eg
      have h := rWk_rep rfl hr
      have h0 := h _ _ _ _ _ I (.refl _)
      cases h0 with
      | tup hq r0 =>
        rename_i a xs
        refine ⟨a, rfl, ⟨xs, I.le.sqT hq⟩, p _ ?_⟩
        unfold WalkD
        rw [← r0.length]
        exact L2.walk_tup.mono (fun H' ⟨fp', Hd', σ', ρ', I', l'⟩ => I'.le.sqT (l'.sqT hq)) fun i H' x H'' hi ⟨fp', Hd', σ', ρ', I', l'⟩ ⟨e1, e2⟩ => by
          subst e1
          obtain ⟨d, hd, rd⟩ := r0.get' e2
          exact ⟨d, hd, fun fp3 Hd3 σ3 ρ3 I3 l3 => newR_here I3.le (rd.mono l3)⟩
    | _ => cases eg
/-! ranges -/
def rngD (lo : Int) (n : Nat) : List D := (List.range n).map fun i => .int (lo + (i : Nat))
def fRng1 (fa : Env → Res (List RV)) : Env → Res (List D) := fun ρ => (fa ρ).bind fun rs ρ1 => match rds rs ρ1 with
  | some [.int j] => if -(2 ^ 62) ≤ j ∧ j < 2 ^ 62 then .ok (rngD 0 j.toNat) ρ1 else .no
  | _ => .no
def fRng2 (fa : Env → Res (List RV)) : Env → Res (List D) := fun ρ => (fa ρ).bind fun rs ρ1 => match rds rs ρ1 with
  | some [.int i, .int j] => if -(2 ^ 62) ≤ i ∧ i < 2 ^ 62 ∧ -(2 ^ 62) ≤ j ∧ j < 2 ^ 62 then .ok (rngD i (j - i).toNat) ρ1 else .no
  | _ => .no
theorem walkD_rng {C : Cn} {Hd0 : Hp} {lo : Int} {n : Nat} : WalkD K C Hd0 (L2.Itr lo n) (rngD lo n) := by
  unfold WalkD
  have hl : (rngD lo n).length = n := by simp [rngD]
  rw [hl]
  exact L2.walk_range.mono (fun _ _ => trivial) fun i H x H' hi _ ⟨e1, e2⟩ => by
    subst e1
    subst e2
    exact ⟨.int (lo + i), by simp [rngD, hi], fun _ _ _ _ I _ => newR_here I.le (.int _)⟩
theorem si_rng1 {ta : TA} {fa : Env → Res (List RV)} (ha : Sd K W (rA K) ta fa) : Si K W (L2.iRng1 ta) (fRng1 fa) := fun C fp Hd H σ ρ I R p => by
  refine ha C fp Hd H σ ρ I _ ?_
  unfold fRng1 at p
  cases e : fa ρ with
  | no => rw [e] at p; exact p
  | ex c ρ1 => rw [e] at p; exact p
  | ok rs ρ1 =>
    simp only [e, Res.bind] at p
    intro vs fp1 Hd1 H1 s1 I1 hr
    split at p
    · rename_i j ed
      by_cases hj : -(2 ^ 62) ≤ j ∧ j < 2 ^ 62
      · rw [if_pos hj] at p
        obtain ⟨x, rfl, t⟩ := tops1 (tops_of I1 hr ed)
        rw [t.intD]
        exact ⟨j, rfl, hj.1, hj.2, p _ fp1 Hd1 H1 s1 I1 walkD_rng⟩
      · rw [if_neg hj] at p; exact p.elim
    · exact p.elim
theorem si_rng2 {ta : TA} {fa : Env → Res (List RV)} (ha : Sd K W (rA K) ta fa) : Si K W (L2.iRng2 ta) (fRng2 fa) := fun C fp Hd H σ ρ I R p => by
  refine ha C fp Hd H σ ρ I _ ?_
  unfold fRng2 at p
  cases e : fa ρ with
  | no => rw [e] at p; exact p
  | ex c ρ1 => rw [e] at p; exact p
  | ok rs ρ1 =>
    simp only [e, Res.bind] at p
    intro vs fp1 Hd1 H1 s1 I1 hr
    split at p
    · rename_i i j ed
      by_cases hj : -(2 ^ 62) ≤ i ∧ i < 2 ^ 62 ∧ -(2 ^ 62) ≤ j ∧ j < 2 ^ 62
      · rw [if_pos hj] at p
        obtain ⟨x, y, rfl, t, u⟩ := tops2 (tops_of I1 hr ed)
        rw [t.intD, u.intD]
        exact ⟨i, j, rfl, hj, p _ fp1 Hd1 H1 s1 I1 walkD_rng⟩
      · rw [if_neg hj] at p; exact p.elim
    · exact p.elim
end
end O

/-! Own9: the joined rules: what runs and what it computes, by one term -/
namespace O
open PySem
open L2 (V Hp HO Rd SqL SqT upd upd_same upd_ne ne_of ne_of_none TE TT TA TS TG TGs TI TO It VK XK Ends St PE PT PW PA PS PSs PG PGs PI PO PTs Cx OpR UnR CallR IxR SlR MtR R2 tOp tUn tVar tC tCons tNil tTup tLst tTest tB tAnd tOr tNot tAndV tOrV tNotV tIf tCB Sp FnOk Gl Vis Loc Room)
section
variable {K : PySem.W.Frag} {W : St → XK}
/-! ### a chain of two comparisons -/
def fChain (fa fb fc : Env → Res RV) (g g' : D → D → Option RV) : Env → Res RV := fun ρ => (fa ρ).bind fun r1 ρ1 => (fb ρ1).bind fun r2 ρ2 => match rd r1 ρ2, rd r2 ρ2 with
  | some d1, some d2 => match g d1 d2 with
    | some (.val (.bl true)) => (fc ρ2).bind fun r3 ρ3 => match rd r2 ρ3, rd r3 ρ3 with
      | some d2, some d3 => match g' d2 d3 with
        | some z => .ok z ρ3
        | none => .no
      | _, _ => .no
    | some (.val (.bl false)) => .ok (.val (.bl false)) ρ2
    | _ => .no
  | _, _ => .no
theorem sd_chain {ta tb tc : TE} {fa fb fc : Env → Res RV} {g g' : D → D → Option RV} (ha : Sd K W (rV K) ta fa) (hb : Sd K W (rV K) tb fb) (hc : Sd K W (rV K) tc fc) : Sd K W (rV K) (L2.tChain (rG K g) (rG K g') ta tb tc) (fChain fa fb fc g g') := fun C fp Hd H σ ρ I Q p =>
  ha.run I p fun r1 v1 fp0 Hd0 H0 ρ0 s0 I0 h1 p => hb.run I0 p fun r2 v2 fp1 Hd1 H1 ρ1 s1 I1 h2 p => by
    have h1 := (rV_loose h1).stp s1
    have h2 := rV_loose h2
    cases e1 : rd r1 ρ1 with
    | none => simp only [e1] at p; exact p.elim
    | some d1 =>
      cases e2 : rd r2 ρ1 with
      | none => simp only [e1, e2] at p; exact p.elim
      | some d2 =>
        simp only [e1, e2] at p
        split at p
        · rename_i eg
          refine ⟨Hd1, d1, d2, _, I1.le, I1.rdTop h1 e1, I1.rdTop h2 e2, eg, fun v H' n => ?_⟩
          obtain ⟨Hd2, s2, I2, hv⟩ := n.at I1
          have hv : Rep K Hd2 (.bl true) v := hv
          refine ⟨true, by cases hv; rfl, ?_⟩
          rw [if_pos rfl]
          refine hc.run I2 (p.stp s2) fun r3 v3 fp3 Hd3 H3 ρ3 s3 I3 h3 p3 => ?_
          have h2 := (h2.stp s2).stp s3
          have h3 := rV_loose h3
          cases e3 : rd r2 ρ3 with
          | none => simp only [e3] at p3; exact p3.elim
          | some d2' =>
            cases e4 : rd r3 ρ3 with
            | none => simp only [e3, e4] at p3; exact p3.elim
            | some d3 =>
              simp only [e3, e4] at p3
              cases eg' : g' d2' d3 with
              | none => simp only [eg'] at p3; exact p3.elim
              | some z =>
                simp only [eg'] at p3
                exact ⟨Hd3, d2', d3, z, I3.le, I3.rdTop h2 e3, I3.rdTop h3 e4, eg', fun v H' n => p3.new I3 n⟩
        · rename_i eg
          refine ⟨Hd1, d1, d2, _, I1.le, I1.rdTop h1 e1, I1.rdTop h2 e2, eg, fun v H' n => ?_⟩
          obtain ⟨Hd2, s2, I2, hv⟩ := n.at I1
          have hv : Rep K Hd2 (.bl false) v := hv
          refine ⟨false, by cases hv; rfl, ?_⟩
          rw [if_neg (by simp)]
          exact (p.stp s2).now I2 (Rep.bl false)
        · exact p.elim
/-! ### a method that reads -/
def rGB (K : PySem.W.Frag) (g : D → List D → Option RV) : V → List V → Hp → VK → Prop := fun x vs H Q => ∃ Hd d ds z, Le Hd H ∧ Top K Hd H d x ∧ Tops K Hd H ds vs ∧ g d ds = some z ∧ ∀ v H', NewR K Hd H z v H' → Q v H'
def fBM (fo : Env → Res RV) (fa : Env → Res (List RV)) (g : D → List D → Option RV) : Env → Res RV := fun ρ => (fo ρ).bind fun r ρ1 => match rd r ρ1 with
  | some (.lst _) => (fa ρ1).bind fun rs ρ2 => match rd r ρ2, rds rs ρ2 with
    | some d, some ds => match g d ds with
      | some z => .ok z ρ2
      | none => .no
    | _, _ => .no
  | _ => .no
theorem sd_bm {g : D → List D → Option RV} {to : TE} {fo : Env → Res RV} {ta : TA} {fa : Env → Res (List RV)} (ho : Sd K W (rV K) to fo) (ha : Sd K W (rA K) ta fa) : Sd K W (rV K) (L2.tBM K "list" (rGB K g) to ta) (fBM fo fa g) := fun C fp Hd H σ ρ I Q p =>
  ho.run I p fun r v fp0 Hd0 H0 ρ0 s0 I0 h p => by
    have h := rV_loose h
    split at p
    · rename_i ds0 e0
      obtain ⟨a, xs, rfl, hr, _⟩ := (I0.rdTop h e0).lstD I0.le
      refine ⟨.inl ⟨rfl, xs, .inl hr⟩, ?_⟩
      refine ha.run I0 p fun rs vs fp1 Hd1 H1 ρ1 s1 I1 hs p => ?_
      have h := h.stp s1
      cases e1 : rd r ρ1 with
      | none => simp only [e1] at p; exact p.elim
      | some d =>
        cases e2 : rds rs ρ1 with
        | none => simp only [e1, e2] at p; exact p.elim
        | some ds =>
          simp only [e1, e2] at p
          cases eg : g d ds with
          | none => simp only [eg] at p; exact p.elim
          | some z =>
            simp only [eg] at p
            exact ⟨Hd1, d, ds, z, I1.le, I1.rdTop h e1, tops_of I1 hs e2, eg, fun v H' n => p.new I1 n⟩
    · exact p.elim
end
section
variable {X : Cx}
theorem mt_imp {id : String} {r r' : V → List V → Hp → VK → Prop} (h : MtR X id r) (k : ∀ x xs H Q, r' x xs H Q → r x xs H Q) : MtR X id r' := fun pins s σ H x xs v us Q I rx rs q => h pins s σ H x xs v us Q I rx rs (k x xs H Q q)
def gAppend : List D → List D → Option (List D × D)
  | ds, [y] => if ds.length < sizeLine then some (ds ++ [y], .non) else none
  | _, _ => none
theorem mt_gAppend : MtR X "list.append" (rGMut X.K gAppend) := mt_imp L2.mt_append fun x vs H Q ⟨l, xs, Hd, ds, es, ds', z, ex, hl, r, re, eg, q⟩ => by
  match es, re, eg with
  | [y], .cons hy .nil, eg =>
    simp only [gAppend] at eg
    by_cases hz : ds.length < sizeLine
    · rw [if_pos hz] at eg
      cases eg
      exact ⟨l, xs, _, ex, rfl, hl, by rw [r.length]; exact hz, q _ _ (r.append (.cons hy .nil)) .non⟩
    · rw [if_neg hz] at eg; cases eg
/-- the place of a thing -/
def gIndex : D → List D → Option RV
  | .lst ds, [y] => match fv y, fvs ds with
    | some v, some vs => (vs.findIdx? fun z => L2.eqV z v).map fun j => .val (.int (j : Nat))
    | _, _ => none
  | _, _ => none
theorem mt_gIndex : MtR X "list.index" (rGB X.K gIndex) := mt_imp L2.mt_index fun x xs H Q ⟨Hd, d, es, z, l, t, ts, eg, q⟩ => by
  match d, es, ts, eg with
  | .lst ds, [y], ts, eg =>
    obtain ⟨w, rfl, ty⟩ := tops1 ts
    obtain ⟨a, ys, rfl, hr, r⟩ := t.lstD l
    simp only [gIndex] at eg
    cases e1 : fv y with
    | none => rw [e1] at eg; cases eg
    | some v =>
      cases e2 : fvs ds with
      | none => rw [e1, e2] at eg; cases eg
      | some vs =>
        rw [e1, e2] at eg
        simp only at eg
        obtain ⟨k1, k2⟩ := fv_ok (ty.all l) e1
        obtain ⟨k3, k4⟩ := fvs_ok r e2
        subst k1 k3
        cases e3 : ys.findIdx? (fun z => L2.eqV z w) with
        | none => rw [e3] at eg; cases eg
        | some j =>
          rw [e3] at eg
          cases eg
          obtain ⟨hj, hp, hn⟩ := List.findIdx?_eq_some_iff_getElem.mp e3
          refine ⟨a, ys, w, j, ys[j], rfl, rfl, .inl hr, k2, k4, List.getElem?_eq_getElem hj, hp, fun m z' hm hz => ?_, q _ _ (newR_here l (.int _))⟩
          obtain ⟨hm', e⟩ := List.getElem?_eq_some_iff.mp hz
          have := hn m hm
          rw [e] at this
          exact Bool.eq_false_iff.mpr this
  | .lst _, [], _, eg => cases eg
  | .lst _, _ :: _ :: _, _, eg => cases eg
  | .non, _, _, eg => cases eg
  | .bl _, _, _, eg => cases eg
  | .int _, _, _, eg => cases eg
  | .str _, _, _, eg => cases eg
  | .tup _, _, _, eg => cases eg
  | .dic _, _, _, eg => cases eg
  | .set _, _, _, eg => cases eg
  | .scr _, _, _, eg => cases eg
  | .dlk _, _, _, eg => cases eg
end
/-! ### joined: expressions -/
section
variable {X : Cx} {W : St → XK} {a b c e i o : Expr} {es : List Expr} {pos : Pos} {ta tb tc te ti : TE} {fa fb fc fe fi : Env → Res RV} {t : TA} {f : Env → Res (List RV)} {tt tu : TT} {ft fu : Env → Res Bool}
theorem jv (n : Nat) {x : Str} (hN : X.N[n]? = some x := by rfl) (hv : Vis X.env.scope x := by first | exact Or.inl (by rfl) | exact Or.inr (Or.inl (by rfl)) | exact Or.inr (Or.inr (by rfl))) (hd : (x == ("__debug__" : Str)) = false := by decide)
    (hc : (x == ("__classdict__" : Str)) = false := by decide) : JE X W (.Name x pos) (tVar n) (fVar n) := ⟨L2.pe_var hN hv hd hc, sd_var⟩
theorem ji {n : Int} {j : Nat} : JE X W (.Constant (.int n) j pos) (tC (.int n)) (fC (.int n)) := ⟨L2.pe_int, sd_c fun _ => .int n⟩
theorem jbl {n : Bool} {j : Nat} : JE X W (.Constant (.bool n) j pos) (tC (.bl n)) (fC (.bl n)) := ⟨L2.pe_bl, sd_c fun _ => .bl n⟩
theorem jnon {j : Nat} : JE X W (.Constant .none j pos) (tC .non) (fC .non) := ⟨L2.pe_non, sd_c fun _ => .non⟩
theorem jstr {x : Str} {j : Nat} : JE X W (.Constant (.str x) j pos) (tC (.str x)) (fC (.str x)) := ⟨L2.pe_str, sd_c fun _ => .str x⟩
theorem jglob {x : Str} {n : Int} {u : Value} (hm : X.mg x = some u) (r : L2.RelV (.int n) u) (hg : Gl X x := by rfl) (hd : (x == ("__debug__" : Str)) = false := by decide) : JE X W (.Name x pos) (tC (.int n)) (fC (.int n)) := ⟨L2.pe_glob hg hm r hd, sd_c fun _ => .int n⟩
theorem jop {K : PySem.W.Frag} {op : Operator} {g : D → D → Option RV} (ho : OpR X (binaryOp op) (rG K g)) (ha : JE X W a ta fa) (hb : JE X W b tb fb) (hK : X.K = K := by rfl) : JE X W (.BinOp a op b pos) (tOp (rG K g) ta tb) (f2 fa fb g) := by
  subst hK
  exact ⟨L2.pe_op ho ha.pe hb.pe, sd_op2 ha.se hb.se⟩
theorem jcmp {K : PySem.W.Frag} {op : CmpOp} {g : D → D → Option RV} (ho : OpR X (compareOp op) (rG K g)) (ha : JE X W a ta fa) (hb : JE X W b tb fb) (hm : behindInMarks op b = false := by first | exact L2.nomark _ | rfl) (hK : X.K = K := by rfl) : JE X W (.Compare a [op] [b] pos) (tOp (rG K g) ta tb) (f2 fa fb g) := by
  subst hK
  exact ⟨L2.pe_cmpR ho ha.pe hb.pe hm, sd_op2 ha.se hb.se⟩
theorem jcmpT {K : PySem.W.Frag} {op : CmpOp} {g : D → D → Option RV} (ho : OpR X (compareOp op) (rG K g)) (ha : JE X W a ta fa) (hb : JE X W b tb fb) (hm : behindInMarks op b = false := by first | exact L2.nomark _ | rfl) (hK : X.K = K := by rfl) : JT X W (.Compare a [op] [b] pos) (tTest (tOp (rG K g) ta tb)) (fB (f2 fa fb g)) := by
  subst hK
  exact ⟨L2.pt_cmpR ho ha.pe hb.pe hm, sd_tTest (sd_op2 ha.se hb.se)⟩
theorem jchain {K : PySem.W.Frag} {op op' : CmpOp} {g g' : D → D → Option RV} (ho : OpR X (compareOp op) (rG K g)) (ho' : OpR X (compareOp op') (rG K g')) (ha : JE X W a ta fa) (hb : JE X W b tb fb) (hc : JE X W c tc fc) (hm : lastMarks [op, op'] [b, c] = false := by with_unfolding_all rfl) (hK : X.K = K := by rfl) :
    JE X W (.Compare a [op, op'] [b, c] pos) (L2.tChain (rG K g) (rG K g') ta tb tc) (fChain fa fb fc g g') := by
  subst hK
  exact ⟨L2.pe_chain ho ho' ha.pe hb.pe hc.pe hm, sd_chain ha.se hb.se hc.se⟩
theorem jandV {rest : List Expr} (ha : JE X W a ta fa) (hb : JE X W (.BoolOp .And (b :: rest) pos) tb fb) : JE X W (.BoolOp .And (a :: b :: rest) pos) (tAndV ta tb) (fAndV fa fb) := ⟨L2.pe_and ha.pe hb.pe, sd_andV ha.se hb.se⟩
theorem jorV {rest : List Expr} (ha : JE X W a ta fa) (hb : JE X W (.BoolOp .Or (b :: rest) pos) tb fb) : JE X W (.BoolOp .Or (a :: b :: rest) pos) (tOrV ta tb) (fOrV fa fb) := ⟨L2.pe_or ha.pe hb.pe, sd_orV ha.se hb.se⟩
theorem joneV {op : BoolOp} (ha : JE X W a ta fa) : JE X W (.BoolOp op [a] pos) ta fa := ⟨L2.pe_one ha.pe, ha.se⟩
theorem jand {rest : List Expr} (ha : JT X W a tt ft) (hb : JW X W (.BoolOp .And (b :: rest) pos) tu fu) : JW X W (.BoolOp .And (a :: b :: rest) pos) (tAnd tt tu) (fAnd ft fu) := ⟨L2.pw_and ha.pt hb.pw, sd_and ha.st hb.st⟩
theorem jor {rest : List Expr} (ha : JT X W a tt ft) (hb : JW X W (.BoolOp .Or (b :: rest) pos) tu fu) : JW X W (.BoolOp .Or (a :: b :: rest) pos) (tOr tt tu) (fOr ft fu) := ⟨L2.pw_or ha.pt hb.pw, sd_or ha.st hb.st⟩
theorem jand1 (ha : JT X W a tt ft) : JW X W (.BoolOp .And [a] pos) tt ft := ⟨L2.pw_and1 ha.pt, ha.st⟩
theorem jor1 (ha : JT X W a tt ft) : JW X W (.BoolOp .Or [a] pos) tt ft := ⟨L2.pw_or1 ha.pt, ha.st⟩
theorem JW.jt (h : JW X W e tt ft) : JT X W e tt ft := ⟨h.pw.pt, h.st⟩
theorem jnot (ha : JT X W a tt ft) : JT X W (.UnaryOp .Not a pos) (tNot tt) (fNot ft) := ⟨L2.pt_not ha.pt, sd_not ha.st⟩
/-- any value that is a bool, tested -/
theorem jval (ha : JE X W e te fe) (he : ∀ whole, isTrue e X.env whole = (do let v ← whole; standAt e.pos; holding [v] (truthy v)) := by intro _; rfl) : JT X W e (tB te) (fB fe) := ⟨L2.pt_val ha.pe he, sd_tB ha.se⟩
theorem jif (hc : JT X W c tt ft) (ha : JE X W a ta fa) (hb : JE X W b tb fb) : JE X W (.IfExp c a b pos) (tIf tt ta tb) (fIf ft fa fb) := ⟨L2.pe_ifExp hc.pt ha.pe hb.pe, sd_if hc.st ha.se hb.se⟩
theorem janil : JA X W [] tNil aNil := ⟨L2.pa_nil, sa_nil⟩
theorem jacons (ha : JE X W e te fe) (hr : JA X W es t f) (hs : starEach (e :: es) X.env = (false, eval e X.env) :: starEach es X.env := by rfl) : JA X W (e :: es) (tCons te t) (aCons fe f) := ⟨L2.pa_cons ha.pe hr.pa hs, sa_cons ha.se hr.sa⟩
theorem jitem (ha : JE X W e te fe) (hr : JA X W es t f) (hs : starEach (e :: es) X.env = (false, eval e X.env) :: starEach es X.env := by rfl) : JA X W (e :: es) (tCons te t) (iCons fe f) := ⟨L2.pa_cons ha.pe hr.pa hs, sa_item ha.se hr.sa⟩
theorem jtup {x1} (h : JA X W es t f) : JE X W (.Tuple es x1 pos) (tTup t) (fTup f) := ⟨L2.pe_tup h.pa, sd_tup h.sa⟩
theorem jlst (h : JA X W es t f) : JE X W (.List es pos) (tLst t) (fLst f) := ⟨L2.pe_lst h.pa, sd_lst h.sa⟩
theorem jix {K : PySem.W.Frag} (ha : JE X W a ta fa) (hb : JE X W b tb fb) (hs : L2.PlainIx b := by intro _ _; rfl) (hK : X.K = K := by rfl) : JE X W (.Subscript a b pos) (tOp (rG K gIx) ta tb) (f2 fa fb gIx) := by
  subst hK
  exact ⟨L2.pe_ix ix_gIx ha.pe hb.pe hs, sd_op2 ha.se hb.se⟩
theorem jdget (hu : X.A.units + 64 < cLine) (ha : JE X W a ta fa) (hb : JE X W b tb fb) (hs : L2.NoSl b := by intro _ _; rfl) : JE X W (.Subscript a b pos) (L2.tDGet ta tb) (f2 fa fb gDGet) := ⟨L2.pe_dget (by omega) ha.pe hb.pe hs, sd_dget ha.se hb.se⟩
structure JO (X : Cx) (W : St → XK) (e : Option Expr) (t : TO) (f : Env → Res (Option Int)) : Prop where
  po : PO X e t
  so : Sd X.K W rO t f
theorem jno : JO X W none L2.tNoPart fNoPart := ⟨L2.po_none, so_none⟩
theorem jpart (h : JE X W e te fe) : JO X W (some e) (L2.tPart te) (fPart fe) := ⟨L2.po_some h.pe, so_some h.se⟩
theorem jsl {K : PySem.W.Frag} {lo hi : Option Expr} {p2 : Pos} {tl th : TO} {fl fh : Env → Res (Option Int)} (he : JE X W e te fe) (hl : JO X W lo tl fl) (hh : JO X W hi th fh) (hK : X.K = K := by rfl) : JE X W (.Subscript e (.Slice lo hi none p2) pos) (L2.tSl (rSG K gSl) te tl th) (fSl fe fl fh gSl) := by
  subst hK
  exact ⟨L2.pe_slice sl_gSl he.pe hl.po hh.po, sd_sl he.se hl.so hh.so⟩
/-- a built-in function, a built-in type -/
theorem jcb {K : PySem.W.Frag} {x : Str} {id : String} {p : Pos} {g : List D → Option RV} (hc : CallR X (.builtin id) (rGC K g)) (hm : X.mg x = none) (ha : JA X W (e :: es) t f) (hg : Gl X x := by rfl) (hv : bootBuiltins x = some (.builtin id) := by decide +kernel) (hn : x ≠ "__name__" := by decide)
    (hdb : (x == ("__debug__" : Str)) = false := by decide) (he : starEach (e :: es) X.env = (false, eval e X.env) :: starEach es X.env := by rfl) (hpl : (backTo pos (starEach es X.env)).any (·.1) = false := by rfl) (hK : X.K = K := by rfl) : JE X W (.Call (.Name x p) (e :: es) [] pos) (tCB (rGC K g) t) (fCB f g) := by
  subst hK
  exact ⟨L2.pe_callB hc hg hm hv ha.pa hn hdb he hpl, sd_cb ha.sa⟩
theorem jcty {K : PySem.W.Frag} {x : Str} {T : String} {p : Pos} {g : List D → Option RV} (hc : CallR X (.type T) (rGC K g)) (hm : X.mg x = none) (ha : JA X W (e :: es) t f) (hg : Gl X x := by rfl) (hv : bootBuiltins x = some (.type T) := by decide +kernel) (hn : x ≠ "__name__" := by decide)
    (hdb : (x == ("__debug__" : Str)) = false := by decide) (he : starEach (e :: es) X.env = (false, eval e X.env) :: starEach es X.env := by rfl) (hpl : (backTo pos (starEach es X.env)).any (·.1) = false := by rfl) (hK : X.K = K := by rfl) : JE X W (.Call (.Name x p) (e :: es) [] pos) (tCB (rGC K g) t) (fCB f g) := by
  subst hK
  exact ⟨L2.pe_callTy hc hg hm hv ha.pa hn hdb he hpl, sd_cb ha.sa⟩
end
end O

/-! Own10: joined rules: calls, comprehensions, statements, the def -/
namespace O
open PySem
open L2 (V Hp HO Rd SqL SqT upd upd_same upd_ne ne_of ne_of_none TE TT TA TS TG TGs TI TO It VK XK Ends St PE PT PW PA PS PSs PG PGs PI PO PTs Cx OpR UnR CallR IxR SlR MtR R2 tOp tUn tVar tC tCons tNil tTup tLst tTest tB tAnd tOr tNot tAndV tOrV tNotV tIf tCB Sp FnOk Gl Vis Loc Room)
section
variable {X : Cx} {a : Expr} {ta : TE} {pos p p2 q : Pos}
open PySem.Spec PyProof.Rows L2 in
/-- len(set(t)), t a tuple of different ints -/
def tLsT (K : PySem.W.Frag) (ta : TE) : TE := fun σ H Q => ta σ H fun x H1 => ∃ (l : Addr) (ns : List Int), x = V.ref l ∧ L2.SqT K H1 l (ns.map V.int) ∧ ns.length < 4000 ∧ ns.Nodup ∧ Q (.int (ns.length : Nat)) H1
theorem pe_lsT (hc : X.calm = true) (hm : X.mg "len" = none) (hm2 : X.mg "set" = none) (ha : PE X a ta) (hg : Gl X "len" := by rfl) (hg2 : Gl X "set" := by rfl)
    (na : starEach [a] X.env = (false, eval a X.env) :: starEach [] X.env := by rfl) : PE X (.Call (.Name "len" p) [.Call (.Name "set" p2) [a] [] q] [] pos) (tLsT X.K ta) := by
  refine ⟨fun pins s σ H Q I hw => ?_⟩
  refine PyProof.Rows.Call_ (L2.ld_blt I hg hm PySem.boot_len ?_)
  refine PyProof.Rows.callWith_builtin1 (PyProof.Rows.args_cons (?_) rfl) rfl rfl
  refine PyProof.Rows.Call_ (L2.ld_blt I hg2 hm2 PyProof.Rows.boot_set ?_)
  refine PyProof.Rows.callWith_type1 (PyProof.Rows.args_cons (L2.thn (ha.run pins s σ H _ I hw) fun v s1 ⟨x, H1, I1, r1, q1⟩ => (PyProof.Rows.args_nil ?_)) na) na rfl
  obtain ⟨l, ns, rfl, hq, hlen, hnd, q1⟩ := q1
  cases r1
  obtain ⟨its, r, pt, hz⟩ := I1.tuple hq
  have hi : PyProof.Rows.IntsAre its.toArray.toList ns := by simpa using L2.ints_of_vals r
  have hd := I1.ok.hd hc
  refine L2.call_set_tupI ns hd (show s1.heap.IsTuple l its.toArray from pt) hi (by unfold scanBound; omega) fun h' tk c R1 hcn k => (?_)
  obtain ⟨o, es, ep, t, ho, hex, hdt, g, nd, hm3, hb, hf, hn, _⟩ := R1
  refine PyProof.Rows.args_nil (?_)
  have I2 : L2.Inv X pins σ H1 { s1 with heap := h', toks := tk } := I1.kept fun b o e => k b o e
  have hp : (es.toList.map L2.keyOf).Perm ns := by
    refine (List.perm_ext_iff_of_nodup nd hnd).mpr fun z => ?_
    have := hm3 z
    simp only [decide_eq_true_eq] at this
    exact this.symm
  have he : es.size = ns.length := by
    have := hp.length_eq
    rw [List.length_map, Array.length_toList] at this
    exact this
  exact PySem.call_len_set ho hex hdt hf (by rw [he]; omega) ⟨.int ns.length, H1, I2.tok _, ⟨_, by rw [he]⟩, q1⟩
end
section
variable {K : PySem.W.Frag} {W : St → XK}
/-- in a row: all different -/
def nodupB : List Int → Bool
  | [] => true
  | n :: ns => !ns.contains n && nodupB ns
theorem nodupB_iff : ∀ {ns : List Int}, nodupB ns = true ↔ ns.Nodup
  | [] => by simp [nodupB]
  | n :: ns => by
    rw [nodupB, Bool.and_eq_true, List.nodup_cons, nodupB_iff (ns := ns)]
    simp
def gLenSet : D → Option RV
  | .tup ds => match intsD ds with
    | some ns => if (nodupB ns = true) ∧ ns.length < 4000 then some (.val (.int (ns.length : Nat))) else none
    | none => none
  | _ => none
theorem sd_lsT {ta : TE} {fa : Env → Res RV} (ha : Sd K W (rV K) ta fa) : Sd K W (rV K) (tLsT K ta) (f1 fa gLenSet) := fun C fp Hd H σ ρ I Q p =>
  ha.run I p fun r1 v1 fp0 Hd0 H0 ρ0 s0 I0 h1 p => by
    have h1 := rV_loose h1
    cases e1 : rd r1 ρ0 with
    | none => simp only [e1] at p; exact p.elim
    | some d1 =>
      simp only [e1] at p
      have t := I0.rdTop h1 e1
      cases d1 with
      | tup ds =>
        simp only [gLenSet] at p
        cases e2 : intsD ds with
        | none => simp only [e2] at p; exact p.elim
        | some ns =>
          simp only [e2] at p
          by_cases hh : (nodupB ns = true) ∧ ns.length < 4000
          · rw [if_pos hh] at p
            obtain ⟨b, xs, rfl, hq, r⟩ := t.tupD I0.le
            have ey := intsD_ok r e2
            subst ey
            exact ⟨b, ns, rfl, hq, hh.2, nodupB_iff.mp hh.1, p.new I0 (newR_here I0.le (.int _))⟩
          · rw [if_neg hh] at p; exact p.elim
      | _ => exact p.elim
def fYes : Env → Res Bool := fun ρ => .ok true ρ
theorem sd_yes : Sd K W rB L2.tYes fYes := fun C fp Hd H σ ρ I Q p => p.now I rfl
end
section
variable {X : Cx} {W : St → XK} {a b c e i o tg iter elt cond : Expr} {es : List Expr} {pos p p2 : Pos} {ta tb tc te ti : TE} {fa fb fc fe fi : Env → Res RV} {t : TA} {f : Env → Res (List RV)} {tt tu : TT} {ft fu : Env → Res Bool}
theorem jlsT {K : PySem.W.Frag} {q : Pos} (hc : X.calm = true) (hm : X.mg "len" = none) (hm2 : X.mg "set" = none) (ha : JE X W a ta fa) (hg : Gl X "len" := by rfl) (hg2 : Gl X "set" := by rfl)
    (na : starEach [a] X.env = (false, eval a X.env) :: starEach [] X.env := by rfl) (hK : X.K = K := by rfl) : JE X W (.Call (.Name "len" p) [.Call (.Name "set" p2) [a] [] q] [] pos) (tLsT K ta) (f1 fa gLenSet) := by
  subst hK
  exact ⟨pe_lsT hc hm hm2 ha.pe hg hg2 na, sd_lsT ha.se⟩
/-- isinstance(x, T), T a built-in type -/
theorem jisi {K : PySem.W.Frag} {T : Str} {Tn : String} (hk : IsiK K Tn) (hm : X.mg "isinstance" = none) (hmT : X.mg T = none) (ha : JE X W a ta fa) (hv : bootBuiltins T = some (.type Tn) := by decide +kernel) (hg : Gl X "isinstance" := by rfl) (hgT : Gl X T := by rfl) (hn : T ≠ "__name__" := by decide) (hdT : (T == ("__debug__" : Str)) = false := by decide)
    (he : starEach [a, .Name T p2] X.env = (false, eval a X.env) :: starEach [.Name T p2] X.env := by rfl) (he2 : starEach [.Name T p2] X.env = (false, eval (.Name T p2) X.env) :: starEach [] X.env := by rfl) (hpl : (backTo pos (starEach [.Name T p2] X.env)).any (·.1) = false := by rfl) (hK : X.K = K := by rfl) :
    JE X W (.Call (.Name "isinstance" p) [a, .Name T p2] [] pos) (tCB (L2.rIsi K) (tCons ta (tCons (tC (.ty Tn)) tNil))) (f1 fa (gIsi Tn)) := by
  subst hK
  exact ⟨L2.pe_callB L2.call_isi hg hm PyProof.Rows.boot_isinstance (L2.pa_cons ha.pe (L2.pa_cons (L2.pe_bltn hgT hmT hv rfl hn hdT) L2.pa_nil he2) he) (he := he) (hpl := hpl), sd_isi hk ha.se⟩
/-- a call of a def -/
theorem jcall {K : PySem.W.Frag} {x : Str} {k j n : Nat} {fd : FuncData} {ps : List Str} {F : List Ar → FO} {dds : List D} {dvs : List V} {ds : List Value} {fA : Addr} (ms : List Md) (FO' : FnOk X.prog X.w X.K X.mg X.base (L2.CX X.prog X.w) k fA fd ps (spF K n F)) (hr : Room j X.A) (hj : k ≤ j) (hm : X.mg x = some (.ref fA))
    (hk : PySem.W.keepIn X.K (.ref fA) = true) (hb : L2.Binds X.K fd ps ds) (hd : L2.Vals dvs ds) (hdd : ∀ Hd : Hp, Reps X.K Hd dds dvs) (tk : ∀ σ, L2.PassesAt (L2.CX X.prog X.w) X σ (W σ)) (ha : JA X W (e :: es) t f) (hl : ms.length = n := by rfl) (hg : Gl X x := by rfl) (hdb : (x == ("__debug__" : Str)) = false := by decide)
    (he : starEach (e :: es) X.env = (false, eval e X.env) :: starEach es X.env := by rfl) (hpl : (backTo pos (starEach es X.env)).any (·.1) = false := by rfl) (hK : X.K = K := by rfl) : JE X W (.Call (.Name x p) (e :: es) [] pos) (L2.tCallSD (spF K n F) dvs W t) (fCall ms dds F f) := by
  subst hK
  exact ⟨L2.pe_callSD FO' (hr.mono hj) hg hm hk hb hd tk ha.pa hdb he hpl, sd_call hl hdd ha.sa⟩
/-- list methods on a name -/
def fMutL (n : Nat) (f : Env → Res (List RV)) (g : List D → List D → Option (List D × D)) : Env → Res RV := fun ρ => match ownAt n ρ with
  | some (.lst _) => fMut n f g ρ
  | _ => .no
theorem jappend {K : PySem.W.Frag} {n : Nat} {apos : Pos} {x : Str} (ho : JE X W (.Name x p) (tVar n) (fVar n)) (ha : JA X W [a] t f) (hbase : attributeBase (.Name x p) "append" X.env (eval (.Name x p) X.env) = eval (.Name x p) X.env := by rfl)
    (hfew : ((backTo pos (starEach [a] X.env)).all (fun z => !z.1) && (backToKw pos (keywordEach [] X.env)).all (fun z => z.1.isSome) && decide ([a].length + ([] : List Keyword).length + (if ([] : List Keyword).isEmpty then 0 else 1) < 30)) = true := by rfl)
    (hline : (apos.endLine == pos.line) = true := by rfl) (hs : starEach [a] X.env = (false, eval a X.env) :: starEach [] X.env := by rfl) (hplain : (backTo pos (starEach [] X.env)).any (·.1) = false := by rfl) (hK : X.K = K := by rfl) :
    JE X W (.Call (.Attribute (.Name x p) "append" apos) [a] [] pos) (L2.tBM K "list" (rGMut K gAppend) (tVar n) t) (fMutL n f gAppend) := by
  subst hK
  exact ⟨L2.pe_bm PySem.F.plainAttrs_list PySem.F.slot_list_append PySem.F.type_list_append mt_gAppend ho.pe ha.pa hbase hfew hline hs hplain, sd_mut ha.sa⟩
theorem jindex {K : PySem.W.Frag} {apos : Pos} (ho : JE X W o te fe) (ha : JA X W [a] t f) (hbase : attributeBase o "index" X.env (eval o X.env) = eval o X.env := by rfl)
    (hfew : ((backTo pos (starEach [a] X.env)).all (fun z => !z.1) && (backToKw pos (keywordEach [] X.env)).all (fun z => z.1.isSome) && decide ([a].length + ([] : List Keyword).length + (if ([] : List Keyword).isEmpty then 0 else 1) < 30)) = true := by rfl)
    (hline : (apos.endLine == pos.line) = true := by rfl) (hs : starEach [a] X.env = (false, eval a X.env) :: starEach [] X.env := by rfl) (hplain : (backTo pos (starEach [] X.env)).any (·.1) = false := by rfl) (hK : X.K = K := by rfl) :
    JE X W (.Call (.Attribute o "index" apos) [a] [] pos) (L2.tBM K "list" (rGB K gIndex) te t) (fBM fe f gIndex) := by
  subst hK
  exact ⟨L2.pe_bm PySem.F.plainAttrs_list PySem.F.slot_list_index PySem.F.type_list_index mt_gIndex ho.pe ha.pa hbase hfew hline hs hplain, sd_bm ho.se ha.sa⟩
/-! targets, walks -/
structure JG (X : Cx) (e : Expr) (g : TG) (t : Tg) : Prop where
  pg : PG X e g
  gt : Gt X.K g t
structure JGs (X : Cx) (es : List Expr) (g : TGs) (t : List Tg) : Prop where
  pgs : PGs X es g
  gts : Gts X.K g t
theorem jgn (n : Nat) {x : Str} (hN : X.N.Nodup) (hi : X.N[n]? = some x := by rfl) (hx : Loc X.env.scope x := by first | exact Or.inl (by rfl) | exact Or.inr (by rfl)) (hf : X.fn x = true ∨ X.env.scope.names.lookup x = some .local := by first | exact Or.inl (by rfl) | exact Or.inr (by rfl)) : JG X (.Name x pos) (L2.gName n) (.name n) :=
  ⟨L2.pg_name hN hi hx hf, gt_name⟩
theorem jgnil : JGs X [] L2.gNil [] := ⟨L2.pgs_nil, gts_nil⟩
theorem jgcons {g : TG} {gs : TGs} {t : Tg} {ts : List Tg} (h : JG X e g t) (hr : JGs X es gs ts) (hs : (assignEach (e :: es) X.env).map (·.2) = assign e X.env :: (assignEach es X.env).map (·.2) := by rfl) : JGs X (e :: es) (L2.gCons g gs) (t :: ts) := ⟨L2.pgs_cons h.pg hr.pgs hs, gts_cons h.gt hr.gts⟩
theorem jgt {K : PySem.W.Frag} {k n : Nat} {gs : TGs} {ts : List Tg} (hc : X.calm = true) (h : JGs X es gs ts) (hn : (assignEach es X.env).length = n := by rfl) (hl : ts.length = n := by rfl) (hst : (assignEach es X.env).findIdx? (·.1) = none := by rfl) (hK : X.K = K := by rfl) : JG X (.Tuple es k pos) (L2.gTup K n gs) (.tup ts) := by
  subst hK
  exact ⟨L2.pg_tup hc h.pgs hn hst, gt_tup hl h.gts⟩
theorem jil {K : PySem.W.Frag} (h : JE X W e te fe) (hK : X.K = K := by rfl) : JI X W tg e (L2.iList K te) (fWalk fe gItL) := by
  subst hK
  exact ⟨L2.pi_list h.pe, si_list h.se⟩
theorem jit {K : PySem.W.Frag} (h : JE X W e te fe) (hK : X.K = K := by rfl) : JI X W tg e (L2.iTup K te) (fWalk fe gItT) := by
  subst hK
  exact ⟨L2.pi_tup h.pe, si_tup h.se⟩
theorem jr1 (hm : X.mg "range" = none) (ha : JA X W [a] t f) (hg : Gl X "range" := by rfl) (hs : starEach [a] X.env = [(false, eval a X.env)] := by rfl) : JI X W tg (.Call (.Name "range" p) [a] [] pos) (L2.iRng1 t) (fRng1 f) := ⟨L2.pi_range1 hg hm ha.pa hs, si_rng1 ha.sa⟩
theorem jr2 (hm : X.mg "range" = none) (ha : JA X W [a, b] t f) (hg : Gl X "range" := by rfl) (hs : starEach [a, b] X.env = [(false, eval a X.env), (false, eval b X.env)] := by rfl) (hs2 : starEach [b] X.env = [(false, eval b X.env)] := by rfl) :
    JI X W tg (.Call (.Name "range" p) [a, b] [] pos) (L2.iRng2 t) (fRng2 f) := ⟨L2.pi_range2 hg hm ha.pa hs hs2, si_rng2 ha.sa⟩
structure JTs (X : Cx) (W : St → XK) (ifs : List Expr) (t : TT) (f : Env → Res Bool) : Prop where
  pts : PTs X ifs t
  st : Sd X.K W rB t f
theorem jts0 : JTs X W [] L2.tYes fYes := ⟨L2.pts_nil, sd_yes⟩
theorem jts1 (h : JT X W c tt ft) : JTs X W [c] tt ft := ⟨L2.pts_one h.pt, h.st⟩
/-- a list comprehension -/
theorem jlc {ifs : List Expr} {scope : Scope} {wi : TI} {fw : Env → Res (List D)} {g : TG} {tgt : Tg} (own : List (Str × Nat)) (hc : X.calm = true) (hN : X.N.Nodup) (hi : JI X W tg iter wi fw) (ok : L2.blkC X.N X.env.scope scope own = true)
    (hg : ∀ (s : Shared) (H : Hp) (C : Addr) (cl : List (Str × Addr)) (fp : List Addr), JG (X.blk s H scope (PySem.compEnvC scope cl C X.env) fp) tg g tgt) (ht : ∀ (s : Shared) (H : Hp) (C : Addr) (cl : List (Str × Addr)) (fp : List Addr), JTs (X.blk s H scope (PySem.compEnvC scope cl C X.env) fp) W0 ifs tt ft)
    (he : ∀ (s : Shared) (H : Hp) (C : Addr) (cl : List (Str × Addr)) (fp : List Addr), JE (X.blk s H scope (PySem.compEnvC scope cl C X.env) fp) W0 elt te fe) (hv : ∀ u ∈ slotsT tgt, u ∈ own.map (·.2) := by decide) (hs : ∀ x, foldedSetIterable iter X.env x = pure x := by intro _; rfl) :
    JE X W (.ListComp elt [⟨tg, iter, ifs, 0⟩] scope pos) (L2.tLc wi g tt te (own.map (·.2))) (fLc fw (own.map (·.2)) tgt ft fe) :=
  ⟨L2.pe_lc hc hN hi.pi (L2.blkOk_by ok) (fun s H C cl fp => (hg s H C cl fp).pg) (fun s H C cl fp => (ht s H C cl fp).pts) (fun s H C cl fp => (he s H C cl fp).pe) hs, sd_lc hi.si (hg {} (fun _ => none) 0 [] []).gt hv (ht {} (fun _ => none) 0 [] []).st (he {} (fun _ => none) 0 [] []).se⟩
/-- names = comprehension, its cell the name -/
theorem jsetLc {n : Nat} {y : Str} {py spos : Pos} {ifs : List Expr} {scope : Scope} {wi : TI} {fw : Env → Res (List D)} {g : TG} {tgt : Tg} (own : List (Str × Nat)) (hc : X.calm = true) (hN : X.N.Nodup) (hi : JI X W tg iter wi fw) (ok : L2.blkC X.N X.env.scope scope own = true)
    (hg : ∀ (s : Shared) (H : Hp) (C : Addr) (cl : List (Str × Addr)) (fp : List Addr), JG (X.blk s H scope (PySem.compEnvC scope cl C X.env) fp) tg g tgt) (ht : ∀ (s : Shared) (H : Hp) (C : Addr) (cl : List (Str × Addr)) (fp : List Addr), JTs (X.blk s H scope (PySem.compEnvC scope cl C X.env) fp) W0 ifs tt ft)
    (he : ∀ (s : Shared) (H : Hp) (C : Addr) (cl : List (Str × Addr)) (fp : List Addr), JE (X.blk s H scope (PySem.compEnvC scope cl C X.env) fp) W0 elt te fe) (hy : X.N[n]? = some y := by rfl) (hyl : X.env.scope.names.lookup y = some .local := by rfl) (hv : ∀ u ∈ slotsT tgt, u ∈ own.map (·.2) := by decide) (hs : ∀ x, foldedSetIterable iter X.env x = pure x := by intro _; rfl)
    (hsw : swapsWith (.ListComp elt [⟨tg, iter, ifs, 0⟩] scope pos) (some (.Name y py)) spos.line X.env = pure true := by rfl) :
    JS X W (.Assign [.Name y py] (.ListComp elt [⟨tg, iter, ifs, 0⟩] scope pos) spos) (L2.tAsg (L2.tLc wi g tt te (own.map (·.2))) (L2.gName n)) (gSet n (fLc fw (own.map (·.2)) tgt ft fe)) :=
  ⟨L2.ps_setLc hc hN hy hyl hsw hi.pi (L2.blkOk_by ok) (fun s H C cl fp => (hg s H C cl fp).pg) (fun s H C cl fp => (ht s H C cl fp).pts) (fun s H C cl fp => (he s H C cl fp).pe) hs, ss_set (sd_lc hi.si (hg {} (fun _ => none) 0 [] []).gt hv (ht {} (fun _ => none) 0 [] []).st (he {} (fun _ => none) 0 [] []).se)⟩
/-! ### joined: statements -/
theorem jset (n : Nat) {x : Str} {pos' : Pos} (hN : X.N.Nodup) (he : JE X W e te fe) (hi : X.N[n]? = some x := by rfl) (hx : Loc X.env.scope x := by first | exact Or.inl (by rfl) | exact Or.inr (by rfl)) (hs : swapsWith e (some (.Name x pos')) pos.line X.env = pure false := by rfl) (hf : X.fn x = true ∨ X.env.scope.names.lookup x = some .local := by first | exact Or.inl (by rfl) | exact Or.inr (by rfl)) :
    JS X W (.Assign [.Name x pos'] e pos) (L2.tAsg te (L2.gName n)) (gSet n fe) := ⟨L2.ps_set hN hi hx he.pe hs hf, ss_set he.se⟩
theorem jasg {g : TG} {tgt : Tg} (hg : JG X tg g tgt) (he : JE X W e te fe) (hs : swapsWithSole [tg] e pos.line X.env = pure false := by rfl) (hw : swappedStores [tg] e X.env = pure none := by rfl) (h1 : (assignEach [tg] X.env).map (·.2) = [assign tg X.env] := by rfl) :
    JS X W (.Assign [tg] e pos) (L2.tAsg te g) (gAsg tgt fe) := ⟨L2.ps_asg he.pe hg.pg hs hw h1, ss_asg he.se hg.gt⟩
structure JM (X : Cx) (W : St → XK) (es : List Expr) (t : TA) (f : Env → Res (List RV)) : Prop where
  pa : PA X es t
  sm : Sd X.K W (rM X.K) t f
theorem jmnil : JM X W [] tNil hNil := ⟨L2.pa_nil, sm_nil⟩
theorem jmcons (ha : JE X W e te fe) (hr : JM X W es t f) (hs : starEach (e :: es) X.env = (false, eval e X.env) :: starEach es X.env := by rfl) : JM X W (e :: es) (tCons te t) (hCons fe f) := ⟨L2.pa_cons ha.pe hr.pa hs, sm_cons ha.se hr.sm⟩
theorem jpar (n m : Nat) {x y : Str} {px py pt : Pos} {kt k2 pt2} (hc : X.calm = true) (hN : X.N.Nodup) (ha : JM X W [a, b] t f) (hi : X.N[n]? = some x := by rfl) (hj : X.N[m]? = some y := by rfl) (hij : n ≠ m := by decide) (hx : X.env.scope.names.lookup x = some .local := by rfl) (hy : X.env.scope.names.lookup y = some .local := by rfl)
    (hw : swappedStores [.Tuple [.Name x px, .Name y py] kt pt] (.Tuple [a, b] k2 pt2) X.env = pure (some [x, y]) := by rfl) (hs : swapsWithSole [.Tuple [.Name x px, .Name y py] kt pt] (.Tuple [a, b] k2 pt2) pos.line X.env = pure false := by rfl) :
    JS X W (.Assign [.Tuple [.Name x px, .Name y py] kt pt] (.Tuple [a, b] k2 pt2) pos) (L2.tPar n m t) (gParN [n, m] f) := ⟨L2.ps_par hc hN hi hj hij hx hy ha.pa hw hs, ss_par ha.sm⟩
theorem jput (n : Nat) {x : Str} {pos' : Pos} (hu : X.A.units + 64 < cLine) (ho : JE X W (.Name x p) (tVar n) (fVar n)) (hi : JE X W i ti fi) (he : JE X W e te fe) (hs : swapsWith e (some (.Subscript (.Name x p) i pos')) pos.line X.env = pure false := by rfl) :
    JS X W (.Assign [.Subscript (.Name x p) i pos'] e pos) (L2.sDPut (tVar n) ti te) (gPutI n fi fe) := ⟨L2.ps_dput (by omega) ho.pe hi.pe he.pe hs, ss_putI hi.se he.se⟩
theorem jdrop (he : JE X W e te fe) (hs : swapsWith e none pos.line X.env = pure false := by rfl) : JS X W (.Expr e pos) (L2.tDrop te) (gDrop fe) := ⟨L2.ps_expr he.pe hs, ss_drop he.se⟩
theorem jret (he : JE X W e te fe) : JS X W (.Return (some e) pos) (L2.tRet te) (gRet fe) := ⟨L2.ps_ret he.pe, ss_ret he.se⟩
theorem jnever {st : Stmt} : JS X W st L2.tNever gNever := ⟨L2.ps_never, ss_never⟩
variable {s : Stmt} {sb sc : List Stmt} {t1 t2 : TS} {g1 g2 : Env → SR}
theorem jifS (hc : JT X W c tt ft) (ha : JB X W sb t1 g1) (hb : JB X W sc t2 g2) : JS X W (.If c sb sc pos) (L2.tIfS tt t1 t2) (gIf ft g1 g2) := ⟨L2.ps_if hc.pt ha.pss hb.pss, ss_if hc.st ha.ss hb.ss⟩
theorem jfor {wi : TI} {fw : Env → Res (List D)} {g : TG} {tgt : Tg} (hp : PassesOwn (model X.prog X.w) X.A X.env X.xe) (hc : X.calm = true) (hi : JI X W tg iter wi fw) (hg : JG X tg g tgt) (hb : JB X W sb t1 g1) (hs : ∀ x, foldedSetIterable iter X.env x = pure x := by intro _; rfl) :
    JS X W (.For tg iter sb [] pos) (L2.tFor wi g t1) (gFor fw tgt g1) := ⟨L2.ps_for hp hc hi.pi hg.pg hb.pss hs, ss_for hi.si hg.gt hb.ss⟩
theorem jwhile (hp : PassesOwn (model X.prog X.w) X.A X.env X.xe) (hc : JT X W c tt ft) (hb : JB X W sb t1 g1) : JS X W (.While c sb [] pos) (L2.tWhile tt t1) (gWhile ft g1) := ⟨L2.ps_while hp hc.pt hb.pss, ss_while hc.st hb.ss⟩
theorem jbnil : JB X W [] L2.tNext gNext := ⟨L2.pss_nil, ss_next⟩
theorem jb1 (h : JS X W s t1 g1) : JB X W [s] t1 g1 := ⟨L2.pss_one h.ps, h.ss⟩
theorem jbcons (h : JS X W s t1 g1) (hr : JB X W sb t2 g2) : JB X W (s :: sb) (L2.tSeq t1 t2) (gSeq g1 g2) := ⟨L2.pss_cons h.ps hr.pss, ss_seq h.ss hr.ss⟩
end
/-! ### the def -/
section
variable {P : Program} {w : World} {K : PySem.W.Frag} {mg : Str → Option Value} {base : Heap}
/-- the body's world -/
abbrev bx (P : Program) (w : World) (K : PySem.W.Frag) (mg : Str → Option Value) (base : Heap) (N : List Str) (qual : Str) (st : Stmt) (f : Addr) (cdv : Value) (A : Around) (outer : List PySem.Env) (s : Shared) (H : Hp) (E : XK) : Cx :=
  L2.cxOf (L2.CX P w) P w K mg base N qual (L2.defScope st) f cdv A outer s H E
theorem def_ok {x qual : Str} {st : Stmt} {f : Addr} {fd : FuncData} {N ps : List Str} {k n m : Nat} {g : Env → SR} (F : L2.Fun K x qual st f fd) (S : L2.FnScope N ps (L2.defScope st)) (hN : N.length = n) (hp : ps.length = m) (hmn : m ≤ n)
    (hb : ∀ (cdv : Value) (A : Around) (outer : List PySem.Env) (s : Shared) (H : Hp) (E : XK), Room k (A.deeper (PyProof.Rows.envOfC qual (L2.defScope st) s.heap.objs.size f cdv)) → ∃ t, JB (bx P w K mg base N qual st f cdv A outer s H E) (fun _ => E) (L2.defBody st) t g) :
    FnOk P w K mg base (L2.CX P w) (k + 1) f fd ps (spF K m (runF n g)) :=
  F.okX S (fun vs H Q E h => by rw [spF_len h, hp]) fun cdv A outer s H vs Q E hr h => by
    obtain ⟨t, jb⟩ := hb cdv A outer s H E hr
    exact ⟨t, jb.pss, body_ok hN hmn jb.ss h⟩
end
end O

/-! Own11: a dict written down -/
namespace O
open PySem
open L2 (V Hp HO Rd SqL SqT upd upd_same upd_ne ne_of ne_of_none TE TT TA TS TG TGs TI TO It VK XK Ends St PE PT PW PA PS PSs PG PGs PI PO PTs Cx OpR UnR CallR IxR SlR MtR R2 tOp tUn tVar tC tCons tNil tTup tLst tTest tB tAnd tOr tNot tAndV tOrV tNotV tIf tCB Sp FnOk Gl Vis Loc Room)
section
variable {K : PySem.W.Frag} {W : St → XK}
def rP (K : PySem.W.Frag) : Rel (List (L2.Key × D)) (List (V × V)) := ⟨fun _ _ _ Hd _ _ kvs ps => ∃ kws : List (L2.Key × V), ps = kws.map (fun kw => (L2.kV kw.1, kw.2)) ∧ Repk K Hd kvs kws, fun _ h => h⟩
def pNil : Env → Res (List (L2.Key × D)) := fun ρ => .ok [] ρ
def pCons (fk fv : Env → Res RV) (fr : Env → Res (List (L2.Key × D))) : Env → Res (List (L2.Key × D)) := fun ρ => ((fk ρ).bind fz).bind fun k ρ1 => ((fv ρ1).bind fz).bind fun d ρ2 => (fr ρ2).bind fun r ρ3 => match keyD k with
  | some q => .ok ((q, d) :: r) ρ3
  | none => .no
theorem sp_nil : Sd K W (rP K) (L2.tPairs []) pNil := fun C fp Hd H σ ρ I Q p => p.now I ⟨[], rfl, .nil⟩
theorem sp_cons {tk tv : TE} {fk fv : Env → Res RV} {trs : List (TE × TE)} {fr : Env → Res (List (L2.Key × D))} (hk : Sd K W (rV K) tk fk) (hv : Sd K W (rV K) tv fv) (hr : Sd K W (rP K) (L2.tPairs trs) fr) : Sd K W (rP K) (L2.tPairs ((tk, tv) :: trs)) (pCons fk fv fr) := fun C fp Hd H σ ρ I Q p =>
  hk.fz.run I p fun k x fp0 Hd0 H0 ρ0 s0 I0 rk p => hv.fz.run I0 p fun d y fp1 Hd1 H1 ρ1 s1 I1 rd p => hr.run I1 p fun r ps fp2 Hd2 H2 ρ2 s2 I2 rr p => by
    cases e : keyD k with
    | none => simp only [e] at p; exact p.elim
    | some q =>
      simp only [e] at p
      obtain ⟨kws, e1, r1⟩ := rr
      subst e1
      have rk : Rep K Hd0 k x := rk
      have rd : Rep K Hd1 d y := rd
      exact p.now I2 ⟨(q, y) :: kws, by rw [key_v (.rep (H := H0) rk) e]; rfl, .cons (rd.mono s2.hd) r1⟩
def mergeD (kvs more : List (L2.Key × D)) : List (L2.Key × D) := more.foldl (fun acc kv => putD acc kv.1 kv.2) kvs
theorem Repk.merge {H : Hp} {b : List (L2.Key × D)} {b' : List (L2.Key × V)} {a : List (L2.Key × D)} {a' : List (L2.Key × V)} (r : Repk K H a a') (s : Repk K H b b') : Repk K H (mergeD a b) (L2.mergeK a' b') := by
  induction b generalizing b' a a' with
  | nil => cases s; exact r
  | cons x b ih =>
    cases s with
    | cons h s =>
      rename_i k d v kws
      have q := ih (r.put (k := k) h) s
      exact q
def fDisp (fp : Env → Res (List (L2.Key × D))) : Env → Res RV := fun ρ => (fp ρ).bind fun kvs ρ1 => if kvs.length ≤ 15 then .ok (.own (.dic (mergeD [] kvs))) ρ1 else .no
theorem sd_disp {trs : List (TE × TE)} {f : Env → Res (List (L2.Key × D))} (h : Sd K W (rP K) (L2.tPairs trs) f) : Sd K W (rV K) (L2.tDisp trs) (fDisp f) := fun C fp Hd H σ ρ I Q p q hq => by
  have x0 := ext_new (o := .dK []) I.le hq
  have I0 := I.ext x0
  have s0 := I.stp x0
  have hd0 : Hd q = none := I.le.noneB hq
  have nf0 : ∀ j, q ∉ fp j := fun j hj => (I.fpOk hj).1 hq
  have hc : C.H0 q = none := none_back I.dom hq
  refine h C fp Hd (upd H q (.dK [])) σ ρ I0 _ ?_
  unfold fDisp at p
  cases e : f ρ with
  | no => rw [e] at p; exact p
  | ex c ρ1 =>
    rw [e] at p
    exact fun d fp1 Hd1 H1 s1 I1 hx => p d fp1 Hd1 H1 (s0.trans s1) I1 hx
  | ok kvs ρ1 =>
    simp only [e, Res.bind] at p
    by_cases hl : kvs.length ≤ 15
    · rw [if_pos hl] at p
      rintro ps fp1 Hd1 H1 s1 I1 ⟨kws, e1, r1⟩
      have hq1 : H1 q = some (.dK []) := s1.keep _ _ upd_same nf0
      have hd1 : Hd1 q = none := by
        cases e : Hd1 q with
        | none => rfl
        | some u =>
          rcases s1.fr q (by rw [e]; intro z; cases z) with z | z | ⟨j, z⟩
          · exact absurd hd0 z
          · rw [upd_same] at z; cases z
          · exact absurd z (nf0 j)
      have nf1 : ∀ j, q ∉ fp1 j := fun j hj => by
        rcases s1.fpx j q hj with ⟨m, z⟩ | z
        · exact nf0 m z
        · rw [upd_same] at z; cases z
      refine ⟨hq1, kws, e1, by rw [r1.length]; exact hl, ?_⟩
      have s := s0.trans s1
      refine p (.ref q) fp1 Hd1 _ ⟨s.hd, s.fr, fun b o hb n => ?_, fun b hb => ?_, s.fpx⟩ (I1.loose hd1 hc nf1) ⟨[q], .dic upd_same (Repk.merge .nil r1), by simp, fun b hb => ?_⟩
      · rw [upd_ne (ne_of_none hb hq)]; exact s.keep b o hb n
      · by_cases z : b = q
        · rw [z, upd_same]; intro w; cases w
        · rw [upd_ne z]; exact s.dom b hb
      · have e : b = q := by simpa using hb
        subst e
        exact ⟨hd1, hc, nf1, hq⟩
    · rw [if_neg hl] at p; exact p.elim
end
section
variable {X : Cx} {W : St → XK} {k v : Expr} {tk tv : TE} {fk fv : Env → Res RV} {pos : Pos}
structure JP (X : Cx) (W : St → XK) (pos : Pos) (ks : List (Option Expr)) (vs : List Expr) (trs : List (TE × TE)) (f : Env → Res (List (L2.Key × D))) : Prop where
  pps : L2.PPs X pos ks vs trs
  sp : Sd X.K W (rP X.K) (L2.tPairs trs) f
theorem jpnil : JP X W pos [] [] [] pNil := ⟨L2.pps_nil, sp_nil⟩
theorem jpcons {ks : List (Option Expr)} {vs : List Expr} {trs : List (TE × TE)} {fr : Env → Res (List (L2.Key × D))} (hk : JE X W k tk fk) (hv : JE X W v tv fv) (hr : JP X W pos ks vs trs fr) : JP X W pos (some k :: ks) (v :: vs) ((tk, tv) :: trs) (pCons fk fv fr) :=
  ⟨L2.pps_cons hk.pe hv.pe hr.pps, sp_cons hk.se hv.se hr.sp⟩
theorem jdisp {ks : List (Option Expr)} {vs : List Expr} {trs : List (TE × TE)} {f : Env → Res (List (L2.Key × D))} (h : JP X W pos ks vs trs f) (hall : ks.all (·.isSome) = true := by rfl) (hl : ks.length = vs.length := by rfl) (h0 : ks ≠ [] := by intro z; cases z) (h15 : ks.length ≤ 15 := by decide) : JE X W (.Dict ks vs pos) (L2.tDisp trs) (fDisp f) :=
  ⟨L2.pe_disp h.pps hall hl h0 h15, sd_disp h.sp⟩
end
end O

/-! Own12: defs by name, the law's end -/
namespace O
open PySem
open L2 (V Hp HO Rd SqL SqT upd upd_same upd_ne ne_of ne_of_none TE TT TA TS TG TGs TI TO It VK XK Ends St PE PT PW PA PS PSs PG PGs PI PO PTs Cx OpR UnR CallR IxR SlR MtR R2 tOp tUn tVar tC tCons tNil tTup tLst tTest tB tAnd tOr tNot tAndV tOrV tNotV tIf tCB Sp FnOk Gl Vis Loc Room)
/-- a def that is there, by its name -/
structure Cal (P : Program) (w : World) (K : PySem.W.Frag) (mg : Str → Option Value) (base : Heap) (x : Str) (k n : Nat) (ps : List Str) (F : List Ar → FO) : Prop where
  ex : ∃ (fA : Addr) (fd : FuncData), FnOk P w K mg base (L2.CX P w) k fA fd ps (spF K n F) ∧ mg x = some (.ref fA) ∧ PySem.W.keepIn K (.ref fA) = true ∧ L2.Binds K fd ps []
section
variable {X : Cx} {W : St → XK} {e : Expr} {es : List Expr} {pos p : Pos} {te : TE} {fe : Env → Res RV} {t : TA} {f : Env → Res (List RV)} {tt : TT} {ft : Env → Res Bool}
theorem jcal {K : PySem.W.Frag} {x : Str} {k j n : Nat} {ps : List Str} {F : List Ar → FO} (ms : List Md) (c : Cal X.prog X.w X.K X.mg X.base x k n ps F) (hr : Room j X.A) (tk : ∀ σ, L2.PassesAt (L2.CX X.prog X.w) X σ (W σ)) (ha : JA X W (e :: es) t f) (hj : k ≤ j := by decide) (hl : ms.length = n := by rfl) (hg : Gl X x := by rfl)
    (hdb : (x == ("__debug__" : Str)) = false := by decide) (he : starEach (e :: es) X.env = (false, eval e X.env) :: starEach es X.env := by rfl) (hpl : (backTo pos (starEach es X.env)).any (·.1) = false := by rfl) (hK : X.K = K := by rfl) :
    JE X W (.Call (.Name x p) (e :: es) [] pos) (L2.tCallSD (spF K n F) [] W t) (fCall ms [] F f) := by
  subst hK
  obtain ⟨fA, fd, h1, h2, h3, h4⟩ := c.ex
  exact jcall ms h1 hr hj h2 h3 h4 .nil (fun _ => .nil) tk ha hl hg hdb he hpl
theorem tk0 : ∀ σ, L2.PassesAt (L2.CX X.prog X.w) X σ (W0 σ) := fun σ => L2.passAt L2.takes0 σ
theorem jnotV (ha : JE X W e te fe) : JE X W (.UnaryOp .Not e pos) (tNotV te) (fNotV fe) := ⟨L2.pe_not ha.pe, sd_notV ha.se⟩
end
section
variable {P : Program} {w : World} {K : PySem.W.Frag} {mg : Str → Option Value} {base : Heap} {N : List Str} {qual : Str} {st : Stmt} {f : Addr} {cdv : Value} {A : Around} {outer : List PySem.Env} {s : Shared} {H : Hp} {E : XK}
theorem tkB : ∀ σ, L2.PassesAt (L2.CX (bx P w K mg base N qual st f cdv A outer s H E).prog (bx P w K mg base N qual st f cdv A outer s H E).w) (bx P w K mg base N qual st f cdv A outer s H E) σ ((fun _ => E) σ) := fun σ => L2.passAt (L2.takes_of rfl rfl rfl rfl) σ
theorem psB : PassesOwn (model (bx P w K mg base N qual st f cdv A outer s H E).prog (bx P w K mg base N qual st f cdv A outer s H E).w) (bx P w K mg base N qual st f cdv A outer s H E).A (bx P w K mg base N qual st f cdv A outer s H E).env (bx P w K mg base N qual st f cdv A outer s H E).xe := L2.passes_of rfl
theorem cal_of {x : Str} {fA : Addr} {fd : FuncData} {ps : List Str} {k n m : Nat} {g : Env → SR} (F : L2.Fun K x x st fA fd) (S : L2.FnScope N ps (L2.defScope st)) (gm : mg x = some (.ref fA)) (hN : N.length = n) (hp : ps.length = m) (hmn : m ≤ n) (hb : L2.Binds K fd ps [])
    (hB : ∀ (cdv : Value) (A : Around) (outer : List PySem.Env) (s : Shared) (H : Hp) (E : XK), Room k (A.deeper (PyProof.Rows.envOfC x (L2.defScope st) s.heap.objs.size fA cdv)) → ∃ t, JB (bx P w K mg base N x st fA cdv A outer s H E) (fun _ => E) (L2.defBody st) t g) :
    Cal P w K mg base x (k + 1) m ps (runF n g) := ⟨⟨fA, fd, def_ok F S hN hp hmn hB, gm, F.kp, hb⟩⟩
/-- the law's own promise -/
theorem law_end {F : List Ar → FO} {a : Addr} {ns : List Int} (hS : SqL K H a (ns.map V.int)) (h : ∃ os, F [.sh (.scr ns)] = .ret (.val (.bl true)) os) : spF K 1 F [.ref a] H (fun v _ => v = .bl true) fun _ _ _ => False := by
  obtain ⟨os, h⟩ := h
  refine ⟨H, [.sh (.scr ns)], fun _ => [], .refl _, rfl, ⟨rfl, fun j b v e1 e2 => ?_, fun _ _ _ h => (by cases h), fun _ _ => rfl⟩, ?_⟩
  · cases j with
    | zero =>
      cases e1
      cases e2
      exact ⟨rfl, .scr hS⟩
    | succ j => cases e1
  · rw [h]
    intro v Hd' H' fp' _ hr
    have hr : Rep K Hd' (.bl true) v := hr
    cases hr
    rfl
end
end O

/-! Own13: the evaluators, step by step, for simp -/
namespace O
open PySem
section
variable {α β : Type} {ρ : O.Env}
@[simp] theorem bind_ok {a : α} {f : α → O.Env → Res β} : (Res.ok a ρ).bind f = f a ρ := id rfl
@[simp] theorem thn_ok {a : α} {f : α → O.Env → SR} : (Res.ok a ρ).thn f = f a ρ := id rfl
@[simp] theorem seq_nx {f : O.Env → SR} : (SR.nx ρ).seq f = f ρ := id rfl
@[simp] theorem seq_rt {r : RV} {f : O.Env → SR} : (SR.rt r ρ).seq f = .rt r ρ := id rfl
@[simp] theorem rd_val {d : D} : rd (.val d) ρ = some d := id rfl
@[simp] theorem rd_lst {d : List D} : rd (.own (.lst d)) ρ = some (.lst d) := id rfl
@[simp] theorem rd_dic {d : List (L2.Key × D)} : rd (.own (.dic d)) ρ = some (.dic d) := id rfl
def rdo : Option Sl → Option D
  | some s => rdS s
  | none => none
@[simp] theorem rd_bor {i : Nat} : rd (.bor i) ρ = rdo ρ[i]? := by unfold rd rdo; rfl
@[simp] theorem rdo_sh {d : D} : rdo (some (.sh d)) = some d := id rfl
@[simp] theorem rdo_br {d : D} : rdo (some (.br d)) = some d := id rfl
@[simp] theorem rdo_owl {d : List D} : rdo (some (.ow (.lst d))) = some (.lst d) := id rfl
@[simp] theorem rdo_owd {d : List (L2.Key × D)} : rdo (some (.ow (.dic d))) = some (.dic d) := id rfl
@[simp] theorem rdo_iol {d : List D} : rdo (some (.io (.lst d))) = some (.lst d) := id rfl
@[simp] theorem rdo_iod {d : List (L2.Key × D)} : rdo (some (.io (.dic d))) = some (.dic d) := id rfl
variable {i n : Nat} {d : D} {fa fb fc fe fk fv : O.Env → Res RV} {as ar : O.Env → Res (List RV)} {g : D → D → Option RV} {g1 : D → Option RV} {gl : List D → Option RV} {gb : D → List D → Option RV} {ft fu : O.Env → Res Bool} {s1 s2 : O.Env → SR} {fl fh : O.Env → Res (Option Int)} {fi : O.Env → Res (List D)} {t : Tg} {fp : O.Env → Res (List (L2.Key × D))}
def kVar (i : Nat) (ρ : O.Env) : Option Sl → Res RV
  | some .un => .no
  | some _ => .ok (.bor i) ρ
  | none => .no
@[simp] theorem u_fVar : fVar i ρ = kVar i ρ ρ[i]? := by unfold fVar kVar; rfl
@[simp] theorem kVar_sh : kVar i ρ (some (.sh d)) = .ok (.bor i) ρ := id rfl
@[simp] theorem kVar_br : kVar i ρ (some (.br d)) = .ok (.bor i) ρ := id rfl
@[simp] theorem kVar_ow {o : OD} : kVar i ρ (some (.ow o)) = .ok (.bor i) ρ := id rfl
@[simp] theorem kVar_io {o : OD} : kVar i ρ (some (.io o)) = .ok (.bor i) ρ := id rfl
@[simp] theorem u_fC : fC d ρ = .ok (.val d) ρ := id rfl
/-- an answer -/
def az (ρ : O.Env) : Option RV → Res RV
  | some z => .ok z ρ
  | none => .no
@[simp] theorem az_some {z : RV} : az ρ (some z) = .ok z ρ := id rfl
def a1 (g : D → Option RV) (ρ : O.Env) : Option D → Res RV
  | some d => az ρ (g d)
  | none => .no
@[simp] theorem a1_some {d : D} : a1 g1 ρ (some d) = az ρ (g1 d) := id rfl
def k1 (g : D → Option RV) (r : RV) (ρ : O.Env) : Res RV := a1 g ρ (rd r ρ)
@[simp] theorem u_k1 {r : RV} : k1 g1 r ρ = a1 g1 ρ (rd r ρ) := id rfl
@[simp] theorem u_f1 : f1 fa g1 ρ = (fa ρ).bind (k1 g1) := by unfold f1; congr 1
def a2 (g : D → D → Option RV) (ρ : O.Env) : Option D → Option D → Res RV
  | some d, some e => az ρ (g d e)
  | _, _ => .no
@[simp] theorem a2_some {d e : D} : a2 g ρ (some d) (some e) = az ρ (g d e) := id rfl
def k2 (g : D → D → Option RV) (r1 r2 : RV) (ρ : O.Env) : Res RV := a2 g ρ (rd r1 ρ) (rd r2 ρ)
def k2' (fb : O.Env → Res RV) (g : D → D → Option RV) (r1 : RV) (ρ : O.Env) : Res RV := (fb ρ).bind (k2 g r1)
@[simp] theorem u_k2 {r1 r2 : RV} : k2 g r1 r2 ρ = a2 g ρ (rd r1 ρ) (rd r2 ρ) := id rfl
@[simp] theorem u_k2' {r1 : RV} : k2' fb g r1 ρ = (fb ρ).bind (k2 g r1) := id rfl
@[simp] theorem u_f2 : f2 fa fb g ρ = (fa ρ).bind (k2' fb g) := by
  unfold f2; congr 1
def aB (ρ : O.Env) : Option D → Res Bool
  | some (.bl b) => .ok b ρ
  | _ => .no
@[simp] theorem aB_some {b : Bool} : aB ρ (some (.bl b)) = .ok b ρ := id rfl
def kB (r : RV) (ρ : O.Env) : Res Bool := aB ρ (rd r ρ)
@[simp] theorem u_kB {r : RV} : kB r ρ = aB ρ (rd r ρ) := id rfl
@[simp] theorem u_fB : fB fa ρ = (fa ρ).bind kB := by unfold fB; rfl
def kAnd (fu : O.Env → Res Bool) (b : Bool) (ρ : O.Env) : Res Bool := if b = true then fu ρ else .ok false ρ
def kOr (fu : O.Env → Res Bool) (b : Bool) (ρ : O.Env) : Res Bool := if b = true then .ok true ρ else fu ρ
def kNot (b : Bool) (ρ : O.Env) : Res Bool := .ok (!b) ρ
def kAndV (fu : O.Env → Res RV) (b : Bool) (ρ : O.Env) : Res RV := if b = true then fu ρ else .ok (.val (.bl false)) ρ
def kOrV (fu : O.Env → Res RV) (b : Bool) (ρ : O.Env) : Res RV := if b = true then .ok (.val (.bl true)) ρ else fu ρ
def kNotV (b : Bool) (ρ : O.Env) : Res RV := .ok (.val (.bl (!b))) ρ
def kIf (fa fb : O.Env → Res RV) (b : Bool) (ρ : O.Env) : Res RV := if b = true then fa ρ else fb ρ
@[simp] theorem kAnd_t : kAnd fu true ρ = fu ρ := id rfl
@[simp] theorem kAnd_f : kAnd fu false ρ = .ok false ρ := id rfl
@[simp] theorem kOr_t : kOr fu true ρ = .ok true ρ := id rfl
@[simp] theorem kOr_f : kOr fu false ρ = fu ρ := id rfl
@[simp] theorem kNot_b {b : Bool} : kNot b ρ = .ok (!b) ρ := id rfl
@[simp] theorem kAndV_t : kAndV fa true ρ = fa ρ := id rfl
@[simp] theorem kAndV_f : kAndV fa false ρ = .ok (.val (.bl false)) ρ := id rfl
@[simp] theorem kOrV_t : kOrV fa true ρ = .ok (.val (.bl true)) ρ := id rfl
@[simp] theorem kOrV_f : kOrV fa false ρ = fa ρ := id rfl
@[simp] theorem kNotV_b {b : Bool} : kNotV b ρ = .ok (.val (.bl (!b))) ρ := id rfl
@[simp] theorem kIf_t : kIf fa fb true ρ = fa ρ := id rfl
@[simp] theorem kIf_f : kIf fa fb false ρ = fb ρ := id rfl
@[simp] theorem u_fAnd : fAnd ft fu ρ = (ft ρ).bind (kAnd fu) := id rfl
@[simp] theorem u_fOr : fOr ft fu ρ = (ft ρ).bind (kOr fu) := id rfl
@[simp] theorem u_fNot : fNot ft ρ = (ft ρ).bind kNot := id rfl
@[simp] theorem u_fAndV : fAndV fa fb ρ = (fB fa ρ).bind (kAndV fb) := id rfl
@[simp] theorem u_fOrV : fOrV fa fb ρ = (fB fa ρ).bind (kOrV fb) := id rfl
@[simp] theorem u_fNotV : fNotV fa ρ = (fB fa ρ).bind kNotV := id rfl
@[simp] theorem u_fIf : fIf ft fa fb ρ = (ft ρ).bind (kIf fa fb) := id rfl
/-! frozen -/
@[simp] theorem fz_val : fz (.val d) ρ = .ok d ρ := id rfl
@[simp] theorem fz_lst {d : List D} : fz (.own (.lst d)) ρ = .ok (.lst d) ρ := id rfl
@[simp] theorem fz_dic {d : List (L2.Key × D)} : fz (.own (.dic d)) ρ = .ok (.dic d) ρ := id rfl
def kz (i : Nat) (ρ : O.Env) : Option Sl → Res D
  | some (.sh d) => .ok d ρ
  | some (.br d) => if d.still then .ok d ρ else .no
  | some (.ow o) => match o.top with
    | some d => .ok d (ρ.set i (.sh d))
    | none => .no
  | _ => .no
@[simp] theorem fz_bor : fz (.bor i) ρ = kz i ρ ρ[i]? := by
  first
  | (simp only [fz, kz]; done)
  | (simp only [fz, kz]; split <;> first | rfl | (split <;> simp_all) | simp_all)
@[simp] theorem kz_sh : kz i ρ (some (.sh d)) = .ok d ρ := id rfl
@[simp] theorem kz_bri {n : Int} : kz i ρ (some (.br (.int n))) = .ok (.int n) ρ := id rfl
@[simp] theorem kz_brb {n : Bool} : kz i ρ (some (.br (.bl n))) = .ok (.bl n) ρ := id rfl
@[simp] theorem kz_brt {n : List D} : kz i ρ (some (.br (.tup n))) = .ok (.tup n) ρ := id rfl
@[simp] theorem kz_owl {d : List D} : kz i ρ (some (.ow (.lst d))) = .ok (.lst d) (ρ.set i (.sh (.lst d))) := id rfl
@[simp] theorem kz_owd {d : List (L2.Key × D)} : kz i ρ (some (.ow (.dic d))) = .ok (.dic d) (ρ.set i (.sh (.dic d))) := id rfl
@[simp] theorem fzo_val : fzo (.val d) ρ = .ok (.val d) ρ := id rfl
@[simp] theorem fzo_lst {d : List D} : fzo (.own (.lst d)) ρ = .ok (.val (.lst d)) ρ := id rfl
@[simp] theorem fzo_dic {d : List (L2.Key × D)} : fzo (.own (.dic d)) ρ = .ok (.val (.dic d)) ρ := id rfl
@[simp] theorem fzo_bor : fzo (.bor i) ρ = .ok (.bor i) ρ := id rfl
@[simp] theorem fk_val : O.fk (.val d) ρ = .ok d ρ := id rfl
@[simp] theorem fk_lst {d : List D} : O.fk (.own (.lst d)) ρ = .ok (.lst d) ρ := id rfl
def kk (i : Nat) (ρ : O.Env) : Option Sl → Res D
  | some (.br d) => .ok d ρ
  | s => kz i ρ s
@[simp] theorem fk_bor : O.fk (.bor i) ρ = kk i ρ ρ[i]? := by
  simp only [O.fk]
  split
  · rename_i e; rw [e]; rfl
  · rename_i h
    rw [fz_bor]
    cases e : ρ[i]? with
    | none => rfl
    | some s => cases s <;> first | rfl | exact absurd e (h _)
@[simp] theorem kk_br : kk i ρ (some (.br d)) = .ok d ρ := id rfl
@[simp] theorem kk_sh : kk i ρ (some (.sh d)) = .ok d ρ := id rfl
@[simp] theorem kk_owl {d : List D} : kk i ρ (some (.ow (.lst d))) = .ok (.lst d) (ρ.set i (.sh (.lst d))) := id rfl
/-! rows of arguments -/
def kc (rs : List RV) (r : RV) : List RV := r :: rs
def kA2 (r : RV) (rs : List RV) (ρ : O.Env) : Res (List RV) := .ok (r :: rs) ρ
def kA (as : O.Env → Res (List RV)) (r : RV) (ρ : O.Env) : Res (List RV) := (as ρ).bind (kA2 r)
def kI (as : O.Env → Res (List RV)) (d : D) (ρ : O.Env) : Res (List RV) := (as ρ).bind (kA2 (.val d))
@[simp] theorem u_kA2 {r : RV} {rs : List RV} : kA2 r rs ρ = .ok (r :: rs) ρ := id rfl
@[simp] theorem u_kA {r : RV} : kA as r ρ = (as ρ).bind (kA2 r) := id rfl
@[simp] theorem u_kI : kI as d ρ = (as ρ).bind (kA2 (.val d)) := id rfl
@[simp] theorem u_aNil : aNil ρ = .ok [] ρ := id rfl
@[simp] theorem u_aCons : aCons fa as ρ = ((fa ρ).bind fzo).bind (kA as) := id rfl
@[simp] theorem u_iCons : iCons fa as ρ = ((fa ρ).bind fz).bind (kI as) := id rfl
def kH2 (as : O.Env → Res (List RV)) (ρ : O.Env) : Option RV → Res (List RV)
  | some z => (as ρ).bind (kA2 z)
  | none => .no
def kH (as : O.Env → Res (List RV)) (r : RV) (ρ : O.Env) : Res (List RV) := kH2 as ρ (hold r ρ)
@[simp] theorem u_kH2 {z : RV} : kH2 as ρ (some z) = (as ρ).bind (kA2 z) := id rfl
@[simp] theorem u_kH {r : RV} : kH as r ρ = kH2 as ρ (hold r ρ) := id rfl
@[simp] theorem u_hNil : hNil ρ = .ok [] ρ := id rfl
@[simp] theorem u_hCons : hCons fa as ρ = (fa ρ).bind (kH as) := by unfold hCons; congr 1
def aC (gl : List D → Option RV) (ρ : O.Env) : Option (List D) → Res RV
  | some ds => az ρ (gl ds)
  | none => .no
@[simp] theorem aC_some {ds : List D} : aC gl ρ (some ds) = az ρ (gl ds) := id rfl
def kC (gl : List D → Option RV) (rs : List RV) (ρ : O.Env) : Res RV := aC gl ρ (rds rs ρ)
@[simp] theorem u_kC {rs : List RV} : kC gl rs ρ = aC gl ρ (rds rs ρ) := id rfl
@[simp] theorem u_fCB : fCB as gl ρ = (as ρ).bind (kC gl) := by unfold fCB; congr 1
@[simp] theorem rds_nil : rds [] ρ = some [] := id rfl
def cO : Option D → Option (List D) → Option (List D)
  | some d, some ds => some (d :: ds)
  | _, _ => none
@[simp] theorem cO_some {ds : List D} : cO (some d) (some ds) = some (d :: ds) := id rfl
@[simp] theorem rds_cons {r : RV} {rs : List RV} : rds (r :: rs) ρ = cO (rd r ρ) (rds rs ρ) := by simp only [rds]; cases rd r ρ <;> cases rds rs ρ <;> rfl
@[simp] theorem vals_nil : vals [] = some [] := id rfl
@[simp] theorem vals_cons {rs : List RV} : vals (.val d :: rs) = cO (some d) (vals rs) := by simp only [vals]; cases vals rs <;> rfl
def aT (h : List D → RV) (ρ : O.Env) : Option (List D) → Res RV
  | some ds => if ds.length ≤ sizeLine then .ok (h ds) ρ else .no
  | none => .no
@[simp] theorem aT_some {h : List D → RV} {ds : List D} : aT h ρ (some ds) = if ds.length ≤ sizeLine then .ok (h ds) ρ else .no := id rfl
def hT (ds : List D) : RV := .val (.tup ds)
def hL (ds : List D) : RV := .own (.lst ds)
@[simp] theorem hT_is {ds : List D} : hT ds = .val (.tup ds) := id rfl
@[simp] theorem hL_is {ds : List D} : hL ds = .own (.lst ds) := id rfl
def kT (h : List D → RV) (rs : List RV) (ρ : O.Env) : Res RV := aT h ρ (vals rs)
@[simp] theorem u_kT {h : List D → RV} {rs : List RV} : kT h rs ρ = aT h ρ (vals rs) := id rfl
@[simp] theorem u_fTup : fTup as ρ = (as ρ).bind (kT hT) := by unfold fTup; congr 1
@[simp] theorem u_fLst : fLst as ρ = (as ρ).bind (kT hL) := by unfold fLst; congr 1
@[simp] theorem u_fCall {ms : List Md} {F : List Ar → FO} : fCall ms [] F as ρ = (as ρ).bind (callR ms F) := by simp [fCall]
/-! chains -/
def aCh2 (g' : D → D → Option RV) (r2 r3 : RV) (ρ : O.Env) : Res RV := a2 g' ρ (rd r2 ρ) (rd r3 ρ)
@[simp] theorem u_aCh2 {r2 r3 : RV} : aCh2 g r2 r3 ρ = a2 g ρ (rd r2 ρ) (rd r3 ρ) := id rfl
def aCh (fc : O.Env → Res RV) (g' : D → D → Option RV) (r2 : RV) (ρ : O.Env) : Option RV → Res RV
  | some (.val (.bl true)) => (fc ρ).bind (aCh2 g' r2)
  | some (.val (.bl false)) => .ok (.val (.bl false)) ρ
  | _ => .no
@[simp] theorem aCh_t {r2 : RV} : aCh fc g r2 ρ (some (.val (.bl true))) = (fc ρ).bind (aCh2 g r2) := id rfl
@[simp] theorem aCh_f {r2 : RV} : aCh fc g r2 ρ (some (.val (.bl false))) = .ok (.val (.bl false)) ρ := id rfl
def bCh (fc : O.Env → Res RV) (g g' : D → D → Option RV) (r2 : RV) (ρ : O.Env) : Option D → Option D → Res RV
  | some d, some e => aCh fc g' r2 ρ (g d e)
  | _, _ => .no
@[simp] theorem bCh_some {g' : D → D → Option RV} {r2 : RV} {e : D} : bCh fc g g' r2 ρ (some d) (some e) = aCh fc g' r2 ρ (g d e) := id rfl
def kCh (fc : O.Env → Res RV) (g g' : D → D → Option RV) (r1 r2 : RV) (ρ : O.Env) : Res RV := bCh fc g g' r2 ρ (rd r1 ρ) (rd r2 ρ)
@[simp] theorem u_kCh {g' : D → D → Option RV} {r1 r2 : RV} : kCh fc g g' r1 r2 ρ = bCh fc g g' r2 ρ (rd r1 ρ) (rd r2 ρ) := id rfl
def kCh' (fb fc : O.Env → Res RV) (g g' : D → D → Option RV) (r1 : RV) (ρ : O.Env) : Res RV := (fb ρ).bind (kCh fc g g' r1)
@[simp] theorem u_kCh' {g' : D → D → Option RV} {r1 : RV} : kCh' fb fc g g' r1 ρ = (fb ρ).bind (kCh fc g g' r1) := id rfl
@[simp] theorem u_fChain {g' : D → D → Option RV} : fChain fa fb fc g g' ρ = (fa ρ).bind (kCh' fb fc g g') := by
  unfold fChain; congr 1
/-! methods, slices, walks -/
def aBM (gb : D → List D → Option RV) (ρ : O.Env) : Option D → Option (List D) → Res RV
  | some d, some ds => az ρ (gb d ds)
  | _, _ => .no
@[simp] theorem aBM_some {ds : List D} : aBM gb ρ (some d) (some ds) = az ρ (gb d ds) := id rfl
def kBM2 (gb : D → List D → Option RV) (r : RV) (rs : List RV) (ρ : O.Env) : Res RV := aBM gb ρ (rd r ρ) (rds rs ρ)
@[simp] theorem u_kBM2 {r : RV} {rs : List RV} : kBM2 gb r rs ρ = aBM gb ρ (rd r ρ) (rds rs ρ) := id rfl
def bBM (as : O.Env → Res (List RV)) (gb : D → List D → Option RV) (r : RV) (ρ : O.Env) : Option D → Res RV
  | some (.lst _) => (as ρ).bind (kBM2 gb r)
  | _ => .no
@[simp] theorem bBM_some {r : RV} {ds : List D} : bBM as gb r ρ (some (.lst ds)) = (as ρ).bind (kBM2 gb r) := id rfl
def kBM (as : O.Env → Res (List RV)) (gb : D → List D → Option RV) (r : RV) (ρ : O.Env) : Res RV := bBM as gb r ρ (rd r ρ)
@[simp] theorem u_kBM {r : RV} : kBM as gb r ρ = bBM as gb r ρ (rd r ρ) := id rfl
@[simp] theorem u_fBM : fBM fa as gb ρ = (fa ρ).bind (kBM as gb) := by
  unfold fBM; congr 1
@[simp] theorem u_fNoPart : fNoPart ρ = .ok none ρ := id rfl
def aP (ρ : O.Env) : Option D → Res (Option Int)
  | some (.int i) => .ok (some i) ρ
  | _ => .no
@[simp] theorem aP_some {z : Int} : aP ρ (some (.int z)) = .ok (some z) ρ := id rfl
def kP (r : RV) (ρ : O.Env) : Res (Option Int) := aP ρ (rd r ρ)
@[simp] theorem u_kP {r : RV} : kP r ρ = aP ρ (rd r ρ) := id rfl
@[simp] theorem u_fPart : fPart fa ρ = (fa ρ).bind kP := by unfold fPart; rfl
def aS (gs : D → Option Int → Option Int → Option RV) (lo hi : Option Int) (ρ : O.Env) : Option D → Res RV
  | some d => az ρ (gs d lo hi)
  | none => .no
@[simp] theorem aS_some {gs : D → Option Int → Option Int → Option RV} {lo hi : Option Int} : aS gs lo hi ρ (some d) = az ρ (gs d lo hi) := id rfl
def kS3 (gs : D → Option Int → Option Int → Option RV) (r : RV) (lo hi : Option Int) (ρ : O.Env) : Res RV := aS gs lo hi ρ (rd r ρ)
def kS2 (fh : O.Env → Res (Option Int)) (gs : D → Option Int → Option Int → Option RV) (r : RV) (lo : Option Int) (ρ : O.Env) : Res RV := (fh ρ).bind (kS3 gs r lo)
def kS (fl fh : O.Env → Res (Option Int)) (gs : D → Option Int → Option Int → Option RV) (r : RV) (ρ : O.Env) : Res RV := (fl ρ).bind (kS2 fh gs r)
@[simp] theorem u_kS3 {gs : D → Option Int → Option Int → Option RV} {r : RV} {lo hi : Option Int} : kS3 gs r lo hi ρ = aS gs lo hi ρ (rd r ρ) := id rfl
@[simp] theorem u_kS2 {gs : D → Option Int → Option Int → Option RV} {r : RV} {lo : Option Int} : kS2 fh gs r lo ρ = (fh ρ).bind (kS3 gs r lo) := id rfl
@[simp] theorem u_kS {gs : D → Option Int → Option Int → Option RV} {r : RV} : kS fl fh gs r ρ = (fl ρ).bind (kS2 fh gs r) := id rfl
@[simp] theorem u_fSl {gs : D → Option Int → Option Int → Option RV} : fSl fe fl fh gs ρ = (fe ρ).bind (kS fl fh gs) := by
  unfold fSl; congr 1
def aW (ρ : O.Env) : Option (List D) → Res (List D)
  | some ds => .ok ds ρ
  | none => .no
@[simp] theorem aW_some {ds : List D} : aW ρ (some ds) = .ok ds ρ := id rfl
def kW (gi : D → Option (List D)) (d : D) (ρ : O.Env) : Res (List D) := aW ρ (gi d)
@[simp] theorem u_kW {gi : D → Option (List D)} : kW gi d ρ = aW ρ (gi d) := id rfl
@[simp] theorem u_fWalk {gi : D → Option (List D)} : fWalk fe gi ρ = ((fe ρ).bind O.fk).bind (kW gi) := by unfold fWalk; rfl
def aR (ρ : O.Env) : Option (List D) → Res (List D)
  | some [.int j] => if -(2 ^ 62) ≤ j ∧ j < 2 ^ 62 then .ok (rngD 0 j.toNat) ρ else .no
  | _ => .no
@[simp] theorem aR_some {j : Int} : aR ρ (some [.int j]) = if -(2 ^ 62) ≤ j ∧ j < 2 ^ 62 then .ok (rngD 0 j.toNat) ρ else .no := id rfl
def kR (rs : List RV) (ρ : O.Env) : Res (List D) := aR ρ (rds rs ρ)
@[simp] theorem u_kR {rs : List RV} : kR rs ρ = aR ρ (rds rs ρ) := id rfl
@[simp] theorem u_fRng1 : fRng1 as ρ = (as ρ).bind kR := by unfold fRng1; rfl
@[simp] theorem u_fYes : fYes ρ = .ok true ρ := id rfl
def aLc (ρ1 : O.Env) (vs : List Nat) : Res (List D) → Res RV
  | .ok ys ρ2 => .ok (.own (.lst ys)) (restE ρ1 vs ρ2)
  | _ => .no
@[simp] theorem aLc_ok {ρ1 ρ2 : O.Env} {vs : List Nat} {ys : List D} : aLc ρ1 vs (.ok ys ρ2) = .ok (.own (.lst ys)) (restE ρ1 vs ρ2) := id rfl
def kLc (vs : List Nat) (t : Tg) (ft : O.Env → Res Bool) (fe : O.Env → Res RV) (ds : List D) (ρ1 : O.Env) : Res RV := aLc ρ1 vs (lcD vs t ft fe 0 ds (wipeE ρ1 vs))
@[simp] theorem u_kLc {vs : List Nat} {ds : List D} : kLc vs t ft fe ds ρ = aLc ρ vs (lcD vs t ft fe 0 ds (wipeE ρ vs)) := id rfl
@[simp] theorem u_fLc {vs : List Nat} : fLc fi vs t ft fe ρ = (fi ρ).bind (kLc vs t ft fe) := by
  unfold fLc; congr 1
/-! changes in place -/
def aM2 (i : Nat) (ρ : O.Env) : Option (List D × D) → Res RV
  | some (ds, z) => .ok (.val z) (setOw i (.lst ds) ρ)
  | none => .no
@[simp] theorem aM2_some {ds : List D} {z : D} : aM2 i ρ (some (ds, z)) = .ok (.val z) (setOw i (.lst ds) ρ) := id rfl
def aM (i : Nat) (gm : List D → List D → Option (List D × D)) (ρ : O.Env) : Option (List D) → Option OD → Res RV
  | some es, some (.lst ds) => aM2 i ρ (gm ds es)
  | _, _ => .no
@[simp] theorem aM_some {gm : List D → List D → Option (List D × D)} {es ds : List D} : aM i gm ρ (some es) (some (.lst ds)) = aM2 i ρ (gm ds es) := id rfl
def kM (i : Nat) (gm : List D → List D → Option (List D × D)) (rs : List RV) (ρ : O.Env) : Res RV := aM i gm ρ (vals rs) (ownAt i ρ)
@[simp] theorem u_kM {gm : List D → List D → Option (List D × D)} {rs : List RV} : kM i gm rs ρ = aM i gm ρ (vals rs) (ownAt i ρ) := id rfl
theorem u_fMut {gm : List D → List D → Option (List D × D)} : fMut i as gm ρ = (as ρ).bind (kM i gm) := by
  unfold fMut; congr 1
def aML (i : Nat) (as : O.Env → Res (List RV)) (gm : List D → List D → Option (List D × D)) (ρ : O.Env) : Option OD → Res RV
  | some (.lst _) => (as ρ).bind (kM i gm)
  | _ => .no
@[simp] theorem aML_some {gm : List D → List D → Option (List D × D)} {ds : List D} : aML i as gm ρ (some (.lst ds)) = (as ρ).bind (kM i gm) := id rfl
@[simp] theorem u_fMutL {gm : List D → List D → Option (List D × D)} : fMutL i as gm ρ = aML i as gm ρ (ownAt i ρ) := by
  unfold fMutL
  cases ownAt i ρ with
  | none => rfl
  | some o => cases o <;> first | rfl | exact u_fMut
def owo : Option Sl → Option OD
  | some (.ow o) => some o
  | some (.io o) => some o
  | _ => none
@[simp] theorem u_ownAt : ownAt i ρ = owo ρ[i]? := by unfold ownAt owo; rfl
@[simp] theorem owo_ow {o : OD} : owo (some (.ow o)) = some o := id rfl
@[simp] theorem owo_io {o : OD} : owo (some (.io o)) = some o := id rfl
def sw (i : Nat) (o : OD) (ρ : O.Env) : Option Sl → O.Env
  | some (.ow _) => ρ.set i (.ow o)
  | some (.io _) => ρ.set i (.io o)
  | _ => ρ
@[simp] theorem u_setOw {o : OD} : setOw i o ρ = sw i o ρ ρ[i]? := by unfold setOw sw; rfl
@[simp] theorem sw_ow {o o' : OD} : sw i o ρ (some (.ow o')) = ρ.set i (.ow o) := id rfl
@[simp] theorem sw_io {o o' : OD} : sw i o ρ (some (.io o')) = ρ.set i (.io o) := id rfl
/-! dicts -/
def aPp (d : D) (r : List (L2.Key × D)) (ρ : O.Env) : Option L2.Key → Res (List (L2.Key × D))
  | some q => .ok ((q, d) :: r) ρ
  | none => .no
@[simp] theorem aPp_some {r : List (L2.Key × D)} {q : L2.Key} : aPp d r ρ (some q) = .ok ((q, d) :: r) ρ := id rfl
def kP3 (k d : D) (r : List (L2.Key × D)) (ρ : O.Env) : Res (List (L2.Key × D)) := aPp d r ρ (keyD k)
def kP2 (fp : O.Env → Res (List (L2.Key × D))) (k d : D) (ρ : O.Env) : Res (List (L2.Key × D)) := (fp ρ).bind (kP3 k d)
def kP1 (fv : O.Env → Res RV) (fp : O.Env → Res (List (L2.Key × D))) (k : D) (ρ : O.Env) : Res (List (L2.Key × D)) := ((fv ρ).bind fz).bind (kP2 fp k)
@[simp] theorem u_kP3 {k : D} {r : List (L2.Key × D)} : kP3 k d r ρ = aPp d r ρ (keyD k) := id rfl
@[simp] theorem u_kP2 {k : D} : kP2 fp k d ρ = (fp ρ).bind (kP3 k d) := id rfl
@[simp] theorem u_kP1 {k : D} : kP1 fv fp k ρ = ((fv ρ).bind fz).bind (kP2 fp k) := id rfl
@[simp] theorem u_pNil : pNil ρ = .ok [] ρ := id rfl
@[simp] theorem u_pCons : pCons fk fv fp ρ = ((fk ρ).bind fz).bind (kP1 fv fp) := by
  unfold pCons; congr 1
def kDp (kvs : List (L2.Key × D)) (ρ : O.Env) : Res RV := if kvs.length ≤ 15 then .ok (.own (.dic (mergeD [] kvs))) ρ else .no
@[simp] theorem u_kDp {kvs : List (L2.Key × D)} : kDp kvs ρ = if kvs.length ≤ 15 then .ok (.own (.dic (mergeD [] kvs))) ρ else .no := id rfl
@[simp] theorem u_fDisp : fDisp fp ρ = (fp ρ).bind kDp := id rfl
/-! statements -/
@[simp] theorem u_gNext : gNext ρ = .nx ρ := id rfl
@[simp] theorem u_gSeq : gSeq s1 s2 ρ = (s1 ρ).seq s2 := id rfl
def kIfS (s1 s2 : O.Env → SR) (b : Bool) (ρ : O.Env) : SR := if b = true then s1 ρ else s2 ρ
@[simp] theorem kIfS_t : kIfS s1 s2 true ρ = s1 ρ := id rfl
@[simp] theorem kIfS_f : kIfS s1 s2 false ρ = s2 ρ := id rfl
@[simp] theorem u_gIf : gIf ft s1 s2 ρ = (ft ρ).thn (kIfS s1 s2) := id rfl
def kDr (_ : RV) (ρ : O.Env) : SR := .nx ρ
@[simp] theorem u_kDr {r : RV} : kDr r ρ = .nx ρ := id rfl
@[simp] theorem u_gDrop : gDrop fa ρ = (fa ρ).thn kDr := id rfl
def kRt2 (r : RV) (ρ : O.Env) : SR := .rt r ρ
def kRt (r : RV) (ρ : O.Env) : SR := (mv r ρ).thn kRt2
@[simp] theorem u_kRt2 {r : RV} : kRt2 r ρ = .rt r ρ := id rfl
@[simp] theorem u_kRt {r : RV} : kRt r ρ = (mv r ρ).thn kRt2 := id rfl
@[simp] theorem u_gRet : gRet fa ρ = (fa ρ).thn kRt := id rfl
def aN : Option O.Env → SR
  | some ρ => .nx ρ
  | none => .no
@[simp] theorem aN_some : aN (some ρ) = .nx ρ := id rfl
def kSt (i : Nat) (r : RV) (ρ : O.Env) : SR := aN (putSlot i r ρ)
@[simp] theorem u_kSt {r : RV} : kSt i r ρ = aN (putSlot i r ρ) := id rfl
@[simp] theorem u_gSet : gSet i fa ρ = (fa ρ).thn (kSt i) := by unfold gSet; congr 1
def kAs (t : Tg) (d : D) (ρ : O.Env) : SR := aN (takeT t d ρ)
@[simp] theorem u_kAs : kAs t d ρ = aN (takeT t d ρ) := id rfl
@[simp] theorem u_gAsg : gAsg t fa ρ = ((fa ρ).bind fz).thn (kAs t) := by unfold gAsg; congr 1
def kPn (is : List Nat) (rs : List RV) (ρ : O.Env) : SR := aN (putMany is rs ρ)
@[simp] theorem u_kPn {is : List Nat} {rs : List RV} : kPn is rs ρ = aN (putMany is rs ρ) := id rfl
@[simp] theorem u_gParN {is : List Nat} : gParN is as ρ = (as ρ).thn (kPn is) := by unfold gParN; congr 1
def aPu (i : Nat) (d : D) (ρ : O.Env) : Option L2.Key → Option OD → SR
  | some k, some (.dic kvs) => if kvs.length < sizeLine then .nx (setOw i (.dic (putD kvs k d)) ρ) else .no
  | _, _ => .no
@[simp] theorem aPu_some {k : L2.Key} {kvs : List (L2.Key × D)} : aPu i d ρ (some k) (some (.dic kvs)) = if kvs.length < sizeLine then .nx (setOw i (.dic (putD kvs k d)) ρ) else .no := id rfl
def kPu2 (i : Nat) (d : D) (r : RV) (ρ : O.Env) : SR := aPu i d ρ ((rd r ρ).bind keyD) (ownAt i ρ)
@[simp] theorem u_kPu2 {r : RV} : kPu2 i d r ρ = aPu i d ρ ((rd r ρ).bind keyD) (ownAt i ρ) := id rfl
def bPu (i : Nat) (fa : O.Env → Res RV) (d : D) (ρ : O.Env) : Option OD → SR
  | some _ => (fa ρ).thn (kPu2 i d)
  | none => .no
@[simp] theorem bPu_some {o : OD} : bPu i fa d ρ (some o) = (fa ρ).thn (kPu2 i d) := id rfl
def kPu (i : Nat) (fa : O.Env → Res RV) (d : D) (ρ : O.Env) : SR := bPu i fa d ρ (ownAt i ρ)
@[simp] theorem u_kPu : kPu i fa d ρ = bPu i fa d ρ (ownAt i ρ) := id rfl
@[simp] theorem u_gPutI : gPutI i fa fe ρ = ((fe ρ).bind fz).thn (kPu i fa) := by
  unfold gPutI; congr 1
def kFr (t : Tg) (s1 : O.Env → SR) (ds : List D) (ρ : O.Env) : SR := forD (takeT t) s1 ds ρ
@[simp] theorem u_kFr {ds : List D} : kFr t s1 ds ρ = forD (takeT t) s1 ds ρ := id rfl
@[simp] theorem u_gFor : gFor fi t s1 ρ = (fi ρ).thn (kFr t s1) := id rfl
/-! places -/
@[simp] theorem mv_val : mv (.val d) ρ = .ok (.val d) ρ := id rfl
@[simp] theorem mv_own {o : OD} : mv (.own o) ρ = .ok (.own o) ρ := id rfl
def kmv (i : Nat) (ρ : O.Env) : Option Sl → Res RV
  | some (.sh d) => .ok (.val d) ρ
  | some (.br d) => if d.still then .ok (.val d) ρ else .no
  | some (.ow o) => .ok (.own o) (ρ.set i .un)
  | _ => .no
@[simp] theorem mv_bor : mv (.bor i) ρ = kmv i ρ ρ[i]? := by unfold mv kmv; rfl
@[simp] theorem kmv_sh : kmv i ρ (some (.sh d)) = .ok (.val d) ρ := id rfl
@[simp] theorem kmv_ow {o : OD} : kmv i ρ (some (.ow o)) = .ok (.own o) (ρ.set i .un) := id rfl
def fre (ρ' : O.Env) : Option Sl → Option O.Env
  | some (.io _) => none
  | some _ => some ρ'
  | none => none
@[simp] theorem fre_un {ρ' : O.Env} : fre ρ' (some .un) = some ρ' := id rfl
@[simp] theorem fre_sh {ρ' : O.Env} : fre ρ' (some (.sh d)) = some ρ' := id rfl
@[simp] theorem fre_br {ρ' : O.Env} : fre ρ' (some (.br d)) = some ρ' := id rfl
@[simp] theorem fre_ow {ρ' : O.Env} {o : OD} : fre ρ' (some (.ow o)) = some ρ' := id rfl
theorem put_fre {r : RV} {s : Sl} (h : slotOf i r ρ = some s) : putSlot i r ρ = fre (ρ.set i s) ρ[i]? := by
  unfold putSlot free
  rw [h]
  cases e : ρ[i]? with
  | none => rfl
  | some q => cases q <;> rfl
@[simp] theorem put_val : putSlot i (.val d) ρ = fre (ρ.set i (.sh d)) ρ[i]? := put_fre rfl
@[simp] theorem put_lst {ds : List D} : putSlot i (.own (.lst ds)) ρ = fre (ρ.set i (.ow (.lst ds))) ρ[i]? := put_fre rfl
@[simp] theorem put_dic {ds : List (L2.Key × D)} : putSlot i (.own (.dic ds)) ρ = fre (ρ.set i (.ow (.dic ds))) ρ[i]? := put_fre rfl
def pub (i : Nat) (ρ : O.Env) : Option Sl → Option O.Env
  | some (.sh d) => fre (ρ.set i (.sh d)) ρ[i]?
  | some (.br d) => fre (ρ.set i (.br d)) ρ[i]?
  | _ => none
theorem put_bor {j : Nat} {s : Sl} (h : ρ[j]? = some (.sh d)) : putSlot i (.bor j) ρ = fre (ρ.set i (.sh d)) ρ[i]? := put_fre (by simp [slotOf, h])
@[simp] theorem take_name : takeT (.name i) d ρ = putSlot i (.val d) ρ := by simp [takeT]
def kts (ts : List Tg) (ds : List D) : Option O.Env → Option O.Env
  | some ρ1 => takeTs ts ds ρ1
  | none => none
@[simp] theorem kts_some {ts : List Tg} {ds : List D} : kts ts ds (some ρ) = takeTs ts ds ρ := id rfl
@[simp] theorem take_tup {ts : List Tg} {ds : List D} : takeT (.tup ts) (.tup ds) ρ = takeTs ts ds ρ := by simp [takeT]
@[simp] theorem takes_nil : takeTs [] [] ρ = some ρ := by simp [takeTs]
@[simp] theorem takes_cons {ts : List Tg} {ds : List D} : takeTs (t :: ts) (d :: ds) ρ = kts ts ds (takeT t d ρ) := by simp only [takeTs]; cases takeT t d ρ <;> rfl
def khd (i : Nat) : Option Sl → Option RV
  | some (.sh d) => some (.val d)
  | some (.br d) => if d.still then some (.val d) else none
  | _ => none
@[simp] theorem hold_bor : hold (.bor i) ρ = khd i ρ[i]? := by unfold hold khd; rfl
@[simp] theorem khd_sh : khd i (some (.sh d)) = some (.val d) := id rfl
@[simp] theorem hold_val : hold (.val d) ρ = some (.val d) := id rfl
@[simp] theorem hold_own {o : OD} : hold (.own o) ρ = some (.own o) := id rfl
def kpm (is : List Nat) (rs : List RV) : Option O.Env → Option O.Env
  | some ρ1 => putMany is rs ρ1
  | none => none
@[simp] theorem kpm_some {is : List Nat} {rs : List RV} : kpm is rs (some ρ) = putMany is rs ρ := id rfl
@[simp] theorem many_nil : putMany [] [] ρ = some ρ := id rfl
@[simp] theorem many_cons {is : List Nat} {r : RV} {rs : List RV} : putMany (i :: is) (r :: rs) ρ = kpm is rs (putSlot i r ρ) := by simp only [putMany]; cases putSlot i r ρ <;> rfl
/-! calls -/
def cR2 (r : RV) (ρ' : Option O.Env) : Res RV := match ρ' with
  | some ρ' => match r with
    | .bor _ => .no
    | r => .ok r ρ'
  | none => .no
@[simp] theorem cR2_val {ρ' : O.Env} : cR2 (.val d) (some ρ') = .ok (.val d) ρ' := id rfl
@[simp] theorem cR2_own {ρ' : O.Env} {o : OD} : cR2 (.own o) (some ρ') = .ok (.own o) ρ' := id rfl
def cR1 (ms : List Md) (rs : List RV) (ρ : O.Env) : FO → Res RV
  | .ret r outs => cR2 r (outE ρ ms rs outs (drops ms rs ρ))
  | .exc e outs => match outE ρ ms rs outs (drops ms rs ρ) with
    | some ρ' => .ex e ρ'
    | none => .no
  | .no => .no
@[simp] theorem cR1_ret {ms : List Md} {rs : List RV} {r : RV} {outs : List (Option OD)} : cR1 ms rs ρ (.ret r outs) = cR2 r (outE ρ ms rs outs (drops ms rs ρ)) := id rfl
def cR (ms : List Md) (F : List Ar → FO) (rs : List RV) (ρ : O.Env) : Option (List Ar) → Res RV
  | some as => cR1 ms rs ρ (F as)
  | none => .no
@[simp] theorem cR_some {ms : List Md} {F : List Ar → FO} {rs : List RV} {as : List Ar} : cR ms F rs ρ (some as) = cR1 ms rs ρ (F as) := id rfl
@[simp] theorem u_callR {ms : List Md} {F : List Ar → FO} {rs : List RV} : callR ms F rs ρ = if (ioIx ms rs).Nodup then cR ms F rs ρ (mkArs (ioIx ms rs) ms rs ρ) else .no := by
  unfold callR
  split
  · cases mkArs (ioIx ms rs) ms rs ρ with
    | none => rfl
    | some as =>
      simp only [cR]
      cases F as with
      | no => rfl
      | exc e outs => rfl
      | ret r outs => rfl
  · rfl
@[simp] theorem ioIx_nil : ioIx [] [] = [] := id rfl
@[simp] theorem ioIx_io {ms : List Md} {rs : List RV} : ioIx (.io :: ms) (.bor i :: rs) = i :: ioIx ms rs := id rfl
@[simp] theorem ioIx_br {ms : List Md} {r : RV} {rs : List RV} : ioIx (.br :: ms) (r :: rs) = ioIx ms rs := by cases r <;> rfl
@[simp] theorem drops_nil : drops [] [] ρ = ρ := id rfl
@[simp] theorem drops_io {ms : List Md} {rs : List RV} : drops (.io :: ms) (.bor i :: rs) ρ = drops ms rs (ρ.set i .un) := id rfl
@[simp] theorem drops_br {ms : List Md} {r : RV} {rs : List RV} : drops (.br :: ms) (r :: rs) ρ = drops ms rs ρ := by cases r <;> rfl
@[simp] theorem mk_nil {l : List Nat} : mkArs l [] [] ρ = some [] := id rfl
def mkb (l : List Nat) (ms : List Md) (rs : List RV) (ρ : O.Env) : Option D → Option (List Ar)
  | some d => (mkArs l ms rs ρ).map (.br d :: ·)
  | none => none
@[simp] theorem mkb_some {l : List Nat} {ms : List Md} {rs : List RV} : mkb l ms rs ρ (some d) = (mkArs l ms rs ρ).map (.br d :: ·) := id rfl
@[simp] theorem mk_bv {l : List Nat} {ms : List Md} {rs : List RV} : mkArs l (.br :: ms) (.val d :: rs) ρ = (mkArs l ms rs ρ).map (.br d :: ·) := id rfl
@[simp] theorem mk_bb {l : List Nat} {ms : List Md} {rs : List RV} : mkArs l (.br :: ms) (.bor i :: rs) ρ = if i ∈ l then none else mkb l ms rs ρ (rd (.bor i) ρ) := by first | (simp only [mkArs, mkb]; done) | (simp only [mkArs, mkb]; split <;> first | rfl | (cases rd (.bor i) ρ <;> rfl))
def mki (l : List Nat) (ms : List Md) (rs : List RV) (ρ : O.Env) : Option OD → Option (List Ar)
  | some o => (mkArs l ms rs ρ).map (.io o :: ·)
  | none => none
@[simp] theorem mki_some {l : List Nat} {ms : List Md} {rs : List RV} {o : OD} : mki l ms rs ρ (some o) = (mkArs l ms rs ρ).map (.io o :: ·) := id rfl
@[simp] theorem mk_io {l : List Nat} {ms : List Md} {rs : List RV} : mkArs l (.io :: ms) (.bor i :: rs) ρ = mki l ms rs ρ (owo ρ[i]?) := by
  first
  | (simp only [mkArs, mki]; done)
  | (simp only [mkArs, mki]; cases ρ[i]? with
    | none => rfl
    | some s => cases s <;> rfl)
@[simp] theorem outE_nil {a : O.Env} : outE ρ [] [] [] a = some a := id rfl
@[simp] theorem outE_br {ms : List Md} {r : RV} {rs : List RV} {os : List (Option OD)} {a : O.Env} : outE ρ (.br :: ms) (r :: rs) (none :: os) a = outE ρ ms rs os a := id rfl
def oei (ms : List Md) (rs : List RV) (os : List (Option OD)) (i : Nat) (o : OD) (ρ a : O.Env) : Option Sl → Option O.Env
  | some (.ow _) => outE ρ ms rs os (a.set i (.ow o))
  | some (.io _) => outE ρ ms rs os (a.set i (.io o))
  | _ => none
@[simp] theorem oei_ow {ms : List Md} {rs : List RV} {os : List (Option OD)} {o o' : OD} {a : O.Env} : oei ms rs os i o ρ a (some (.ow o')) = outE ρ ms rs os (a.set i (.ow o)) := id rfl
@[simp] theorem oei_io {ms : List Md} {rs : List RV} {os : List (Option OD)} {o o' : OD} {a : O.Env} : oei ms rs os i o ρ a (some (.io o')) = outE ρ ms rs os (a.set i (.io o)) := id rfl
@[simp] theorem outE_io {ms : List Md} {rs : List RV} {os : List (Option OD)} {o : OD} {a : O.Env} : outE ρ (.io :: ms) (.bor i :: rs) (some o :: os) a = oei ms rs os i o ρ a ρ[i]? := by
  first
  | (simp only [outE, oei]; done)
  | (simp only [outE, oei]; cases ρ[i]? with
    | none => rfl
    | some s => cases s <;> rfl)
/-! the def -/
def run2 (r : RV) : Option (List (Option OD)) → FO
  | some os => match r with
    | .bor _ => .no
    | r => .ret r os
  | none => .no
@[simp] theorem run2_val {os : List (Option OD)} : run2 (.val d) (some os) = .ret (.val d) os := id rfl
@[simp] theorem run2_own {os : List (Option OD)} {o : OD} : run2 (.own o) (some os) = .ret (.own o) os := id rfl
def run1 (as : List Ar) : SR → FO
  | .nx ρ => match outsOf as ρ with
    | some os => .ret (.val .non) os
    | none => .no
  | .rt r ρ => run2 r (outsOf as ρ)
  | .ex e ρ => match outsOf as ρ with
    | some os => .exc e os
    | none => .no
  | _ => .no
@[simp] theorem run1_rt {as : List Ar} {r : RV} : run1 as (.rt r ρ) = run2 r (outsOf as ρ) := id rfl
theorem u_runF {n : Nat} {g : O.Env → SR} {as : List Ar} : runF n g as = run1 as (g (startE n as)) := by
  unfold runF
  cases g (startE n as) with
  | rt r ρ =>
    simp only [run1]
    cases outsOf as ρ with
    | none => rfl
    | some os => cases r <;> rfl
  | nx ρ => rfl
  | ex e ρ => rfl
  | bk ρ => rfl
  | ct ρ => rfl
  | no => rfl
@[simp] theorem outs_nil : outsOf [] ρ = some [] := id rfl
@[simp] theorem outs_br {as : List Ar} {s : Sl} : outsOf (.br d :: as) (s :: ρ) = (outsOf as ρ).map (none :: ·) := id rfl
@[simp] theorem outs_sh {as : List Ar} {s : Sl} : outsOf (.sh d :: as) (s :: ρ) = (outsOf as ρ).map (none :: ·) := id rfl
@[simp] theorem outs_io {as : List Ar} {o o' : OD} : outsOf (.io o :: as) (.io o' :: ρ) = (outsOf as ρ).map (some o' :: ·) := id rfl
end
end O

/-! Own14: loops and comprehensions that go through -/
namespace O
open PySem
theorem lcD_ok {vs : List Nat} {t : Tg} {ft : O.Env → Res Bool} {fe : O.Env → Res RV} {ρ0 : O.Env} (p : D → Bool) (y : D → D) : ∀ (ds : List D), (∀ d ∈ ds, ∃ ρ1 ρ2, takeT t d ρ0 = some ρ1 ∧ ft ρ1 = .ok (p d) ρ2 ∧ (p d = false → wipeE ρ2 vs = ρ0) ∧ (p d = true → ∃ ρ3, (fe ρ2).bind fz = .ok (y d) ρ3 ∧ wipeE ρ3 vs = ρ0)) →
    ∀ n, n + ds.length ≤ sizeLine → lcD vs t ft fe n ds ρ0 = .ok ((ds.filter p).map y) ρ0
  | [], _, _, _ => rfl
  | d :: ds, h, n, hn => by
    obtain ⟨ρ1, ρ2, e1, e2, e3, e4⟩ := h d (by simp)
    have ih := lcD_ok p y ds fun x hx => h x (by simp [hx])
    rw [List.length_cons] at hn
    cases hp : p d with
    | false =>
      rw [hp] at e2
      simp only [lcD, e1, e2, e3 hp, List.filter_cons, hp]
      exact ih n (by omega)
    | true =>
      rw [hp] at e2
      obtain ⟨ρ3, e5, e6⟩ := e4 hp
      have hz : n < sizeLine := by omega
      simp only [lcD, e1, e2, e5, e6, if_pos hz, List.filter_cons, hp, ih (n + 1) (by omega)]
      rfl
theorem forD_ok {k : D → O.Env → Option O.Env} {g : O.Env → SR} (Iv : List D → O.Env → Prop) (step : ∀ d ds ρ, Iv (d :: ds) ρ → ∃ ρ1 ρ2, k d ρ = some ρ1 ∧ g ρ1 = .nx ρ2 ∧ Iv ds ρ2) : ∀ (ds : List D) (ρ : O.Env), Iv ds ρ → ∃ ρ', forD k g ds ρ = .nx ρ' ∧ Iv [] ρ'
  | [], ρ, h => ⟨ρ, rfl, h⟩
  | d :: ds, ρ, h => by
    obtain ⟨ρ1, ρ2, e1, e2, h2⟩ := step d ds ρ h
    obtain ⟨ρ', e3, h3⟩ := forD_ok Iv step ds ρ2 h2
    exact ⟨ρ', by simp only [forD, e1, e2]; exact e3, h3⟩
theorem whileF_ok {c : O.Env → Res Bool} {g : O.Env → SR} (Iv : Nat → O.Env → Prop) (Po : O.Env → Prop) (step : ∀ m ρ, Iv m ρ → ∃ b ρ1, c ρ = .ok b ρ1 ∧ (b = true → ∃ ρ2 m', g ρ1 = .nx ρ2 ∧ m' < m ∧ Iv m' ρ2) ∧ (b = false → Po ρ1)) :
    ∀ (n m : Nat) (ρ : O.Env), m < n → Iv m ρ → ∃ ρ', whileF c g n ρ = .nx ρ' ∧ Po ρ'
  | 0, m, ρ, h, _ => by omega
  | n + 1, m, ρ, h, hI => by
    obtain ⟨b, ρ1, e1, e2, e3⟩ := step m ρ hI
    cases b with
    | false => exact ⟨ρ1, by simp [whileF, e1], e3 rfl⟩
    | true =>
      obtain ⟨ρ2, m', e4, h4, h5⟩ := e2 rfl
      obtain ⟨ρ', e6, e7⟩ := whileF_ok Iv Po step n m' ρ2 (by omega) h5
      exact ⟨ρ', by simp only [whileF, e1, thn_ok, if_true, e4]; exact e6, e7⟩
theorem FU_is : FU = 1000000000 := by unfold FU; rfl
theorem while_ok {c : O.Env → Res Bool} {g : O.Env → SR} (Iv : Nat → O.Env → Prop) (Po : O.Env → Prop) (step : ∀ m ρ, Iv m ρ → ∃ b ρ1, c ρ = .ok b ρ1 ∧ (b = true → ∃ ρ2 m', g ρ1 = .nx ρ2 ∧ m' < m ∧ Iv m' ρ2) ∧ (b = false → Po ρ1))
    {m : Nat} {ρ : O.Env} (hm : m < 1000000000) (hI : Iv m ρ) : ∃ ρ', gWhile c g ρ = .nx ρ' ∧ Po ρ' := whileF_ok Iv Po step FU m ρ (by rw [FU_is]; exact hm) hI
/-! bits -/
theorem bits_le {a : Int} {k : Nat} (h0 : 0 ≤ a) (h : a < 2 ^ k) : Builtin.Int.intBits a ≤ k := PyProof.Rows.intBits_le (by
  have : (a.natAbs : Int) < ((2 ^ k : Nat) : Int) := by rw [Int.natAbs_of_nonneg h0]; exact_mod_cast h
  exact_mod_cast this)
/-! ints and other rows -/
theorem fv_int (n : Int) : fv (.int n) = some (.int n) := id rfl
theorem fvs_ints : ∀ ns : List Int, fvs (ns.map D.int) = some (ns.map L2.V.int)
  | [] => rfl
  | n :: ns => by simp [fvs, fv, fvs_ints ns]
theorem inV_ints (n : Int) (ns : List Int) : L2.inV (.int n) (ns.map L2.V.int) = decide (n ∈ ns) := by
  induction ns with
  | nil => rfl
  | cons m ns ih =>
    unfold L2.inV at ih ⊢
    rw [List.map_cons, List.any_cons, ih]
    show ((m == n) || decide (n ∈ ns)) = _
    by_cases h : m = n
    · subst h; simp
    · have h' : ¬ n = m := fun e => h e.symm
      simp [h, h']
@[simp] theorem inB_lst (n : Int) (ns : List Int) : inB (.int n) (.lst (ns.map D.int)) = some (decide (n ∈ ns)) := by
  simp only [inB, fv, fvs_ints, Option.map_some, inV_ints]
@[simp] theorem inB_tup (n : Int) (ns : List Int) : inB (.int n) (.tup (ns.map D.int)) = some (decide (n ∈ ns)) := by
  simp only [inB, fv, fvs_ints, Option.map_some, inV_ints]
theorem toPys_ints : ∀ ns : List Int, toPys (ns.map D.int) = some (ns.map PyData.int)
  | [] => rfl
  | n :: ns => by simp [toPys, toPy, toPys_ints ns]
theorem canLay_ints : ∀ ns : List Int, PyData.canLayAll0 (ns.map PyData.int) = true
  | [] => rfl
  | n :: ns => by simp [PyData.canLayAll0, PyData.canLay0, canLay_ints ns]
theorem depth_ints : ∀ ns : List Int, PyData.depthAll (ns.map PyData.int) = 0
  | [] => rfl
  | n :: ns => by simp [PyData.depthAll, PyData.depth, depth_ints ns]
theorem eqvAll_ints : ∀ xs ys : List Int, PyData.eqvAll (xs.map PyData.int) (ys.map PyData.int) = decide (xs = ys)
  | [], [] => rfl
  | [], _ :: _ => by simp [PyData.eqvAll]
  | _ :: _, [] => by simp [PyData.eqvAll]
  | x :: xs, y :: ys => by
    simp only [List.map_cons, PyData.eqvAll, PyData.eqv, eqvAll_ints xs ys]
    by_cases h : x = y
    · subst h; simp
    · simp [h]
theorem shaped_lst (ns : List Int) : SeqAt.shaped (.list (ns.map PyData.int)) = true := by
  simp [SeqAt.shaped, PyData.canLay0, canLay_ints, PyData.depth, depth_ints]
theorem shaped_tup (ns : List Int) : SeqAt.shaped (.tuple (ns.map PyData.int)) = true := by
  simp [SeqAt.shaped, PyData.canLay0, canLay_ints, PyData.depth, depth_ints]
theorem shaped_int (n : Int) : SeqAt.shaped (.int n) = true := by simp [SeqAt.shaped, PyData.canLay0, PyData.depth]
@[simp] theorem eqB_int (i j : Int) : eqB (.int i) (.int j) = some (decide (i = j)) := by
  simp only [eqB, toPy, shaped_int, Bool.and_self, if_true, PyData.eqv]
  by_cases h : i = j <;> simp [h]
@[simp] theorem eqB_lst (xs ys : List Int) : eqB (.lst (xs.map D.int)) (.lst (ys.map D.int)) = some (decide (xs = ys)) := by
  simp only [eqB, toPy, toPys_ints, Option.map_some, shaped_lst, Bool.and_self, if_true, PyData.eqv, eqvAll_ints]
@[simp] theorem eqB_tup (xs ys : List Int) : eqB (.tup (xs.map D.int)) (.tup (ys.map D.int)) = some (decide (xs = ys)) := by
  simp only [eqB, toPy, toPys_ints, Option.map_some, shaped_tup, Bool.and_self, if_true, PyData.eqv, eqvAll_ints]
@[simp] theorem eqB_tup0 (xs : List Int) : eqB (.tup (xs.map D.int)) (.tup []) = some (decide (xs = [])) := eqB_tup xs []
@[simp] theorem intsD_ints (ns : List Int) : intsD (ns.map D.int) = some ns := intsD_map ns
@[simp] theorem blsD_bls : ∀ bs : List Bool, blsD (bs.map D.bl) = some bs
  | [] => rfl
  | b :: bs => by simp [blsD, blsD_bls bs]
theorem blsD_f {α : Type} (f : α → Bool) : ∀ l : List α, blsD (l.map fun x => .bl (f x)) = some (l.map f)
  | [] => rfl
  | x :: l => by simp [blsD, blsD_f f l]
@[simp] theorem blsD_t {α : Type} (l : List α) : blsD (l.map fun _ => D.bl true) = some (l.map fun _ => true) := blsD_f (fun _ => true) l
/-! operators of ints -/
section
variable {i j : Int}
@[simp] theorem gAdd_ii : gAdd (.int i) (.int j) = some (.val (.int (i + j))) := id rfl
@[simp] theorem gSub_ii : gSub (.int i) (.int j) = some (.val (.int (i - j))) := id rfl
@[simp] theorem gLt_ii : gLt (.int i) (.int j) = some (.val (.bl (decide (i < j)))) := id rfl
@[simp] theorem gLe_ii : gLe (.int i) (.int j) = some (.val (.bl (decide (i ≤ j)))) := id rfl
@[simp] theorem gGt_ii : gGt (.int i) (.int j) = some (.val (.bl (decide (j < i)))) := id rfl
@[simp] theorem gGe_ii : gGe (.int i) (.int j) = some (.val (.bl (decide (j ≤ i)))) := id rfl
theorem gMod_ii (h : 0 < j) : gMod (.int i) (.int j) = some (.val (.int (i % j))) := by simp [gMod, gII, h]
theorem gFdiv_ii (h : 0 < j) (h2 : j < 1073741824) : gFdiv (.int i) (.int j) = some (.val (.int (i / j))) := by simp [gFdiv, gII, h, h2]
theorem gMulI_ii (h : (Builtin.Int.intBits i : Int) + (Builtin.Int.intBits j : Int) ≤ 134217728) : gMulI (.int i) (.int j) = some (.val (.int (i * j))) := by simp [gMulI, gII, h]
theorem gPow_ii (n : Nat) (h : (Builtin.Int.intBits i : Int) * (n : Int) ≤ 134217728) : gPow (.int i) (.int (n : Int)) = some (.val (.int (i ^ n))) := by
  have h' : (Builtin.Int.intBits i : Int) * (n : Int) ≤ 2 ^ 27 := by have e : (2 : Int) ^ 27 = 134217728 := by decide
                                                                     rw [e]; exact h
  simp only [gPow, gII]
  rw [if_pos (decide_eq_true ⟨Int.natCast_nonneg n, h'⟩), Int.toNat_natCast]
theorem gPow_2 (h : (Builtin.Int.intBits i : Int) * 2 ≤ 134217728) : gPow (.int i) (.int 2) = some (.val (.int (i ^ 2))) := gPow_ii 2 h
theorem gPow_3 (h : (Builtin.Int.intBits i : Int) * 3 ≤ 134217728) : gPow (.int i) (.int 3) = some (.val (.int (i ^ 3))) := gPow_ii 3 h
theorem ten6 : gPow (.int 10) (.int 6) = some (.val (.int 1000000)) := by
  have b : Builtin.Int.intBits 10 ≤ 4 := PyProof.Rows.intBits_le (by decide)
  have := gPow_ii (i := 10) 6 (by omega)
  exact this
theorem ten18 : gPow (.int 10) (.int 18) = some (.val (.int 1000000000000000000)) := by
  have b : Builtin.Int.intBits 10 ≤ 4 := PyProof.Rows.intBits_le (by decide)
  have := gPow_ii (i := 10) 18 (by omega)
  exact this
end
/-! the drawing deck -/
def dk (d m : Int) : OD := .dic [(.inr "digits", .int d), (.inr "mixed", .int m)]
theorem k_dm : (Str.ofString "digits" = Str.ofString "mixed") = False := eq_false (by decide)
theorem k_md : (Str.ofString "mixed" = Str.ofString "digits") = False := eq_false (by decide)
@[simp] theorem sz2 : 2 < sizeLine := by decide
@[simp] theorem sz3 : 3 ≤ sizeLine := by decide
@[simp] theorem sz1 : 1 ≤ sizeLine := by decide
@[simp] theorem sz22 : 2 ≤ sizeLine := by decide
theorem sizeLine_is : 1000000 ≤ sizeLine := by decide
theorem dk_d (a b : D) : getD [(.inr (Str.ofString "digits"), a), (.inr (Str.ofString "mixed"), b)] (.inr (Str.ofString "digits")) = some a := by simp [getD]
theorem dk_m (a b : D) : getD [(.inr (Str.ofString "digits"), a), (.inr (Str.ofString "mixed"), b)] (.inr (Str.ofString "mixed")) = some b := by simp [getD, k_dm]
theorem dk_pd (a b c : D) : putD [(.inr (Str.ofString "digits"), a), (.inr (Str.ofString "mixed"), b)] (.inr (Str.ofString "digits")) c = [(.inr (Str.ofString "digits"), c), (.inr (Str.ofString "mixed"), b)] := by simp [putD, k_md]
theorem dk_pm (a b c : D) : putD [(.inr (Str.ofString "digits"), a), (.inr (Str.ofString "mixed"), b)] (.inr (Str.ofString "mixed")) c = [(.inr (Str.ofString "digits"), a), (.inr (Str.ofString "mixed"), c)] := by simp [putD, k_dm]
end O

/-! Own15: the law's own def, run from the claim's caller: nothing is being shown there (so repr may be called) -/
namespace O
open PySem
open PyProof.Rows (envOfC AllBare)
open L2 (V Hp HO Rd SqL SqT upd upd_same VK XK Ends St PSs Cx Sp FnOk Room Vals RelV Env0)
section
variable {P : Program} {w : World} {K : PySem.W.Frag} {mg : Str → Option Value} {base : Heap} {N : List Str} {st : Stmt} {f : Addr} {fd : FuncData}
theorem caller_free (env : PySem.Env) : (callerA.deeper env).guards = some [] := rfl
/-- one run of the law's def -/
theorem law_run {k n : Nat} {g : O.Env → SR} {s : Shared} {H : Hp} {v : V} {u : Value} {Q : VK} {E : XK} (F : L2.Fun K "law" "law" st f fd) (S : L2.FnScope N ["script"] (L2.defScope st)) (hN : N.length = n) (hn : 1 ≤ n) (room : Room (k + 1) callerA)
    (hB : ∀ (cdv : Value) (s : Shared) (H : Hp) (E : XK), Room k (callerA.deeper (envOfC "law" (L2.defScope st) s.heap.objs.size f cdv)) → ∃ t, JB (bx P w K mg base N "law" st f cdv callerA [] s H E) (fun _ => E) (L2.defBody st) t g)
    (e0 : Env0 P w K mg base callerA [] s H) (bind : BindsTo s fd ⟨[u], []⟩ [("script", u)]) (rel : RelV v u) (prom : spF K 1 (runF n g) [v] H Q E) :
    codeAny (model P w) callerA (.call (.ref f) ⟨[u], []⟩) (L2.CR (L2.CX P w) [] P w H s Q E) s := by
  obtain ⟨oc, od, kV, doc, pm, an, cdv, ct, osl, rfl, look, code⟩ := F.ex
  have inK : K.In s.heap := e0.mod.kin.keeps fun b o h => (e0.bs b o h).1
  have free : s.heap.NoLimit := e0.mod.nolimit.keeps fun b o h => (e0.bs b o h).1
  have kinds : ∀ y ∈ (["script"] : List Str).zip [u], (L2.defScope st).names.lookup y.1 = some .local ∨ ((L2.defScope st).names.lookup y.1 = some .cell ∧ ((cellsFrom (s.heap.objs.size + 1) (L2.defScope st).names []).lookup y.1).isSome = true) := by
    rintro ⟨x, z⟩ hy
    refine (S.par x (List.of_mem_zip hy).1).imp_right fun c => ⟨c, ?_⟩
    exact PySem.W.cellsFrom_some _ _ _ (Or.inl c)
  refine codeAny_call_function room.depth (inK _ _ look) rfl S.co S.gen rfl (PySem.W.codeRec_of inK code) (bind _ _ _ _ (?_))
  refine wpAny_newFunctionEnv_cells S.kind kinds fun env he s1 laid => (?_)
  subst he
  refine ⟨free.keeps laid.toInCall.keep, codeAny_func (?_)⟩
  obtain ⟨t, jb⟩ := hB cdv s H E (room.deeper _)
  have start := L2.inv_start (CX := L2.CX P w) (E := E) S room.hd e0 (vs := [v]) rfl (.cons rel .nil) laid
  have goal := jb.pss.run [] s1 _ H _ start (body_ok hN hn jb.ss prom)
  refine wpAny_mono goal (fun fl s' done => ?_) fun e s' out => out
  cases fl with
  | brk => exact done.elim fun _ q => q.elim fun _ q => q.2.elim
  | cont => exact done.elim fun _ q => q.elim fun _ q => q.2.elim
  | ret z =>
    obtain ⟨y, τ, G, J, rz, hq⟩ := done
    exact ⟨y, G, J.os, J.bare, J.base, J.hok, rz, hq⟩
  | next =>
    obtain ⟨τ, G, J, hq⟩ := done
    exact ⟨.non, G, J.os, J.bare, J.base, J.hok, rfl, hq⟩
/-- from a run to what is asked of the law's call -/
theorem law_whole {mb : Str → Option Value} {s : Shared} {fa a : Addr} {vs : List Value} {ns : List Int} (inK : K.In s.heap) (nsG : s.heap.Ns mainGlobals mg) (nsB : s.heap.Ns builtinsNs mb) (same : ∀ x : Str, x ≠ "__name__" → mb x = bootBuiltins x)
    (lim : s.heap.NoLimit) (nog : s.gens = #[]) (script : s.heap.get? a = some { cls := .type "list", data := .seq vs.toArray }) (nums : PyProof.Rows.IntsAre vs ns) (few : ns.length ≤ sizeLine)
    (run : ∀ (base : Heap) (H : Hp), K.In base → base.Ns mainGlobals mg → Env0 P w K mg base callerA [] s H → SqL K H a (ns.map V.int) →
      codeAny (model P w) callerA (.call (.ref fa) ⟨[.ref a], []⟩) (L2.CR (L2.CX P w) [] P w H s (fun v _ => v = .bl true) fun _ _ _ => False) s) :
    codeAny (model P w) callerA (.call (.ref fa) ⟨[.ref a], []⟩) (fun r s' => r = .ok (.ret (.bool true)) ∧ OldK s.heap s'.heap ∧ s'.os = s.os ∧ AllBare s'.gens) s := by
  have rel := L2.vals_ints nums
  have many := nums.length
  -- the script is watched, unless it is one of the written objects
  let H : Hp := fun b => if b = a ∧ K.lookup a = none then some (.frz { cls := .type "list", data := .seq vs.toArray } (.lst (ns.map V.int))) else none
  have seen : ∀ {b : Addr} {z : HO}, H b = some z → (b = a ∧ K.lookup a = none) ∧ z = .frz { cls := .type "list", data := .seq vs.toArray } (.lst (ns.map V.int)) := fun {b z} e => by
    by_cases h : b = a ∧ K.lookup a = none
    · have e' : H b = some (.frz { cls := .type "list", data := .seq vs.toArray } (.lst (ns.map V.int))) := if_pos h
      rw [e'] at e
      exact ⟨h, (Option.some.inj e).symm⟩
    · have e' : H b = none := if_neg h
      rw [e'] at e
      cases e
  have size : (ns.map V.int).length ≤ sizeLine := by rw [List.length_map]; exact few
  have hS : SqL K H a (ns.map V.int) := by
    cases look : K.lookup a with
    | none => exact .inl (.inr ⟨_, if_pos ⟨rfl, look⟩⟩)
    | some o =>
      have e := inK a o look
      rw [script] at e
      cases e
      exact .inr ⟨_, vs.toArray, _, look, rfl, rfl, rfl, by rw [List.size_toArray, many]; exact few, by simpa using rel⟩
  have hok : L2.HOk P w H s.heap := fun b z e => by
    obtain ⟨⟨rfl, _⟩, rfl⟩ := seen e
    exact ⟨script, size, vs, 0, rel, script⟩
  have hid : ∀ {b : Addr} {o : Obj}, s.heap.get? b = some o → (b = a → ∃ q, K.lookup a = some q) → (L2.hidT s.heap H).get? b = some o := fun {b o} e hq => by
    refine L2.hidT_get e ?_
    cases h : H b with
    | none => rfl
    | some z =>
      obtain ⟨⟨h1, h2⟩, _⟩ := seen h
      obtain ⟨q, h3⟩ := hq h1
      rw [h2] at h3
      cases h3
  have inB : K.In (L2.hidT s.heap H) := fun b o e => hid (inK b o e) fun h => ⟨o, by rw [← h]; exact e⟩
  have space : ∀ {b : Addr} {m : Str → Option Value}, s.heap.Ns b m → (L2.hidT s.heap H).Ns b m := fun {b m} h => by
    obtain ⟨o, es, ep, e, d, r⟩ := h
    refine ⟨o, es, ep, L2.hidT_get e ?_, d, r⟩
    cases hb : H b with
    | none => rfl
    | some z =>
      obtain ⟨⟨h1, _⟩, _⟩ := seen hb
      rw [h1, script] at e
      cases e
      cases (show Data.seq vs.toArray _ = Data.dict es ep from d)
  have room : L2.Mod K mg (L2.hidT s.heap H) := by
    obtain ⟨mc, c1, c2⟩ := lim
    exact ⟨inB, space nsG, ⟨mb, space nsB, same⟩, mc, space c1, c2⟩
  have e0 : Env0 P w K mg (L2.hidT s.heap H) callerA [] s H :=
    { frames := rfl, mod := room, bs := fun b o e => L2.of_hidT e, bsz := Nat.le_of_eq (L2.hidT_size _ _), funs := trivial, frf := fun b hb => absurd (show b ∈ ([] : List Addr) from hb) (by simp), hok := hok, bare := .of_eq nog }
  refine codeAny_mono (run _ H inB (space nsG) e0 hS) fun r s' out => ?_
  cases r with
  | error e =>
    obtain ⟨_, _, _, _, _, _, _, _, _, _, _, _, z⟩ := out
    exact z.elim
  | ok fl =>
    cases fl with
    | brk => exact out.elim
    | cont => exact out.elim
    | next => exact out.elim
    | ret u =>
      obtain ⟨v, H', os, bare, un, hok', ru, hv⟩ := out
      have hv : v = .bl true := hv
      subst hv
      have hu : u = Value.bool true := ru
      subst hu
      refine ⟨rfl, OldK.of_keep fun b o e => ?_, os, bare⟩
      cases h : H b with
      | none => exact un.keep b o e h (fun z => absurd (show b ∈ ([] : List Addr) from z) (by simp)) (by simp)
      | some z =>
        obtain ⟨_, rfl⟩ := seen h
        have h1 := (hok b _ h).1
        have h2 := (hok' b _ (un.frzs b _ _ h)).1
        rw [h1] at e
        cases e
        exact h2
end
end O

/-! Own16: texts compared; repr of lists and tuples, where nothing is being shown; the walk of a law that calls it -/
namespace O
open PySem
open PyProof.Rows (envOfC AllBare)
open L2 (V Hp HO Rd SqL SqT upd upd_same VK XK Ends St TE TA PE PSs Cx Sp FnOk Room Vals RelV Env0 OpR CallR)
/-- equality, texts too -/
def eqS : D → D → Option Bool
  | .str x, .str y => some (decide (x = y))
  | d, e => eqB d e
def gEqS (d e : D) : Option RV := (eqS d e).map fun b => .val (.bl b)
def gNeS (d e : D) : Option RV := (eqS d e).map fun b => .val (.bl (!b))
section
variable {X : Cx}
theorem eqS_cases (d e : D) : (∃ x y, d = .str x ∧ e = .str y) ∨ eqS d e = eqB d e := by
  cases d <;> cases e <;> first | exact .inl ⟨_, _, rfl, rfl⟩ | exact .inr rfl
theorem dec_str (x y : Str) : decide ((V.str x) = V.str y) = decide (x = y) := by
  by_cases h : x = y
  · subst h; simp
  · simp [h]
theorem op_gEqS (hu : X.A.units + 64 < cLine) : OpR X (compareOp .Eq) (rG X.K gEqS) := by
  intro pins s σ H x y v u Q I rx ry ⟨Hd, d1, d2, z, l, t1, t2, eg, q⟩
  rcases eqS_cases d1 d2 with ⟨a, b, rfl, rfl⟩ | h
  · cases eg
    have e1 := t1.strD
    have e2 := t2.strD
    subst e1 e2
    refine L2.op_eq pins s σ H _ _ v u Q I rx ry ⟨rfl, ?_⟩
    rw [dec_str]
    exact q _ _ (newR_here l (.bl _))
  · unfold gEqS at eg
    rw [h] at eg
    exact op_gEq hu pins s σ H x y v u Q I rx ry ⟨Hd, d1, d2, z, l, t1, t2, eg, q⟩
theorem op_gNeS (hu : X.A.units + 64 < cLine) : OpR X (compareOp .NotEq) (rG X.K gNeS) := by
  intro pins s σ H x y v u Q I rx ry ⟨Hd, d1, d2, z, l, t1, t2, eg, q⟩
  rcases eqS_cases d1 d2 with ⟨a, b, rfl, rfl⟩ | h
  · cases eg
    have e1 := t1.strD
    have e2 := t2.strD
    subst e1 e2
    refine L2.op_ne pins s σ H _ _ v u Q I rx ry ⟨rfl, ?_⟩
    rw [dec_str]
    exact q _ _ (newR_here l (.bl _))
  · unfold gNeS at eg
    rw [h] at eg
    exact op_gNe hu pins s σ H x y v u Q I rx ry ⟨Hd, d1, d2, z, l, t1, t2, eg, q⟩
/-- what may be shown -/
def canShow (p : PyData) : Bool := PyData.layable0 p && p.intsShort 13 && p.showable && decide (p.depth ≤ 60)
def gRepr : List D → Option RV
  | [.lst ds] => match toPy (.lst ds) with
    | some p => if canShow p = true then some (.val (.str p.shown)) else none
    | none => none
  | [.tup ds] => match toPy (.tup ds) with
    | some p => if canShow p = true then some (.val (.str p.shown)) else none
    | none => none
  | _ => none
theorem repr_dp (hu : X.A.units + 64 < cLine) (hg : X.A.guards = some []) {pins : List (Addr × Obj)} {s : Shared} {σ : St} {H : Hp} {a : Addr} {p : PyData} {Q : VK} (I : L2.Inv X pins σ H s) (dp : L2.Dp X.K H (.ref a) p) (ok : canShow p = true) (q : Q (.str p.shown) H) :
    wpAny (model X.prog X.w) X.A (call (.builtin "repr") [.ref a]) (L2.EP X pins σ Q) X.xe s := by
  obtain ⟨as, rd⟩ := L2.Dp.reads I p (.ref a) (.ref a) dp rfl
  unfold canShow at ok
  simp only [Bool.and_eq_true, decide_eq_true_eq] at ok
  obtain ⟨⟨⟨k1, k2⟩, k3⟩, k4⟩ := ok
  have can : PyData.canLay0 p = true := by
    have k1' : (PyData.canLay0 p && decide (PyData.depth p ≤ 64) && decide (PyData.weight p ≤ 2 ^ 20)) = true := k1
    simp only [Bool.and_eq_true] at k1'
    exact k1'.1.1
  have len : p.shown.length ≤ sizeLine := Nat.le_trans (PyProof.Rows.shown_le13 k1 k2) (by decide)
  exact repr_of_reads' rd k3 (PyData.noDict_hsm (PyData.hasDict_of_canLay p can)) hg (by omega) (fun _ _ h => h) (fun h' u tk keep => ⟨.str p.shown, H, I.kept keep, ⟨_, rfl⟩, q⟩) len
theorem cb_repr (hu : X.A.units + 64 < cLine) (hg : X.A.guards = some []) : CallR X (.builtin "repr") (rGC X.K gRepr) := by
  intro pins s σ H xs us Q I rx ⟨Hd, ds, z, l, t, eg, q⟩
  have go : ∀ (d : D) (x : V) (p : PyData), xs = [x] → Top X.K Hd H d x → toPy d = some p → (∃ a, x = .ref a) → canShow p = true → z = .val (.str p.shown) → wpAny (model X.prog X.w) X.A (call (.builtin "repr") us) (L2.EP X pins σ Q) X.xe s := fun d x p e1 e2 e3 ⟨a, e4⟩ e5 e6 => by
    subst e1 e4 e6
    obtain ⟨u, rfl, ru⟩ : ∃ u, us = [u] ∧ RelV (.ref a) u := by
      cases rx with | cons r rr => cases rr; exact ⟨_, rfl, r⟩
    have hu' : u = Value.ref a := ru
    subst hu'
    exact repr_dp hu hg I ((e2.all l).dp e3) e5 (q _ _ (newR_here l (.str _)))
  match ds, t, eg with
  | [.lst es], t, eg =>
    simp only [gRepr] at eg
    obtain ⟨x, e, w⟩ := tops1 t
    cases e3 : toPy (.lst es) with
    | none => rw [e3] at eg; cases eg
    | some p =>
      rw [e3] at eg
      by_cases hc : canShow p = true
      · simp only [if_pos hc] at eg
        obtain ⟨a, _, ea, _⟩ := w.lstD l
        exact go _ x p e w e3 ⟨a, ea⟩ hc (Option.some.inj eg).symm
      · simp only [if_neg hc] at eg; cases eg
  | [.tup es], t, eg =>
    simp only [gRepr] at eg
    obtain ⟨x, e, w⟩ := tops1 t
    cases e3 : toPy (.tup es) with
    | none => rw [e3] at eg; cases eg
    | some p =>
      rw [e3] at eg
      by_cases hc : canShow p = true
      · simp only [if_pos hc] at eg
        obtain ⟨a, _, ea, _⟩ := w.tupD l
        exact go _ x p e w e3 ⟨a, ea⟩ hc (Option.some.inj eg).symm
      · simp only [if_neg hc] at eg; cases eg
end
/-! ### the walk -/
theorem walk_law {l : PySem.W.OpenLaw} {n : Nat} {q : Program} {loose : List Str} {XP : (Str → Option Value) → Heap → Prop} {YP : World → Heap → Prop} {d : DefRec} {K : Params → PySem.W.Frag} (hn : l.most = some n) (few : n ≤ sizeLine) (plain : d.params.defaults = []) (hY : ∀ (w : World) (h : Heap), YP w h → (K w.params).In h)
    (run : ∀ (w : World) (mg : Str → Option Value) (fa : Addr) (h : Heap), (K w.params).In h → h.Ns mainGlobals mg → mg d.name = some (.ref fa) → ∀ (s : Shared) (base : Heap) (H : Hp) (a : Addr) (ns : List Int), ns.length ≤ n → (∀ z ∈ ns, Builtin.Int.intBits z ≤ 1048576) → Env0 l.prog w (K w.params) mg base callerA [] s H → SqL (K w.params) H a (ns.map V.int) →
      codeAny (model l.prog w) callerA (.call (.ref fa) ⟨[.ref a], []⟩) (L2.CR (L2.CX l.prog w) [] l.prog w H s (fun v _ => v = .bl true) fun _ _ _ => False) s) : PySem.W.WalkO q loose XP YP l.row.toRowW d [] (fun f vs => PySem.call f vs) := by
  refine Att.attach_callB hn plain fun w s₀ s₁ mg mb fa o pm cd doc a vs ns G Y _ _ _ hmg script nums size bits nog => (?_)
  exact law_whole (hY w _ Y) G.T.g G.T.b G.T.builtins G.T.nolimit nog script nums (Nat.le_trans size few) fun base H _ _ e0 hS => run w mg fa _ (hY w _ Y) G.T.g hmg s₁ base H a ns size bits e0 hS
end O

/-! Own17: more words: minus, abs, pop(i), insert, any, sum, enumerate, k in d -/
namespace O
open PySem
open L2 (V Hp HO Rd SqL SqT upd upd_same upd_ne ne_of ne_of_none TE TT TA TS TG TGs TI TO It VK XK Ends St PE PT PW PA PS PSs PG PGs PI PO PTs Cx OpR UnR CallR IxR SlR MtR R2 tOp tUn tVar tC tCons tNil tTup tLst tTest tB tAnd tOr tNot tAndV tOrV tNotV tIf tCB Sp FnOk Gl Vis Loc Room)
section
variable {X : Cx}
def gNeg : D → Option RV
  | .int i => some (.val (.int (-i)))
  | _ => none
theorem un_gNeg : UnR X (unaryOp .USub) (rG1 X.K gNeg) := fun pins s σ H x v Q I rx ⟨Hd, d, z, l, t, eg, q⟩ => by
  cases d with
  | int i =>
    cases eg
    exact L2.un_neg pins s σ H x v Q I rx ⟨i, t.intD, q _ _ (newR_here l (.int _))⟩
  | _ => cases eg
def gAbs : List D → Option RV
  | [.int i] => some (.val (.int (if i < 0 then -i else i)))
  | _ => none
theorem cb_abs : CallR X (.builtin "abs") (rGC X.K gAbs) := cb_imp L2.call_abs fun xs H Q ⟨Hd, ds, z, l, t, eg, q⟩ => by
  match ds, t, eg with
  | [.int i], t, eg =>
    cases eg
    obtain ⟨x, rfl, w⟩ := tops1 t
    exact ⟨i, by rw [w.intD], q _ _ (newR_here l (.int _))⟩
def gAny : List D → Option RV
  | [.lst ds] => (blsD ds).map fun bs => .val (.bl (bs.any id))
  | _ => none
theorem cb_any (hc : X.calm = true) : CallR X (.builtin "any") (rGC X.K gAny) := cb_imp (L2.cr_any hc) fun xs H Q ⟨Hd, ds, z, l, t, eg, q⟩ => by
  match ds, t, eg with
  | [.lst es], t, eg =>
    simp only [gAny] at eg
    cases e1 : blsD es with
    | none => rw [e1] at eg; cases eg
    | some ns =>
      rw [e1] at eg
      cases eg
      obtain ⟨x, rfl, w⟩ := tops1 t
      obtain ⟨a, ys, rfl, h1, r1⟩ := w.lstD l
      have ey := blsD_ok r1 e1
      subst ey
      exact ⟨a, ns, rfl, .inl h1, q _ _ (newR_here l (.bl _))⟩
def gSum : List D → Option RV
  | [.lst ds] => (intsD ds).map fun ns => .val (.int ns.sum)
  | _ => none
theorem cb_sum (hc : X.calm = true) : CallR X (.builtin "sum") (rGC X.K gSum) := cb_imp (L2.cr_sum hc) fun xs H Q ⟨Hd, ds, z, l, t, eg, q⟩ => by
  match ds, t, eg with
  | [.lst es], t, eg =>
    simp only [gSum] at eg
    cases e1 : intsD es with
    | none => rw [e1] at eg; cases eg
    | some ns =>
      rw [e1] at eg
      cases eg
      obtain ⟨x, rfl, w⟩ := tops1 t
      obtain ⟨a, ys, rfl, h1, r1⟩ := w.lstD l
      have ey := intsD_ok r1 e1
      subst ey
      exact ⟨a, ns, rfl, .inl h1, q _ _ (newR_here l (.int _))⟩
/-- l.pop(i) -/
def gPopAt : List D → List D → Option (List D × D)
  | ds, [.int i] => if -(2 ^ 63) ≤ i ∧ i < 2 ^ 63 then match seqIndex? i ds.length with
      | some k => (ds[k]?).map fun y => (ds.eraseIdx k, y)
      | none => none
    else none
  | _, _ => none
theorem mt_gPopAt : MtR X "list.pop" (rGMut X.K gPopAt) := mt_imp L2.mt_popAt fun x vs H Q ⟨l, xs, Hd, ds, es, ds', z, ex, hl, r, re, eg, q⟩ => by
  match es, re, eg with
  | [.int i], .cons hy .nil, eg =>
    simp only [gPopAt] at eg
    by_cases hi : -(2 ^ 63) ≤ i ∧ i < 2 ^ 63
    · rw [if_pos hi] at eg
      cases ek : seqIndex? i ds.length with
      | none => rw [ek] at eg; cases eg
      | some k =>
        rw [ek] at eg
        simp only at eg
        cases ey : ds[k]? with
        | none => rw [ey] at eg; cases eg
        | some y =>
          rw [ey] at eg
          cases eg
          obtain ⟨w, hw, rw_⟩ := r.get ey
          cases hy
          exact ⟨l, xs, i, k, w, ex, rfl, hl, hi.1, hi.2, by rw [r.length]; exact ek, hw, q _ _ (r.eraseIdx k) rw_⟩
    · rw [if_neg hi] at eg; cases eg
/-- l.insert(i, y), i a place -/
def gInsert : List D → List D → Option (List D × D)
  | ds, [.int i, y] => if ds.length < sizeLine ∧ 0 ≤ i ∧ i < 2 ^ 63 then some (ds.take i.toNat ++ [y] ++ ds.drop i.toNat, .non) else none
  | _, _ => none
theorem mt_gInsert : MtR X "list.insert" (rGMut X.K gInsert) := mt_imp L2.mt_insert fun x vs H Q ⟨l, xs, Hd, ds, es, ds', z, ex, hl, r, re, eg, q⟩ => by
  match es, re, eg with
  | [.int i, y], .cons hi (.cons hy .nil), eg =>
    simp only [gInsert] at eg
    by_cases hz : ds.length < sizeLine ∧ 0 ≤ i ∧ i < 2 ^ 63
    · rw [if_pos hz] at eg
      cases eg
      cases hi
      exact ⟨l, xs, i, _, ex, rfl, hl, by rw [r.length]; exact hz.1, hz.2.1, hz.2.2, q _ _ (((r.take _).append (.cons hy .nil)).append (r.drop _)) .non⟩
    · rw [if_neg hz] at eg; cases eg
end
section
variable {K : PySem.W.Frag} {W : St → XK}
/-! enumerate(l) -/
def enumD : Nat → List D → List D
  | _, [] => []
  | i, d :: ds => .tup [.int (i : Nat), d] :: enumD (i + 1) ds
theorem enumD_len : ∀ (ds : List D) (i : Nat), (enumD i ds).length = ds.length
  | [], _ => rfl
  | d :: ds, i => by simp [enumD, enumD_len ds (i + 1)]
theorem enumD_get : ∀ (ds : List D) (i j : Nat) (d : D), ds[j]? = some d → (enumD i ds)[j]? = some (.tup [.int ((i + j : Nat) : Int), d])
  | [], _, _, _, h => by simp at h
  | x :: ds, i, 0, d, h => by simp at h; subst h; simp [enumD]
  | x :: ds, i, j + 1, d, h => by
    have := enumD_get ds (i + 1) j d (by simpa using h)
    simp only [enumD, List.getElem?_cons_succ, this]
    congr 4
    omega
def gItE : D → Option (List D)
  | .lst ds => some (enumD 0 ds)
  | _ => none
theorem si_enum {te : TE} {fe : O.Env → Res RV} (he : Sd K W (rV K) te fe) : Si K W (L2.iEnum K (tCons te tNil)) (fWalk fe gItE) :=
  si_of (k := fun x H1 R => ∃ a xs, [x] = [V.ref a] ∧ SqL K H1 a xs ∧ R (L2.Ite K a) H1) he rfl fun C Hs fp Hd H σ ρ d ds v I hr eg R p => by
    cases d with
    | lst es =>
      cases eg
      obtain ⟨a, xs, rfl, hl, h⟩ := rWk_rd hr
      refine ⟨a, xs, rfl, .inl (h _ _ _ _ _ I (.refl _)).1, p _ ?_⟩
      unfold WalkD
      rw [enumD_len, ← hl]
      exact L2.walk_enum.mono (fun H' ⟨fp', Hd', σ', ρ', I', l'⟩ => .inl (h _ _ _ _ _ I' l').1) fun i H' x H'' hi ⟨fp', Hd', σ', ρ', I', l'⟩ ⟨T, x1, y1, e0, hT, e1, e2, e3⟩ => by
        subst e0 e1
        cases e2
        obtain ⟨d, hd, _⟩ := (h _ _ _ _ _ I' l').2.get' e3
        have hi0 : (enumD 0 es)[i]? = some (.tup [.int (i : Nat), d]) := by have := enumD_get es 0 i d hd; rw [Nat.zero_add] at this; exact this
        refine ⟨_, hi0, fun fp3 Hd3 σ3 ρ3 I3 l3 => ?_⟩
        obtain ⟨d', hd', r'⟩ := (h _ _ _ _ _ I3 l3).2.get' e3
        rw [hd] at hd'
        cases hd'
        exact newR_tup I3.le hT (.cons (.int _) (.cons r' .nil))
    | _ => cases eg
/-! k in d -/
def gDIn : D → D → Option RV
  | k, .dic kvs => (keyD k).map fun q => .val (.bl (getD kvs q).isSome)
  | k, .dlk kvs => (keyD k).map fun q => .val (.bl (getD kvs q).isSome)
  | _, _ => none
def rDI : R2 := fun y x H Q => ∃ a o, x = .ref a ∧ L2.DGet H a y o ∧ Q (.bl o.isSome) H
theorem rDI_of : ∀ x y H Q, rG K gDIn x y H Q → rDI x y H Q := fun x y H Q ⟨Hd, d1, d2, z, l, t1, t2, eg, q⟩ => by
  have go : ∀ {kvs : List (L2.Key × D)} {a : Addr} {kws : List (L2.Key × V)}, y = .ref a → Rd H a (.dK kws) → Repk K Hd kvs kws → ((keyD d1).map fun q => RV.val (.bl (getD kvs q).isSome)) = some z → rDI x y H Q := fun {kvs a kws} e h1 r1 eg => by
    cases ek : keyD d1 with
    | none => rw [ek] at eg; cases eg
    | some k =>
      rw [ek] at eg
      cases eg
      have q : ∀ (v : V) (H' : Hp), NewR K Hd H (.val (.bl (getD kvs k).isSome)) v H' → Q v H' := q
      rcases r1.get (k := k) with ⟨q1, q2⟩ | ⟨d, v, q1, q2, q3⟩
      · exact ⟨a, none, e, .inl ⟨kws, k, h1, key_v t1 ek, q2.symm⟩, by rw [q1] at q; exact q _ _ (newR_here l (.bl _))⟩
      · exact ⟨a, some v, e, .inl ⟨kws, k, h1, key_v t1 ek, q2.symm⟩, by rw [q1] at q; exact q _ _ (newR_here l (.bl _))⟩
  cases d2 with
  | dic kvs =>
    obtain ⟨a, kws, e, h1, r1⟩ := t2.dicD l
    exact go e h1 r1 (by cases d1 <;> exact eg)
  | dlk kvs =>
    obtain ⟨a, o, kws, e, h1, r1⟩ := t2.dlkD l
    exact go e (.inr ⟨o, h1⟩) r1 (by cases d1 <;> exact eg)
  | _ => cases d1 <;> cases eg
theorem sd_din {ta tb : TE} {fa fb : O.Env → Res RV} (ha : Sd K W (rV K) ta fa) (hb : Sd K W (rV K) tb fb) : Sd K W (rV K) (L2.tDIn ta tb) (f2 fa fb gDIn) := sd_op2' rDI_of ha hb
end
section
variable {X : Cx} {W : St → XK} {a b e o : Expr} {es : List Expr} {pos p tpos : Pos} {ta tb te : TE} {fa fb fe : O.Env → Res RV} {t : TA} {f : O.Env → Res (List RV)}
theorem jneg {K : PySem.W.Frag} (ha : JE X W a ta fa) (hK : X.K = K := by rfl) : JE X W (.UnaryOp .USub a pos) (tUn (rG1 K gNeg) ta) (f1 fa gNeg) := by
  subst hK
  exact ⟨L2.pe_un un_gNeg ha.pe, sd_op1 ha.se⟩
theorem jenum {elts : List Expr} {kk : Nat} {K : PySem.W.Frag} (hm : X.mg "enumerate" = none) (ha : JE X W e te fe) (hg : Gl X "enumerate" := by rfl) (hs : starEach [e] X.env = [(false, eval e X.env)] := by rfl) (hs2 : starEach [e] X.env = (false, eval e X.env) :: starEach [] X.env := by rfl) (hK : X.K = K := by rfl) :
    JI X W (.Tuple elts kk tpos) (.Call (.Name "enumerate" p) [e] [] pos) (L2.iEnum K (tCons te tNil)) (fWalk fe gItE) := by
  subst hK
  exact ⟨L2.pi_enum hg hm (L2.pa_cons ha.pe L2.pa_nil hs2) hs, si_enum ha.se⟩
theorem jdin (hu : X.A.units + 64 < cLine) (ha : JE X W a ta fa) (hb : JE X W b tb fb) (hm : behindInMarks .In b = false := by rfl) : JE X W (.Compare a [.In] [b] pos) (L2.tDIn ta tb) (f2 fa fb gDIn) :=
  ⟨L2.pe_cmp (L2.pc_din (by omega) ha.pe hb.pe) hm, sd_din ha.se hb.se⟩
end
end O

/-! Own18: bools subtracted; tuples of ints compared -/
namespace O
open PySem
open L2 (V Hp HO Rd SqL SqT upd upd_same upd_ne ne_of ne_of_none TE TT TA TS TG TGs TI TO It VK XK Ends St PE PT PW PA PS PSs PG PGs PI PO PTs Cx OpR UnR CallR IxR SlR MtR R2 tOp tUn tVar tC tCons tNil tTup tLst tTest tB tAnd tOr tNot tAndV tOrV tNotV tIf tCB Sp FnOk Gl Vis Loc Room)
section
variable {X : Cx}
def nB (b : Bool) : Int := if b then 1 else 0
/-- - of ints, of bools -/
def gSubX : D → D → Option RV
  | .bl a, .bl b => some (.val (.int (nB a - nB b)))
  | d, e => gSub d e
theorem subX_cases (d e : D) : (∃ a b, d = .bl a ∧ e = .bl b) ∨ gSubX d e = gSub d e := by
  cases d <;> cases e <;> first | exact .inl ⟨_, _, rfl, rfl⟩ | exact .inr rfl
theorem op_gSubX : OpR X (binaryOp .Sub) (rG X.K gSubX) := by
  intro pins s σ H x y v u Q I rx ry ⟨Hd, d1, d2, z, l, t1, t2, eg, q⟩
  rcases subX_cases d1 d2 with ⟨a, b, rfl, rfl⟩ | h
  · cases eg
    have e1 := t1.blD
    have e2 := t2.blD
    subst e1 e2
    have f1 : v = Value.bool a := rx
    have f2 : u = Value.bool b := ry
    subst f1 f2
    refine PyProof.Rows.sub_bool (?_)
    exact ⟨.int (nB a - nB b), H, I.tok _, ⟨_, rfl⟩, q _ _ (newR_here l (.int _))⟩
  · rw [h] at eg
    exact op_gSub pins s σ H x y v u Q I rx ry ⟨Hd, d1, d2, z, l, t1, t2, eg, q⟩
/-! tuples of ints -/
def gLtT : D → D → Option RV
  | .tup ds, .tup es => match intsD ds, intsD es with
    | some ns, some ms => some (.val (.bl (HT.lexLt ns ms)))
    | _, _ => none
  | d, e => gLt d e
theorem intsT {Hd H : Hp} {K : PySem.W.Frag} {ds : List D} {x : V} {ns : List Int} (l : Le Hd H) (t : Top K Hd H (.tup ds) x) (e : intsD ds = some ns) : ∃ a, x = .ref a ∧ SqT K H a (ns.map V.int) := by
  obtain ⟨a, vs, rfl, h, r⟩ := t.tupD l
  rw [intsD_ok r e] at h
  exact ⟨a, rfl, h⟩
theorem op_gLtT (hu : X.A.units + 64 < cLine) : OpR X (compareOp .Lt) (rG X.K gLtT) := by
  intro pins s σ H x y v u Q I rx ry ⟨Hd, d1, d2, z, l, t1, t2, eg, q⟩
  by_cases h : ∃ ds es, d1 = .tup ds ∧ d2 = .tup es
  · obtain ⟨ds, es, rfl, rfl⟩ := h
    simp only [gLtT] at eg
    cases e1 : intsD ds with
    | none => rw [e1] at eg; cases eg
    | some ns =>
      cases e2 : intsD es with
      | none => rw [e1, e2] at eg; cases eg
      | some ms =>
        rw [e1, e2] at eg
        cases eg
        obtain ⟨a, rfl, h1⟩ := intsT l t1 e1
        obtain ⟨b, rfl, h2⟩ := intsT l t2 e2
        exact L2.op_ltT (by omega) pins s σ H _ _ v u Q I rx ry ⟨a, b, ns, ms, rfl, rfl, h1, h2, q _ _ (newR_here l (.bl _))⟩
  · have e : gLtT d1 d2 = gLt d1 d2 := by
      cases d1 <;> first | rfl | (cases d2 <;> first | rfl | exact absurd ⟨_, _, rfl, rfl⟩ h)
    rw [e] at eg
    exact op_gLt pins s σ H x y v u Q I rx ry ⟨Hd, d1, d2, z, l, t1, t2, eg, q⟩
/-- what tuple comparison goes through is the other's lexical order -/
theorem lex_gt : ∀ (ns ms : List Int), Ob.lexAt (fun j => decide (ns.getD j 0 = ms.getD j 0)) (fun j => decide (ms.getD j 0 < ns.getD j 0)) (decide (ns.length > ms.length)) 0 (min ns.length ms.length) = HT.lexLt ms ns := by
  have shift : ∀ (e r : Nat → Bool) (z : Bool) (k i : Nat), Ob.lexAt e r z (i + 1) k = Ob.lexAt (fun j => e (j + 1)) (fun j => r (j + 1)) z i k := by
    intro e r z k
    induction k with
    | zero => intro i; rfl
    | succ k ih =>
      intro i
      rw [Ob.lexAt_succ, Ob.lexAt_succ, ih (i + 1)]
  intro ns
  induction ns with
  | nil =>
    intro ms
    cases ms with
    | nil => rfl
    | cons m ms => rfl
  | cons n ns ih =>
    intro ms
    cases ms with
    | nil => simp [Ob.lexAt_zero, HT.lexLt]
    | cons m ms =>
      have e0 : min (n :: ns).length (m :: ms).length = min ns.length ms.length + 1 := by simp only [List.length_cons]; omega
      rw [e0, Ob.lexAt_succ, shift]
      have h := ih ms
      simp only [List.getD_cons_zero, List.getD_cons_succ, List.length_cons, HT.lexLt_cons]
      have h' : (decide (ns.length + 1 > ms.length + 1)) = decide (ns.length > ms.length) := by
        by_cases q : ns.length > ms.length
        · rw [decide_eq_true q, decide_eq_true (by omega)]
        · rw [decide_eq_false q, decide_eq_false (by omega)]
      rw [h', h]
      by_cases q : n = m
      · subst q; simp
      · have q' : ¬ m = n := fun e => q e.symm
        simp [q, q']
def gGtT : D → D → Option RV
  | .tup ds, .tup es => match intsD ds, intsD es with
    | some ns, some ms => some (.val (.bl (HT.lexLt ms ns)))
    | _, _ => none
  | d, e => gGt d e
theorem op_gGtT (hu : X.A.units + 64 < cLine) : OpR X (compareOp .Gt) (rG X.K gGtT) := by
  intro pins s σ H x y v u Q I rx ry ⟨Hd, d1, d2, z, l, t1, t2, eg, q⟩
  by_cases h : ∃ ds es, d1 = .tup ds ∧ d2 = .tup es
  · obtain ⟨ds, es, rfl, rfl⟩ := h
    simp only [gGtT] at eg
    cases f1 : intsD ds with
    | none => rw [f1] at eg; cases eg
    | some ns =>
      cases f2 : intsD es with
      | none => rw [f1, f2] at eg; cases eg
      | some ms =>
        rw [f1, f2] at eg
        cases eg
        obtain ⟨a, rfl, h1⟩ := intsT l t1 f1
        obtain ⟨b, rfl, h2⟩ := intsT l t2 f2
        have ev : v = Value.ref a := rx
        have eu : u = Value.ref b := ry
        subst ev eu
        obtain ⟨its, r1, p1, _⟩ := I.tuple h1
        obtain ⟨jts, r2, p2, _⟩ := I.tuple h2
        have i1 : PyProof.Rows.IntsAre its ns := L2.Vals.ints r1
        have i2 : PyProof.Rows.IntsAre jts ms := L2.Vals.ints r2
        have n1 : its.toArray.size = ns.length := by rw [List.size_toArray]; exact i1.length
        have n2 : jts.toArray.size = ms.length := by rw [List.size_toArray]; exact i2.length
        have g1 : ∀ j (hj : j < its.toArray.size), ∃ t, its.toArray[j] = .int (ns.getD j 0) t := fun j hj => i1.int_at _ _ (by simpa using hj)
        have g2 : ∀ j (hj : j < jts.toArray.size), ∃ t, jts.toArray[j] = .int (ms.getD j 0) t := fun j hj => i2.int_at _ _ (by simpa using hj)
        have R := Ob.RcOp.tuples_gt (A := X.A) (s := s) (e := fun j => decide (ns.getD j 0 = ms.getD j 0)) (r := fun j => decide (ms.getD j 0 < ns.getD j 0)) p1 p2 (by omega)
          (fun j k1 k2 => by
            obtain ⟨t, w1⟩ := g1 j k1
            obtain ⟨t', w2⟩ := g2 j k2
            rw [w1, w2]
            have same : decide (ns.getD j 0 = ms.getD j 0) = (ns.getD j 0 == ms.getD j 0) := by
              generalize ns.getD j 0 = n0
              generalize ms.getD j 0 = m0
              by_cases c : n0 = m0 <;> simp [c]
            show SeqAt.EqAt _ _ _ _ (decide (ns.getD j 0 = ms.getD j 0))
            rw [same]
            exact SeqAt.EqAt.int_int _ _ _ _)
          (fun j k1 k2 _ => by
            obtain ⟨t, w1⟩ := g1 j k1
            obtain ⟨t', w2⟩ := g2 j k2
            rw [w1, w2]
            exact Ob.RcOp.gt_int _ _ _ _)
        rw [n1, n2, lex_gt] at R
        have done : wpAny (model X.prog X.w) X.A (compareOp .Gt (.ref a) (.ref b)) (L2.EP X pins σ Q) X.xe s := R X.prog X.w X.xe (L2.EP X pins σ Q) ⟨.bl _, H, I, rfl, q _ _ (newR_here l (.bl _))⟩
        exact done
  · have e : gGtT d1 d2 = gGt d1 d2 := by
      cases d1 <;> first | rfl | (cases d2 <;> first | rfl | exact absurd ⟨_, _, rfl, rfl⟩ h)
    rw [e] at eg
    exact op_gGt pins s σ H x y v u Q I rx ry ⟨Hd, d1, d2, z, l, t1, t2, eg, q⟩
end
end O

/-! Own19: or, and of any values; how many different ints; list(range); pop(i), insert on a name -/
namespace O
open PySem
open L2 (V Hp HO Rd SqL SqT upd upd_same upd_ne ne_of ne_of_none TE TT TA TS TG TGs TI TO It VK XK Ends St PE PT PW PA PS PSs PG PGs PI PO PTs Cx OpR UnR CallR IxR SlR MtR R2 tOp tUn tVar tC tCons tNil tTup tLst tTest tB tAnd tOr tNot tAndV tOrV tNotV tIf tCB Sp FnOk Gl Vis Loc Room)
section
variable {K : PySem.W.Frag} {W : St → XK}
def fOrT (fa fb : O.Env → Res RV) : O.Env → Res RV := fun ρ => (fa ρ).bind fun r ρ1 => match (rd r ρ1).bind truD with
  | some true => .ok r ρ1
  | some false => fb ρ1
  | none => .no
def fAndT (fa fb : O.Env → Res RV) : O.Env → Res RV := fun ρ => (fa ρ).bind fun r ρ1 => match (rd r ρ1).bind truD with
  | some true => fb ρ1
  | some false => .ok r ρ1
  | none => .no
theorem tru_of {C : Cn} {Hs : Hp} {fp : Fp} {Hd H : Hp} {σ : St} {ρ : O.Env} {r : RV} {v : V} {b : Bool} (I : Inv K C fp Hd H σ ρ) (h : (rV K).r C Hs fp Hd H σ r v) (e : (rd r ρ).bind truD = some b) : L2.TruV K v H b := by
  cases e1 : rd r ρ with
  | none => rw [e1] at e; cases e
  | some d =>
    rw [e1] at e
    exact truV_of I.le (I.rdTop (rV_loose h) e1) e
theorem sd_orT {ta tb : TE} {fa fb : O.Env → Res RV} (ha : Sd K W (rV K) ta fa) (hb : Sd K W (rV K) tb fb) : Sd K W (rV K) (L2.tOrT K ta tb) (fOrT fa fb) := by
  intro C fp Hd H σ ρ I Q p
  refine ha C fp Hd H σ ρ I _ ?_
  unfold fOrT at p
  cases e : fa ρ with
  | no => rw [e] at p; exact p
  | ex c ρ1 => rw [e] at p; exact p
  | ok r ρ1 =>
    rw [e] at p
    intro v fp1 Hd1 H1 s1 I1 hr
    have p : Post K W C (rV K) fp Hd H σ (match (rd r ρ1).bind truD with | some true => Res.ok r ρ1 | some false => fb ρ1 | none => .no) Q := p
    cases et : (rd r ρ1).bind truD with
    | none => rw [et] at p; exact p.elim
    | some b =>
      rw [et] at p
      refine ⟨b, tru_of I1 hr et, ?_⟩
      cases b with
      | true => exact p v fp1 Hd1 H1 s1 I1 hr
      | false => exact hb C fp1 Hd1 H1 σ ρ1 I1 Q (Post.stp s1 p)
theorem sd_andT {ta tb : TE} {fa fb : O.Env → Res RV} (ha : Sd K W (rV K) ta fa) (hb : Sd K W (rV K) tb fb) : Sd K W (rV K) (L2.tAndT K ta tb) (fAndT fa fb) := by
  intro C fp Hd H σ ρ I Q p
  refine ha C fp Hd H σ ρ I _ ?_
  unfold fAndT at p
  cases e : fa ρ with
  | no => rw [e] at p; exact p
  | ex c ρ1 => rw [e] at p; exact p
  | ok r ρ1 =>
    rw [e] at p
    intro v fp1 Hd1 H1 s1 I1 hr
    have p : Post K W C (rV K) fp Hd H σ (match (rd r ρ1).bind truD with | some true => fb ρ1 | some false => Res.ok r ρ1 | none => .no) Q := p
    cases et : (rd r ρ1).bind truD with
    | none => rw [et] at p; exact p.elim
    | some b =>
      rw [et] at p
      refine ⟨b, tru_of I1 hr et, ?_⟩
      cases b with
      | true => exact hb C fp1 Hd1 H1 σ ρ1 I1 Q (Post.stp s1 p)
      | false => exact p v fp1 Hd1 H1 s1 I1 hr
end
/-! ### how many different ints -/
def nubI : List Int → List Int
  | [] => []
  | n :: ns => if n ∈ nubI ns then nubI ns else n :: nubI ns
theorem nubI_mem {z : Int} : ∀ {ns : List Int}, z ∈ nubI ns ↔ z ∈ ns
  | [] => by simp [nubI]
  | n :: ns => by
    have ih := nubI_mem (z := z) (ns := ns)
    unfold nubI
    by_cases h : n ∈ nubI ns
    · rw [if_pos h, ih, List.mem_cons]
      constructor
      · exact .inr
      · rintro (q | q)
        · subst q; exact ih.mp h
        · exact q
    · rw [if_neg h, List.mem_cons, List.mem_cons, ih]
theorem nubI_nodup : ∀ ns : List Int, (nubI ns).Nodup
  | [] => by simp [nubI]
  | n :: ns => by
    unfold nubI
    by_cases h : n ∈ nubI ns
    · rw [if_pos h]; exact nubI_nodup ns
    · rw [if_neg h]; exact List.nodup_cons.mpr ⟨h, nubI_nodup ns⟩
section
variable {X : Cx} {a : Expr} {ta : TE} {pos p p2 q : Pos}
def tLsU (K : PySem.W.Frag) (ta : TE) : TE := fun σ H Q => ta σ H fun x H1 => ∃ (l : Addr) (ns : List Int), x = V.ref l ∧ L2.SqT K H1 l (ns.map V.int) ∧ ns.length < 4000 ∧ Q (.int ((nubI ns).length : Nat)) H1
theorem pe_lsU (hc : X.calm = true) (hm : X.mg "len" = none) (hm2 : X.mg "set" = none) (ha : PE X a ta) (hg : Gl X "len" := by rfl) (hg2 : Gl X "set" := by rfl)
    (na : starEach [a] X.env = (false, eval a X.env) :: starEach [] X.env := by rfl) : PE X (.Call (.Name "len" p) [.Call (.Name "set" p2) [a] [] q] [] pos) (tLsU X.K ta) := by
  refine ⟨fun pins s σ H Q I hw => ?_⟩
  refine PyProof.Rows.Call_ (L2.ld_blt I hg hm PySem.boot_len ?_)
  refine PyProof.Rows.callWith_builtin1 (PyProof.Rows.args_cons (?_) rfl) rfl rfl
  refine PyProof.Rows.Call_ (L2.ld_blt I hg2 hm2 PyProof.Rows.boot_set ?_)
  refine PyProof.Rows.callWith_type1 (PyProof.Rows.args_cons (L2.thn (ha.run pins s σ H _ I hw) fun v s1 ⟨x, H1, I1, r1, q1⟩ => (PyProof.Rows.args_nil ?_)) na) na rfl
  obtain ⟨l, ns, rfl, hq, hlen, q1⟩ := q1
  cases r1
  obtain ⟨its, r, pt, hz⟩ := I1.tuple hq
  have hi : PyProof.Rows.IntsAre its.toArray.toList ns := by simpa using L2.ints_of_vals r
  have hd := I1.ok.hd hc
  refine L2.call_set_tupI ns hd (show s1.heap.IsTuple l its.toArray from pt) hi (by unfold scanBound; omega) fun h' tk c R1 hcn k => (?_)
  obtain ⟨o, es, ep, t, ho, hex, hdt, g, nd, hm3, hb, hf, hn, _⟩ := R1
  refine PyProof.Rows.args_nil (?_)
  have I2 : L2.Inv X pins σ H1 { s1 with heap := h', toks := tk } := I1.kept fun b o e => k b o e
  have hp : (es.toList.map L2.keyOf).Perm (nubI ns) := by
    refine (List.perm_ext_iff_of_nodup nd (nubI_nodup ns)).mpr fun z => ?_
    have := hm3 z
    simp only [decide_eq_true_eq] at this
    rw [nubI_mem]
    exact this.symm
  have he : es.size = (nubI ns).length := by
    have := hp.length_eq
    rw [List.length_map, Array.length_toList] at this
    exact this
  exact PySem.call_len_set ho hex hdt hf (by omega) ⟨.int (nubI ns).length, H1, I2.tok _, ⟨_, by rw [he]⟩, q1⟩
end
section
variable {K : PySem.W.Frag} {W : St → XK}
def gLenSetU : D → Option RV
  | .tup ds => match intsD ds with
    | some ns => if ns.length < 4000 then some (.val (.int ((nubI ns).length : Nat))) else none
    | none => none
  | _ => none
theorem sd_lsU {ta : TE} {fa : O.Env → Res RV} (ha : Sd K W (rV K) ta fa) : Sd K W (rV K) (tLsU K ta) (f1 fa gLenSetU) := fun C fp Hd H σ ρ I Q p =>
  ha.run I p fun r1 v1 fp0 Hd0 H0 ρ0 s0 I0 h1 p => by
    have h1 := rV_loose h1
    cases e1 : rd r1 ρ0 with
    | none => simp only [e1] at p; exact p.elim
    | some d1 =>
      simp only [e1] at p
      have t := I0.rdTop h1 e1
      cases d1 with
      | tup ds =>
        simp only [gLenSetU] at p
        cases e2 : intsD ds with
        | none => simp only [e2] at p; exact p.elim
        | some ns =>
          simp only [e2] at p
          by_cases hh : ns.length < 4000
          · rw [if_pos hh] at p
            obtain ⟨b, xs, rfl, hq, r⟩ := t.tupD I0.le
            have ey := intsD_ok r e2
            subst ey
            exact ⟨b, ns, rfl, hq, hh, p.new I0 (newR_here I0.le (.int _))⟩
          · rw [if_neg hh] at p; exact p.elim
      | _ => exact p.elim
end
section
variable {X : Cx} {W : St → XK} {a b : Expr} {es : List Expr} {pos p p2 : Pos} {ta tb : TE} {fa fb : O.Env → Res RV} {t : TA} {f : O.Env → Res (List RV)}
theorem jorT {rest : List Expr} {K : PySem.W.Frag} (ha : JE X W a ta fa) (hb : JE X W (.BoolOp .Or (b :: rest) pos) tb fb) (hK : X.K = K := by rfl) : JE X W (.BoolOp .Or (a :: b :: rest) pos) (L2.tOrT K ta tb) (fOrT fa fb) := by
  subst hK
  exact ⟨L2.pe_orT ha.pe hb.pe, sd_orT ha.se hb.se⟩
theorem jandT {rest : List Expr} {K : PySem.W.Frag} (ha : JE X W a ta fa) (hb : JE X W (.BoolOp .And (b :: rest) pos) tb fb) (hK : X.K = K := by rfl) : JE X W (.BoolOp .And (a :: b :: rest) pos) (L2.tAndT K ta tb) (fAndT fa fb) := by
  subst hK
  exact ⟨L2.pe_andT ha.pe hb.pe, sd_andT ha.se hb.se⟩
theorem jlsU {q : Pos} {K : PySem.W.Frag} (hc : X.calm = true) (hm : X.mg "len" = none) (hm2 : X.mg "set" = none) (ha : JE X W a ta fa) (hg : Gl X "len" := by rfl) (hg2 : Gl X "set" := by rfl)
    (na : starEach [a] X.env = (false, eval a X.env) :: starEach [] X.env := by rfl) (hK : X.K = K := by rfl) : JE X W (.Call (.Name "len" p) [.Call (.Name "set" p2) [a] [] q] [] pos) (tLsU K ta) (f1 fa gLenSetU) := by
  subst hK
  exact ⟨pe_lsU hc hm hm2 ha.pe hg hg2 na, sd_lsU ha.se⟩
/-- pop(i), insert(i, y) on a name -/
theorem jpopAt {n : Nat} {apos : Pos} {x : Str} {K : PySem.W.Frag} (ho : JE X W (.Name x p) (tVar n) (fVar n)) (ha : JA X W [a] t f) (hbase : attributeBase (.Name x p) "pop" X.env (eval (.Name x p) X.env) = eval (.Name x p) X.env := by rfl)
    (hfew : ((backTo pos (starEach [a] X.env)).all (fun z => !z.1) && (backToKw pos (keywordEach [] X.env)).all (fun z => z.1.isSome) && decide ([a].length + ([] : List Keyword).length + (if ([] : List Keyword).isEmpty then 0 else 1) < 30)) = true := by rfl)
    (hline : (apos.endLine == pos.line) = true := by rfl) (hs : starEach [a] X.env = (false, eval a X.env) :: starEach [] X.env := by rfl) (hplain : (backTo pos (starEach [] X.env)).any (·.1) = false := by rfl) (hK : X.K = K := by rfl) :
    JE X W (.Call (.Attribute (.Name x p) "pop" apos) [a] [] pos) (L2.tBM K "list" (rGMut K gPopAt) (tVar n) t) (fMutL n f gPopAt) := by
  subst hK
  exact ⟨L2.pe_bm PySem.F.plainAttrs_list PySem.F.slot_list_pop PySem.F.type_list_pop mt_gPopAt ho.pe ha.pa hbase hfew hline hs hplain, sd_mut ha.sa⟩
theorem jinsert {n : Nat} {apos : Pos} {x : Str} {K : PySem.W.Frag} (ho : JE X W (.Name x p) (tVar n) (fVar n)) (ha : JA X W [a, b] t f) (hbase : attributeBase (.Name x p) "insert" X.env (eval (.Name x p) X.env) = eval (.Name x p) X.env := by rfl)
    (hfew : ((backTo pos (starEach [a, b] X.env)).all (fun z => !z.1) && (backToKw pos (keywordEach [] X.env)).all (fun z => z.1.isSome) && decide ([a, b].length + ([] : List Keyword).length + (if ([] : List Keyword).isEmpty then 0 else 1) < 30)) = true := by rfl)
    (hline : (apos.endLine == pos.line) = true := by rfl) (hs : starEach [a, b] X.env = (false, eval a X.env) :: starEach [b] X.env := by rfl) (hplain : (backTo pos (starEach [b] X.env)).any (·.1) = false := by rfl) (hK : X.K = K := by rfl) :
    JE X W (.Call (.Attribute (.Name x p) "insert" apos) [a, b] [] pos) (L2.tBM K "list" (rGMut K gInsert) (tVar n) t) (fMutL n f gInsert) := by
  subst hK
  exact ⟨L2.pe_bm PySem.F.plainAttrs_list PySem.F.slot_list_insert PySem.F.type_list_insert mt_gInsert ho.pe ha.pa hbase hfew hline hs hplain, sd_mut ha.sa⟩
end
end O

/-! Own20: repr of dicts (and of tuples with dicts in them; no list beside a dict) -/
namespace O
open PySem
open L2 (V Hp HO Rd SqL SqT VK XK St TE TA Cx Sp FnOk Room Vals RelV OpR CallR)
def kD : L2.Key → PyData
  | .inl i => .int i
  | .inr x => .str x
mutual
def toPyR : D → Option PyData
  | .non => some .none
  | .bl b => some (.bool b)
  | .int i => some (.int i)
  | .str x => some (.str x)
  | .tup ds => (toPyRs ds).map .tuple
  | .lst ds => (toPyRs ds).map .list
  | .dic kvs => (toPyRk kvs).map .dict
  | .dlk kvs => (toPyRk kvs).map .dict
  | .scr _ => none
  | .set _ => none
def toPyRs : List D → Option (List PyData)
  | [] => some []
  | d :: ds => match toPyR d, toPyRs ds with
    | some p, some ps => some (p :: ps)
    | _, _ => none
def toPyRk : List (L2.Key × D) → Option (List (PyData × PyData))
  | [] => some []
  | (k, d) :: ds => match toPyR d, toPyRk ds with
    | some p, some ps => some ((kD k, p) :: ps)
    | _, _ => none
end
mutual
def noL : PyData → Bool
  | .list _ => false
  | .tuple xs => noLs xs
  | .dict kvs => noLk kvs
  | .none => true
  | .bool _ => true
  | .int _ => true
  | .str _ => true
def noLs : List PyData → Bool
  | [] => true
  | x :: xs => noL x && noLs xs
def noLk : List (PyData × PyData) → Bool
  | [] => true
  | (_, x) :: xs => noL x && noLk xs
end
section
variable {X : Cx} {pins : List (Addr × Obj)} {σ : St} {H : Hp} {s : Shared}
theorem key_reads {h : Heap} {k : L2.Key} {u : Value} (z : L2.keyIs k u = true) : Reads h u (kD k) [] := by
  rcases L2.keyIs_shape z with ⟨i, t, rfl, rfl⟩ | ⟨x, t, rfl, rfl⟩
  · exact .int i t
  · exact .str x t
theorem keys_reads (h : Heap) {P : Program} {w : World} {es : List DictEntry} {kvs : List (L2.Key × Value)} (r : Pairs (L2.mixKind P w) es kvs) : ReadsAll h (es.map (·.key)) (kvs.map fun kv => kD kv.1) [] := by
  induction r with
  | nil => exact .nil
  | cons k _ _ ih =>
    have a := key_reads (h := h) k
    have c := ReadsAll.cons a ih
    exact c
theorem vals_of_pairs {P : Program} {w : World} : ∀ {es : List DictEntry} {kvs : List (L2.Key × Value)}, Pairs (L2.mixKind P w) es kvs → es.map (·.val) = kvs.map (·.2)
  | _, _, .nil => rfl
  | _, _, .cons _ h r => by rw [List.map_cons, List.map_cons, h, vals_of_pairs r]
mutual
theorem Rep.reads (I : L2.Inv X pins σ H s) : ∀ {d : D} {v : V} {u : Value} {p : PyData}, Rep X.K H d v → RelV v u → toPyR d = some p → ∃ as, Reads s.heap u p as ∧ (noL p = true → sysModules ∉ as)
  | _, _, _, _, .non, r, e => by simp only [toPyR, Option.some.injEq] at e; subst e; cases r; exact ⟨[], .none, fun _ => by simp⟩
  | _, _, _, _, .bl b, r, e => by simp only [toPyR, Option.some.injEq] at e; subst e; cases r; exact ⟨[], .bool b, fun _ => by simp⟩
  | _, _, _, _, .int i, r, e => by simp only [toPyR, Option.some.injEq] at e; subst e; obtain ⟨t, rfl⟩ := r; exact ⟨[], .int i t, fun _ => by simp⟩
  | _, _, _, _, .str x, r, e => by simp only [toPyR, Option.some.injEq] at e; subst e; obtain ⟨t, rfl⟩ := r; exact ⟨[], .str x t, fun _ => by simp⟩
  | _, _, _, _, .scr _, _, e => by simp [toPyR] at e
  | _, _, _, _, .tup (ds := ds) h q, r, e => by
    simp only [toPyR] at e
    cases e1 : toPyRs ds with
    | none => rw [e1] at e; cases e
    | some ps =>
      rw [e1] at e
      cases e
      cases r
      obtain ⟨its, rv, ⟨o, ho, hc, n, hd⟩, _⟩ := I.tuple h
      obtain ⟨as, ra, no⟩ := Reps.reads I q rv e1
      exact ⟨as, .tuple ho hc hd ra, fun z => no (by simpa [noL] using z)⟩
  | _, _, _, _, .lst (ds := ds) h q, r, e => by
    simp only [toPyR] at e
    cases e1 : toPyRs ds with
    | none => rw [e1] at e; cases e
    | some ps =>
      rw [e1] at e
      cases e
      cases r
      obtain ⟨its, rv, ⟨o, n, ho, hc, _, hd⟩, _⟩ := I.list (.inl h)
      obtain ⟨as, ra, no⟩ := Reps.reads I q rv e1
      exact ⟨_, .list ho hc hd ra, fun z => by simp [noL] at z⟩
  | _, _, _, _, .dic (kvs := kvs) h q, r, e => by
    simp only [toPyR] at e
    cases e1 : toPyRk kvs with
    | none => rw [e1] at e; cases e
    | some ps =>
      rw [e1] at e
      cases e
      cases r
      obtain ⟨hz, hsys, ws, kvw, o, es, ep, ho, hex, hd, _, prs, _⟩ := h.ok I.hok
      obtain ⟨bs, e2, e3, no⟩ := Repk.reads I q kvw e1
      have k1 : ReadsAll s.heap (es.toList.map (·.key)) (ps.map (·.1)) [] := by rw [e2]; exact keys_reads _ prs
      have k2 : ReadsAll s.heap (es.toList.map (·.val)) (ps.map (·.2)) bs := by rw [vals_of_pairs prs]; exact e3
      refine ⟨_, .dict ho hex.1 hd k1 k2, fun z => ?_⟩
      have z : noLk ps = true := by simpa [noL] using z
      have := no z
      intro hm
      simp only [List.append_nil, List.mem_append, List.mem_singleton, List.cons_append, List.nil_append, List.mem_cons] at hm
      rcases hm with q | q
      · rw [← q] at hsys; simp at hsys
      · exact this q
  | _, _, _, _, .dlk (kvs := kvs) h q, r, e => by
    simp only [toPyR] at e
    cases e1 : toPyRk kvs with
    | none => rw [e1] at e; cases e
    | some ps =>
      rw [e1] at e
      cases e
      cases r
      obtain ⟨hz, hsys, ws, kvw, o, es, ep, ho, hex, hd, _, prs, _⟩ := (show Rd H _ _ from .inr ⟨_, h⟩).ok I.hok
      obtain ⟨bs, e2, e3, no⟩ := Repk.reads I q kvw e1
      have k1 : ReadsAll s.heap (es.toList.map (·.key)) (ps.map (·.1)) [] := by rw [e2]; exact keys_reads _ prs
      have k2 : ReadsAll s.heap (es.toList.map (·.val)) (ps.map (·.2)) bs := by rw [vals_of_pairs prs]; exact e3
      refine ⟨_, .dict ho hex.1 hd k1 k2, fun z => ?_⟩
      have z : noLk ps = true := by simpa [noL] using z
      have := no z
      intro hm
      simp only [List.append_nil, List.mem_append, List.mem_singleton, List.cons_append, List.nil_append, List.mem_cons] at hm
      rcases hm with q | q
      · rw [← q] at hsys; simp at hsys
      · exact this q
theorem Reps.reads (I : L2.Inv X pins σ H s) : ∀ {ds : List D} {vs : List V} {us : List Value} {ps : List PyData}, Reps X.K H ds vs → Vals vs us → toPyRs ds = some ps → ∃ as, ReadsAll s.heap us ps as ∧ (noLs ps = true → sysModules ∉ as)
  | _, _, _, _, .nil, r, e => by simp only [toPyRs, Option.some.injEq] at e; subst e; cases r; exact ⟨[], .nil, fun _ => by simp⟩
  | _, _, _, _, .cons (d := d) (ds := ds) h q, r, e => by
    simp only [toPyRs] at e
    cases e1 : toPyR d with
    | none => rw [e1] at e; cases e
    | some p =>
      cases e2 : toPyRs ds with
      | none => rw [e1, e2] at e; cases e
      | some ps =>
        rw [e1, e2] at e
        cases e
        cases r with
        | cons r1 r2 =>
          obtain ⟨as, a1, a2⟩ := Rep.reads I h r1 e1
          obtain ⟨bs, b1, b2⟩ := Reps.reads I q r2 e2
          refine ⟨_, .cons a1 b1, fun z => ?_⟩
          simp only [noLs, Bool.and_eq_true] at z
          simp only [List.mem_append, not_or]
          exact ⟨a2 z.1, b2 z.2⟩
theorem Repk.reads (I : L2.Inv X pins σ H s) : ∀ {kvs : List (L2.Key × D)} {kws : List (L2.Key × V)} {ws : List (L2.Key × Value)} {ps : List (PyData × PyData)}, Repk X.K H kvs kws → L2.KV kws ws → toPyRk kvs = some ps →
    ∃ as, ps.map (·.1) = ws.map (fun kv => kD kv.1) ∧ ReadsAll s.heap (ws.map (·.2)) (ps.map (·.2)) as ∧ (noLk ps = true → sysModules ∉ as)
  | _, _, _, _, .nil, r, e => by simp only [toPyRk, Option.some.injEq] at e; subst e; cases r; exact ⟨[], rfl, .nil, fun _ => by simp⟩
  | _, _, _, _, .cons (k := k) (d := d) (kvs := kvs) h q, r, e => by
    simp only [toPyRk] at e
    cases e1 : toPyR d with
    | none => rw [e1] at e; cases e
    | some p =>
      cases e2 : toPyRk kvs with
      | none => rw [e1, e2] at e; cases e
      | some ps =>
        rw [e1, e2] at e
        cases e
        cases r with
        | cons r1 r2 =>
          obtain ⟨ek, rv⟩ := r1
          obtain ⟨as, a1, a2⟩ := Rep.reads I h rv e1
          obtain ⟨bs, b0, b1, b2⟩ := Repk.reads I q r2 e2
          refine ⟨_, ?_, .cons a1 b1, fun z => ?_⟩
          · rw [List.map_cons, List.map_cons, b0, ← ek]
          · simp only [noLk, Bool.and_eq_true] at z
            simp only [List.mem_append, not_or]
            exact ⟨a2 z.1, b2 z.2⟩
end
/-- what may be shown: short enough, no list beside a dict -/
def canShowR (p : PyData) : Bool := p.showable && (noL p || !p.hasDict) && decide (p.depth ≤ 60) && decide (p.shown.length ≤ sizeLine)
def gReprR : List D → Option RV
  | [d] => match d with
    | .lst _ => (toPyR d).bind fun p => if canShowR p = true then some (.val (.str p.shown)) else none
    | .tup _ => (toPyR d).bind fun p => if canShowR p = true then some (.val (.str p.shown)) else none
    | .dic _ => (toPyR d).bind fun p => if canShowR p = true then some (.val (.str p.shown)) else none
    | .dlk _ => (toPyR d).bind fun p => if canShowR p = true then some (.val (.str p.shown)) else none
    | _ => none
  | _ => none
theorem cb_reprR (hu : X.A.units + 64 < cLine) (hg : X.A.guards = some []) : CallR X (.builtin "repr") (rGC X.K gReprR) := by
  intro pins s σ H xs us Q I rx ⟨Hd, ds, z, l, t, eg, q⟩
  have go : ∀ (d : D), ds = [d] → (∀ {v : V}, Top X.K Hd H d v → ∃ a, v = .ref a) → ((toPyR d).bind fun p => if canShowR p = true then some (.val (.str p.shown)) else none) = some z → wpAny (model X.prog X.w) X.A (call (.builtin "repr") us) (L2.EP X pins σ Q) X.xe s := fun d e0 href eh => by
    subst e0
    obtain ⟨x, e1, w⟩ := tops1 t
    subst e1
    obtain ⟨a, rfl⟩ := href w
    obtain ⟨u, rfl, ru⟩ : ∃ u, us = [u] ∧ RelV (.ref a) u := by
      cases rx with | cons r rr => cases rr; exact ⟨_, rfl, r⟩
    have hu' : u = Value.ref a := ru
    subst hu'
    cases e3 : toPyR d with
    | none => rw [e3] at eh; cases eh
    | some p =>
      rw [e3] at eh
      by_cases hc : canShowR p = true
      · simp only [Option.bind_some, if_pos hc] at eh
        cases eh
        obtain ⟨as, rd, no⟩ := Rep.reads I (w.all l) (u := .ref a) rfl e3
        unfold canShowR at hc
        simp only [Bool.and_eq_true, Bool.or_eq_true, decide_eq_true_eq, Bool.not_eq_true'] at hc
        obtain ⟨⟨⟨k1, k2⟩, k3⟩, k4⟩ := hc
        exact repr_of_reads' rd k1 (fun h => by rcases k2 with k2 | k2; exact no k2; rw [k2] at h; cases h) hg (by omega) (fun _ _ h => h) (fun h' u tk keep => ⟨.str p.shown, H, I.kept keep, ⟨_, rfl⟩, q _ _ (newR_here l (.str _))⟩) k4
      · simp only [Option.bind_some, if_neg hc] at eh; cases eh
  rcases ds with _ | ⟨d, _ | ⟨_, _⟩⟩
  · cases eg
  · cases d with
    | lst es => exact go _ rfl (fun w => by obtain ⟨a, _, e, _⟩ := w.lstD l; exact ⟨a, e⟩) eg
    | tup es => exact go _ rfl (fun w => by obtain ⟨a, _, e, _⟩ := w.tupD l; exact ⟨a, e⟩) eg
    | dic es => exact go _ rfl (fun w => by obtain ⟨a, _, e, _⟩ := w.dicD l; exact ⟨a, e⟩) eg
    | dlk es => exact go _ rfl (fun w => by obtain ⟨a, _, _, e, _⟩ := w.dlkD l; exact ⟨a, e⟩) eg
    | _ => cases eg
  · cases eg
end
end O

/-! Own21: list(range(..)), dict(list of pairs) -/
namespace O
open PySem
open L2 (V Hp HO Rd SqL SqT upd upd_same upd_ne ne_of ne_of_none TE TT TA TS TG TGs TI TO It VK XK Ends St PE PT PW PA PS PSs PG PGs PI PO PTs Cx OpR UnR CallR IxR SlR MtR R2 tOp tUn tVar tC tCons tNil tTup tLst tTest tB tAnd tOr tNot tAndV tOrV tNotV tIf tCB Sp FnOk Gl Vis Loc Room)
section
variable {K : PySem.W.Frag} {W : St → XK}
theorem rg_reps {H : Hp} (a b : Int) : Reps K H (rngD a (b - a).toNat) (L2.rgV a b) := by
  have go : ∀ l : List Nat, Reps K H (l.map fun i => D.int (a + (i : Nat))) (l.map fun i => V.int (a + (i : Nat))) := fun l => by
    induction l with
    | nil => exact .nil
    | cons n l ih => exact .cons (.int _) ih
  exact go _
def rRg2 : R2 := fun x y H Q => ∃ i j, x = .int i ∧ y = .int j ∧ L2.RgOk i j ∧ ∀ q, H q = none → Q (.ref q) (upd H q (.lst (L2.rgV i j)))
def gRg2 : D → D → Option RV
  | .int i, .int j => if -(2 ^ 62) ≤ i ∧ i < 2 ^ 62 ∧ -(2 ^ 62) ≤ j ∧ j < 2 ^ 62 ∧ (j - i).toNat ≤ 2 ^ 24 then some (.own (.lst (rngD i (j - i).toNat))) else none
  | _, _ => none
theorem rRg2_of : ∀ x y H Q, rG K gRg2 x y H Q → rRg2 x y H Q := fun x y H Q ⟨Hd, d1, d2, z, l, t1, t2, eg, q⟩ => by
  cases d1 with
  | int i => cases d2 with
    | int j =>
      simp only [gRg2] at eg
      by_cases h : -(2 ^ 62) ≤ i ∧ i < 2 ^ 62 ∧ -(2 ^ 62) ≤ j ∧ j < 2 ^ 62 ∧ (j - i).toNat ≤ 2 ^ 24
      · rw [if_pos h] at eg
        cases eg
        exact ⟨i, j, t1.intD, t2.intD, h, fun p hp => q _ _ (newR_lst l hp (rg_reps i j))⟩
      · rw [if_neg h] at eg; cases eg
    | _ => cases eg
  | _ => cases eg
theorem sd_listRg2 {ta tb : TE} {fa fb : O.Env → Res RV} (ha : Sd K W (rV K) ta fa) (hb : Sd K W (rV K) tb fb) : Sd K W (rV K) (L2.tLstRg (L2.tRg2 ta tb)) (f2 fa fb gRg2) := fun C fp Hd H σ ρ I Q p => by
  have h : tOp rRg2 ta tb σ H Q := sd_op2' rRg2_of ha hb C fp Hd H σ ρ I Q p
  have e : (L2.tLstRg (L2.tRg2 ta tb) σ H Q) = (ta σ H fun x H1 => tb σ H1 fun y H2 => ∃ i j, x = .int i ∧ y = .int j ∧ (L2.RgOk i j ∧ ∀ q, H2 q = none → Q (.ref q) (upd H2 q (.lst (L2.rgV i j))))) := rfl
  rw [e]
  exact h
/-! dict(pairs) -/
def pairsD : List D → Option (List (L2.Key × D))
  | [] => some []
  | .tup [k, v] :: ds => match keyD k, pairsD ds with
    | some q, some r => some ((q, v) :: r)
    | _, _ => none
  | _ :: _ => none
theorem pairs_ok {H0 : Hp} : ∀ {ds : List D} {vs : List V} {kvs : List (L2.Key × D)}, Reps K H0 ds vs → pairsD ds = some kvs → ∃ (ps : List Addr) (kws : List (L2.Key × V)), vs = ps.map V.ref ∧ Paired (fun p kv => SqT K H0 p [L2.kV kv.1, kv.2]) ps kws ∧ Repk K H0 kvs kws
  | _, _, _, .nil, e => by cases e; exact ⟨[], [], rfl, .nil, .nil⟩
  | _, _, _, .cons (d := d) (ds := ds) h r, e => by
    cases d with
    | tup xs =>
      match xs, h, e with
      | [k, v], h, e =>
        simp only [pairsD] at e
        cases ek : keyD k with
        | none => rw [ek] at e; cases e
        | some q =>
          cases er : pairsD ds with
          | none => rw [ek, er] at e; cases e
          | some rest =>
            rw [ek, er] at e
            cases e
            obtain ⟨ps, kws, e1, e2, e3⟩ := pairs_ok r er
            cases h with
            | tup hq hr =>
              rename_i a vs
              cases hr with
              | cons h1 hr =>
                cases hr with
                | cons h2 hr =>
                  cases hr
                  rename_i w1 w2
                  have ew : w1 = L2.kV q := key_v (.rep (H := H0) h1) ek
                  subst ew
                  exact ⟨a :: ps, (q, w2) :: kws, by rw [e1]; rfl, .cons hq e2, .cons h2 e3⟩
      | [], _, e => cases e
      | [_], _, e => cases e
      | _ :: _ :: _ :: _, _, e => cases e
    | _ => cases e
def gDictP : List D → Option RV
  | [.lst ds] => (pairsD ds).map fun kvs => .own (.dic (mergeD [] kvs))
  | _ => none
end
section
variable {X : Cx}
theorem paired_mono {α β : Type} {F G : α → β → Prop} (h : ∀ a b, F a b → G a b) : ∀ {l : List α} {m : List β}, Paired F l m → Paired G l m
  | _, _, .nil => .nil
  | _, _, .cons a r => .cons (h _ _ a) (paired_mono h r)
theorem cb_dictP (hc : X.calm = true) : CallR X (.type "dict") (rGC X.K gDictP) := cb_imp (L2.call_dictP hc) fun xs H Q ⟨Hd, ds, z, l, t, eg, q⟩ => by
  match ds, t, eg with
  | [.lst es], t, eg =>
    simp only [gDictP] at eg
    cases e1 : pairsD es with
    | none => rw [e1] at eg; cases eg
    | some kvs =>
      rw [e1] at eg
      cases eg
      obtain ⟨x, rfl, w⟩ := tops1 t
      obtain ⟨a, ys, rfl, h1, r1⟩ := w.lstD l
      obtain ⟨ps, kws, rfl, k2, k3⟩ := pairs_ok r1 e1
      exact ⟨a, ps, kws, rfl, .inl h1, paired_mono (fun _ _ s => l.sqT s) k2, fun p hp => q _ _ (newR_dic l hp (Repk.merge .nil k3))⟩
variable {W : St → XK} {a b : Expr} {pos p p2 q : Pos} {ta tb : TE} {fa fb : O.Env → Res RV}
theorem jlistRg (hc : X.calm = true) (hm : X.mg "list" = none) (hm2 : X.mg "range" = none) (ha : JE X W a ta fa) (hb : JE X W b tb fb) (hg : Gl X "list" := by rfl) (hg2 : Gl X "range" := by rfl) (n1 : starEach [a, b] X.env = (false, eval a X.env) :: starEach [b] X.env := by rfl)
    (n2 : starEach [b] X.env = (false, eval b X.env) :: starEach [] X.env := by rfl) (n3 : (backTo q (starEach [b] X.env)).any (·.1) = false := by rfl) (n4 : starEach [.Call (.Name "range" p2) [a, b] [] q] X.env = (false, eval (.Call (.Name "range" p2) [a, b] [] q) X.env) :: starEach [] X.env := by rfl) :
    JE X W (.Call (.Name "list" p) [.Call (.Name "range" p2) [a, b] [] q] [] pos) (L2.tLstRg (L2.tRg2 ta tb)) (f2 fa fb gRg2) := ⟨L2.pe_listRg hc hg hm (L2.prg_2 hg2 hm2 ha.pe hb.pe n1 n2 n3) n4, sd_listRg2 ha.se hb.se⟩
end
end O

/-! Own22: a dict that is locked when it is stored (it is never changed again), walks over its keys -/
namespace O
open PySem
open L2 (V Hp HO Rd SqL SqT upd upd_same upd_ne ne_of ne_of_none TE TT TA TS TG TGs TI TO It VK XK Ends St PE PT PW PA PS PSs PG PGs PI PO PTs Cx OpR UnR CallR IxR SlR MtR R2 tOp tUn tVar tC tCons tNil tTup tLst tTest tB tAnd tOr tNot tAndV tOrV tNotV tIf tCB Sp FnOk Gl Vis Loc Room)
section
variable {X : Cx}
/-- behind the statement a thing is locked -/
def tThenLock (t : TS) : TS := fun D σ H => t { D with nx := fun σ' H' => ∃ d u, H' d = some u ∧ L2.Mut (some u) ∧ ∀ od, D.nx σ' (upd H' d (.frz od u)) } σ H
theorem ps_thenLock {st : Stmt} {t : TS} (h : PS X st t) : PS X st (tThenLock t) := by
  refine ⟨fun pins s σ H D I hw => ?_⟩
  refine wpAny_mono (h.run pins s σ H _ I hw) (fun fl s' done => ?_) fun e s' out => out
  cases fl with
  | next =>
    obtain ⟨σ', H', J, d, u, hd, mu, q⟩ := done
    obtain ⟨od, J'⟩ := J.lock hd mu
    exact ⟨σ', _, J', q od⟩
  | ret u => exact done
  | brk => exact done
  | cont => exact done
end
section
variable {K : PySem.W.Frag} {W : St → XK}
/-- name = a new dict, locked -/
def gSetL (i : Nat) (fa : O.Env → Res RV) : O.Env → SR := fun ρ => (fa ρ).thn fun r ρ1 => match r with
  | .own (.dic kvs) => if free i ρ1 = true then .nx (ρ1.set i (.sh (.dlk kvs))) else .no
  | _ => .no
theorem ss_setL {i : Nat} {ta : TE} {fa : O.Env → Res RV} (h : Sd K W (rV K) ta fa) : Ss K W (tThenLock (L2.tAsg ta (L2.gName i))) (gSetL i fa) := fun C fp Hd H σ ρ I D p => by
  refine h C fp Hd H σ ρ I _ ?_
  unfold gSetL at p
  cases e : fa ρ with
  | no => rw [e] at p; exact p
  | ex c ρ1 => rw [e] at p; exact fun d fp1 Hd1 H1 s1 I1 hx => p d σ fp1 Hd1 H1 s1 I1 hx
  | ok r ρ1 =>
    rw [e] at p
    intro v fp1 Hd1 H1 s1 I1 hr
    cases r with
    | val d => exact p.elim
    | bor j => exact p.elim
    | own o =>
      cases o with
      | fz d => exact p.elim
      | lst d => exact p.elim
      | ins c d => exact p.elim
      | dic kvs =>
        have p : PostS K W C fp Hd H (if free i ρ1 = true then .nx (ρ1.set i (.sh (.dlk kvs))) else .no) D := p
        by_cases hf : free i ρ1 = true
        · rw [if_pos hf] at p
          obtain ⟨A, ow, nd, f⟩ := hr
          cases ow with
          | dic hH rk =>
            rename_i a kws
            obtain ⟨hn, hC, hfp, hs⟩ := f a (by simp)
            refine ⟨a, _, hH, trivial, fun od => ?_⟩
            have hi : i < ρ1.length := by
              unfold free at hf
              cases es : ρ1[i]? with
              | none => rw [es] at hf; cases hf
              | some _ => exact (List.getElem?_eq_some_iff.mp es).1
            have hσ : (σ.set i (some (V.ref a)))[i]? = some (some (V.ref a)) := List.getElem?_set_self (by rw [I1.len]; exact hi)
            -- the dict is laid down as locked
            have l1 : Le Hd1 (upd Hd1 a (.frz od (.dK kws))) := .upd_new hn
            have l2 : Le (upd Hd1 a (.frz od (.dK kws))) (upd H1 a (.frz od (.dK kws))) := ⟨fun b w r => by
              by_cases z : b = a
              · subst z
                rcases r with r | ⟨x, r⟩ <;> rw [upd_same] at r <;> cases r
                · exact .inl upd_same
                · exact .inr ⟨_, upd_same⟩
              · have r' : Rd Hd1 b w := by
                  rcases r with r | ⟨x, r⟩ <;> rw [upd_ne z] at r
                  · exact .inl r
                  · exact .inr ⟨x, r⟩
                rcases I1.le b w r' with q | ⟨x, q⟩
                · exact .inl (by rw [upd_ne z]; exact q)
                · exact .inr ⟨x, by rw [upd_ne z]; exact q⟩, fun b x w r => by
              by_cases z : b = a
              · subst z; rw [upd_same] at r ⊢; exact r
              · rw [upd_ne z] at r ⊢; exact I1.le.fr b x w r⟩
            have I2 : Inv K C fp1 (upd Hd1 a (.frz od (.dK kws))) (upd H1 a (.frz od (.dK kws))) σ ρ1 := by
              refine ⟨l2, I1.hd0.trans l1, fun b o hb n => ?_, fun b hb => ?_, fun b hb => ?_, I1.len, fun j s es => (I1.slot j s es).ext l1 (fun b hb n => ?_) fun b hb w hw => ?_, I1.out, I1.dis⟩
              · rw [upd_ne (fun z => by rw [z, hC] at hb; cases hb)]; exact I1.keep b o hb n
              · by_cases z : b = a
                · rw [z, upd_same]; intro w; cases w
                · rw [upd_ne z]; exact I1.dom b hb
              · by_cases z : b = a
                · subst z; exact .inr hC
                · rw [upd_ne z] at hb; exact I1.fresh b hb
              · rw [upd_ne (fun z => hfp j (by rw [← z]; exact hb))]; exact n
              · rw [upd_ne (fun z => hfp j (by rw [← z]; exact hb))]; exact hw
            have I3 := I2.set_slot (i := i) (s' := .sh (.dlk kvs)) (A' := []) (σ' := σ.set i (some (V.ref a))) hi ⟨rfl, V.ref a, hσ, .dlk upd_same (rk.mono l1)⟩ (fun _ h => by cases h) (by simp) fun j hj => List.getElem?_set_ne (Ne.symm hj)
            refine p _ _ _ _ ⟨s1.hd.trans l1, fun b hb => ?_, fun b o hb n => ?_, fun b hb => ?_, fun j b hb => ?_⟩ I3
            · by_cases z : b = a
              · subst z; exact .inr (.inl hs)
              · rw [upd_ne z] at hb; exact s1.fr b hb
            · rw [upd_ne (fun z => by rw [z, hs] at hb; cases hb)]; exact s1.keep b o hb n
            · by_cases z : b = a
              · rw [z, upd_same]; intro w; cases w
              · rw [upd_ne z]; exact s1.dom b hb
            · by_cases z : j = i
              · subst z; rw [setF_same] at hb; cases hb
              · rw [setF_ne z] at hb; exact s1.fpx j b hb
        · rw [if_neg hf] at p; exact p.elim
/-! the keys -/
def kDD : L2.Key → D
  | .inl i => .int i
  | .inr x => .str x
theorem kDD_rep {H : Hp} (k : L2.Key) : Rep K H (kDD k) (L2.kV k) := by
  cases k with
  | inl i => exact .int i
  | inr x => exact .str x
def gItK : D → Option (List D)
  | .dlk kvs => some (kvs.map fun kv => kDD kv.1)
  | _ => none
theorem Repk.key {H : Hp} : ∀ {kvs : List (L2.Key × D)} {kws : List (L2.Key × V)}, Repk K H kvs kws → kvs.map (·.1) = kws.map (·.1)
  | _, _, .nil => rfl
  | _, _, .cons _ r => by rw [List.map_cons, List.map_cons, Repk.key r]
theorem si_keys {te : TE} {fe : O.Env → Res RV} (he : Sd K W (rV K) te fe) : Si K W (L2.iKeys te) (fWalk fe gItK) :=
  si_of (k := fun x H1 R => ∃ d o, x = V.ref d ∧ ((∃ kvs, H1 d = some (.frz o (.dK kvs)) ∧ R (L2.Itk d o kvs) H1) ∨ ∃ kvs, H1 d = some (.frz o (.dT kvs)) ∧ R (L2.Itkt d o kvs) H1)) he rfl fun C Hs fp Hd H σ ρ d ds v I hr eg R p => by
    cases d with
    | dlk kvs =>
      cases eg
      have h := rWk_rep rfl hr
      have h0 := h _ _ _ _ _ I (.refl _)
      cases h0 with
      | dlk hH rk =>
        rename_i a o kws
        have hk := rk.key
        refine ⟨a, o, rfl, .inl ⟨kws, I.le.fr _ _ _ hH, p _ ?_⟩⟩
        unfold WalkD
        have hl : (kvs.map fun kv => kDD kv.1).length = kws.length := by rw [List.length_map, rk.length]
        rw [hl]
        refine L2.walk_keys.mono (fun H' ⟨fp', Hd', σ', ρ', I', l'⟩ => I'.le.fr _ _ _ (l'.fr _ _ _ hH)) fun i H' x H'' hi ⟨fp', Hd', σ', ρ', I', l'⟩ ⟨e1, k, w, e2, e3⟩ => ?_
        subst e1 e3
        have e4 : (kvs.map (·.1))[i]? = some k := by rw [hk, List.getElem?_map, e2]; rfl
        refine ⟨kDD k, ?_, fun fp3 Hd3 σ3 ρ3 I3 l3 => newR_here I3.le (kDD_rep k)⟩
        have e5 : (kvs.map fun kv => kDD kv.1) = (kvs.map (·.1)).map kDD := by rw [List.map_map]; rfl
        rw [e5, List.getElem?_map, e4]
        rfl
    | _ => cases eg
end
section
variable {X : Cx} {W : St → XK} {e tg : Expr} {pos : Pos} {te : TE} {fe : O.Env → Res RV}
theorem jsetL (n : Nat) {x : Str} {pos' : Pos} (hN : X.N.Nodup) (he : JE X W e te fe) (hi : X.N[n]? = some x := by rfl) (hx : Loc X.env.scope x := by first | exact Or.inl (by rfl) | exact Or.inr (by rfl)) (hs : swapsWith e (some (.Name x pos')) pos.line X.env = pure false := by rfl) (hf : X.fn x = true ∨ X.env.scope.names.lookup x = some .local := by first | exact Or.inl (by rfl) | exact Or.inr (by rfl)) :
    JS X W (.Assign [.Name x pos'] e pos) (tThenLock (L2.tAsg te (L2.gName n))) (gSetL n fe) := ⟨ps_thenLock (L2.ps_set hN hi hx he.pe hs hf), ss_setL he.se⟩
theorem jik (h : JE X W e te fe) : JI X W tg e (L2.iKeys te) (fWalk fe gItK) := ⟨L2.pi_keys h.pe, si_keys h.se⟩
end
end O

/-! Own23: tuples of ints, one or more in each, sorted -/
namespace O
open PySem
open PyProof.Rows (IntsAre)
/-- the lexical order of rows of ints -/
theorem lex_asym : ∀ {a b : List Int}, HT.lexLt a b = true → HT.lexLt b a = false
  | [], [], h => by simp [HT.lexLt] at h
  | [], _ :: _, _ => rfl
  | _ :: _, [], h => by simp [HT.lexLt] at h
  | x :: xs, y :: ys, h => by
    rw [HT.lexLt_cons] at h ⊢
    by_cases e : x = y
    · subst e
      rw [if_pos rfl] at h ⊢
      exact lex_asym h
    · rw [if_neg e] at h
      rw [if_neg (fun z => e z.symm)]
      have := of_decide_eq_true h
      exact decide_eq_false (by omega)
theorem lex_tr : ∀ {a b c : List Int}, HT.lexLt b a = false → HT.lexLt c b = false → HT.lexLt c a = false
  | [], b, [], _, _ => rfl
  | [], b, z :: zs, _, _ => rfl
  | x :: xs, [], _, h, _ => by simp [HT.lexLt] at h
  | x :: xs, y :: ys, [], _, h => by simp [HT.lexLt] at h
  | x :: xs, y :: ys, z :: zs, h1, h2 => by
    rw [HT.lexLt_cons] at h1 h2 ⊢
    by_cases e : y = x
    · subst e
      rw [if_pos rfl] at h1
      by_cases e2 : z = y
      · subst e2
        rw [if_pos rfl] at h2 ⊢
        exact lex_tr h1 h2
      · rw [if_neg e2] at h2 ⊢
        exact h2
    · rw [if_neg e] at h1
      have g1 := of_decide_eq_false h1
      by_cases e2 : z = y
      · subst e2
        rw [if_neg e]
        exact h1
      · rw [if_neg e2] at h2
        have g2 := of_decide_eq_false h2
        rw [if_neg (by omega)]
        exact decide_eq_false (by omega)
/-- a tuple of these ints -/
def TupZ (h : Heap) (v : Value) (ns : List Int) : Prop := ∃ a o its n, v = .ref a ∧ h.get? a = some o ∧ o.cls = .type "tuple" ∧ o.data = .seq its n ∧ IntsAre its.toList ns
def lexC (fin : Bool) : List Int → List Int → Bool
  | x :: xs, y :: ys => if x = y then lexC fin xs ys else decide (x < y)
  | _, _ => fin
theorem lexC_is : ∀ ns ms : List Int, lexC (decide (ns.length < ms.length)) ns ms = HT.lexLt ns ms
  | [], [] => rfl
  | [], _ :: ms => by simp [lexC, HT.lexLt]
  | _ :: ns, [] => by simp [lexC, HT.lexLt]
  | x :: ns, y :: ms => by
    have h := lexC_is ns ms
    have e : decide ((x :: ns).length < (y :: ms).length) = decide (ns.length < ms.length) := by
      by_cases q : ns.length < ms.length
      · rw [decide_eq_true q, decide_eq_true (by simp only [List.length_cons]; omega)]
      · rw [decide_eq_false q, decide_eq_false (by simp only [List.length_cons]; omega)]
    rw [e, HT.lexLt_cons]
    show (if x = y then lexC _ ns ms else _) = _
    rw [h]
section
variable {prog : Program} {w : World} {A : Around} {s : Shared}
theorem kat_ints {fin : Bool} {Q : Bool → Shared → Prop} : ∀ {us vs : List Value} {ns ms : List Int} (i : Nat), IntsAre us ns → IntsAre vs ms → Q (lexC fin ns ms) s → PySem.W.KatLex prog w A true fin Q (us.zip vs) i s
  | _, _, _, _, i, .nil, _, q => q
  | _, _, _, _, i, .cons _ _ _, .nil, q => q
  | _, _, _, _, i, .cons x t r, .cons y u r2, q => by
    rw [List.zip_cons_cons]
    refine PySem.W.kat_cons (SeqAt.EqAt.int_int x t y u prog w _ _ ?_)
    refine PySem.W.kat_go (fun e => ?_) (fun e => ?_)
    · have e' : x = y := by simpa using e
      refine PySem.W.kat_yes (kat_ints (i + 1) r r2 ?_)
      have q' : Q (if x = y then lexC fin _ _ else decide (x < y)) s := q
      rw [if_pos e'] at q'
      exact q'
    · have e' : ¬ x = y := by simpa using e
      have q' : Q (if x = y then lexC fin _ _ else decide (x < y)) s := q
      rw [if_neg e'] at q'
      refine PySem.W.kat_no ?_
      cases i with
      | zero => exact PyProof.Rows.oneLt_int q'
      | succ i => exact PySem.W.kat_one _ _ (PyProof.Rows.lt_int q')
theorem tupZ_cmp {vs : List Value} {k : Value → List Int} (hp : ∀ v ∈ vs, TupZ s.heap v (k v)) : SrtO.Cmp prog w A s (PyProof.Rows.tuples' true) (fun p => p.1 ∈ vs) (SrtO.lt2 fun v u => HT.lexLt (k v) (k u)) := by
  intro p q m1 m2
  obtain ⟨a, o, its, n, e, ho, hc, hd, hi⟩ := hp _ m1
  obtain ⟨b, o2, jts, n2, e2, ho2, hc2, hd2, hj⟩ := hp _ m2
  show wpAny (model prog w) A (PyProof.Rows.keyLt' (PyProof.Rows.tuples' true) p.1 q.1) (fun r s' => s' = s ∧ r = HT.lexLt (k p.1) (k q.1)) (fun _ _ => False) s
  generalize k p.1 = ns at hi ⊢
  generalize k q.1 = ms at hj ⊢
  rw [e, e2]
  refine PySem.W.kat_lt ho hd ho2 hd2 (kat_ints 0 hi hj ⟨rfl, ?_⟩)
  have l1 : its.size = ns.length := by rw [← Array.length_toList]; exact hi.length
  have l2 : jts.size = ms.length := by rw [← Array.length_toList]; exact hj.length
  rw [l1, l2]
  exact lexC_is ns ms
theorem tupZ_firsts {h : Heap} {k : Value → List Int} : ∀ {vs : List Value}, (∀ v ∈ vs, TupZ h v (k v) ∧ k v ≠ []) → ∃ fs, PySem.W.KatTups h vs fs ∧ fs.length = vs.length ∧ ∀ f ∈ fs, ∃ x t, f = Value.int x t
  | [], _ => ⟨[], .nil, rfl, by simp⟩
  | v :: vs, hp => by
    obtain ⟨fs, a1, a2, a3⟩ := tupZ_firsts (vs := vs) fun u hu => hp u (by simp [hu])
    obtain ⟨⟨a, o, its, n, e, ho, hc, hd, hi⟩, hne⟩ := hp v (by simp)
    subst e
    generalize k (Value.ref a) = ns at hi hne
    generalize hl : its.toList = l at hi
    cases hi with
    | nil => exact absurd rfl hne
    | cons x t r =>
      refine ⟨Value.int x t :: fs, PySem.W.KatTups.cons ho hc hd (by rw [← Array.getElem?_toList, hl]; rfl) a1, by simp [a2], fun f hf => ?_⟩
      rcases List.mem_cons.mp hf with rfl | hf
      · exact ⟨x, t, rfl⟩
      · exact a3 f hf
theorem tupZ_sortable {a : Addr} {vs : List Value} {k : Value → List Int} (h0 : 0 < vs.length) (hp : ∀ v ∈ vs, TupZ s.heap v (k v) ∧ k v ≠ []) (ha : ∀ o, s.heap.get? a = some o → o.cls ≠ .type "tuple") : SrtO.SortableO prog w A s a vs fun v u => HT.lexLt (k v) (k u) := by
  intro h' keep
  have hp' : ∀ v ∈ vs, TupZ h' v (k v) ∧ k v ≠ [] := fun v hm => by
    obtain ⟨⟨b, o, its, n, e, ho, hc, r⟩, ne⟩ := hp v hm
    exact ⟨⟨b, o, its, n, e, keep b o (fun z => by subst z; exact ha o ho hc) ho, hc, r⟩, ne⟩
  obtain ⟨fs, g1, g2, g3⟩ := tupZ_firsts hp'
  refine ⟨PyProof.Rows.tuples' true, fun Q E hq => ?_, tupZ_cmp fun v hm => (hp' v hm).1⟩
  refine PySem.W.kat_kind (T := .type "int") g1 (by omega) (fun f hm => ?_) (by rfl) ?_
  · obtain ⟨x, t, rfl⟩ := g3 f hm
    exact PySem.W.Looks.now
  · have e : (Value.type "int" != Value.type "tuple") = true := by decide +kernel
    rw [e]
    exact hq
end
end O

/-! Own24: sorted(list of tuples of ints), on data -/
namespace O
open PySem
open PyProof.Rows (IntsAre)
open L2 (V Hp HO Rd SqL SqT Vals RelV Cx CallR St VK)
theorem lex_anti : ∀ {a b : List Int}, HT.lexLt a b = false → HT.lexLt b a = false → a = b
  | [], [], _, _ => rfl
  | [], _ :: _, h, _ => by simp [HT.lexLt] at h
  | _ :: _, [], _, h => by simp [HT.lexLt] at h
  | x :: xs, y :: ys, h1, h2 => by
    rw [HT.lexLt_cons] at h1 h2
    by_cases e : x = y
    · subst e
      rw [if_pos rfl] at h1 h2
      rw [lex_anti h1 h2]
    · rw [if_neg e] at h1
      rw [if_neg (fun z => e z.symm)] at h2
      have g1 := of_decide_eq_false h1
      have g2 := of_decide_eq_false h2
      exact absurd (Int.le_antisymm (by omega) (by omega)) e
def leR (a b : List Int) : Bool := !HT.lexLt b a
def sortR (rows : List (List Int)) : List (List Int) := rows.mergeSort leR
theorem sortR_perm (rows : List (List Int)) : (sortR rows).Perm rows := List.mergeSort_perm rows _
theorem sortR_sorted (rows : List (List Int)) : (sortR rows).Pairwise fun a b => HT.lexLt b a = false := by
  have h := List.pairwise_mergeSort (le := leR) (fun a b c h1 h2 => by
    unfold leR at *
    rw [Bool.not_eq_true'] at *
    exact lex_tr h1 h2) (fun a b => by
    unfold leR
    cases h : HT.lexLt b a with
    | false => rfl
    | true => rw [lex_asym h]; rfl) rows
  exact h.imp fun h => by unfold leR at h; rwa [Bool.not_eq_true'] at h
theorem rows_uniq {a b : List (List Int)} (p : a.Perm b) (ha : a.Pairwise fun x y => HT.lexLt y x = false) (hb : b.Pairwise fun x y => HT.lexLt y x = false) : a = b :=
  p.eq_of_pairwise (fun x y _ _ h1 h2 => lex_anti h2 h1) ha hb
/-- rows of ints, none empty -/
def rowsD : List D → Option (List (List Int))
  | [] => some []
  | .tup xs :: ds => match intsD xs, rowsD ds with
    | some (n :: ns), some r => some ((n :: ns) :: r)
    | _, _ => none
  | _ :: _ => none
def rowT (ns : List Int) : D := .tup (ns.map .int)
def gSortedT : List D → Option RV
  | [.lst ds] => (rowsD ds).map fun rows => .own (.lst ((sortR rows).map rowT))
  | _ => none
theorem intsD_back : ∀ {xs : List D} {ns : List Int}, intsD xs = some ns → xs = ns.map .int
  | [], _, e => by cases e; rfl
  | .int i :: xs, _, e => by
    simp only [intsD] at e
    cases e1 : intsD xs with
    | none => rw [e1] at e; cases e
    | some ms => rw [e1] at e; cases e; rw [intsD_back e1]; rfl
  | .non :: _, _, e => by cases e
  | .bl _ :: _, _, e => by cases e
  | .str _ :: _, _, e => by cases e
  | .tup _ :: _, _, e => by cases e
  | .lst _ :: _, _, e => by cases e
  | .dic _ :: _, _, e => by cases e
  | .set _ :: _, _, e => by cases e
  | .scr _ :: _, _, e => by cases e
  | .dlk _ :: _, _, e => by cases e
section
variable {X : Cx} {pins : List (Addr × Obj)} {s : Shared} {σ : St} {H : Hp}
theorem tupZ_fun {h : Heap} {v : Value} {a b : List Int} (p : TupZ h v a) (q : TupZ h v b) : a = b := by
  obtain ⟨x, o, its, n, e, ho, _, hd, hi⟩ := p
  obtain ⟨y, o2, jts, n2, e2, ho2, _, hd2, hj⟩ := q
  subst e
  cases e2
  rw [ho] at ho2
  cases ho2
  rw [hd] at hd2
  cases hd2
  have e1 := SrtO.iv_ints hi
  have e2 := SrtO.iv_ints hj
  rw [← e1, ← e2]
theorem rows_of (I : L2.Inv X pins σ H s) {Hd : Hp} (l : Le Hd H) : ∀ {ds : List D} {vs : List V} {us : List Value} {rows : List (List Int)}, Reps X.K Hd ds vs → Vals vs us → rowsD ds = some rows → Paired (fun u row => TupZ s.heap u row ∧ row ≠ [] ∧ ∃ y, RelV y u ∧ Rep X.K Hd (rowT row) y) us rows
  | _, _, _, _, .nil, r, e => by cases e; cases r; exact .nil
  | _, _, _, _, .cons (d := d) (ds := ds) h q, r, e => by
    cases d with
    | tup xs =>
      simp only [rowsD] at e
      cases e1 : intsD xs with
      | none => rw [e1] at e; cases e
      | some ns =>
        cases ns with
        | nil => rw [e1] at e; cases e
        | cons n ns =>
          cases e2 : rowsD ds with
          | none => rw [e1, e2] at e; cases e
          | some rest =>
            rw [e1, e2] at e
            cases e
            have ex := intsD_back e1
            cases r with
            | cons r1 r2 =>
              refine .cons ⟨?_, by simp, _, r1, by unfold rowT; rw [← ex]; exact h⟩ (rows_of I l q r2 e2)
              cases h with
              | tup hq hr =>
                have ev := intsD_ok hr e1
                subst ev
                rename_i b
                have eu := (show _ = Value.ref b from r1)
                obtain ⟨its, rv, ⟨o, ho, hc, m, hd⟩, _⟩ := I.tuple (l.sqT hq)
                exact ⟨b, o, _, m, eu, ho, hc, hd, by simpa using L2.Vals.ints rv⟩
    | _ => cases e
theorem out_reps {K : PySem.W.Frag} {Hd : Hp} {k : Value → List Int} : ∀ {out : List Value}, (∀ u ∈ out, ∃ y, RelV y u ∧ Rep K Hd (rowT (k u)) y) → ∃ ys, Vals ys out ∧ Reps K Hd ((out.map k).map rowT) ys
  | [], _ => ⟨[], .nil, .nil⟩
  | u :: out, h => by
    obtain ⟨y, a, b⟩ := h u (by simp)
    obtain ⟨ys, c, d⟩ := out_reps (out := out) fun z hz => h z (by simp [hz])
    exact ⟨y :: ys, .cons a c, .cons b d⟩
theorem paired_map {k : Value → List Int} {F : Value → List Int → Prop} (hk : ∀ u row, F u row → k u = row) : ∀ {us : List Value} {rows : List (List Int)}, Paired F us rows → us.map k = rows ∧ ∀ u ∈ us, F u (k u)
  | _, _, .nil => ⟨rfl, by simp⟩
  | _, _, .cons h r => by
    obtain ⟨a, b⟩ := paired_map hk r
    have e := hk _ _ h
    refine ⟨by rw [List.map_cons, a, e], fun u hu => ?_⟩
    rcases List.mem_cons.mp hu with rfl | hu
    · rw [e]; exact h
    · exact b u hu
open Classical in
theorem cb_sortedT : CallR X (.builtin "sorted") (rGC X.K gSortedT) := by
  intro pins s σ H xs us Q I rx ⟨Hd, ds, z, l, t, eg, q⟩
  match ds, t, eg with
  | [.lst es], t, eg =>
    simp only [gSortedT] at eg
    cases e1 : rowsD es with
    | none => rw [e1] at eg; cases eg
    | some rows =>
      rw [e1] at eg
      cases eg
      obtain ⟨x, rfl, w⟩ := tops1 t
      obtain ⟨a, ys, rfl, h1, r1⟩ := w.lstD l
      obtain ⟨its, rv, hl, hz⟩ := I.list (.inl h1)
      rw [L2.Vals.ref1 rx]
      have pr := rows_of I l r1 rv e1
      let k : Value → List Int := fun u => if h : ∃ ns, TupZ s.heap u ns then Classical.choose h else []
      have hk : ∀ u row, (TupZ s.heap u row ∧ row ≠ [] ∧ ∃ y, RelV y u ∧ Rep X.K Hd (rowT row) y) → k u = row := fun u row h => by
        have ex : ∃ ns, TupZ s.heap u ns := ⟨row, h.1⟩
        have e : k u = Classical.choose ex := dif_pos ex
        rw [e]
        exact tupZ_fun (Classical.choose_spec ex) h.1
      obtain ⟨m1, m2⟩ := paired_map hk pr
      refine SrtO.sorted_ord (ltv := fun v u => HT.lexLt (k v) (k u)) ⟨fun x y h => lex_asym h, fun x y z h g => lex_tr h g⟩ hl.isList (by rw [← rv.length]; exact hz) (fun two h₁ a' ha keep => ?_) fun out hs hb => ?_
      · refine tupZ_sortable (s := { s with heap := h₁ }) (by omega) (fun v hv => ⟨?_, (m2 v hv).2.1⟩) fun o e => ?_
        · obtain ⟨b, o, jts, n, e, ho, r⟩ := (m2 v hv).1
          exact ⟨b, o, jts, n, e, (keep b o ho).2, r⟩
        · have e' := e.symm.trans ha
          cases e'
          intro c
          exact absurd (Value.type.inj c) (by decide)
      · obtain ⟨ep, he'⟩ := PyProof.Rows.sortedAll_at s.heap its out.toArray
        obtain ⟨zs, vz, rz⟩ := out_reps (K := X.K) (Hd := Hd) (k := k) (out := out) fun u hu => (m2 u (hb.perm.mem_iff.mp hu)).2.2
        have es : out.map k = sortR rows := by
          refine rows_uniq ?_ ?_ (sortR_sorted rows)
          · rw [← m1]
            exact (hb.perm.map k).trans (by rw [m1]; exact (sortR_perm rows).symm)
          · exact List.pairwise_map.mpr hs
        rw [es] at rz
        have hlen : zs.length ≤ sizeLine := by
          rw [vz.length, hb.perm.length_eq, ← rv.length]
          exact hz
        exact ⟨.ref _, L2.upd H (s.heap.objs.size + 1) (.lst zs), I.laid (t' := s.toks) (fun _ _ g => PyProof.Rows.sortedAll_old g) (Nat.le_succ _) ⟨hlen, out, ep, vz, he'⟩, rfl, q _ _ (newR_lst l (I.hok.fresh (Nat.le_succ _)) rz)⟩
end
end O

/-! Own25: an owned local list is lent to an expression that only reads it -/
namespace O
open PySem
open L2 (V Hp HO Rd SqL SqT upd upd_same upd_ne ne_of ne_of_none TE TT TA TS TG TGs TI It VK XK Ends St Cx)
section
variable {K : PySem.W.Frag} {W : St → XK} {C : Cn} {fp : Fp} {Hd H : Hp} {σ : St} {ρ : Env}
open Classical in
/-- the frame under which slot v is only read -/
noncomputable def lentC (C : Cn) (fp : Fp) (Hd H : Hp) (v : Nat) : Cn :=
  ⟨fun b => if C.H0 b ≠ none then C.H0 b else if ∃ i, i ≠ v ∧ b ∈ fp i then none else H b, Hd, fun i => (C.M i).filter fun a => decide (C.H0 a ≠ none), C.io⟩
theorem lent_old {v : Nat} {b : Addr} {o : HO} (h : C.H0 b = some o) : (lentC C fp Hd H v).H0 b = some o := by
  show (if C.H0 b ≠ none then C.H0 b else _) = _
  rw [if_pos (by rw [h]; intro z; cases z), h]
theorem lent_other {v i : Nat} {b : Addr} (h : C.H0 b = none) (hi : i ≠ v) (hb : b ∈ fp i) : (lentC C fp Hd H v).H0 b = none := by
  show (if C.H0 b ≠ none then C.H0 b else _) = _
  rw [if_neg (by rw [h]; simp), if_pos ⟨i, hi, hb⟩]
theorem lent_free {v : Nat} {b : Addr} (h : C.H0 b = none) (hb : ∀ i, i ≠ v → b ∉ fp i) : (lentC C fp Hd H v).H0 b = H b := by
  show (if C.H0 b ≠ none then C.H0 b else _) = _
  rw [if_neg (by rw [h]; simp), if_neg (by rintro ⟨i, hi, hbi⟩; exact hb i hi hbi)]
theorem lent_none {v : Nat} {b : Addr} (h : (lentC C fp Hd H v).H0 b = none) : C.H0 b = none := by
  cases e : C.H0 b with
  | none => rfl
  | some o => rw [lent_old e] at h; cases h
theorem lent_M {v i : Nat} {a : Addr} : a ∈ (lentC C fp Hd H v).M i ↔ a ∈ C.M i ∧ C.H0 a ≠ none := by
  show a ∈ (C.M i).filter _ ↔ _
  rw [List.mem_filter]
  simp
theorem Rd.up {H H' : Hp} {a : Addr} {x : HO} (k : ∀ o, H a = some o → H' a = some o) (r : Rd H a x) : Rd H' a x := by
  rcases r with r | ⟨o, r⟩
  · exact .inl (k _ r)
  · exact .inr ⟨o, k _ r⟩
theorem Top.up {Hd H Hd' H' : Hp} {d : D} {v : V} (l : Le Hd Hd') (k : ∀ a o, H a = some o → H' a = some o) (t : Top K Hd H d v) : Top K Hd' H' d v := by
  cases t with
  | rep r => exact .rep (r.mono l)
  | lst h r => exact .lst (Rd.up (k _) h) (r.mono l)
  | dic h r => exact .dic (Rd.up (k _) h) (r.mono l)
theorem Own.headIn {o : OD} {x : V} {A : List Addr} {a : Addr} (h : Own K Hd H o x A) (e : x = .ref a) : (∃ y, o = .fz y) ∨ a ∈ A := by
  subst e
  cases h with
  | fz r => exact .inl ⟨_, rfl⟩
  | lst h r => exact .inr (by simp)
  | dic h r => exact .inr (by simp)
  | ins h h' r => exact .inr (by simp)
theorem Own.fzRep {d : D} {x : V} {A : List Addr} (h : Own K Hd H (.fz d) x A) : Rep K Hd d x := by
  cases h with
  | fz r => exact r
theorem Inv.lend {v : Nat} {o : OD} {d : D} (I : Inv K C fp Hd H σ ρ) (e : ρ[v]? = some (.ow o)) (et : o.top = some d) : Inv K (lentC C fp Hd H v) (setF fp v []) Hd H σ (ρ.set v (.br d)) := by
  have hv : v < ρ.length := (List.getElem?_eq_some_iff.mp e).1
  obtain ⟨x, ex, ow, nd, fr⟩ := I.slot v _ e
  have hA : ∀ a ∈ fp v, (lentC C fp Hd H v).H0 a = H a := fun a ha => lent_free (fr a ha).2 fun i hi hb => hi (I.dis i v a hb ha)
  refine ⟨I.le, .refl _, fun b o h n => ?_, fun b h => ?_, fun b h => .inl h, by rw [List.length_set]; exact I.len, fun i s es => ?_, fun i hi => ?_, fun i j a h1 h2 => ?_⟩
  · cases e0 : C.H0 b with
    | some o' =>
      rw [lent_old e0] at h
      cases h
      exact I.keep b _ e0 fun i hi => n i (lent_M.mpr ⟨hi, by rw [e0]; intro z; cases z⟩)
    | none =>
      by_cases q : ∃ i, i ≠ v ∧ b ∈ fp i
      · obtain ⟨i, hi, hb⟩ := q
        rw [lent_other e0 hi hb] at h; cases h
      · rw [lent_free e0 fun i hi hb => q ⟨i, hi, hb⟩] at h
        exact h
  · cases e0 : C.H0 b with
    | some o' => exact I.dom b (by rw [e0]; intro z; cases z)
    | none =>
      by_cases q : ∃ i, i ≠ v ∧ b ∈ fp i
      · obtain ⟨i, hi, hb⟩ := q
        exact absurd (lent_other e0 hi hb) h
      · rw [lent_free e0 fun i hi hb => q ⟨i, hi, hb⟩] at h
        exact h
  · by_cases hi : i = v
    · subst hi
      rw [List.getElem?_set_self hv] at es
      cases es
      rw [setF_same]
      refine ⟨rfl, x, ex, (ow.frame (.refl _) fun a ha u eu => by rw [hA a ha]; exact eu).topD et, ?_⟩
      have key : ∀ a, x = .ref a → (∃ y, o = .fz y) ∨ a ∈ fp i := fun a ea => ow.headIn ea
      by_cases hz : ∃ y, o = .fz y
      · obtain ⟨y, rfl⟩ := hz
        cases et
        exact .inl ow.fzRep
      · exact .inr fun a ea j hj => (lent_M.mp hj).2 (fr a ((key a ea).resolve_left hz)).2
    · rw [List.getElem?_set_ne (Ne.symm hi)] at es
      rw [setF_ne hi]
      have q := I.slot i s es
      cases s with
      | un => exact q
      | sh d => exact q
      | br d' =>
        obtain ⟨q1, y, q2, q3, q4⟩ := q
        exact ⟨q1, y, q2, q3.up I.hd0 fun a o h => lent_old h, q4.elim (fun r => .inl (r.mono I.hd0)) fun r => .inr fun a ha j hj => r a ha j (lent_M.mp hj).1⟩
      | ow o' =>
        obtain ⟨y, q1, q2, q3, q4⟩ := q
        exact ⟨y, q1, q2, q3, fun a ha => ⟨(q4 a ha).1, lent_other (q4 a ha).2 hi ha⟩⟩
      | io o' =>
        obtain ⟨y, q1, q2, q3, q4, q5⟩ := q
        refine ⟨y, q1, q2, q3, fun a ha => ⟨(q4 a ha).1, ?_⟩, q5⟩
        by_cases e0 : C.H0 a = none
        · exact .inr (lent_other e0 hi ha)
        · exact .inl (lent_M.mpr ⟨(q4 a ha).2.resolve_right e0, e0⟩)
  · rw [List.length_set] at hi
    rw [setF_ne (by omega)]
    exact I.out i hi
  · by_cases hi : i = v
    · subst hi; rw [setF_same] at h1; cases h1
    · by_cases hj : j = v
      · subst hj; rw [setF_same] at h2; cases h2
      · rw [setF_ne hi] at h1; rw [setF_ne hj] at h2
        exact I.dis i j a h1 h2

/-- borrowed slots are those of before -/
def brs (v : Nat) (ρ ρ2 : Env) : Prop := ∀ i d, i ≠ v → ρ2[i]? = some (.br d) → ρ[i]? = some (.br d)
theorem Stp.lend {v : Nat} {fp2 : Fp} {Hd2 H2 : Hp} (s : Stp (setF fp v []) Hd H fp2 Hd2 H2) : Stp fp Hd H (setF fp2 v (fp v)) Hd2 H2 := by
  have sub : ∀ i b, b ∈ setF fp v [] i → b ∈ fp i := fun i b h => by
    by_cases e : i = v
    · subst e; rw [setF_same] at h; cases h
    · rw [setF_ne e] at h; exact h
  refine ⟨s.hd, fun b h => ?_, fun b o h n => s.keep b o h fun i hi => n i (sub i b hi), s.dom, fun i b h => ?_⟩
  · rcases s.fr b h with q | q | ⟨i, q⟩
    · exact .inl q
    · exact .inr (.inl q)
    · exact .inr (.inr ⟨i, sub i b q⟩)
  · by_cases e : i = v
    · subst e; rw [setF_same] at h; exact .inl ⟨_, h⟩
    · rw [setF_ne e] at h
      rcases s.fpx i b h with ⟨j, q⟩ | q
      · exact .inl ⟨j, sub j b q⟩
      · exact .inr q
theorem Inv.unlend {v : Nat} {o : OD} {d d2 : D} {fp2 : Fp} {Hd2 H2 : Hp} {ρ2 : Env} (I : Inv K C fp Hd H σ ρ) (e : ρ[v]? = some (.ow o)) (s : Stp (setF fp v []) Hd H fp2 Hd2 H2)
    (I2 : Inv K (lentC C fp Hd H v) fp2 Hd2 H2 σ ρ2) (e2 : ρ2[v]? = some (.br d2)) (hb : brs v ρ ρ2) : Inv K C (setF fp2 v (fp v)) Hd2 H2 σ (ρ2.set v (.ow o)) := by
  have hv : v < ρ2.length := (List.getElem?_eq_some_iff.mp e2).1
  obtain ⟨x, ex, ow, nd, fr⟩ := I.slot v _ e
  have hA : ∀ a ∈ fp v, (lentC C fp Hd H v).H0 a = H a := fun a ha => lent_free (fr a ha).2 fun i hi hb => hi (I.dis i v a hb ha)
  have hN : ∀ a ∈ fp v, (lentC C fp Hd H v).H0 a ≠ none := fun a ha => by rw [hA a ha]; exact ow.there a ha
  have hM : ∀ a ∈ fp v, ∀ i, a ∉ (lentC C fp Hd H v).M i := fun a ha i hi => (lent_M.mp hi).2 (fr a ha).2
  have hf : ∀ a ∈ fp v, ∀ j, a ∉ fp2 j := fun a ha j hj => by
    rcases (I2.fpOk hj).2.2 with q | q
    · exact hM a ha j q
    · exact hN a ha q
  refine ⟨I2.le, I.hd0.trans s.hd, fun b o' h n => I2.keep b o' (lent_old h) fun i hi => n i (lent_M.mp hi).1, fun b h => s.dom b (I.dom b h), fun b h => ?_, by rw [List.length_set]; exact I2.len, fun i s' es => ?_, fun i hi => ?_, fun i j a h1 h2 => ?_⟩
  · rcases I2.fresh b h with q | q
    · exact I.fresh b q
    · exact .inr (lent_none q)
  · by_cases hi : i = v
    · subst hi
      rw [List.getElem?_set_self hv] at es
      cases es
      rw [setF_same]
      refine ⟨x, ex, ow.frame s.hd fun a ha u eu => I2.keep a u (by rw [hA a ha]; exact eu) (hM a ha), nd, fun a ha => ⟨?_, (fr a ha).2⟩⟩
      cases en : Hd2 a with
      | none => rfl
      | some u =>
        rcases I2.fresh a (by rw [en]; intro z; cases z) with q | q
        · exact absurd (fr a ha).1 q
        · exact absurd q (hN a ha)
    · rw [List.getElem?_set_ne (Ne.symm hi)] at es
      rw [setF_ne hi]
      have q := I2.slot i s' es
      cases s' with
      | un => exact q
      | sh d => exact q
      | br d' =>
        obtain ⟨q1, y, q2, q3, q4⟩ := q
        obtain ⟨r1, z, r2, r3, r4⟩ := I.slot i _ (hb i d' hi es)
        rw [q2] at r2
        cases r2
        exact ⟨q1, y, q2, r3, r4⟩
      | ow o' =>
        obtain ⟨y, q1, q2, q3, q4⟩ := q
        exact ⟨y, q1, q2, q3, fun a ha => ⟨(q4 a ha).1, lent_none (q4 a ha).2⟩⟩
      | io o' =>
        obtain ⟨y, q1, q2, q3, q4, q5⟩ := q
        exact ⟨y, q1, q2, q3, fun a ha => ⟨(q4 a ha).1, (q4 a ha).2.imp (fun q => (lent_M.mp q).1) lent_none⟩, q5⟩
  · rw [List.length_set] at hi
    rw [setF_ne (by omega)]
    exact I2.out i hi
  · by_cases hi : i = v
    · by_cases hj : j = v
      · rw [hi, hj]
      · subst hi
        rw [setF_same] at h1
        rw [setF_ne hj] at h2
        exact absurd h2 (hf a h1 j)
    · by_cases hj : j = v
      · subst hj
        rw [setF_same] at h2
        rw [setF_ne hi] at h1
        exact absurd h1 (hf a h2 i)
      · rw [setF_ne hi] at h1; rw [setF_ne hj] at h2
        exact I2.dis i j a h1 h2
open Classical in
/-- what comes back -/
noncomputable def unlend (v : Nat) (o : OD) (ρ : Env) : Res RV → Res RV
  | .ok (.val x) ρ2 => if (∃ d, ρ2[v]? = some (.br d)) ∧ brs v ρ ρ2 then .ok (.val x) (ρ2.set v (.ow o)) else .no
  | .ok (.own x) ρ2 => if (∃ d, ρ2[v]? = some (.br d)) ∧ brs v ρ ρ2 then .ok (.own x) (ρ2.set v (.ow o)) else .no
  | _ => .no
/-- slot v is lent to f -/
noncomputable def fLend (v : Nat) (f : Env → Res RV) : Env → Res RV := fun ρ => match ρ[v]? with
  | some (.ow o) => match o.top with
    | some d => unlend v o ρ (f (ρ.set v (.br d)))
    | none => f ρ
  | _ => f ρ
theorem sd_lend {v : Nat} {te : TE} {f : Env → Res RV} (h : Sd K W (rV K) te f) : Sd K W (rV K) te (fLend v f) := by
  intro C fp Hd H σ ρ I Q p
  cases e : ρ[v]? with
  | none => simp only [fLend, e] at p; exact h C fp Hd H σ ρ I Q p
  | some sl =>
    cases sl with
    | un => simp only [fLend, e] at p; exact h C fp Hd H σ ρ I Q p
    | sh d => simp only [fLend, e] at p; exact h C fp Hd H σ ρ I Q p
    | br d => simp only [fLend, e] at p; exact h C fp Hd H σ ρ I Q p
    | io d => simp only [fLend, e] at p; exact h C fp Hd H σ ρ I Q p
    | ow o =>
      cases et : o.top with
      | none => simp only [fLend, e, et] at p; exact h C fp Hd H σ ρ I Q p
      | some d =>
        simp only [fLend, e, et] at p
        refine h _ _ Hd H σ _ (I.lend e et) Q ?_
        cases er : f (ρ.set v (.br d)) with
        | no => rw [er] at p; exact p.elim
        | ex c ρ1 => rw [er] at p; exact p.elim
        | ok r ρ2 =>
          rw [er] at p
          intro w fp2 Hd2 H2 s2 I2 r2
          have hA : ∀ a ∈ fp v, H a ≠ none := fun a ha => (I.fpOk ha).1
          cases r with
          | bor i => exact p.elim
          | val x =>
            simp only [unlend] at p
            split at p
            · rename_i hc
              obtain ⟨⟨d2, e2⟩, hb⟩ := hc
              have hbr : brs v ρ ρ2 := fun i d' hi h => hb i d' hi h
              exact p w _ Hd2 H2 s2.lend (I.unlend (d := d) e s2 I2 e2 hbr) r2
            · exact p.elim
          | own x =>
            simp only [unlend] at p
            split at p
            · rename_i hc
              obtain ⟨⟨d2, e2⟩, hb⟩ := hc
              obtain ⟨A, ow, nd, fr⟩ := r2
              refine p w _ Hd2 H2 s2.lend (I.unlend (d := d) e s2 I2 e2 hb) ⟨A, ow, nd, fun a ha => ⟨(fr a ha).1, lent_none (fr a ha).2.1, fun i hi => ?_, (fr a ha).2.2.2⟩⟩
              by_cases ei : i = v
              · subst ei; rw [setF_same] at hi
                exact hA a hi (fr a ha).2.2.2
              · rw [setF_ne ei] at hi
                exact (fr a ha).2.2.1 i hi
            · exact p.elim
end
section
variable {X : Cx} {W : St → XK} {e : Expr} {te : TE} {f : Env → Res RV}
theorem jlend (v : Nat) (h : JE X W e te f) : JE X W e te (fLend v f) := ⟨h.pe, sd_lend h.se⟩
end
/-! as simp lemmas -/
section
variable {v : Nat} {ρ ρ2 : Env} {o : OD} {d : D} {f : Env → Res RV}
theorem u_fLend (h : ρ[v]? = some (.ow o)) (ht : o.top = some d) : fLend v f ρ = unlend v o ρ (f (ρ.set v (.br d))) := by
  simp only [fLend, h, ht]
theorem u_unlend {x : RV} (hx : ∀ i, x ≠ .bor i) (h : ρ2[v]? = some (.br d)) (hb : brs v ρ ρ2) : unlend v o ρ (.ok x ρ2) = .ok x (ρ2.set v (.ow o)) := by
  cases x with
  | bor i => exact absurd rfl (hx i)
  | val y => simp only [unlend]; rw [if_pos ⟨⟨_, h⟩, hb⟩]
  | own y => simp only [unlend]; rw [if_pos ⟨⟨_, h⟩, hb⟩]
/-- where the answer leaves the slots as they were -/
theorem u_lend_same {x : RV} (hx : ∀ i, x ≠ .bor i) (h : ρ[v]? = some (.ow o)) (ht : o.top = some d) (hf : f (ρ.set v (.br d)) = .ok x (ρ.set v (.br d))) : fLend v f ρ = .ok x ρ := by
  have hv : v < ρ.length := (List.getElem?_eq_some_iff.mp h).1
  rw [u_fLend h ht, hf, u_unlend (d := d) hx (by rw [List.getElem?_set_self hv]) fun i d' hi e => by rwa [List.getElem?_set_ne (Ne.symm hi)] at e, List.set_set]
  congr 1
  refine List.ext_getElem? fun j => ?_
  by_cases e : j = v
  · subst e; rw [List.getElem?_set_self hv, h]
  · rw [List.getElem?_set_ne (Ne.symm e)]
end
end O

/-! Own26: repr of small data: what may be shown -/
namespace O
open PySem
/-- d is shown as p; k bounds the depth, N the size -/
structure Shw (d : D) (p : PyData) (k N : Nat) : Prop where
  e : toPyR d = some p
  s : p.showable = true
  l : p.leavesShort 13 = true
  dp : p.depth ≤ k
  b : p.bulk ≤ N
structure ShwL (ds : List D) (ps : List PyData) (k N : Nat) : Prop where
  e : toPyRs ds = some ps
  s : PyData.showableAll ps = true
  l : PyData.leavesShortAll 13 ps = true
  dp : PyData.depthAll ps ≤ k
  b : PyData.bulkAll ps ≤ N
structure ShwK (ds : List (L2.Key × D)) (ps : List (PyData × PyData)) (k N : Nat) : Prop where
  e : toPyRk ds = some ps
  s : PyData.showableKv ps = true
  l : PyData.leavesShortKv 13 ps = true
  dp : PyData.depthKv ps ≤ k
  b : PyData.bulkKv ps ≤ N
def smallI (i : Int) : Prop := -999999999999 ≤ i ∧ i ≤ 999999999999
theorem log_small {i : Int} (h : smallI i) : i.natAbs.log2 < 1920 := by
  have h1 : i.natAbs < 2 ^ 40 := by
    have : (2 : Nat) ^ 40 = 1099511627776 := by decide
    obtain ⟨a, b⟩ := h
    omega
  by_cases h0 : i.natAbs = 0
  · rw [h0]; decide
  · have := (Nat.log2_lt h0).mpr h1
    omega
theorem Shw.int {i : Int} (h : smallI i) {k N : Nat} : Shw (.int i) (.int i) k N := by
  refine ⟨by simp [toPyR], ?_, ?_, by simp [PyData.depth], by simp [PyData.bulk]⟩
  · simp only [PyData.showable, decide_eq_true_eq]; exact log_small h
  · simp only [PyData.leavesShort, decide_eq_true_eq]; exact PyData.shown_int_le2 h.1 h.2
theorem Shw.bl {b : Bool} {k N : Nat} : Shw (.bl b) (.bool b) k N := ⟨by simp [toPyR], by simp [PyData.showable], by simp [PyData.leavesShort], by simp [PyData.depth], by simp [PyData.bulk]⟩
theorem Shw.non {k N : Nat} : Shw .non .none k N := ⟨by simp [toPyR], by simp [PyData.showable], by simp [PyData.leavesShort], by simp [PyData.depth], by simp [PyData.bulk]⟩
theorem ShwL.nil {k N : Nat} : ShwL [] [] k N := ⟨by simp [toPyRs], by simp [PyData.showableAll], by simp [PyData.leavesShortAll], by simp [PyData.depthAll], by simp [PyData.bulkAll]⟩
theorem ShwL.cons {d : D} {p : PyData} {ds : List D} {ps : List PyData} {k N M S : Nat} (h : Shw d p k N) (r : ShwL ds ps k M) (hS : N + 1 + M ≤ S) : ShwL (d :: ds) (p :: ps) k S := by
  refine ⟨by simp [toPyRs, h.e, r.e], by simp [PyData.showableAll, h.s, r.s], by simp [PyData.leavesShortAll, h.l, r.l], ?_, ?_⟩
  · have := h.dp; have := r.dp; simp only [PyData.depthAll]; omega
  · have := h.b; have := r.b; simp only [PyData.bulkAll]; omega
theorem ShwL.ints {k : Nat} : ∀ (ns : List Int) (h : ∀ n ∈ ns, smallI n) {N : Nat} (hN : ns.length ≤ N), ShwL (ns.map .int) (ns.map .int) k N
  | [], _, _, _ => .nil
  | n :: ns, h, N, hN => .cons (N := 0) (M := ns.length) (Shw.int (h n (by simp))) (ShwL.ints ns (fun x hx => h x (by simp [hx])) (Nat.le_refl _)) (by simp at hN; omega)
theorem ShwK.nil {k N : Nat} : ShwK [] [] k N := ⟨by simp [toPyRk], by simp [PyData.showableKv], by simp [PyData.leavesShortKv], by simp [PyData.depthKv], by simp [PyData.bulkKv]⟩
theorem ShwK.cons {i : Int} (hi : smallI i) {d : D} {p : PyData} {ds : List (L2.Key × D)} {ps : List (PyData × PyData)} {k N M S : Nat} (h : Shw d p k N) (r : ShwK ds ps k M) (hS : N + 2 + M ≤ S) : ShwK ((.inl i, d) :: ds) ((.int i, p) :: ps) k S := by
  have q := Shw.int hi (k := k) (N := 0)
  refine ⟨by simp [toPyRk, h.e, r.e, kD], by simp [PyData.showableKv, h.s, r.s, q.s], by simp [PyData.leavesShortKv, h.l, r.l, q.l], ?_, ?_⟩
  · have := h.dp; have := r.dp; have := q.dp; simp only [PyData.depthKv]; omega
  · have := h.b; have := r.b; have := q.b; simp only [PyData.bulkKv]; omega
theorem Shw.lst {ds : List D} {ps : List PyData} {k N : Nat} (h : ShwL ds ps k N) : Shw (.lst ds) (.list ps) (k + 1) N := by
  refine ⟨by simp [toPyR, h.e], by simp [PyData.showable, h.s], by simp [PyData.leavesShort, h.l], ?_, ?_⟩
  · have := h.dp; simp only [PyData.depth]; omega
  · have := h.b; simp only [PyData.bulk]; omega
theorem Shw.tup {ds : List D} {ps : List PyData} {k N : Nat} (h : ShwL ds ps k N) : Shw (.tup ds) (.tuple ps) (k + 1) N := by
  refine ⟨by simp [toPyR, h.e], by simp [PyData.showable, h.s], by simp [PyData.leavesShort, h.l], ?_, ?_⟩
  · have := h.dp; simp only [PyData.depth]; omega
  · have := h.b; simp only [PyData.bulk]; omega
theorem Shw.dic {ds : List (L2.Key × D)} {ps : List (PyData × PyData)} {k N : Nat} (h : ShwK ds ps k N) : Shw (.dic ds) (.dict ps) (k + 1) N := by
  refine ⟨by simp [toPyR, h.e], by simp [PyData.showable, h.s], by simp [PyData.leavesShort, h.l], ?_, ?_⟩
  · have := h.dp; simp only [PyData.depth]; omega
  · have := h.b; simp only [PyData.bulk]; omega
theorem Shw.dlk {ds : List (L2.Key × D)} {ps : List (PyData × PyData)} {k N : Nat} (h : ShwK ds ps k N) : Shw (.dlk ds) (.dict ps) (k + 1) N := by
  refine ⟨by simp [toPyR, h.e], by simp [PyData.showable, h.s], by simp [PyData.leavesShort, h.l], ?_, ?_⟩
  · have := h.dp; simp only [PyData.depth]; omega
  · have := h.b; simp only [PyData.bulk]; omega
/-- no list, or no dict -/
def easy (p : PyData) : Bool := noL p || !p.hasDict
theorem Shw.can {d : D} {p : PyData} {k N : Nat} (h : Shw d p k N) (hk : k ≤ 60) (hN : N ≤ 2 ^ 20) (he : easy p = true) : canShowR p = true := by
  have h1 : p.shown.length ≤ sizeLine := PyData.shown_fits_bulk (B := 13) (by decide) (by decide) h.l (by have := h.b; omega)
  have h2 := h.dp
  unfold canShowR
  unfold easy at he
  simp only [h.s, he, Bool.true_and, Bool.and_eq_true, decide_eq_true_eq]
  exact ⟨by omega, h1⟩
theorem reprR_lst {ds : List D} {p : PyData} {k N : Nat} (h : Shw (.lst ds) p k N) (hk : k ≤ 60) (hN : N ≤ 2 ^ 20) (he : easy p = true) : gReprR [.lst ds] = some (.val (.str p.shown)) := by
  simp only [gReprR, h.e, Option.bind_some, if_pos (h.can hk hN he)]
theorem reprR_tup {ds : List D} {p : PyData} {k N : Nat} (h : Shw (.tup ds) p k N) (hk : k ≤ 60) (hN : N ≤ 2 ^ 20) (he : easy p = true) : gReprR [.tup ds] = some (.val (.str p.shown)) := by
  simp only [gReprR, h.e, Option.bind_some, if_pos (h.can hk hN he)]
theorem reprR_dic {ds : List (L2.Key × D)} {p : PyData} {k N : Nat} (h : Shw (.dic ds) p k N) (hk : k ≤ 60) (hN : N ≤ 2 ^ 20) (he : easy p = true) : gReprR [.dic ds] = some (.val (.str p.shown)) := by
  simp only [gReprR, h.e, Option.bind_some, if_pos (h.can hk hN he)]
theorem reprR_dlk {ds : List (L2.Key × D)} {p : PyData} {k N : Nat} (h : Shw (.dlk ds) p k N) (hk : k ≤ 60) (hN : N ≤ 2 ^ 20) (he : easy p = true) : gReprR [.dlk ds] = some (.val (.str p.shown)) := by
  simp only [gReprR, h.e, Option.bind_some, if_pos (h.can hk hN he)]
theorem noLs_ints : ∀ ns : List Int, noLs (ns.map .int) = true
  | [] => rfl
  | n :: ns => by simp [noLs, noL, noLs_ints ns]
theorem noD_ints : ∀ ns : List Int, PyData.hasDictAll (ns.map .int) = false
  | [] => rfl
  | n :: ns => by simp [PyData.hasDictAll, PyData.hasDict, noD_ints ns]
/-- a list of ints is shown -/
theorem repr_ints (ns : List Int) (h : ∀ n ∈ ns, smallI n) (hl : ns.length ≤ 1000000) : ∃ x, gReprR [.lst (ns.map .int)] = some (.val (.str x)) :=
  ⟨_, reprR_lst (Shw.lst (k := 0) (ShwL.ints ns h (Nat.le_refl _))) (by omega) (by have : (2 : Nat) ^ 20 = 1048576 := by decide
                                                                                   omega) (by simp [easy, PyData.hasDict, noD_ints])⟩
/-! slots that may be stored to -/
def Fr (s : Sl) : Prop := ∀ ρ' : O.Env, fre ρ' (some s) = some ρ'
theorem fr_un : Fr .un := fun _ => id rfl
theorem fr_sh {d : D} : Fr (.sh d) := fun _ => id rfl
theorem fr_br {d : D} : Fr (.br d) := fun _ => id rfl
theorem fr_ow {o : OD} : Fr (.ow o) := fun _ => id rfl
theorem rng_mem {lo : Int} {n : Nat} {d : D} (h : d ∈ rngD lo n) : ∃ i : Nat, i < n ∧ d = .int (lo + (i : Int)) := by
  unfold rngD at h
  obtain ⟨i, hi, rfl⟩ := List.mem_map.mp h
  exact ⟨i, List.mem_range.mp hi, rfl⟩
theorem forD_cons {k : D → O.Env → Option O.Env} {g : O.Env → SR} {d : D} {ds : List D} {ρ ρ1 ρ2 : O.Env} (h1 : k d ρ = some ρ1) (h2 : g ρ1 = .nx ρ2) : forD k g (d :: ds) ρ = forD k g ds ρ2 := by simp only [forD, h1, h2]
end O

/-! Own27: repr of any data (lists beside dicts too, and None, bools, ints, texts) -/
namespace O
open PySem
open L2 (V Hp HO Rd SqL SqT VK XK St TE TA Cx Sp FnOk Room Vals RelV OpR CallR)
mutual
/-- what a value shows; no dict is the one of the loaded modules -/
inductive RdN (h : Heap) : Value → PyData → Prop
  | non : RdN h .none .none
  | bl (b : Bool) : RdN h (.bool b) (.bool b)
  | int (i : Int) (t : Tok) : RdN h (.int i t) (.int i)
  | str (x : Str) (t : Tok) : RdN h (.str x t) (.str x)
  | list {a : Addr} {o : Obj} {us : Array Value} {n : Nat} {ps : List PyData} (e1 : h.get? a = some o) (e2 : o.cls = .type "list") (e3 : o.data = .seq us n) (r : RdNs h us.toList ps) : RdN h (.ref a) (.list ps)
  | tuple {a : Addr} {o : Obj} {us : Array Value} {n : Nat} {ps : List PyData} (e1 : h.get? a = some o) (e2 : o.cls = .type "tuple") (e3 : o.data = .seq us n) (r : RdNs h us.toList ps) : RdN h (.ref a) (.tuple ps)
  | dict {a : Addr} {o : Obj} {es : Array DictEntry} {n : Nat} {kps : List (PyData × PyData)} (e1 : h.get? a = some o) (e2 : o.cls = .type "dict") (e3 : o.data = .dict es n) (e4 : (a == sysModules) = false) (r : RdNs h (es.toList.map (·.key)) (kps.map (·.1))) (q : RdNs h (es.toList.map (·.val)) (kps.map (·.2))) : RdN h (.ref a) (.dict kps)
inductive RdNs (h : Heap) : List Value → List PyData → Prop
  | nil : RdNs h [] []
  | cons {u : Value} {p : PyData} {us : List Value} {ps : List PyData} : RdN h u p → RdNs h us ps → RdNs h (u :: us) (p :: ps)
end
mutual
theorem RdN.reads {h : Heap} : ∀ {u : Value} {p : PyData}, RdN h u p → ∃ as, Reads h u p as
  | _, _, .non => ⟨_, .none⟩
  | _, _, .bl b => ⟨_, .bool b⟩
  | _, _, .int i t => ⟨_, .int i t⟩
  | _, _, .str x t => ⟨_, .str x t⟩
  | _, _, .list e1 e2 e3 r => let ⟨_, z⟩ := r.reads; ⟨_, .list e1 e2 e3 z⟩
  | _, _, .tuple e1 e2 e3 r => let ⟨_, z⟩ := r.reads; ⟨_, .tuple e1 e2 e3 z⟩
  | _, _, .dict e1 e2 e3 _ r q => let ⟨_, z⟩ := r.reads; let ⟨_, y⟩ := q.reads; ⟨_, .dict e1 e2 e3 z y⟩
theorem RdNs.reads {h : Heap} : ∀ {us : List Value} {ps : List PyData}, RdNs h us ps → ∃ as, ReadsAll h us ps as
  | _, _, .nil => ⟨_, .nil⟩
  | _, _, .cons r q => let ⟨_, z⟩ := r.reads; let ⟨_, y⟩ := q.reads; ⟨_, .cons z y⟩
end
section
variable (P : Program) (w : World)
mutual
theorem RdN.rk {h : Heap} : ∀ {u : Value} {p : PyData}, RdN h u p → p.showable = true → p.shown.length ≤ sizeLine → ∃ bs, ReadAtMost h p.depth bs ∧ ReprK P w bs h p.depth u p.shown
  | _, _, .non, _, _ => ⟨[], fun _ z => (by cases z), by rw [PyData.shown]; exact .of_is .none _ _ _⟩
  | _, _, .bl b, _, _ => ⟨[], fun _ z => (by cases z), by rw [PyData.shown]; exact .of_is (.bool b) _ _ _⟩
  | _, _, .int i t, s, _ => ⟨[], fun _ z => (by cases z), by
      rw [PyData.shown]
      exact .of_is (.int t (by simpa [PyData.showable] using s)) _ _ _⟩
  | _, _, .str x t, _, z => ⟨[], fun _ z => (by cases z), by
      rw [PyData.shown] at z ⊢
      exact .of_is (.str x t z) _ _ _⟩
  | _, _, .list (a := a) (us := us) (ps := ps) e1 e2 e3 r, s, z => by
    rw [PyData.shown] at z ⊢
    rw [PyData.depth]
    obtain ⟨bs, k1, k2⟩ := r.rk (by simpa [PyData.showable] using s) fun t ht => Nat.le_trans (listText_mem_le ht) z
    obtain ⟨as, ra⟩ := r.reads
    have rr : Reads h (.ref a) (.list ps) (a :: as) := .list e1 e2 e3 ra
    have fresh : a ∉ bs := not_mem_of_deeper rr (by rw [PyData.depth]; omega) k1
    refine ⟨a :: bs, by have := ReadAtMost.cons rr (n := PyData.depthAll ps) (by rw [PyData.depth]; omega) k1; rwa [PyData.depth] at this, ?_⟩
    rcases us with ⟨_ | ⟨u, us⟩⟩
    · have r0 : RdNs h [] ps := r
      cases r0
      rw [PyData.shownAll, listText_nil]
      exact .listEmpty e1 e2 e3
    · exact .list e1 e2 e3 fresh (by simpa using k2.length_eq) fun i y e => k2.item i y (by simpa using e)
  | _, _, .tuple (a := a) (us := us) (ps := ps) e1 e2 e3 r, s, z => by
    rw [PyData.shown] at z ⊢
    rw [PyData.depth]
    obtain ⟨bs, k1, k2⟩ := r.rk (by simpa [PyData.showable] using s) fun t ht => Nat.le_trans (tupleText_mem_le ht) z
    obtain ⟨as, ra⟩ := r.reads
    have rr : Reads h (.ref a) (.tuple ps) as := .tuple e1 e2 e3 ra
    have fresh : a ∉ bs := not_mem_of_deeper rr (by rw [PyData.depth]; omega) k1
    exact ⟨a :: bs, by have := ReadAtMost.cons rr (n := PyData.depthAll ps) (by rw [PyData.depth]; omega) k1; rwa [PyData.depth] at this, .tuple e1 e2 e3 fresh k2⟩
  | _, _, .dict (a := a) (es := es) (kps := kps) e1 e2 e3 e4 r q, s, z => by
    rw [PyData.shown] at z ⊢
    rw [PyData.depth]
    obtain ⟨s1, s2⟩ := PyData.showableKv_split kps (by simpa [PyData.showable] using s)
    obtain ⟨b1, k1, k2⟩ := r.rk s1 fun t ht => let ⟨p, hp, hl⟩ := PyData.shownKv_key_le kps t ht; Nat.le_trans hl (Nat.le_trans (dictText_mem_le hp) z)
    obtain ⟨b2, j1, j2⟩ := q.rk s2 fun t ht => let ⟨p, hp, hl⟩ := PyData.shownKv_val_le kps t ht; Nat.le_trans hl (Nat.le_trans (dictText_mem_le hp) z)
    obtain ⟨as, ra⟩ := r.reads
    obtain ⟨cs, rc⟩ := q.reads
    have rr : Reads h (.ref a) (.dict kps) (a :: as ++ cs) := .dict e1 e2 e3 ra rc
    have most : ReadAtMost h (PyData.depthKv kps) (b1 ++ b2) := (k1.mono (PyData.depthAll_keys_le kps)).append (j1.mono (PyData.depthAll_vals_le kps))
    have fresh : a ∉ b1 ++ b2 := not_mem_of_deeper rr (by rw [PyData.depth]; omega) most
    refine ⟨a :: (b1 ++ b2), by have := ReadAtMost.cons rr (n := PyData.depthKv kps) (by rw [PyData.depth]; omega) most; rwa [PyData.depth] at this, ?_⟩
    rw [PyData.shownKv_eq]
    have l1 := k2.more_le (as' := b1 ++ b2) (fun b hb => by simp [hb]) (PyData.depthAll_keys_le kps)
    have l2 := j2.more_le (as' := b1 ++ b2) (fun b hb => by simp [hb]) (PyData.depthAll_vals_le kps)
    exact .dict e1 e2 e3 e4 fresh (.of_two es.toList _ _ l1 l2)
theorem RdNs.rk {h : Heap} : ∀ {us : List Value} {ps : List PyData}, RdNs h us ps → PyData.showableAll ps = true → (∀ t ∈ PyData.shownAll ps, t.length ≤ sizeLine) → ∃ bs, ReadAtMost h (PyData.depthAll ps) bs ∧ ReprAllK P w bs h (PyData.depthAll ps) us (PyData.shownAll ps)
  | _, _, .nil, _, _ => ⟨[], fun _ z => (by cases z), by rw [PyData.shownAll]; exact .nil⟩
  | _, _, .cons (p := p) (ps := ps) r q, s, z => by
    rw [PyData.shownAll] at z ⊢
    rw [PyData.depthAll]
    rw [PyData.showableAll, Bool.and_eq_true] at s
    obtain ⟨b1, k1, k2⟩ := r.rk s.1 (z _ (by simp))
    obtain ⟨b2, j1, j2⟩ := q.rk s.2 fun t ht => z t (by simp [ht])
    refine ⟨b1 ++ b2, (k1.mono (Nat.le_max_left ..)).append (j1.mono (Nat.le_max_right ..)), ?_⟩
    exact .cons ((k2.more fun b hb => by simp [hb]).level_le (Nat.le_max_left ..)) (j2.more_le (fun b hb => by simp [hb]) (Nat.le_max_right ..))
end
end
section
variable {P : Program} {w : World} {A : Around} {E : Value → Shared → Prop} {s : Shared} {Q : Value → Shared → Prop}
/-- repr, called -/
theorem RdN.repr {u : Value} {p : PyData} (r : RdN s.heap u p) (hs : p.showable = true) (hg : A.guards = some []) (hu : A.units + (p.depth + 1) < cLine) (hz : p.shown.length ≤ sizeLine)
    (q : ∀ h' t tk, (∀ b o, s.heap.get? b = some o → h'.get? b = some o) → Q (.str p.shown t) { s with heap := h', toks := tk }) : wpAny (model P w) A (call (.builtin "repr") [u]) Q E s := by
  cases r with
  | non => exact call_repr_gives (typeIs_none s) F.slot_NoneType_repr F.entry_NoneType_repr (F.args_NoneType_repr_1 _) gives_none_repr (q s.heap _ _ fun _ _ e => e) (hx := hz)
  | bl b => exact call_repr_gives (PySem.typeIs_bool s b) F.slot_bool_repr F.entry_bool_repr (F.args_bool_repr_1 _) (gives_bool_repr b) (q s.heap _ _ fun _ _ e => e) (hx := hz)
  | int i t => exact call_repr_gives (typeIs_int s i t) F.slot_int_repr F.entry_int_repr (F.args_int_repr_1 _) (gives_int_repr i t (by simpa [PyData.showable] using hs)) (q s.heap _ _ fun _ _ e => e) (hx := hz)
  | str x t => exact call_repr_gives (typeIs_str s x t) F.slot_str_repr F.entry_str_repr (F.args_str_repr_1 _) (gives_str_repr x t) (q s.heap _ _ fun _ _ e => e) (hx := hz)
  | list e1 e2 e3 r =>
    rename_i a o us n ps
    rw [PyData.shown] at hz q
    rw [PyData.depth] at hu
    obtain ⟨bs, k1, k2⟩ := r.rk P w (by simpa [PyData.showable] using hs) fun t ht => Nat.le_trans (listText_mem_le ht) hz
    obtain ⟨as, ra⟩ := r.reads
    have rr : Reads s.heap (.ref a) (.list ps) (a :: as) := .list e1 e2 e3 ra
    have fresh : a ∉ bs := not_mem_of_deeper rr (by rw [PyData.depth]; omega) k1
    refine call_repr_slot (by omega) ⟨o, e1, e2⟩ F.slot_list_repr.toG ?_
    rcases us with ⟨_ | ⟨u, us⟩⟩
    · have r0 : RdNs s.heap [] ps := r
      cases r0
      rw [PyData.shownAll, listText_nil] at q
      exact call_list_repr_empty ⟨o, e1, e2⟩ e1 e3 ⟨_, _, rfl, q s.heap _ _ fun _ _ e => e⟩
    · exact call_list_reprK e1 e2 e3 fresh (by simpa using k2.length_eq) (fun i y e => k2.item i y (by simpa using e)) hg (fun b _ => Clear.nil b) (by show A.units + 1 + _ < _; omega) (fun _ _ e => e) (fun h' t tk k => ⟨_, _, rfl, q h' t tk k⟩) hz
  | tuple e1 e2 e3 r =>
    rename_i a o us n ps
    rw [PyData.shown] at hz q
    rw [PyData.depth] at hu
    obtain ⟨bs, k1, k2⟩ := r.rk P w (by simpa [PyData.showable] using hs) fun t ht => Nat.le_trans (tupleText_mem_le ht) hz
    obtain ⟨as, ra⟩ := r.reads
    have rr : Reads s.heap (.ref a) (.tuple ps) as := .tuple e1 e2 e3 ra
    have fresh : a ∉ bs := not_mem_of_deeper rr (by rw [PyData.depth]; omega) k1
    refine call_repr_slot (by omega) ⟨o, e1, e2⟩ F.slot_tuple_repr ?_
    exact call_tuple_reprK e1 e2 e3 fresh k2 hg (fun b _ => Clear.nil b) (by show A.units + 1 + _ < _; omega) (fun _ _ e => e) (fun h' t tk k => ⟨_, _, rfl, q h' t tk k⟩) hz
  | dict e1 e2 e3 e4 r r' =>
    rename_i a o es n kps
    rw [PyData.shown] at hz
    rw [PyData.shown, PyData.shownKv_eq] at q
    rw [PyData.depth] at hu
    obtain ⟨s1, s2⟩ := PyData.showableKv_split kps (by simpa [PyData.showable] using hs)
    obtain ⟨b1, k1, k2⟩ := r.rk P w s1 fun t ht => let ⟨p, hp, hl⟩ := PyData.shownKv_key_le kps t ht; Nat.le_trans hl (Nat.le_trans (dictText_mem_le hp) hz)
    obtain ⟨b2, j1, j2⟩ := r'.rk P w s2 fun t ht => let ⟨p, hp, hl⟩ := PyData.shownKv_val_le kps t ht; Nat.le_trans hl (Nat.le_trans (dictText_mem_le hp) hz)
    obtain ⟨as, ra⟩ := r.reads
    obtain ⟨cs, rc⟩ := r'.reads
    have rr : Reads s.heap (.ref a) (.dict kps) (a :: as ++ cs) := .dict e1 e2 e3 ra rc
    have most : ReadAtMost s.heap (PyData.depthKv kps) (b1 ++ b2) := (k1.mono (PyData.depthAll_keys_le kps)).append (j1.mono (PyData.depthAll_vals_le kps))
    have fresh : a ∉ b1 ++ b2 := not_mem_of_deeper rr (by rw [PyData.depth]; omega) most
    have l1 := k2.more_le (as' := b1 ++ b2) (fun b hb => by simp [hb]) (PyData.depthAll_keys_le kps)
    have l2 := j2.more_le (as' := b1 ++ b2) (fun b hb => by simp [hb]) (PyData.depthAll_vals_le kps)
    refine call_repr_slot (by omega) ⟨o, e1, e2⟩ F.slot_dict_repr ?_
    exact call_dict_reprK e1 e2 e3 e4 fresh (.of_two es.toList _ _ l1 l2) hg (fun b _ => Clear.nil b) (by show A.units + 1 + _ < _; omega) (fun _ _ e => e) (fun h' t tk k => ⟨_, _, rfl, q h' t tk k⟩) (by rw [← PyData.shownKv_eq]; exact hz)
end
section
variable {X : Cx} {pins : List (Addr × Obj)} {σ : St} {H : Hp} {s : Shared}
theorem keys_rdN (h : Heap) {P : Program} {w : World} {es : List DictEntry} {kvs : List (L2.Key × Value)} (r : Pairs (L2.mixKind P w) es kvs) : RdNs h (es.map (·.key)) (kvs.map fun kv => kD kv.1) := by
  induction r with
  | nil => exact .nil
  | cons k _ _ ih =>
    refine .cons ?_ ih
    rcases L2.keyIs_shape k with ⟨i, t, e1, e2⟩ | ⟨x, t, e1, e2⟩
    · show RdN h (DictEntry.key _) (kD (Prod.fst _))
      rw [e1, e2]; exact .int i t
    · show RdN h (DictEntry.key _) (kD (Prod.fst _))
      rw [e1, e2]; exact .str x t
mutual
theorem Rep.rdN (I : L2.Inv X pins σ H s) : ∀ {d : D} {v : V} {u : Value} {p : PyData}, Rep X.K H d v → RelV v u → toPyR d = some p → RdN s.heap u p
  | _, _, _, _, .non, r, e => by simp only [toPyR, Option.some.injEq] at e; subst e; cases r; exact .non
  | _, _, _, _, .bl b, r, e => by simp only [toPyR, Option.some.injEq] at e; subst e; cases r; exact .bl b
  | _, _, _, _, .int i, r, e => by simp only [toPyR, Option.some.injEq] at e; subst e; obtain ⟨t, rfl⟩ := r; exact .int i t
  | _, _, _, _, .str x, r, e => by simp only [toPyR, Option.some.injEq] at e; subst e; obtain ⟨t, rfl⟩ := r; exact .str x t
  | _, _, _, _, .scr _, _, e => by simp [toPyR] at e
  | _, _, _, _, .tup (ds := ds) h q, r, e => by
    simp only [toPyR] at e
    cases e1 : toPyRs ds with
    | none => rw [e1] at e; cases e
    | some ps =>
      rw [e1] at e
      cases e; cases r
      obtain ⟨its, rv, ⟨o, ho, hc, n, hd⟩, _⟩ := I.tuple h
      exact .tuple ho hc hd (Reps.rdN I q rv e1)
  | _, _, _, _, .lst (ds := ds) h q, r, e => by
    simp only [toPyR] at e
    cases e1 : toPyRs ds with
    | none => rw [e1] at e; cases e
    | some ps =>
      rw [e1] at e
      cases e; cases r
      obtain ⟨its, rv, ⟨o, n, ho, hc, _, hd⟩, _⟩ := I.list (.inl h)
      exact .list ho hc hd (Reps.rdN I q rv e1)
  | _, _, _, _, .dic (kvs := kvs) h q, r, e => by
    simp only [toPyR] at e
    cases e1 : toPyRk kvs with
    | none => rw [e1] at e; cases e
    | some ps =>
      rw [e1] at e
      cases e; cases r
      obtain ⟨hz, hsys, ws, kvw, o, es, ep, ho, hex, hd, _, prs, _⟩ := h.ok I.hok
      obtain ⟨e2, e3⟩ := Repk.rdN I q kvw e1
      exact .dict ho hex.1 hd hsys (by rw [e2]; exact keys_rdN _ prs) (by rw [vals_of_pairs prs]; exact e3)
  | _, _, _, _, .dlk (kvs := kvs) h q, r, e => by
    simp only [toPyR] at e
    cases e1 : toPyRk kvs with
    | none => rw [e1] at e; cases e
    | some ps =>
      rw [e1] at e
      cases e; cases r
      obtain ⟨hz, hsys, ws, kvw, o, es, ep, ho, hex, hd, _, prs, _⟩ := (show Rd H _ _ from .inr ⟨_, h⟩).ok I.hok
      obtain ⟨e2, e3⟩ := Repk.rdN I q kvw e1
      exact .dict ho hex.1 hd hsys (by rw [e2]; exact keys_rdN _ prs) (by rw [vals_of_pairs prs]; exact e3)
theorem Reps.rdN (I : L2.Inv X pins σ H s) : ∀ {ds : List D} {vs : List V} {us : List Value} {ps : List PyData}, Reps X.K H ds vs → Vals vs us → toPyRs ds = some ps → RdNs s.heap us ps
  | _, _, _, _, .nil, r, e => by simp only [toPyRs, Option.some.injEq] at e; subst e; cases r; exact .nil
  | _, _, _, _, .cons (d := d) (ds := ds) h q, r, e => by
    simp only [toPyRs] at e
    cases e1 : toPyR d with
    | none => rw [e1] at e; cases e
    | some p =>
      cases e2 : toPyRs ds with
      | none => rw [e1, e2] at e; cases e
      | some ps =>
        rw [e1, e2] at e
        cases e
        cases r with
        | cons r1 r2 => exact .cons (Rep.rdN I h r1 e1) (Reps.rdN I q r2 e2)
theorem Repk.rdN (I : L2.Inv X pins σ H s) : ∀ {kvs : List (L2.Key × D)} {kws : List (L2.Key × V)} {ws : List (L2.Key × Value)} {ps : List (PyData × PyData)}, Repk X.K H kvs kws → L2.KV kws ws → toPyRk kvs = some ps →
    ps.map (·.1) = ws.map (fun kv => kD kv.1) ∧ RdNs s.heap (ws.map (·.2)) (ps.map (·.2))
  | _, _, _, _, .nil, r, e => by simp only [toPyRk, Option.some.injEq] at e; subst e; cases r; exact ⟨rfl, .nil⟩
  | _, _, _, _, .cons (k := k) (d := d) (kvs := kvs) h q, r, e => by
    simp only [toPyRk] at e
    cases e1 : toPyR d with
    | none => rw [e1] at e; cases e
    | some p =>
      cases e2 : toPyRk kvs with
      | none => rw [e1, e2] at e; cases e
      | some ps =>
        rw [e1, e2] at e
        cases e
        cases r with
        | cons r1 r2 =>
          obtain ⟨ek, rv⟩ := r1
          obtain ⟨b0, b1⟩ := Repk.rdN I q r2 e2
          exact ⟨by rw [List.map_cons, List.map_cons, b0, ← ek], .cons (Rep.rdN I h rv e1) b1⟩
end
/-- what may be shown: short enough -/
def canShowA (p : PyData) : Bool := p.showable && decide (p.depth ≤ 60) && decide (p.shown.length ≤ sizeLine)
def gReprA : List D → Option RV
  | [d] => (toPyR d).bind fun p => if canShowA p = true then some (.val (.str p.shown)) else none
  | _ => none
theorem cb_reprA (hu : X.A.units + 64 < cLine) (hg : X.A.guards = some []) : CallR X (.builtin "repr") (rGC X.K gReprA) := by
  intro pins s σ H xs us Q I rx ⟨Hd, ds, z, l, t, eg, q⟩
  rcases ds with _ | ⟨d, _ | ⟨_, _⟩⟩
  · cases eg
  · simp only [gReprA] at eg
    obtain ⟨x, e1, w⟩ := tops1 t
    subst e1
    obtain ⟨u, rfl, ru⟩ : ∃ u, us = [u] ∧ RelV x u := by
      cases rx with | cons r rr => cases rr; exact ⟨_, rfl, r⟩
    cases e3 : toPyR d with
    | none => rw [e3] at eg; cases eg
    | some p =>
      rw [e3] at eg
      by_cases hc : canShowA p = true
      · simp only [Option.bind_some, if_pos hc] at eg
        cases eg
        unfold canShowA at hc
        simp only [Bool.and_eq_true, decide_eq_true_eq] at hc
        obtain ⟨⟨k1, k3⟩, k4⟩ := hc
        exact (Rep.rdN I (w.all l) ru e3).repr k1 hg (by omega) k4 fun h' u tk keep => ⟨.str p.shown, H, I.kept keep, ⟨_, rfl⟩, q _ _ (newR_here l (.str _))⟩
      · simp only [Option.bind_some, if_neg hc] at eg; cases eg
  · cases eg
end
theorem Shw.canA {d : D} {p : PyData} {k N : Nat} (h : Shw d p k N) (hk : k ≤ 60) (hN : N ≤ 2 ^ 20) : canShowA p = true := by
  have h1 : p.shown.length ≤ sizeLine := PyData.shown_fits_bulk (B := 13) (by decide) (by decide) h.l (by have := h.b; omega)
  have h2 := h.dp
  unfold canShowA
  simp only [h.s, Bool.true_and, Bool.and_eq_true, decide_eq_true_eq]
  exact ⟨by omega, h1⟩
/-- small data is shown -/
theorem Shw.repr {d : D} {p : PyData} {k N : Nat} (h : Shw d p k N) (hk : k ≤ 60) (hN : N ≤ 2 ^ 20) : gReprA [d] = some (.val (.str p.shown)) := by
  simp only [gReprA, h.e, Option.bind_some, if_pos (h.canA hk hN)]
end O

/-! Own28: defs that are called while nothing is being shown: repr may be called in them; defs that call themselves -/
namespace O
open PySem
open PyProof.Rows (envOfC AllBare)
open L2 (V Hp HO Rd SqL SqT upd upd_same upd_ne ne_of ne_of_none TE TT TA TS TG TGs TI TO It VK XK Ends St PE PT PW PA PS PSs PG PGs PI PO PTs Cx OpR UnR CallR IxR SlR MtR R2 tOp tUn tVar tC tCons tNil tTup tLst tTest tB tAnd tOr tNot tAndV tOrV tNotV tIf tCB Sp FnOk Gl Vis Loc Room Vals RelV Env0)
structure RoomG (k : Nat) (A : Around) : Prop where
  room : Room k A
  gd : A.guards = some []
theorem RoomG.mono {j k : Nat} {A : Around} (r : RoomG k A) (h : j ≤ k) : RoomG j A := ⟨r.room.mono h, r.gd⟩
theorem RoomG.deeper {k : Nat} {A : Around} (r : RoomG (k + 1) A) (env : PySem.Env) : RoomG k (A.deeper env) := ⟨r.room.deeper env, r.gd⟩
theorem RoomG.units {k : Nat} {A : Around} (r : RoomG k A) : A.units + 64 < cLine := r.room.units
section
variable {P : Program} {w : World} {K : PySem.W.Frag} {mg : Str → Option Value} {base : Heap}
/-- a def's promise where nothing is being shown -/
structure FnG (P : Program) (w : World) (K : PySem.W.Frag) (mg : Str → Option Value) (base : Heap) (k : Nat) (f : Addr) (fd : FuncData) (ps : List Str) (sp : Sp) : Prop where
  ln : ∀ vs H Q E, sp vs H Q E → vs.length = ps.length
  go : ∀ (A : Around) (outer : List PySem.Env) (s : Shared) (H : Hp) (args : Args) (us : List Value) (vs : List V) (Q : VK) (E : XK), RoomG k A → Env0 P w K mg base A outer s H → BindsTo s fd args (ps.zip us) → Vals vs us → sp vs H Q E →
    codeAny (model P w) A (.call (.ref f) args) (L2.CR (L2.CX P w) outer P w H s Q E) s
theorem FnG.none {k m : Nat} {f : Addr} {fd : FuncData} {ps : List Str} (hp : ps.length = m) : FnG P w K mg base k f fd ps (spF K m fun _ => .no) :=
  ⟨fun _ _ _ _ h => by rw [spF_len h, hp], fun _ _ _ _ _ _ _ _ _ _ _ _ _ ⟨_, _, _, _, _, _, h⟩ => h.elim⟩
theorem def_okG {x qual : Str} {st : Stmt} {f : Addr} {fd : FuncData} {N ps : List Str} {k n m : Nat} {g : O.Env → SR} (F : L2.Fun K x qual st f fd) (S : L2.FnScope N ps (L2.defScope st)) (hN : N.length = n) (hp : ps.length = m) (hmn : m ≤ n)
    (hB : ∀ (cdv : Value) (A : Around) (outer : List PySem.Env) (s : Shared) (H : Hp) (E : XK), RoomG k (A.deeper (envOfC qual (L2.defScope st) s.heap.objs.size f cdv)) → ∃ t, JB (bx P w K mg base N qual st f cdv A outer s H E) (fun _ => E) (L2.defBody st) t g) :
    FnG P w K mg base (k + 1) f fd ps (spF K m (runF n g)) := by
  obtain ⟨oc, od, kV, doc, pm, an, cdv, ct, osl, rfl, look, code⟩ := F.ex
  refine ⟨fun _ _ _ _ h => by rw [spF_len h, hp], fun A outer s H args us vs Q E room e0 bind rel prom => ?_⟩
  have many : vs.length = ps.length := by rw [spF_len prom, hp]
  have inK : K.In s.heap := e0.mod.kin.keeps fun b o h => (e0.bs b o h).1
  have free : s.heap.NoLimit := e0.mod.nolimit.keeps fun b o h => (e0.bs b o h).1
  have kinds : ∀ y ∈ ps.zip us, (L2.defScope st).names.lookup y.1 = some .local ∨ ((L2.defScope st).names.lookup y.1 = some .cell ∧ ((cellsFrom (s.heap.objs.size + 1) (L2.defScope st).names []).lookup y.1).isSome = true) := by
    rintro ⟨x, z⟩ hy
    refine (S.par x (List.of_mem_zip hy).1).imp_right fun c => ⟨c, ?_⟩
    exact PySem.W.cellsFrom_some _ _ _ (Or.inl c)
  refine codeAny_call_function room.room.depth (inK _ _ look) rfl S.co S.gen rfl (PySem.W.codeRec_of inK code) (bind _ _ _ _ (?_))
  refine wpAny_newFunctionEnv_cells S.kind kinds fun env he s1 laid => (?_)
  subst he
  refine ⟨free.keeps laid.toInCall.keep, codeAny_func (?_)⟩
  obtain ⟨t, jb⟩ := hB cdv A outer s H E (room.deeper _)
  have start := L2.inv_start (CX := L2.CX P w) (E := E) S room.room.hd e0 many rel laid
  have goal := jb.pss.run [] s1 _ H _ start (body_ok hN hmn jb.ss prom)
  refine wpAny_mono goal (fun fl s' done => ?_) fun e s' out => out
  cases fl with
  | brk => exact done.elim fun _ q => q.elim fun _ q => q.2.elim
  | cont => exact done.elim fun _ q => q.elim fun _ q => q.2.elim
  | ret z =>
    obtain ⟨y, τ, G, J, rz, hq⟩ := done
    exact ⟨y, G, J.os, J.bare, J.base, J.hok, rz, hq⟩
  | next =>
    obtain ⟨τ, G, J, hq⟩ := done
    exact ⟨.non, G, J.os, J.bare, J.base, J.hok, rfl, hq⟩
structure CalG (P : Program) (w : World) (K : PySem.W.Frag) (mg : Str → Option Value) (base : Heap) (x : Str) (k n : Nat) (ps : List Str) (F : List Ar → FO) : Prop where
  ex : ∃ (fA : Addr) (fd : FuncData), FnG P w K mg base k fA fd ps (spF K n F) ∧ mg x = some (.ref fA) ∧ PySem.W.keepIn K (.ref fA) = true ∧ L2.Binds K fd ps []
theorem cal_ofG {x : Str} {fA : Addr} {fd : FuncData} {ps N : List Str} {k n m : Nat} {st : Stmt} {g : O.Env → SR} (F : L2.Fun K x x st fA fd) (S : L2.FnScope N ps (L2.defScope st)) (gm : mg x = some (.ref fA)) (hN : N.length = n) (hp : ps.length = m) (hmn : m ≤ n) (hb : L2.Binds K fd ps [])
    (hB : ∀ (cdv : Value) (A : Around) (outer : List PySem.Env) (s : Shared) (H : Hp) (E : XK), RoomG k (A.deeper (envOfC x (L2.defScope st) s.heap.objs.size fA cdv)) → ∃ t, JB (bx P w K mg base N x st fA cdv A outer s H E) (fun _ => E) (L2.defBody st) t g) :
    CalG P w K mg base x (k + 1) m ps (runF n g) := ⟨⟨fA, fd, def_okG F S hN hp hmn hB, gm, F.kp, hb⟩⟩
theorem cal_none {x : Str} {fA : Addr} {fd : FuncData} {ps : List Str} {k m : Nat} {st : Stmt} (F : L2.Fun K x x st fA fd) (gm : mg x = some (.ref fA)) (hp : ps.length = m) (hb : L2.Binds K fd ps []) : CalG P w K mg base x k m ps (fun _ => .no) := ⟨⟨fA, fd, .none hp, gm, F.kp, hb⟩⟩
end
section
variable {X : Cx} {W : St → XK} {e : Expr} {es : List Expr} {pos p : Pos} {t : TA} {f : O.Env → Res (List RV)}
theorem pe_callG {x : Str} {k : Nat} {fA : Addr} {fd : FuncData} {ps : List Str} {sp : Sp} {dvs : List V} {ds : List Value} {E : St → XK} (F : FnG X.prog X.w X.K X.mg X.base k fA fd ps sp) (hr : RoomG k X.A) (hg : Gl X x) (hm : X.mg x = some (.ref fA)) (hk : PySem.W.keepIn X.K (.ref fA) = true) (hb : L2.Binds X.K fd ps ds) (hd : Vals dvs ds) (tk : ∀ σ, L2.PassesAt (L2.CX X.prog X.w) X σ (E σ))
    (ha : PA X (e :: es) t) (hdb : (x == ("__debug__" : Str)) = false := by decide) (he : starEach (e :: es) X.env = (false, eval e X.env) :: starEach es X.env := by rfl) (hpl : (backTo pos (starEach es X.env)).any (·.1) = false := by rfl) :
    PE X (.Call (.Name x p) (e :: es) [] pos) (L2.tCallSD sp dvs E t) := ⟨fun pins s σ H Q I h => by
  refine wpAny_Call_Name_kw (L2.ld_glob I hg hm ?_ hdb)
  refine PySem.W.callWith_K I.ok.mod.kin hk (L2.thn (ha.run pos pins s σ H _ I h) fun us s1 ⟨vs, H1, I1, r, q⟩ => ⟨I1.kIn, ?_⟩) he hpl
  have rr := r.append hd
  have many : (us ++ ds).length = ps.length := by rw [← rr.length]; exact F.ln _ _ _ _ q
  refine wpAny_call (codeAny_mono (F.go X.A X.stack s1 H1 ⟨us, []⟩ (us ++ ds) (vs ++ dvs) Q (E σ) hr I1.env0 (hb s1 us I1.kIn many) rr q) fun r s' hq => ?_)
  rcases r with e | fl
  · exact tk σ pins H1 s1 e s' I1 hq
  · cases fl with
    | ret u => exact I1.after hq
    | next => exact hq.elim
    | brk => exact hq.elim
    | cont => exact hq.elim⟩
theorem jcalG {K : PySem.W.Frag} {x : Str} {k j n : Nat} {ps : List Str} {F : List Ar → FO} (ms : List Md) (c : CalG X.prog X.w X.K X.mg X.base x k n ps F) (hr : RoomG j X.A) (tk : ∀ σ, L2.PassesAt (L2.CX X.prog X.w) X σ (W σ)) (ha : JA X W (e :: es) t f) (hj : k ≤ j := by first | decide | omega) (hl : ms.length = n := by rfl) (hg : Gl X x := by rfl)
    (hdb : (x == ("__debug__" : Str)) = false := by decide) (he : starEach (e :: es) X.env = (false, eval e X.env) :: starEach es X.env := by rfl) (hpl : (backTo pos (starEach es X.env)).any (·.1) = false := by rfl) (hK : X.K = K := by rfl) :
    JE X W (.Call (.Name x p) (e :: es) [] pos) (L2.tCallSD (spF K n F) [] W t) (fCall ms [] F f) := by
  subst hK
  obtain ⟨fA, fd, h1, h2, h3, h4⟩ := c.ex
  exact ⟨pe_callG h1 (hr.mono hj) hg h2 h3 h4 .nil tk ha.pa hdb he hpl, sd_call hl (fun _ => .nil) ha.sa⟩
end
/-- {} -/
def fDict0 : O.Env → Res RV := fun ρ => .ok (.own (.dic [])) ρ
@[simp] theorem u_fDict0 {ρ : O.Env} : fDict0 ρ = .ok (.own (.dic [])) ρ := id rfl
section
variable {X : Cx} {W : St → XK} {pos : Pos}
theorem jdict0 : JE X W (.Dict [] [] pos) L2.tDNewK fDict0 := ⟨L2.pe_dnewK, fun C fp Hd H σ ρ I Q p q hq => p.new I (newR_dic I.le hq .nil)⟩
end
section
variable {P : Program} {w : World} {K : PySem.W.Frag} {mg : Str → Option Value} {base : Heap} {N : List Str} {st : Stmt} {f : Addr} {fd : FuncData}
/-- one run of the law's def -/
theorem law_runG {k n : Nat} {g : O.Env → SR} {s : Shared} {H : Hp} {v : V} {u : Value} {Q : VK} {E : XK} (F : L2.Fun K "law" "law" st f fd) (S : L2.FnScope N ["script"] (L2.defScope st)) (hN : N.length = n) (hn : 1 ≤ n) (room : Room (k + 1) callerA)
    (hB : ∀ (cdv : Value) (A : Around) (outer : List PySem.Env) (s : Shared) (H : Hp) (E : XK), RoomG k (A.deeper (envOfC "law" (L2.defScope st) s.heap.objs.size f cdv)) → ∃ t, JB (bx P w K mg base N "law" st f cdv A outer s H E) (fun _ => E) (L2.defBody st) t g)
    (e0 : Env0 P w K mg base callerA [] s H) (bind : BindsTo s fd ⟨[u], []⟩ [("script", u)]) (rel : RelV v u) (prom : spF K 1 (runF n g) [v] H Q E) :
    codeAny (model P w) callerA (.call (.ref f) ⟨[u], []⟩) (L2.CR (L2.CX P w) [] P w H s Q E) s :=
  (def_okG F S hN rfl hn hB).go callerA [] s H _ [u] [v] Q E ⟨room, rfl⟩ e0 bind (.cons rel .nil) prom
end
end O

/-! Own29: equality with the empty tuple and the empty list, whatever stands in the other -/
namespace O
open PySem
open L2 (V Hp HO Rd SqL SqT VK XK St TE TA Cx Sp FnOk Room Vals RelV OpR CallR)
def eqE : D → D → Option Bool
  | .tup ds, .tup [] => some ds.isEmpty
  | .lst ds, .lst [] => some ds.isEmpty
  | d, e => eqS d e
def gEqE (d e : D) : Option RV := (eqE d e).map fun b => .val (.bl b)
def gNeE (d e : D) : Option RV := (eqE d e).map fun b => .val (.bl (!b))
theorem eqE_cases (d e : D) : (∃ ds, d = .tup ds ∧ e = .tup [] ∧ eqE d e = some ds.isEmpty) ∨ (∃ ds, d = .lst ds ∧ e = .lst [] ∧ eqE d e = some ds.isEmpty) ∨ eqE d e = eqS d e := by
  cases d with
  | tup ds => cases e with
    | tup es => cases es with
      | nil => exact .inl ⟨_, rfl, rfl, rfl⟩
      | cons _ _ => exact .inr (.inr rfl)
    | _ => exact .inr (.inr rfl)
  | lst ds => cases e with
    | lst es => cases es with
      | nil => exact .inr (.inl ⟨_, rfl, rfl, rfl⟩)
      | cons _ _ => exact .inr (.inr rfl)
    | _ => exact .inr (.inr rfl)
  | _ => exact .inr (.inr rfl)
section
variable {X : Cx}
theorem reps_nil {K : PySem.W.Frag} {H : Hp} {vs : List V} (r : Reps K H [] vs) : vs = [] := by cases r; rfl
theorem uals_nil {us : List Value} (r : Vals [] us) : us = [] := by cases r; rfl
theorem emp_size {K : PySem.W.Frag} {Hd : Hp} {ds : List D} {vs : List V} {us : List Value} (r : Reps K Hd ds vs) (q : Vals vs us) : us.length = ds.length := by rw [← q.length, r.length]
theorem op_gEqE (hu : X.A.units + 64 < cLine) : OpR X (compareOp .Eq) (rG X.K gEqE) := by
  intro pins s σ H x y v u Q I rx ry ⟨Hd, d1, d2, z, l, t1, t2, eg, q⟩
  rcases eqE_cases d1 d2 with ⟨ds, rfl, rfl, h⟩ | ⟨ds, rfl, rfl, h⟩ | h
  · cases eg
    obtain ⟨a, xs, rfl, h1, r1⟩ := t1.tupD l
    obtain ⟨b, ys, rfl, h2, r2⟩ := t2.tupD l
    cases reps_nil r2
    cases (show v = Value.ref a from rx)
    cases (show u = Value.ref b from ry)
    obtain ⟨us, p1, k1, _⟩ := I.tuple h1
    obtain ⟨ws, p2, k2, _⟩ := I.tuple h2
    cases uals_nil p2
    have e1 := emp_size r1 p1
    refine SeqAt.eq_tupleAt (e := fun _ => true) k1 k2 (by omega) (fun j _ z => (by simp at z)) ⟨.bl ds.isEmpty, H, I, ?_, q _ _ (newR_here l (.bl _))⟩
    show Value.bool _ = Value.bool _
    congr 1
    cases ds with
    | nil => simp at e1; subst e1; rfl
    | cons d ds => cases us with
      | nil => simp at e1
      | cons _ _ => rfl
  · cases eg
    obtain ⟨a, xs, rfl, h1, r1⟩ := t1.lstD l
    obtain ⟨b, ys, rfl, h2, r2⟩ := t2.lstD l
    cases reps_nil r2
    cases (show v = Value.ref a from rx)
    cases (show u = Value.ref b from ry)
    obtain ⟨us, p1, k1, _⟩ := I.list (.inl h1)
    obtain ⟨ws, p2, k2, _⟩ := I.list (.inl h2)
    cases uals_nil p2
    have e1 := emp_size r1 p1
    cases ds with
    | nil =>
      simp at e1; subst e1
      exact SeqAt.eq_listAt (e := fun _ => true) k1.isList k2.isList rfl (by omega) (fun j z _ => (by simp at z)) ⟨.bl true, H, I, rfl, q _ _ (newR_here l (.bl _))⟩
    | cons d ds => cases us with
      | nil => simp at e1
      | cons _ _ => exact SeqAt.eq_list_lengthsAt k1.isList k2.isList (by simp) (by omega) ⟨.bl false, H, I, rfl, q _ _ (newR_here l (.bl _))⟩
  · unfold gEqE at eg
    rw [h] at eg
    exact op_gEqS hu pins s σ H x y v u Q I rx ry ⟨Hd, d1, d2, z, l, t1, t2, eg, q⟩
theorem op_gNeE (hu : X.A.units + 64 < cLine) : OpR X (compareOp .NotEq) (rG X.K gNeE) := by
  intro pins s σ H x y v u Q I rx ry ⟨Hd, d1, d2, z, l, t1, t2, eg, q⟩
  rcases eqE_cases d1 d2 with ⟨ds, rfl, rfl, h⟩ | ⟨ds, rfl, rfl, h⟩ | h
  · cases eg
    obtain ⟨a, xs, rfl, h1, r1⟩ := t1.tupD l
    obtain ⟨b, ys, rfl, h2, r2⟩ := t2.tupD l
    cases reps_nil r2
    cases (show v = Value.ref a from rx)
    cases (show u = Value.ref b from ry)
    obtain ⟨us, p1, k1, _⟩ := I.tuple h1
    obtain ⟨ws, p2, k2, _⟩ := I.tuple h2
    cases uals_nil p2
    have e1 := emp_size r1 p1
    refine SeqAt.RcNeAt.tuples (e := fun _ => true) k1 k2 (by omega) (fun j _ z => (by simp at z)) _ _ _ _ ⟨.bl (!ds.isEmpty), H, I, ?_, q _ _ (newR_here l (.bl _))⟩
    show Value.bool _ = Value.bool _
    congr 1
    cases ds with
    | nil => simp at e1; subst e1; rfl
    | cons d ds => cases us with
      | nil => simp at e1
      | cons _ _ => rfl
  · cases eg
    obtain ⟨a, xs, rfl, h1, r1⟩ := t1.lstD l
    obtain ⟨b, ys, rfl, h2, r2⟩ := t2.lstD l
    cases reps_nil r2
    cases (show v = Value.ref a from rx)
    cases (show u = Value.ref b from ry)
    obtain ⟨us, p1, k1, _⟩ := I.list (.inl h1)
    obtain ⟨ws, p2, k2, _⟩ := I.list (.inl h2)
    cases uals_nil p2
    have e1 := emp_size r1 p1
    cases ds with
    | nil =>
      simp at e1; subst e1
      exact SeqAt.RcNeAt.lists (e := fun _ => true) k1.isList k2.isList rfl (by omega) (fun j z _ => (by simp at z)) _ _ _ _ ⟨.bl false, H, I, rfl, q _ _ (newR_here l (.bl _))⟩
    | cons d ds => cases us with
      | nil => simp at e1
      | cons _ _ => exact SeqAt.RcNeAt.lists_lengths k1.isList k2.isList (by simp) (by omega) _ _ _ _ ⟨.bl true, H, I, rfl, q _ _ (newR_here l (.bl _))⟩
  · unfold gNeE at eg
    rw [h] at eg
    exact op_gNeS hu pins s σ H x y v u Q I rx ry ⟨Hd, d1, d2, z, l, t1, t2, eg, q⟩
end
@[simp] theorem eqE_ii (i j : Int) : eqE (.int i) (.int j) = some (decide (i = j)) := eqB_int i j
@[simp] theorem eqE_ss (a b : Str) : eqE (.str a) (.str b) = some (decide (a = b)) := id rfl
@[simp] theorem eqE_bb (a b : Bool) : eqE (.bl a) (.bl b) = some (a == b) := by cases a <;> cases b <;> rfl
@[simp] theorem eqE_t0 (ds : List D) : eqE (.tup ds) (.tup []) = some ds.isEmpty := id rfl
@[simp] theorem eqE_l0 (ds : List D) : eqE (.lst ds) (.lst []) = some ds.isEmpty := id rfl
theorem eqE_ll (a b : List Int) : eqE (.lst (a.map .int)) (.lst (b.map .int)) = some (decide (a = b)) := by
  cases b with
  | nil => cases a <;> simp
  | cons j b => exact eqB_lst a (j :: b)
@[simp] theorem gEqE_some {d e : D} {b : Bool} (h : eqE d e = some b) : gEqE d e = some (.val (.bl b)) := by simp [gEqE, h]
@[simp] theorem gNeE_some {d e : D} {b : Bool} (h : eqE d e = some b) : gNeE d e = some (.val (.bl (!b))) := by simp [gNeE, h]
end O

/-! Own30: what the plain texts about the deck of draws share -/
namespace O
open PySem
@[simp] theorem gSubX_ii {i j : Int} : gSubX (.int i) (.int j) = some (.val (.int (i - j))) := id rfl
@[simp] theorem gSubX_bb {a b : Bool} : gSubX (.bl a) (.bl b) = some (.val (.int (nB a - nB b))) := id rfl
@[simp] theorem gLtT_ii {i j : Int} : gLtT (.int i) (.int j) = some (.val (.bl (decide (i < j)))) := id rfl
@[simp] theorem gGtT_ii {i j : Int} : gGtT (.int i) (.int j) = some (.val (.bl (decide (j < i)))) := id rfl
@[simp] theorem gLtT_tt {a b : List Int} : gLtT (.tup (a.map .int)) (.tup (b.map .int)) = some (.val (.bl (HT.lexLt a b))) := by simp [gLtT]
@[simp] theorem gGtT_tt {a b : List Int} : gGtT (.tup (a.map .int)) (.tup (b.map .int)) = some (.val (.bl (HT.lexLt b a))) := by simp [gGtT]
@[simp] theorem eqS_ii (i j : Int) : eqS (.int i) (.int j) = some (decide (i = j)) := eqB_int i j
@[simp] theorem eqS_ll (a b : List Int) : eqS (.lst (a.map .int)) (.lst (b.map .int)) = some (decide (a = b)) := eqB_lst a b
@[simp] theorem eqS_ss (a b : Str) : eqS (.str a) (.str b) = some (decide (a = b)) := id rfl
theorem atI_ok {α : Type} {l : List α} {r : Int} (h0 : 0 ≤ r) (h1 : r.toNat < l.length) : L2.atI l r = some l[r.toNat] := by
  obtain ⟨k, rfl⟩ := Int.eq_ofNat_of_zero_le h0
  have hk : k < l.length := by simpa using h1
  rw [L2.atI_nat (j := k) (List.getElem?_eq_getElem hk)]
  simp
theorem sub_len : ∀ {L F : List Int}, L.Nodup → (∀ x ∈ L, x ∈ F) → L.length ≤ F.length
  | [], _, _, _ => by simp
  | x :: L, F, h, hs => by
    have hx : x ∈ F := hs x (by simp)
    have h1 := List.nodup_cons.mp h
    have ih := sub_len (L := L) (F := F.erase x) h1.2 fun y hy => by
      have hne : y ≠ x := fun e => h1.1 (e ▸ hy)
      exact (List.mem_erase_of_ne hne).mpr (hs y (by simp [hy]))
    rw [List.length_erase_of_mem hx] at ih
    have : 0 < F.length := List.length_pos_of_mem hx
    rw [List.length_cons]
    omega
def nxt (n : Int) (j : Nat) : Int := (n - 1 + (j : Int)) % 1000000 + 1
theorem free_id {n : Int} (h1 : 1 ≤ n) (h2 : n ≤ 1000000) {F : List Int} (hF : F.length < 4000) : ∃ j, j ≤ F.length ∧ nxt n j ∉ F := by
  apply Classical.byContradiction
  intro hc
  have all : ∀ x ∈ (List.range (F.length + 1)).map (nxt n), x ∈ F := fun x hx => by
    obtain ⟨j, hj, rfl⟩ := List.mem_map.mp hx
    apply Classical.byContradiction
    intro hn
    exact hc ⟨j, by have := List.mem_range.mp hj; omega, hn⟩
  have nd : ((List.range (F.length + 1)).map (nxt n)).Nodup := List.pairwise_iff_getElem.mpr fun i j hi hj hij => by
    simp only [List.length_map, List.length_range] at hi hj
    simp only [List.getElem_map, List.getElem_range, nxt]
    omega
  have := sub_len nd all
  simp at this
  omega
structure Good (d m : Int) : Prop where
  d0 : 0 ≤ d
  m0 : 0 ≤ m
  m1 : m < 4294967296
structure Ids (ids : List Int) : Prop where
  nd : ids.Nodup
  rg : ∀ n ∈ ids, 1 ≤ n ∧ n ≤ 1000000
theorem bits_sum {z m : Int} {n : Nat} (hz : Builtin.Int.intBits z ≤ n) (hn : 64 ≤ n) (h0 : 0 ≤ m) (h1 : m < 4294967296) : Builtin.Int.intBits (m * 20011 + z * z + 13) ≤ n + n + 1 := by
  apply PyProof.Rows.intBits_le
  have a : z.natAbs < 2 ^ n := Nat.lt_of_lt_of_le (PyProof.Rows.natAbs_lt_pow_bits z) (Nat.pow_le_pow_right (by omega) hz)
  have b : z.natAbs * z.natAbs < 2 ^ n * 2 ^ n := Nat.mul_lt_mul'' a a
  rw [← Nat.pow_add] at b
  have c : (2 : Nat) ^ 64 ≤ 2 ^ (n + n) := Nat.pow_le_pow_right (by omega) (by omega)
  have c' : (2 : Nat) ^ 64 = 18446744073709551616 := by decide
  have e : (z * z).natAbs = z.natAbs * z.natAbs := Int.natAbs_mul z z
  have f : (2 : Nat) ^ (n + n + 1) = 2 ^ (n + n) * 2 := Nat.pow_succ ..
  rw [f]
  generalize (2 : Nat) ^ (n + n) = P at *
  generalize z * z = w at *
  omega
theorem map_erase : ∀ (l : List Int) (q : Nat), (l.map D.int).eraseIdx q = (l.eraseIdx q).map .int
  | [], _ => by simp
  | x :: l, 0 => rfl
  | x :: l, q + 1 => by simp [map_erase l q]
theorem erase_perm : ∀ (l : List Int) (q : Nat) (h : q < l.length), (l[q] :: l.eraseIdx q).Perm l
  | x :: l, 0, _ => List.Perm.refl _
  | x :: l, q + 1, h => by
    have ih := erase_perm l q (by simpa using h)
    simp only [List.getElem_cons_succ, List.eraseIdx_cons_succ]
    exact (List.Perm.swap x _ _).trans (List.Perm.cons x ih)
def somes : List Int := [0, 0, 1, 1, 2, 3, -1, -2, 1000000000, -1000000000]
theorem ix_row (fs : List Int) {z : Int} (h0 : 0 ≤ z) (h1 : z < fs.length) : gIx (.tup (fs.map .int)) (.int z) = some (.val (.int (fs.getD z.toNat 0))) := by
  have hz : z.toNat < fs.length := by omega
  have e : L2.atI fs z = some fs[z.toNat] := atI_ok h0 hz
  simp only [gIx, atI_map, e, Option.map_some]
  rw [List.getD_eq_getElem?_getD, List.getElem?_eq_getElem hz]
  rfl
theorem pop_nat (l : List D) (k : Nat) (h : k < l.length) (hz : l.length < 1000000) : gPopAt l [.int (k : Int)] = some (l.eraseIdx k, l[k]) := by
  have hi : -(2 ^ 63) ≤ (k : Int) ∧ (k : Int) < 2 ^ 63 := by omega
  have hs : seqIndex? (k : Int) l.length = some k := by
    unfold seqIndex?
    have h1 : ¬ (k : Int) < 0 := by omega
    have h2 : (0 : Int) ≤ k := by omega
    have h3 : (k : Int) < l.length := by omega
    simp [h1, h2, h3]
  simp only [gPopAt, if_pos hi, hs, List.getElem?_eq_getElem h, Option.map_some]
theorem ten9 : gPow (.int 10) (.int 9) = some (.val (.int 1000000000)) := by
  have b : Builtin.Int.intBits 10 ≤ 4 := PyProof.Rows.intBits_le (by decide)
  have := gPow_ii (i := 10) 9 (by omega)
  exact this
theorem at0 (x y : D) : gIx (.tup [x, y]) (.int 0) = some (.val x) := by
  simp only [gIx]
  rw [show (0 : Int) = ((0 : Nat) : Int) from rfl, L2.atI_nat (j := 0) (v := x) rfl]
  rfl
theorem at1 (x y : D) : gIx (.tup [x, y]) (.int 1) = some (.val y) := by
  simp only [gIx]
  rw [show (1 : Int) = ((1 : Nat) : Int) from rfl, L2.atI_nat (j := 1) (v := y) rfl]
  rfl
theorem ix_lst (fs : List Int) {z : Int} (h0 : 0 ≤ z) (h1 : z < fs.length) : gIx (.lst (fs.map .int)) (.int z) = some (.val (.int (fs.getD z.toNat 0))) := by
  have hz : z.toNat < fs.length := by omega
  have e : L2.atI fs z = some fs[z.toNat] := atI_ok h0 hz
  simp only [gIx, atI_map, e, Option.map_some]
  rw [List.getD_eq_getElem?_getD, List.getElem?_eq_getElem hz]
  rfl
theorem cut_low (l : List Int) (p : Nat) : cutD (l.map D.int) none (some (p : Int)) = (l.take p).map D.int := by
  unfold cutD
  rw [HT.sIx_none, HT.sIx_nat, List.drop_zero, List.map_take, Nat.sub_zero]
  rcases Nat.le_total p (l.map D.int).length with h | h
  · rw [Nat.min_eq_left h]
  · rw [Nat.min_eq_right h, List.take_of_length_le (Nat.le_refl _), List.take_of_length_le h]
def oneTo (n : Nat) : List Int := (List.range n).map fun (i : Nat) => 1 + (i : Int)
theorem oneTo_D (n : Nat) : rngD 1 n = (oneTo n).map .int := by unfold rngD oneTo; rw [List.map_map]; rfl
theorem oneTo_mem {n : Nat} {z : Int} (h : z ∈ oneTo n) : 1 ≤ z ∧ z ≤ n := by
  unfold oneTo at h
  obtain ⟨i, hi, rfl⟩ := List.mem_map.mp h
  have := List.mem_range.mp hi
  omega
@[simp] theorem emp_dec (l : List Int) : l.isEmpty = decide (l = []) := by cases l <;> simp
end O

/-! Own31: fine data: it can be shown and typed; its depth and its size -/
namespace O
open PySem
def intOk (i : Int) : Bool := decide ((PyData.shown (.int i)).length ≤ 100) && decide (i.natAbs.log2 < 1920)
def strOk (x : Str) : Bool := x.cps.toList.all fun c => decide (c < 16 ^ 8)
def keyOk : L2.Key → Bool
  | .inl i => intOk i
  | .inr x => strOk x
mutual
def fineD : D → Bool
  | .non => true
  | .bl _ => true
  | .int i => intOk i
  | .str x => strOk x
  | .tup ds => fineDs ds
  | .lst ds => fineDs ds
  | .dic kvs => fineDk kvs
  | .dlk kvs => fineDk kvs
  | .scr _ => false
  | .set _ => false
def fineDs : List D → Bool
  | [] => true
  | d :: ds => fineD d && fineDs ds
def fineDk : List (L2.Key × D) → Bool
  | [] => true
  | (k, d) :: ds => keyOk k && fineD d && fineDk ds
end
mutual
def pyD : D → PyData
  | .non => .none
  | .bl b => .bool b
  | .int i => .int i
  | .str x => .str x
  | .tup ds => .tuple (pyDs ds)
  | .lst ds => .list (pyDs ds)
  | .dic kvs => .dict (pyDk kvs)
  | .dlk kvs => .dict (pyDk kvs)
  | .scr _ => .none
  | .set _ => .none
def pyDs : List D → List PyData
  | [] => []
  | d :: ds => pyD d :: pyDs ds
def pyDk : List (L2.Key × D) → List (PyData × PyData)
  | [] => []
  | (k, d) :: ds => (kD k, pyD d) :: pyDk ds
end
theorem int_small {i : Int} (h : smallI i) : intOk i = true := by
  unfold intOk
  have := PyData.shown_int_le2 h.1 h.2
  simp only [Bool.and_eq_true, decide_eq_true_eq]
  exact ⟨by omega, log_small h⟩
mutual
theorem fine_py : ∀ {d : D}, fineD d = true → toPyR d = some (pyD d) ∧ (pyD d).showable = true ∧ (pyD d).leavesShort 100 = true
  | .non, _ => ⟨rfl, rfl, rfl⟩
  | .bl _, _ => ⟨rfl, rfl, rfl⟩
  | .int i, h => by
    simp only [fineD, intOk, Bool.and_eq_true, decide_eq_true_eq] at h
    exact ⟨rfl, by simp [pyD, PyData.showable, h.2], by simp [pyD, PyData.leavesShort, h.1]⟩
  | .str x, h => ⟨rfl, rfl, by simpa [fineD, strOk, pyD, PyData.leavesShort] using h⟩
  | .tup ds, h => by
    obtain ⟨a, b, c⟩ := fine_pys (ds := ds) (by simpa [fineD] using h)
    exact ⟨by simp [toPyR, a, pyD], by simpa [pyD, PyData.showable] using b, by simpa [pyD, PyData.leavesShort] using c⟩
  | .lst ds, h => by
    obtain ⟨a, b, c⟩ := fine_pys (ds := ds) (by simpa [fineD] using h)
    exact ⟨by simp [toPyR, a, pyD], by simpa [pyD, PyData.showable] using b, by simpa [pyD, PyData.leavesShort] using c⟩
  | .dic ds, h => by
    obtain ⟨a, b, c⟩ := fine_pyk (ds := ds) (by simpa [fineD] using h)
    exact ⟨by simp [toPyR, a, pyD], by simpa [pyD, PyData.showable] using b, by simpa [pyD, PyData.leavesShort] using c⟩
  | .dlk ds, h => by
    obtain ⟨a, b, c⟩ := fine_pyk (ds := ds) (by simpa [fineD] using h)
    exact ⟨by simp [toPyR, a, pyD], by simpa [pyD, PyData.showable] using b, by simpa [pyD, PyData.leavesShort] using c⟩
  | .scr _, h => by simp [fineD] at h
  | .set _, h => by simp [fineD] at h
theorem fine_pys : ∀ {ds : List D}, fineDs ds = true → toPyRs ds = some (pyDs ds) ∧ PyData.showableAll (pyDs ds) = true ∧ PyData.leavesShortAll 100 (pyDs ds) = true
  | [], _ => ⟨rfl, rfl, rfl⟩
  | d :: ds, h => by
    simp only [fineDs, Bool.and_eq_true] at h
    obtain ⟨a, b, c⟩ := fine_py h.1
    obtain ⟨a', b', c'⟩ := fine_pys h.2
    exact ⟨by simp [toPyRs, a, a', pyDs], by simp [pyDs, PyData.showableAll, b, b'], by simp [pyDs, PyData.leavesShortAll, c, c']⟩
theorem fine_pyk : ∀ {ds : List (L2.Key × D)}, fineDk ds = true → toPyRk ds = some (pyDk ds) ∧ PyData.showableKv (pyDk ds) = true ∧ PyData.leavesShortKv 100 (pyDk ds) = true
  | [], _ => ⟨rfl, rfl, rfl⟩
  | (k, d) :: ds, h => by
    simp only [fineDk, Bool.and_eq_true] at h
    obtain ⟨a, b, c⟩ := fine_py h.1.2
    obtain ⟨a', b', c'⟩ := fine_pyk h.2
    have hk : (kD k).showable = true ∧ (kD k).leavesShort 100 = true := by
      cases k with
      | inl i =>
        have hi := h.1.1
        simp only [keyOk, intOk, Bool.and_eq_true, decide_eq_true_eq] at hi
        exact ⟨by simp [kD, PyData.showable, hi.2], by simp [kD, PyData.leavesShort, hi.1]⟩
      | inr x =>
        have hi := h.1.1
        simp only [keyOk, strOk] at hi
        exact ⟨by simp [kD, PyData.showable], by simpa [kD, PyData.leavesShort] using hi⟩
    exact ⟨by simp [toPyRk, a, a', pyDk], by simp [pyDk, PyData.showableKv, b, b', hk.1], by simp [pyDk, PyData.leavesShortKv, c, c', hk.2]⟩
end
def dpD (d : D) : Nat := (pyD d).depth
def bkD (d : D) : Nat := (pyD d).bulk
/-- fine data is shown -/
theorem fine_repr {d : D} (h : fineD d = true) (hk : dpD d ≤ 60) (hb : bkD d ≤ 100000) : gReprA [d] = some (.val (.str (pyD d).shown)) := by
  obtain ⟨a, b, c⟩ := fine_py h
  have k := PyData.shown_le_bulk 100 (by decide) (pyD d) c
  have hz : (pyD d).shown.length ≤ sizeLine := by
    have e : sizeLine = 16777216 ∨ 15728653 ≤ sizeLine := .inr (by have := sizeLine_eq; omega)
    have : (pyD d).bulk ≤ 100000 := hb
    have : (100 + 2) * (pyD d).bulk ≤ 102 * 100000 := Nat.mul_le_mul (by omega) this
    omega
  have hd : (pyD d).depth ≤ 60 := hk
  simp only [gReprA, a, Option.bind_some]
  rw [if_pos]
  simp [canShowA, b, hd, hz]
/-! parts -/
theorem fine_all {ds : List D} : fineDs ds = true ↔ ∀ d ∈ ds, fineD d = true := by
  induction ds with
  | nil => simp [fineDs]
  | cons d ds ih => simp [fineDs, ih]
def dpDs (ds : List D) : Nat := PyData.depthAll (pyDs ds)
def bkDs (ds : List D) : Nat := PyData.bulkAll (pyDs ds)
theorem dp_tup (ds : List D) : dpD (.tup ds) = dpDs ds + 1 := by simp [dpD, pyD, PyData.depth, dpDs]
theorem dp_lst (ds : List D) : dpD (.lst ds) = dpDs ds + 1 := by simp [dpD, pyD, PyData.depth, dpDs]
theorem bk_tup (ds : List D) : bkD (.tup ds) = bkDs ds := by simp [bkD, pyD, PyData.bulk, bkDs]
theorem bk_lst (ds : List D) : bkD (.lst ds) = bkDs ds := by simp [bkD, pyD, PyData.bulk, bkDs]
theorem dp_nil : dpDs [] = 0 := rfl
theorem bk_nil : bkDs [] = 0 := rfl
theorem dp_cons (d : D) (ds : List D) : dpDs (d :: ds) = max (dpD d) (dpDs ds) := by simp [dpDs, pyDs, PyData.depthAll, dpD]
theorem bk_cons (d : D) (ds : List D) : bkDs (d :: ds) = bkD d + 1 + bkDs ds := by simp [bkDs, pyDs, PyData.bulkAll, bkD]
theorem dp_app (a b : List D) : dpDs (a ++ b) = max (dpDs a) (dpDs b) := by
  induction a with
  | nil => simp [dp_nil]
  | cons d a ih => rw [List.cons_append, dp_cons, dp_cons, ih]; omega
theorem bk_app (a b : List D) : bkDs (a ++ b) = bkDs a + bkDs b := by
  induction a with
  | nil => simp [bk_nil]
  | cons d a ih => rw [List.cons_append, bk_cons, bk_cons, ih]; omega
theorem dp_take (n : Nat) (ds : List D) : dpDs (ds.take n) ≤ dpDs ds := by
  have := dp_app (ds.take n) (ds.drop n)
  rw [List.take_append_drop] at this
  omega
theorem dp_drop (n : Nat) (ds : List D) : dpDs (ds.drop n) ≤ dpDs ds := by
  have := dp_app (ds.take n) (ds.drop n)
  rw [List.take_append_drop] at this
  omega
theorem bk_cut (n : Nat) (ds : List D) : bkDs (ds.take n) + bkDs (ds.drop n) = bkDs ds := by
  have := bk_app (ds.take n) (ds.drop n)
  rw [List.take_append_drop] at this
  omega
theorem dp_mem {d : D} {ds : List D} (h : d ∈ ds) : dpD d ≤ dpDs ds := by
  induction ds with
  | nil => cases h
  | cons x ds ih =>
    rw [dp_cons]
    rcases List.mem_cons.mp h with rfl | h
    · omega
    · have := ih h; omega
theorem bk_mem {d : D} {ds : List D} (h : d ∈ ds) : bkD d + 1 ≤ bkDs ds := by
  induction ds with
  | nil => cases h
  | cons x ds ih =>
    rw [bk_cons]
    rcases List.mem_cons.mp h with rfl | h
    · omega
    · have := ih h; omega
theorem dp_int (i : Int) : dpD (.int i) = 0 := by simp [dpD, pyD, PyData.depth]
theorem bk_int (i : Int) : bkD (.int i) = 0 := by simp [bkD, pyD, PyData.bulk]
theorem dpD_ints (ns : List Int) : dpDs (ns.map .int) = 0 := by
  induction ns with
  | nil => rfl
  | cons n ns ih => rw [List.map_cons, dp_cons, ih, dp_int]; rfl
theorem bkD_ints (ns : List Int) : bkDs (ns.map .int) = ns.length := by
  induction ns with
  | nil => rfl
  | cons n ns ih => rw [List.map_cons, bk_cons, ih, bk_int, List.length_cons]; omega
theorem fine_ints {ns : List Int} (h : ∀ n ∈ ns, smallI n) : fineDs (ns.map .int) = true := by
  rw [fine_all]
  intro d hd
  obtain ⟨n, hn, rfl⟩ := List.mem_map.mp hd
  simp only [fineD]
  exact int_small (h n hn)
theorem bk_len (ds : List D) : ds.length ≤ bkDs ds := by
  induction ds with
  | nil => simp
  | cons d ds ih => rw [bk_cons, List.length_cons]; omega
/-- its type is known -/
theorem fine_ty {d : D} (h : fineD d = true) : ∃ t, tyN d = some t := by
  cases d <;> first | exact ⟨_, rfl⟩ | simp [fineD] at h
end O

/-! Own32: len(set(xs)) of a list or a tuple of ints -/
namespace O
open PySem
open L2 (V Hp HO Rd SqL SqT upd upd_same upd_ne ne_of ne_of_none TE TT TA TS TG TGs TI TO It VK XK Ends St PE PT PW PA PS PSs PG PGs PI PO PTs Cx OpR UnR CallR IxR SlR MtR R2 tOp tUn tVar tC tCons tNil tTup tLst tTest tB tAnd tOr tNot tAndV tOrV tNotV tIf tCB Sp FnOk Gl Vis Loc Room Vals RelV)
open PyProof.Rows (firstMet step_dedup)
theorem dedup_ok : ∀ (xs acc : List Int), acc.Nodup → (xs.foldl step_dedup acc).Nodup ∧ ∀ z, z ∈ xs.foldl step_dedup acc ↔ z ∈ acc ∨ z ∈ xs
  | [], acc, h => ⟨h, fun z => by simp⟩
  | x :: xs, acc, h => by
    rw [List.foldl_cons]
    by_cases hx : x ∈ acc
    · have e : step_dedup acc x = acc := by simp [step_dedup, hx]
      obtain ⟨a, b⟩ := dedup_ok xs acc h
      rw [e]
      refine ⟨a, fun z => ?_⟩
      rw [b z, List.mem_cons]
      constructor
      · rintro (q | q)
        · exact .inl q
        · exact .inr (.inr q)
      · rintro (q | rfl | q)
        · exact .inl q
        · exact .inl hx
        · exact .inr q
    · have e : step_dedup acc x = acc ++ [x] := by simp [step_dedup, hx]
      obtain ⟨a, b⟩ := dedup_ok xs (acc ++ [x]) (by
        rw [List.nodup_append]
        exact ⟨h, by simp, fun y hy z hz => by simp at hz; subst hz; exact fun q => hx (q ▸ hy)⟩)
      rw [e]
      refine ⟨a, fun z => ?_⟩
      rw [b z, List.mem_append, List.mem_singleton, List.mem_cons]
      constructor
      · rintro ((q | q) | q)
        · exact .inl q
        · exact .inr (.inl q)
        · exact .inr (.inr q)
      · rintro (q | q | q)
        · exact .inl (.inl q)
        · exact .inl (.inr q)
        · exact .inr q
theorem first_len (ns : List Int) : (firstMet (fun i => ns.getD i 0) ns.length).length = (nubI ns).length := by
  have e : (List.range ns.length).map (fun i => ns.getD i 0) = ns := by
    refine List.ext_getElem (by simp) fun i h1 h2 => ?_
    simp [List.getD_eq_getElem?_getD, List.getElem?_eq_getElem h2]
  unfold firstMet
  rw [e]
  obtain ⟨a, b⟩ := dedup_ok ns [] (by simp)
  refine ((List.perm_ext_iff_of_nodup a (nubI_nodup ns)).mpr fun z => ?_).length_eq
  rw [b z, nubI_mem]
  simp
section
variable {X : Cx} {a : Expr} {ta : TE} {pos p p2 q : Pos}
def tLsA (K : PySem.W.Frag) (ta : TE) : TE := fun σ H Q => ta σ H fun x H1 => ∃ (l : Addr) (ns : List Int), x = V.ref l ∧ (SqT K H1 l (ns.map V.int) ∨ SqL K H1 l (ns.map V.int)) ∧ ns.length < 4000 ∧ Q (.int ((nubI ns).length : Nat)) H1
theorem pe_lsA (hc : X.calm = true) (hm : X.mg "len" = none) (hm2 : X.mg "set" = none) (ha : PE X a ta) (hg : Gl X "len" := by rfl) (hg2 : Gl X "set" := by rfl)
    (na : starEach [a] X.env = (false, eval a X.env) :: starEach [] X.env := by rfl) : PE X (.Call (.Name "len" p) [.Call (.Name "set" p2) [a] [] q] [] pos) (tLsA X.K ta) := by
  refine ⟨fun pins s σ H Q I hw => ?_⟩
  refine PyProof.Rows.Call_ (L2.ld_blt I hg hm PySem.boot_len ?_)
  refine PyProof.Rows.callWith_builtin1 (PyProof.Rows.args_cons (?_) rfl) rfl rfl
  refine PyProof.Rows.Call_ (L2.ld_blt I hg2 hm2 PyProof.Rows.boot_set ?_)
  refine PyProof.Rows.callWith_type1 (PyProof.Rows.args_cons (L2.thn (ha.run pins s σ H _ I hw) fun v s1 ⟨x, H1, I1, r1, q1⟩ => (PyProof.Rows.args_nil ?_)) na) na rfl
  obtain ⟨l, ns, rfl, hq, hlen, q1⟩ := q1
  cases r1
  have hd := I1.ok.hd hc
  rcases hq with hq | hq
  · obtain ⟨its, r, pt, hz⟩ := I1.tuple hq
    have hi : PyProof.Rows.IntsAre its.toArray.toList ns := by simpa using L2.ints_of_vals r
    refine L2.call_set_tupI ns hd (show s1.heap.IsTuple l its.toArray from pt) hi (by unfold scanBound; omega) fun h' tk c R1 hcn k => (?_)
    obtain ⟨o, es, ep, t, ho, hex, hdt, g, nd, hm3, hb, hf, hn, _⟩ := R1
    refine PyProof.Rows.args_nil (?_)
    have I2 : L2.Inv X pins σ H1 { s1 with heap := h', toks := tk } := I1.kept fun b o e => k b o e
    have hp : (es.toList.map L2.keyOf).Perm (nubI ns) := by
      refine (List.perm_ext_iff_of_nodup nd (nubI_nodup ns)).mpr fun z => ?_
      have := hm3 z
      simp only [decide_eq_true_eq] at this
      rw [nubI_mem]
      exact this.symm
    have he : es.size = (nubI ns).length := by
      have := hp.length_eq
      rw [List.length_map, Array.length_toList] at this
      exact this
    exact PySem.call_len_set ho hex hdt hf (by omega) ⟨.int (nubI ns).length, H1, I2.tok _, ⟨_, by rw [he]⟩, q1⟩
  · obtain ⟨its, r, pl, hz⟩ := I1.list hq
    have hl : its.toArray.size = ns.length := by rw [List.size_toArray, ← r.length, List.length_map]
    have hi : PyProof.Rows.IntsAre its.toArray.toList ns := by simpa using L2.ints_of_vals r
    refine PySem.call_set_list hd pl.isList hi (by rw [hl]; unfold scanBound; omega) fun h' tk hS hk => ?_
    have hle := PyProof.Rows.firstMet_length_le (fun i => ns.getD i 0) ns.length
    rw [hl] at hS
    obtain ⟨o, es, ep, t, ho, hex, hdt, _, _, _, hf, hn⟩ := hS
    have I2 : L2.Inv X pins σ H1 { s1 with heap := h', toks := tk } := I1.kept fun b o e => hk b o (Heap.lt_size e) e
    refine PyProof.Rows.args_nil (?_)
    have hz : es.size = (nubI ns).length := by rw [hn, first_len]
    exact PySem.call_len_set ho hex hdt hf (by rw [hn]; omega) ⟨.int (nubI ns).length, H1, I2.tok _, ⟨_, by rw [hz]⟩, q1⟩
end
section
variable {K : PySem.W.Frag} {W : St → XK}
def gLenSetA : D → Option RV
  | .tup ds => match intsD ds with
    | some ns => if ns.length < 4000 then some (.val (.int ((nubI ns).length : Nat))) else none
    | none => none
  | .lst ds => match intsD ds with
    | some ns => if ns.length < 4000 then some (.val (.int ((nubI ns).length : Nat))) else none
    | none => none
  | _ => none
theorem sd_lsA {ta : TE} {fa : O.Env → Res RV} (ha : Sd K W (rV K) ta fa) : Sd K W (rV K) (tLsA K ta) (f1 fa gLenSetA) := fun C fp Hd H σ ρ I Q p =>
  ha.run I p fun r1 v1 fp0 Hd0 H0 ρ0 s0 I0 h1 p => by
    have h1 := rV_loose h1
    cases e1 : rd r1 ρ0 with
    | none => simp only [e1] at p; exact p.elim
    | some d1 =>
      simp only [e1] at p
      have t := I0.rdTop h1 e1
      cases d1 with
      | tup ds =>
        simp only [gLenSetA] at p
        cases e2 : intsD ds with
        | none => simp only [e2] at p; exact p.elim
        | some ns =>
          simp only [e2] at p
          by_cases hh : ns.length < 4000
          · rw [if_pos hh] at p
            obtain ⟨b, xs, rfl, hq, r⟩ := t.tupD I0.le
            have ey := intsD_ok r e2
            subst ey
            exact ⟨b, ns, rfl, .inl hq, hh, p.new I0 (newR_here I0.le (.int _))⟩
          · rw [if_neg hh] at p; exact p.elim
      | lst ds =>
        simp only [gLenSetA] at p
        cases e2 : intsD ds with
        | none => simp only [e2] at p; exact p.elim
        | some ns =>
          simp only [e2] at p
          by_cases hh : ns.length < 4000
          · rw [if_pos hh] at p
            obtain ⟨b, xs, rfl, hq, r⟩ := t.lstD I0.le
            have ey := intsD_ok r e2
            subst ey
            exact ⟨b, ns, rfl, .inr (.inl hq), hh, p.new I0 (newR_here I0.le (.int _))⟩
          · rw [if_neg hh] at p; exact p.elim
      | _ => exact p.elim
end
section
variable {X : Cx} {W : St → XK} {a : Expr} {pos p p2 : Pos} {ta : TE} {fa : O.Env → Res RV}
theorem jlsA {q : Pos} {K : PySem.W.Frag} (hc : X.calm = true) (hm : X.mg "len" = none) (hm2 : X.mg "set" = none) (ha : JE X W a ta fa) (hg : Gl X "len" := by rfl) (hg2 : Gl X "set" := by rfl)
    (na : starEach [a] X.env = (false, eval a X.env) :: starEach [] X.env := by rfl) (hK : X.K = K := by rfl) : JE X W (.Call (.Name "len" p) [.Call (.Name "set" p2) [a] [] q] [] pos) (tLsA K ta) (f1 fa gLenSetA) := by
  subst hK
  exact ⟨pe_lsA hc hm hm2 ha.pe hg hg2 na, sd_lsA ha.se⟩
end
theorem nub_len (ns : List Int) : (nubI ns).length ≤ ns.length := by
  induction ns with
  | nil => simp [nubI]
  | cons n ns ih =>
    unfold nubI
    split <;> simp <;> omega
theorem nub_all {ns : List Int} : (nubI ns).length = ns.length ↔ ns.Nodup := by
  induction ns with
  | nil => simp [nubI]
  | cons n ns ih =>
    have h := nub_len ns
    unfold nubI
    by_cases hn : n ∈ nubI ns
    · rw [if_pos hn, List.nodup_cons, List.length_cons]
      rw [nubI_mem] at hn
      exact ⟨fun e => by omega, fun e => absurd hn e.1⟩
    · rw [if_neg hn, List.nodup_cons, List.length_cons, List.length_cons]
      have hn' : n ∉ ns := fun z => hn (nubI_mem.mpr z)
      exact ⟨fun e => ⟨hn', ih.mp (by omega)⟩, fun e => by rw [ih.mpr e.2]⟩
end O

/-! Own33: own errors: their __init__, raise, try .. except .. as n: return (n.f,) -/
namespace O
open PySem
open PyProof.Rows (envOfC AllBare)
open L2 (V Hp HO Rd SqL SqT upd upd_same upd_ne ne_of ne_of_none TE TT TA TS TG TGs TI TO It VK XK WX Ends St PE PT PW PA PS PSs PG PGs PI PO PTs Cx OpR UnR CallR IxR SlR MtR R2 tOp tUn tVar tC tCons tNil tTup tLst tTest tB tAnd tOr tNot tAndV tOrV tNotV tIf tCB Sp FnOk Gl Vis Loc Room Vals RelV Env0 OexC exo exd tVeI tOst tMkO del PMk Takes)
/-! ### Base.__init__(self, ..) -/
structure BaseI (K : PySem.W.Frag) (CH : Addr) (mc : Value) : Prop where
  rd : PySem.W.readsIn K CH mc = true
  ga : PySem.W.specialIn K (.ref CH) "__getattribute__" = some (some (.builtin "type.__getattribute__"))
  at_ : PySem.W.findCls K (.ref CH) mc "__init__" = some (.val (.builtin "ValueError.__init__"))
section
variable {X : Cx} {e : Expr} {es : List Expr} {ta : TA} {p1 p2 pos : Pos}
theorem pe_baseI {x : Str} {CH : Addr} {mc : Value} {pl : Sem Bool} (B : BaseI X.K CH mc) (hg : Gl X x) (hm : X.mg x = some (.ref CH)) (ha : PA X (e :: es) ta)
    (hc : eval (.Call (.Attribute (.Name x p1) "__init__" p2) (e :: es) [] pos) X.env = (do
      let ov ← eval (.Name x p1) X.env
      standAt p2.atName
      let (f, first) ← holding [ov] (getMethod ov "__init__" pl)
      callWith pos f first (backTo pos (starEach (e :: es) X.env)) (backToKw pos (keywordEach [] X.env))) := by rfl)
    (hd : (x == ("__debug__" : Str)) = false := by decide) (he : starEach (e :: es) X.env = (false, eval e X.env) :: starEach es X.env := by rfl) (hpl : (backTo pos (starEach es X.env)).any (·.1) = false := by rfl) :
    PE X (.Call (.Attribute (.Name x p1) "__init__" p2) (e :: es) [] pos) (tVeI X.K ta) := ⟨fun pins s σ H Q I h => by
  refine PySem.W.methodCall_KW (L2.ld_glob I hg hm ?_ hd) hc
  refine PySem.W.method_cls I.kIn B.ga (PySem.W.cls_value I.kIn B.rd B.at_ (by decide +kernel) ?_)
  show wpAny _ _ (callWith pos (Value.builtin "ValueError.__init__") [] (backTo pos (starEach (e :: es) X.env)) []) _ _ _
  refine PyProof.Rows.callWith_method1 (L2.thn (ha.run pos pins _ σ H _ (I.tok _) h) fun us s1 ⟨vs, H1, I1, r1, b, D, ws, ev, hl, T, eb, q⟩ => ?_) he hpl
  subst ev
  obtain ⟨u, ur, rfl, ra, rw⟩ : ∃ u ur, us = u :: ur ∧ RelV (.ref b) u ∧ Vals ws ur := by
    cases r1 with | cons ra rw => exact ⟨_, _, rfl, ra, rw⟩
  have hu : u = Value.ref b := ra
  subst hu
  have many : ur.length ≤ sizeLine := by
    have := rw.length
    have := sizeLine_eq
    omega
  exact L2.oinit_ok T I1 eb many fun s' J => ⟨.non, H1, J, rfl, q⟩⟩
end
/-- the promise of __init__(self, value): self.f = value -/
def spIni (K : PySem.W.Frag) (C : Addr) (f : Str) : Sp := fun vs H Q E => ∃ a y, vs = [.ref a, y] ∧ OexC K C ∧ PySem.W.findIn K (.ref C) f = some none ∧ H a = some (exo a C none) ∧
  ∀ dx, H dx = none → dx ≠ a → Q .non (upd (upd H dx (exd dx [(f, y)])) a (exo a C (some dx)))
section
variable {P : Program} {w : World} {K : PySem.W.Frag} {mg : Str → Option Value} {base : Heap} {C : Addr} {fl : Str}
theorem ini_ok {qual : Str} {st : Stmt} {f : Addr} {fd : FuncData} {k : Nat} {txt : Str} (F : L2.Fun K "__init__" qual st f fd) (S : L2.FnScope ["self", "value"] ["self", "value"] (L2.defScope st))
    (hB : ∀ (cdv : Value) (A : Around) (outer : List PySem.Env) (s : Shared) (H : Hp) (E : XK), PSs (bx P w K mg base ["self", "value"] qual st f cdv A outer s H E) (L2.defBody st) (L2.tSeq (L2.tDrop (tVeI K (tCons (tVar 0) (tCons (tC (.str txt)) tNil)))) (tOst K fl (tVar 0) (tVar 1)))) :
    FnOk P w K mg base (L2.CX P w) (k + 1) f fd ["self", "value"] (spIni K C fl) :=
  F.okX S (fun vs H Q E ⟨a, y, e, _⟩ => by rw [e]; rfl) fun cdv A outer s H vs Q E hr ⟨a, y, e, T, hno, ha, q⟩ => by
    subst e
    refine ⟨_, hB cdv A outer s H E, ?_⟩
    refine ⟨.ref a, rfl, ⟨a, C, [.str txt], rfl, by simp, T, ha, ?_⟩⟩
    refine ⟨y, rfl, .ref a, rfl, a, C, rfl, T, hno, .inl ⟨ha, fun dx hd hne => q dx hd hne⟩⟩
end
/-! ### raise -/
structure ErrC (P : Program) (w : World) (K : PySem.W.Frag) (mg : Str → Option Value) (base : Heap) (k : Nat) (x : Str) (C : Addr) (f : Str) : Prop where
  ex : ∃ (fI : Addr) (fd : FuncData), PySem.W.findIn K (.ref C) "__init__" = some (some (.ref fI)) ∧ PySem.W.typeIn K (.ref fI) = some (.type "function") ∧ FnOk P w K mg base (L2.CX P w) k fI fd ["self", "value"] (spIni K C f) ∧ L2.Binds K fd ["self", "value"] []
  gm : mg x = some (.ref C)
  oe : OexC K C
  no : PySem.W.findIn K (.ref C) f = some none
  xf : L2.XfC K C
section
variable {K : PySem.W.Frag} {W : St → XK}
def gRaise (C : Addr) (f : Str) (fe : O.Env → Res RV) : O.Env → SR := fun ρ => ((fe ρ).bind O.fz).thn fun d ρ1 => .ex ⟨.ref C, some [(f, d)]⟩ ρ1
theorem ss_raise {C : Addr} {f : Str} {te : TE} {fe : O.Env → Res RV} (T : OexC K C) (hno : PySem.W.findIn K (.ref C) f = some none) (he : Sd K W (rV K) te fe) :
    Ss K W (fun _ σ H => tMkO C (spIni K C f) [] (tCons te tNil) σ H fun cls d H' => W σ cls d H') (gRaise C f fe) := fun C0 fp Hd H σ ρ I D p =>
  (Sd.fz he).runS I p fun d v fp1 Hd1 H1 ρ1 s1 I1 r1 p => by
    refine ⟨by simp, fun a ha => ⟨a, v, rfl, T, hno, upd_same, fun dx hd hne => ⟨rfl, dx, [(f, v)], upd_same, by rw [upd_ne hne, upd_same], ?_, ?_⟩⟩⟩
    · rw [upd_ne hne] at hd; exact hd
    · rw [upd_ne hne] at hd
      have eH : upd (del (upd (upd (upd H1 a (exo a C none)) dx (exd dx [(f, v)])) a (exo a C (some dx))) a) dx (HO.xd [(f, v)]) = upd H1 dx (HO.xd [(f, v)]) := by
        funext b
        by_cases e1 : b = dx
        · subst e1; rw [upd_same, upd_same]
        · rw [upd_ne e1, upd_ne e1]
          by_cases e2 : b = a
          · subst e2; rw [L2.del_same, ha]
          · rw [L2.del_ne e2, upd_ne e2, upd_ne e1, upd_ne e2]
      rw [eH]
      have x := ext_new (o := HO.xd [(f, v)]) I1.le hd
      exact p (some dx) σ fp1 Hd1 _ (I1.stp x) (I1.ext x) (.some upd_same rfl (.cons r1 .nil))
end
section
variable {X : Cx} {W : St → XK} {e : Expr} {te : TE} {fe : O.Env → Res RV} {pos pos2 p : Pos} {x f : Str} {C : Addr} {k j : Nat}
theorem jraise (R : ErrC X.prog X.w X.K X.mg X.base k x C f) (hr : RoomG j X.A) (hc : X.calm = true) (tk : Takes X fun cls d σ H => W σ cls d H) (he : JE X W e te fe) (hj : k + 1 ≤ j := by first | decide | omega) (hg : Gl X x := by rfl)
    (hdb : (x == ("__debug__" : Str)) = false := by decide) (hs : starEach (e :: []) X.env = (false, eval e X.env) :: starEach [] X.env := by rfl) (hpl : (backTo pos (starEach [] X.env)).any (·.1) = false := by rfl) :
    JS X W (.Raise (some (.Call (.Name x p) [e] [] pos)) none pos2) (fun _ σ H => tMkO C (spIni X.K C f) [] (tCons te tNil) σ H fun cls d H' => W σ cls d H') (gRaise C f fe) := by
  obtain ⟨fI, fd, h1, h2, h3, h4⟩ := R.ex
  exact ⟨L2.ps_raise hc tk (L2.pmk_oex R.oe h1 h2 h3 (hr.mono hj).room h4 .nil L2.passL hg R.gm (L2.pa_cons he.pe L2.pa_nil hs) hdb hs hpl), ss_raise R.oe R.no he.se⟩
end
/-! ### try: .. except X as n: return (n.f,) -/
section
variable {K : PySem.W.Frag}
open Classical in
noncomputable def gTryV (C : Addr) (f : Str) (i : Nat) (gb : O.Env → SR) : O.Env → SR := fun ρ => match gb ρ with
  | .ex e ρ1 => match e.fs with
    | some [(g, d)] => if e.cls = .ref C ∧ g = f ∧ i < ρ1.length then .rt (.val (.tup [d])) ρ1 else .no
    | _ => .no
  | r => r
def tSuiteV (C : Addr) (f : Str) (i : Nat) : Addr → Value → Option Addr → TS := fun a cls d => L2.tRet (tTup (tCons (L2.tXf a cls d C f (tVar i)) tNil))
theorem ss_tryV {W : St → XK} {C : Addr} {c : Value} {f : Str} {i : Nat} {tb : WX → TS} {gb : O.Env → SR} (hm : PySem.W.exmOne K (.ref C) c = some true) (hb : ∀ W' : WX, Ss K (fun σ cls d H => W' cls d σ H) (tb W') gb) :
    Ss K W (fun D σ H => tb (L2.wAs K c i (tSuiteV C f i) (fun cls d σ H => W σ cls d H) D) D σ H) (gTryV C f i gb) := fun C0 fp Hd H σ ρ I D p => by
  refine hb _ C0 fp Hd H σ ρ I D ?_
  unfold gTryV at p
  cases e : gb ρ with
  | nx ρ' => rw [e] at p; exact p
  | bk ρ' => rw [e] at p; exact p
  | ct ρ' => rw [e] at p; exact p
  | rt r ρ' => rw [e] at p; exact p
  | no => rw [e] at p; exact p
  | ex ee ρ1 =>
    rw [e] at p
    obtain ⟨cls, fs⟩ := ee
    match fs, p with
    | none, p => exact p.elim
    | some [], p => exact p.elim
    | some (_ :: _ :: _), p => exact p.elim
    | some [(g, d)], p =>
      by_cases hh : cls = .ref C ∧ g = f ∧ i < ρ1.length
      · have pp : PostS K W C0 fp Hd H (.rt (.val (.tup [d])) ρ1) D := by
          have q := p
          simp only [if_pos hh] at q
          exact q
        obtain ⟨h1, h2, h3⟩ := hh
        subst h1 h2
        intro dd σ1 fp1 Hd1 H1 s1 I1 hx
        refine ⟨true, hm, fun _ a ha => ?_, fun z => (by cases z)⟩
        cases hx with
        | @some _ _ gs b hd hn hr =>
          match gs, hd, hn, hr with
          | [(g', v)], hd, hn, hr =>
            simp only [List.map_cons, List.map_nil, List.cons.injEq, and_true] at hn
            subst hn
            cases hr with
            | cons rv _ =>
              have hi : i < σ1.length := by rw [I1.len]; exact h3
              refine ⟨.ref a, List.getElem?_set_self hi, rfl, rfl, b, [(g', v)], v, rfl, hd, by simp, ?_⟩
              have hz := sizeLine_is
              refine ⟨by simp only [List.length_singleton]; omega, fun q hq => ?_⟩
              obtain ⟨Hd2, x2, r2⟩ := newR_tup (vs := [v]) (ds := [d]) I1.le hq (.cons rv .nil)
              exact pp (.ref q) σ1 fp1 Hd2 _ (s1.trans (I1.stp x2)) (I1.ext x2) r2
          | [], hd, hn, hr => cases hn
          | _ :: _ :: _, hd, hn, hr => simp at hn
      · simp only [if_neg hh] at p
        exact p.elim
end
section
variable {X : Cx} {W : St → XK} {x n f : Str} {c : Value} {C : Addr} {body : List Stmt} {np p1 p2 pos pos' pos2 pos3 : Pos} {k2 : Nat} {tb : WX → TS} {gb : O.Env → SR}
theorem jtryV {K : PySem.W.Frag} (i : Nat) (hN : X.N.Nodup) (hm : X.mg x = some c) (R : L2.XfC X.K C) (hno : PySem.W.findIn X.K (.ref C) f = some none) (hex : PySem.W.exmOne X.K (.ref C) c = some true) (tk : Takes X fun cls d σ H => W σ cls d H)
    (hb : ∀ (W' : WX) (pn : List (Addr × Obj)) (xe : Value → Shared → Prop), Takes (X.tr pn xe) W' → JB (X.tr pn xe) (fun σ cls d H => W' cls d σ H) body (tb W') gb)
    (hg : Gl X x := by rfl) (hi : X.N[i]? = some n := by rfl) (hv : Vis X.env.scope n := by first | exact Or.inl (by rfl) | exact Or.inr (Or.inl (by rfl)) | exact Or.inr (Or.inr (by rfl))) (hln : X.env.kindOf n = some .local := by rfl) (hs : X.stack = X.env :: X.outer := by rfl) (hf : X.env.frame = some X.env.locals := by rfl)
    (hd1 : (x == ("__debug__" : Str)) = false := by decide) (hd2 : (n == ("__debug__" : Str)) = false := by decide) (hd3 : (n == ("__classdict__" : Str)) = false := by decide) (hba : attributeBase (.Name n p1) f X.env (eval (.Name n p1) X.env) = eval (.Name n p1) X.env := by rfl)
    (hst : starEach (.Attribute (.Name n p1) f p2 :: []) X.env = (false, eval (.Attribute (.Name n p1) f p2) X.env) :: starEach [] X.env := by rfl) (hK : X.K = K := by rfl) :
    JS X W (.Try body [.ExceptHandler (some (.Name x np)) (some n) [.Return (some (.Tuple [.Attribute (.Name n p1) f p2] k2 pos3)) pos2] pos'] [] [] pos)
      (fun D σ H => tb (L2.wAs K c i (tSuiteV C f i) (fun cls d σ H => W σ cls d H) D) D σ H) (gTryV C f i gb) := by
  subst hK
  refine ⟨L2.ps_try_as hs hf hN hi hln ⟨hg, hd1, .inl hm⟩ tk (fun W' pn xe t _ => (hb W' pn xe t).pss) fun a oe cls d pn hz hfl => ?_, ss_tryV hex fun W' => ?_⟩
  · have pv : PE (X.suite a ((a, oe) :: pn)) (.Name n p1) (tVar i) := L2.pe_var (X := X.suite a ((a, oe) :: pn)) hi hv hd2 hd3
    exact L2.pss_one (L2.ps_ret (L2.pe_tup (L2.pa_cons (L2.pe_xf R hno hz hfl pv hba) L2.pa_nil hst)))
  · exact (hb W' X.pn (fun u s' => ∃ xe0, L2.XE (X.tr X.pn xe0) W' u s') fun u s' h => ⟨_, h⟩).ss
end
/-! ### defs with a star parameter -/
section
variable {P : Program} {w : World} {K : PySem.W.Frag} {mg : Str → Option Value} {base : Heap}
/-- m parameters, and a tuple of all other arguments -/
def spS (K : PySem.W.Frag) (m : Nat) (F : List Ar → FO) : Sp := fun vs H Q E => ∃ ws rest, vs = ws ++ rest ∧ ws.length = m ∧ rest.length ≤ sizeLine ∧ ∀ p, H p = none → spF K (m + 1) F (ws ++ [V.ref p]) (upd H p (.tup rest)) Q E
structure CalS (P : Program) (w : World) (K : PySem.W.Frag) (mg : Str → Option Value) (base : Heap) (x : Str) (k m : Nat) (F : List Ar → FO) : Prop where
  ex : ∃ fA : Addr, (∀ (A : Around) (outer : List PySem.Env) (s : Shared) (H : Hp) (us : List Value) (vs : List V) (Q : VK) (E : XK), RoomG k A → Env0 P w K mg base A outer s H → Vals vs us → spS K m F vs H Q E →
    codeAny (model P w) A (.call (.ref fA) ⟨us, []⟩) (L2.CR (L2.CX P w) outer P w H s Q E) s) ∧ mg x = some (.ref fA) ∧ PySem.W.keepIn K (.ref fA) = true
theorem cal_ofS {x pv : Str} {fA : Addr} {N ps : List Str} {k n m : Nat} {st : Stmt} {params : Arguments} {g : O.Env → SR} {oc kV doc pm cdv ct : Value} {an od : Option Addr} {osl : Array (Option Value)}
    (lk : K.lookup fA = some ⟨oc, od, .func (PySem.W.fnOf x x params (L2.defBody st) (L2.defScope st) .none kV doc pm an cdv ct), osl⟩) (hcd : PySem.W.codeIn K cdv x = true) (kp : PySem.W.keepIn K (.ref fA) = true) (S : L2.FnScope N (ps ++ [pv]) (L2.defScope st)) (gm : mg x = some (.ref fA)) (hN : N.length = n) (hp : ps.length = m) (hmn : m + 1 ≤ n)
    (hb : ∀ us rest : List Value, us.length = ps.length → bindArgs (PySem.W.fnOf x x params (L2.defBody st) (L2.defScope st) .none kV doc pm an cdv ct) ⟨us ++ rest, []⟩ = (newTuple rest >>= fun t => pure (ps.zip us ++ [(pv, t)])))
    (hB : ∀ (A : Around) (outer : List PySem.Env) (s : Shared) (H : Hp) (E : XK), RoomG k (A.deeper (envOfC x (L2.defScope st) s.heap.objs.size fA cdv)) → ∃ t, JB (bx P w K mg base N x st fA cdv A outer s H E) (fun _ => E) (L2.defBody st) t g) :
    CalS P w K mg base x (k + 1) m (runF n g) := by
  refine ⟨fA, fun A outer s H us vs Q E room e0 r ⟨ws, rest, ev, hl, hz, hq⟩ => ?_, gm, kp⟩
  subst ev
  obtain ⟨u1, u2, eu, q1, q2⟩ := StX.vals_split r
  subst eu
  have free : H s.heap.objs.size = none := e0.hok.fresh (Nat.le_refl _)
  have l1 : u1.length = ps.length := by rw [← q1.length, hl, hp]
  have l2 : u2.length ≤ sizeLine := by rw [← q2.length]; exact hz
  refine StX.run_bnd lk hcd S room.room e0 (G := fun xs H2 => ∃ p, H p = none ∧ xs = ws ++ [V.ref p] ∧ H2 = upd H p (.tup rest)) (fun A' Ex Q' h => ?_) fun s2 H2 xs ⟨p, hpn, ex, eH⟩ hr' => ?_
  · rw [hb u1 u2 l1]
    refine wpAny_bind (wpAny_newTuple (wpAny_pure ?_) l2)
    have put : L2.ObjOk P w (upd H s.heap.objs.size (.tup rest)) (s.heap.push ({ cls := .type "tuple", data := .seq u2.toArray } : Obj)) s.heap.objs.size (.tup rest) := ⟨hz, u2, q2, ⟨_, Heap.get?_push_size _ rfl, rfl, _, rfl⟩⟩
    have grown := StX.un_laid (fs := L2.frs outer) (s := s) (o := ({ cls := .type "tuple", data := .seq u2.toArray } : Obj)) (u := .tup rest) free
    have got := h _ _ (ws ++ [V.ref s.heap.objs.size]) (u1 ++ [Value.ref s.heap.objs.size]) (StX.env0_laid e0 put) grown rfl (fun e s' => StX.cxUp outer s H _ _ E e s' grown (fun b o q => Heap.get?_push_of_some _ q) rfl) (q1.append (.cons rfl .nil))
      (by rw [List.length_append, List.length_append, hl, hp]; rfl) ⟨_, free, rfl, rfl⟩
    rw [List.zip_append l1.symm] at got
    exact got
  · subst ex eH
    obtain ⟨t, jb⟩ := hB A outer s2 _ E ⟨hr', room.gd⟩
    exact ⟨t, jb.pss, body_ok hN hmn jb.ss (hq p hpn)⟩
end
section
variable {K : PySem.W.Frag} {W : St → XK}
/-- arguments behind the first m are packed -/
def tStarA (m : Nat) (t : TA) : TA := fun σ H Q => t σ H fun vs H1 => ∃ ws rest, vs = ws ++ rest ∧ ws.length = m ∧ rest.length ≤ sizeLine ∧ ∀ p, H1 p = none → Q (ws ++ [V.ref p]) (upd H1 p (.tup rest))
def valsD : List RV → Option (List D)
  | [] => some []
  | .val d :: rs => (valsD rs).map (d :: ·)
  | _ :: _ => none
theorem valsD_ok {Hd : Hp} {σ : St} : ∀ {rs : List RV} {vs : List V} {ds : List D}, RVs K Hd σ rs vs → valsD rs = some ds → Reps K Hd ds vs
  | _, _, _, .nil, e => by cases e; exact .nil
  | _, _, _, .val (rs := rs) r q, e => by
    simp only [valsD] at e
    cases e1 : valsD rs with
    | none => rw [e1] at e; cases e
    | some es => rw [e1] at e; cases e; exact .cons r (valsD_ok q e1)
  | _, _, _, .bor _ _, e => by cases e
theorem RVs.length {Hd : Hp} {σ : St} : ∀ {rs : List RV} {vs : List V}, RVs K Hd σ rs vs → rs.length = vs.length
  | _, _, .nil => rfl
  | _, _, .val _ q => by simp [RVs.length q]
  | _, _, .bor _ q => by simp [RVs.length q]
theorem RVs.take {Hd : Hp} {σ : St} : ∀ {rs : List RV} {vs : List V} (m : Nat), RVs K Hd σ rs vs → RVs K Hd σ (rs.take m) (vs.take m)
  | _, _, 0, _ => by simp; exact .nil
  | _, _, m + 1, .nil => .nil
  | _, _, m + 1, .val r q => .val r (RVs.take m q)
  | _, _, m + 1, .bor r q => .bor r (RVs.take m q)
theorem RVs.drop {Hd : Hp} {σ : St} : ∀ {rs : List RV} {vs : List V} (m : Nat), RVs K Hd σ rs vs → RVs K Hd σ (rs.drop m) (vs.drop m)
  | _, _, 0, q => q
  | _, _, m + 1, .nil => .nil
  | _, _, m + 1, .val r q => RVs.drop m q
  | _, _, m + 1, .bor r q => RVs.drop m q
theorem RVs.app {Hd : Hp} {σ : St} : ∀ {rs rs' : List RV} {vs vs' : List V}, RVs K Hd σ rs vs → RVs K Hd σ rs' vs' → RVs K Hd σ (rs ++ rs') (vs ++ vs')
  | _, _, _, _, .nil, s => s
  | _, _, _, _, .val r q, s => .val r (RVs.app q s)
  | _, _, _, _, .bor r q, s => .bor r (RVs.app q s)
def packA (m : Nat) (rs : List RV) (ρ : O.Env) : Res (List RV) := match valsD (rs.drop m) with
  | some ds => if m ≤ rs.length ∧ ds.length ≤ sizeLine then .ok (rs.take m ++ [.val (.tup ds)]) ρ else .no
  | none => .no
def fStarA (m : Nat) (f : O.Env → Res (List RV)) : O.Env → Res (List RV) := fun ρ => (f ρ).bind (packA m)
theorem sd_starA {m : Nat} {t : TA} {f : O.Env → Res (List RV)} (h : Sd K W (rA K) t f) : Sd K W (rA K) (tStarA m t) (fStarA m f) := fun C fp Hd H σ ρ I Q p =>
  h.run I p fun rs vs fp1 Hd1 H1 ρ1 s1 I1 r1 p => by
    have r1 : RVs K Hd1 σ rs vs := r1
    unfold packA at p
    cases e : valsD (rs.drop m) with
    | none => simp only [e] at p; exact p.elim
    | some ds =>
      simp only [e] at p
      by_cases hh : m ≤ rs.length ∧ ds.length ≤ sizeLine
      · rw [if_pos hh] at p
        have rd := valsD_ok (r1.drop m) e
        have hl := r1.length
        refine ⟨vs.take m, vs.drop m, (List.take_append_drop m vs).symm, by rw [List.length_take]; omega, by rw [rd.length]; exact hh.2, fun q hq => ?_⟩
        obtain ⟨Hd2, x2, r2⟩ := newR_tup I1.le hq rd
        exact p _ fp1 Hd2 _ (I1.stp x2) (I1.ext x2) (((r1.take m).mono x2.hd).app (.val r2 .nil))
      · rw [if_neg hh] at p; exact p.elim
end
section
variable {X : Cx} {W : St → XK} {e : Expr} {es : List Expr} {pos p : Pos} {t : TA} {f : O.Env → Res (List RV)}
theorem jcalS {K : PySem.W.Frag} {x : Str} {k j m : Nat} {F : List Ar → FO} (ms : List Md) (c : CalS X.prog X.w X.K X.mg X.base x k m F) (hr : RoomG j X.A) (tk : ∀ σ, L2.PassesAt (L2.CX X.prog X.w) X σ (W σ)) (ha : JA X W (e :: es) t f) (hj : k ≤ j := by first | decide | omega) (hl : ms.length = m + 1 := by rfl) (hg : Gl X x := by rfl)
    (hdb : (x == ("__debug__" : Str)) = false := by decide) (he : starEach (e :: es) X.env = (false, eval e X.env) :: starEach es X.env := by rfl) (hpl : (backTo pos (starEach es X.env)).any (·.1) = false := by rfl) (hK : X.K = K := by rfl) :
    JE X W (.Call (.Name x p) (e :: es) [] pos) (L2.tCallSD (spF K (m + 1) F) [] W (tStarA m t)) (fCall ms [] F (fStarA m f)) := by
  subst hK
  obtain ⟨fA, go, h2, h3⟩ := c.ex
  refine ⟨⟨fun pins s σ H Q I h => ?_⟩, sd_call hl (fun _ => .nil) (sd_starA ha.sa)⟩
  refine wpAny_Call_Name_kw (L2.ld_glob I hg h2 ?_ hdb)
  refine PySem.W.callWith_K I.ok.mod.kin h3 (L2.thn (ha.pa.run pos pins s σ H _ I h) fun us s1 ⟨vs, H1, I1, r, q⟩ => ⟨I1.kIn, ?_⟩) he hpl
  have q' : spS X.K m F vs H1 Q (W σ) := by
    obtain ⟨ws, rest, e1, e2, e3, q⟩ := q
    refine ⟨ws, rest, e1, e2, e3, fun b hb => ?_⟩
    have z : spF X.K (m + 1) F ((ws ++ [V.ref b]) ++ []) (upd H1 b (HO.tup rest)) Q (W σ) := q b hb
    rwa [List.append_nil] at z
  refine wpAny_call (codeAny_mono (go X.A X.stack s1 H1 us vs Q (W σ) (hr.mono hj) I1.env0 r q') fun r s' hq => ?_)
  rcases r with e | fl
  · exact tk σ pins H1 s1 e s' I1 hq
  · cases fl with
    | ret u => exact I1.after hq
    | next => exact hq.elim
    | brk => exact hq.elim
    | cont => exact hq.elim
end
/-! ### a new list, repeated -/
section
variable {K : PySem.W.Frag} {W : St → XK}
def repR (r r2 : RV) (ρ : O.Env) : Res RV := match r, rd r2 ρ with
  | .own (.lst ds), some (.int k) => if -(2 ^ 63) ≤ k ∧ k < 2 ^ 63 ∧ ds.length * k.toNat ≤ sizeLine then .ok (.own (.lst (List.replicate k.toNat ds).flatten)) ρ else .no
  | _, _ => .no
def fRep (fa fb : O.Env → Res RV) : O.Env → Res RV := fun ρ => (fa ρ).bind fun r ρ1 => (fb ρ1).bind fun r2 ρ2 => repR r r2 ρ2
theorem Reps.rep {H : Hp} {ds : List D} {vs : List V} (r : Reps K H ds vs) : ∀ n : Nat, Reps K H (List.replicate n ds).flatten (List.replicate n vs).flatten
  | 0 => .nil
  | n + 1 => by
    rw [List.replicate_succ, List.replicate_succ, List.flatten_cons, List.flatten_cons]
    exact r.append (Reps.rep r n)
theorem sd_rep {ta tb : TE} {fa fb : O.Env → Res RV} (ha : Sd K W (rV K) ta fa) (hb : Sd K W (rV K) tb fb) : Sd K W (rV K) (tOp L2.rRep ta tb) (fRep fa fb) := fun C fp Hd H σ ρ I Q p =>
  ha.run I p fun r1 v1 fp0 Hd0 H0 ρ0 s0 I0 h1 p => hb.run I0 p fun r2 v2 fp1 Hd1 H1 ρ1 s1 I1 h2 p => by
    have h1 := (rV_loose h1).stp s1
    have h2 := rV_loose h2
    unfold repR at p
    cases r1 with
    | val d => exact p.elim
    | bor i => exact p.elim
    | own o =>
      cases o with
      | lst ds =>
        cases e2 : rd r2 ρ1 with
        | none => simp only [e2] at p; exact p.elim
        | some d2 =>
          simp only [e2] at p
          have t2 := I1.rdTop h2 e2
          cases d2 with
          | int k =>
            simp only at p
            by_cases hh : -(2 ^ 63) ≤ k ∧ k < 2 ^ 63 ∧ ds.length * k.toNat ≤ sizeLine
            · rw [if_pos hh] at p
              obtain ⟨A, ow, nda⟩ := h1
              clear nda
              cases ow with
              | lst hH rr =>
                rename_i a vs
                exact ⟨a, k, vs, rfl, t2.intD, hH, hh.1, hh.2.1, by rw [rr.length]; exact hh.2.2, fun q hq => p.new I1 (newR_lst I1.le hq (Reps.rep rr k.toNat))⟩
            · rw [if_neg hh] at p; exact p.elim
          | _ => exact p.elim
      | _ => exact p.elim
end
section
variable {X : Cx} {W : St → XK} {a b : Expr} {pos : Pos} {ta tb : TE} {fa fb : O.Env → Res RV}
theorem jrep (ha : JE X W a ta fa) (hb : JE X W b tb fb) : JE X W (.BinOp a .Mult b pos) (tOp L2.rRep ta tb) (fRep fa fb) := ⟨L2.pe_op L2.op_rep ha.pe hb.pe, sd_rep ha.se hb.se⟩
end
end O

/-! Own34: three names at once; classes of errors as gen.py prints them; the words of Own33 as simp lemmas -/
namespace O
open PySem
open PyProof.Rows (envOfC AllBare)
open L2 (V Hp HO Rd SqL SqT upd upd_same upd_ne TE TT TA TS TG TGs TI TO It VK XK WX Ends St PE PT PW PA PS PSs PG PGs PI PO PTs Cx OpR UnR CallR tOp tUn tVar tC tCons tNil tTup Sp FnOk Gl Vis Loc Room OexC Takes)
section
variable {X : Cx} {W : St → XK} {a b c : Expr} {pos : Pos} {t : TA} {f : O.Env → Res (List RV)}
theorem jpar3 (n m l : Nat) {x y z : Str} {px py pz pt : Pos} {kt k2 pt2} (hc : X.calm = true) (hN : X.N.Nodup) (ha : JM X W [a, b, c] t f) (hi : X.N[n]? = some x := by rfl) (hj : X.N[m]? = some y := by rfl) (hk : X.N[l]? = some z := by rfl) (hij : n ≠ m := by decide) (hil : n ≠ l := by decide) (hjl : m ≠ l := by decide)
    (hx : X.env.scope.names.lookup x = some .local := by rfl) (hy : X.env.scope.names.lookup y = some .local := by rfl) (hz : X.env.scope.names.lookup z = some .local := by rfl)
    (hw : swappedStores [.Tuple [.Name x px, .Name y py, .Name z pz] kt pt] (.Tuple [a, b, c] k2 pt2) X.env = pure (some [x, y, z]) := by rfl) (hs : swapsWithSole [.Tuple [.Name x px, .Name y py, .Name z pz] kt pt] (.Tuple [a, b, c] k2 pt2) pos.line X.env = pure false := by rfl) :
    JS X W (.Assign [.Tuple [.Name x px, .Name y py, .Name z pz] kt pt] (.Tuple [a, b, c] k2 pt2) pos) (L2.tPar3 n m l t) (gParN [n, m, l] f) := ⟨L2.ps_par3 hc hN hi hj hk hij hil hjl hx hy hz ha.pa hw hs, ss_par3 ha.sm⟩
end
/-- a class's body -/
def clsBody : Stmt → List Stmt
  | .ClassDef _ _ _ body _ _ _ _ _ _ _ => body
  | _ => []
def clsAt (st : Stmt) (j : Nat) : Stmt := (clsBody st).getD j (.Pass ⟨0, 0, 0, 0⟩)
theorem err_mk {P : Program} {w : World} {K : PySem.W.Frag} {mg : Str → Option Value} {base : Heap} {x f : Str} {C fI : Addr} {fd : FuncData} {k : Nat}
    (h1 : PySem.W.findIn K (.ref C) "__init__" = some (some (.ref fI))) (h2 : PySem.W.typeIn K (.ref fI) = some (.type "function")) (h3 : FnOk P w K mg base (L2.CX P w) k fI fd ["self", "value"] (spIni K C f)) (h4 : L2.Binds K fd ["self", "value"] [])
    (gm : mg x = some (.ref C)) (cl : ∃ nm q N bs bm sn sub ab col dd k0 k1 k2 k3 k5, K.lookup C = some (excClassObj nm q C N bs bm true sn sub ab col dd k0 k1 k2 k3 k5 "ValueError.__new__") ∧ PySem.HandSPX.refsVE bm = true)
    (sa : PySem.W.findIn K (.ref C) "__setattr__" = some (some (.builtin "object.__setattr__"))) (ex : PySem.W.subIn K (.ref C) (.type "BaseException") = some true) (ty : PySem.W.typeIn K (.ref C) = some (.type "type")) (kp : PySem.W.keepIn K (.ref C) = true)
    (no : PySem.W.findIn K (.ref C) f = some none) (ga : PySem.W.findIn K (.ref C) "__getattribute__" = some (some (.builtin "BaseException.__getattribute__"))) (gg : PySem.W.findIn K (.ref C) "__getattr__" = some none) (hd : PySem.W.hasDictIn K C = true) : ErrC P w K mg base k x C f :=
  ⟨⟨fI, fd, h1, h2, h3, h4⟩, gm, ⟨cl, sa, ex, ty, kp⟩, no, ⟨ga, gg, ex, hd⟩⟩
/-! simp lemmas -/
section
variable {C : Addr} {f : Str} {i : Nat} {gb : O.Env → SR} {ρ ρ1 : O.Env} {fa fb : O.Env → Res RV} {d : D}
theorem u_gRaise : gRaise C f fa ρ = ((fa ρ).bind O.fz).thn fun d ρ1 => .ex ⟨.ref C, some [(f, d)]⟩ ρ1 := id rfl
theorem u_raise_ok (h : (fa ρ).bind O.fz = .ok d ρ1) : gRaise C f fa ρ = .ex ⟨.ref C, some [(f, d)]⟩ ρ1 := by
  unfold gRaise; rw [h]; rfl
theorem u_try_ex (h : gb ρ = .ex ⟨.ref C, some [(f, d)]⟩ ρ1) (hi : i < ρ1.length) : gTryV C f i gb ρ = .rt (.val (.tup [d])) ρ1 := by
  unfold gTryV; rw [h]; exact if_pos ⟨rfl, rfl, hi⟩
theorem u_try_rt {r : RV} (h : gb ρ = .rt r ρ1) : gTryV C f i gb ρ = .rt r ρ1 := by
  unfold gTryV; rw [h]
theorem u_try_nx (h : gb ρ = .nx ρ1) : gTryV C f i gb ρ = .nx ρ1 := by
  unfold gTryV; rw [h]
end
section
variable {m : Nat} {fa : O.Env → Res (List RV)} {ρ : O.Env} {f g : O.Env → Res RV}
@[simp] theorem u_fStarA : fStarA m fa ρ = (fa ρ).bind (packA m) := id rfl
theorem pack_ok {rs : List RV} {ds : List D} (h : valsD (rs.drop m) = some ds) (hm : m ≤ rs.length) (hz : ds.length ≤ sizeLine) : packA m rs ρ = .ok (rs.take m ++ [.val (.tup ds)]) ρ := by
  unfold packA; rw [h]; exact if_pos ⟨hm, hz⟩
theorem valsD_map : ∀ ds : List D, valsD (ds.map .val) = some ds
  | [] => rfl
  | d :: ds => by simp [valsD, valsD_map ds]
end
/-! errors passed on -/
section
variable {α β : Type} {e : Exc} {ρ : O.Env}
@[simp] theorem bind_ex {f : α → O.Env → Res β} : (Res.ex e ρ : Res α).bind f = .ex e ρ := id rfl
@[simp] theorem thn_ex {f : α → O.Env → SR} : (Res.ex e ρ : Res α).thn f = .ex e ρ := id rfl
@[simp] theorem seq_ex {f : O.Env → SR} : (SR.ex e ρ).seq f = .ex e ρ := id rfl
def cEx (e : Exc) : Option O.Env → Res RV
  | some ρ' => .ex e ρ'
  | none => .no
@[simp] theorem cEx_some : cEx e (some ρ) = .ex e ρ := id rfl
@[simp] theorem cR1_exc {ms : List Md} {rs : List RV} {outs : List (Option OD)} : cR1 ms rs ρ (.exc e outs) = cEx e (outE ρ ms rs outs (drops ms rs ρ)) := by
  simp only [cR1]
  cases outE ρ ms rs outs (drops ms rs ρ) <;> rfl
def rEx (e : Exc) : Option (List (Option OD)) → FO
  | some os => .exc e os
  | none => .no
@[simp] theorem rEx_some {os : List (Option OD)} : rEx e (some os) = .exc e os := id rfl
@[simp] theorem run1_ex {as : List Ar} : run1 as (.ex e ρ) = rEx e (outsOf as ρ) := by
  simp only [run1]
  cases outsOf as ρ <;> rfl
end
end O

/-! Own35: a name's thing frozen where it gets a second name; xs[i] = e of a list; x.reverse() -/
namespace O
open PySem
open L2 (V Hp HO Rd SqL SqT upd upd_same upd_ne ne_of ne_of_none TE TT TA TS TG TGs TI TO It VK XK Ends St PE PT PW PA PS PSs PG PGs PI PO PTs Cx OpR UnR CallR IxR SlR MtR R2 tOp tUn tVar tC tCons tNil tTup tLst tTest tB tAnd tOr tNot tAndV tOrV tNotV tIf tCB Sp FnOk Gl Vis Loc Room)
section
variable {K : PySem.W.Frag} {W : St → XK}
def kVal (d : D) (ρ : O.Env) : Res RV := .ok (.val d) ρ
def fFz (f : O.Env → Res RV) : O.Env → Res RV := fun ρ => ((f ρ).bind fz).bind kVal
theorem sd_fz {t : TE} {f : O.Env → Res RV} (h : Sd K W (rV K) t f) : Sd K W (rV K) t (fFz f) := by
  intro C fp Hd H σ ρ I Q p
  refine h.fz C fp Hd H σ ρ I Q ?_
  unfold fFz at p
  show Post K W C (rD K) fp Hd H σ ((f ρ).bind fz) Q
  cases e : (f ρ).bind fz with
  | no => rw [e] at p; exact p
  | ex c ρ1 => rw [e] at p; exact p
  | ok d ρ1 =>
    rw [e] at p
    exact fun v fp1 Hd1 H1 s1 I1 r => p v fp1 Hd1 H1 s1 I1 r
@[simp] theorem u_kVal {d : D} {ρ : O.Env} : kVal d ρ = .ok (.val d) ρ := id rfl
@[simp] theorem u_fFz {f : O.Env → Res RV} {ρ : O.Env} : fFz f ρ = ((f ρ).bind fz).bind kVal := id rfl
/-- l.reverse() -/
def gReverse : List D → List D → Option (List D × D)
  | ds, [] => some (ds.reverse, .non)
  | _, _ => none
end
section
variable {X : Cx} {W : St → XK} {a b e i : Expr} {es : List Expr} {pos p p2 : Pos} {ta tb te ti : TE} {fa fb fe fi : O.Env → Res RV} {t : TA} {f : O.Env → Res (List RV)}
theorem mt_gReverse : MtR X "list.reverse" (rGMut X.K gReverse) := mt_imp L2.mt_reverse fun x vs H Q ⟨l, xs, Hd, ds, es, ds', z, ex, hl, r, re, eg, q⟩ => by
  match es, re, eg with
  | [], .nil, eg =>
    cases eg
    exact ⟨l, xs, ex, rfl, hl, q _ _ r.reverse .non⟩
theorem jfz (ha : JE X W a ta fa) : JE X W a ta (fFz fa) := ⟨ha.pe, sd_fz ha.se⟩
theorem jreverse {n : Nat} {apos : Pos} {x : Str} {K : PySem.W.Frag} (ho : JE X W (.Name x p) (tVar n) (fVar n)) (hbase : attributeBase (.Name x p) "reverse" X.env (eval (.Name x p) X.env) = eval (.Name x p) X.env := by rfl)
    (hline : (apos.endLine == pos.line) = true := by rfl) (hK : X.K = K := by rfl) :
    JE X W (.Call (.Attribute (.Name x p) "reverse" apos) [] [] pos) (L2.tBM0 K "list" (rGMut K gReverse) (tVar n)) (fMutL n aNil gReverse) := by
  subst hK
  exact ⟨L2.pe_bm0 PySem.F.plainAttrs_list PySem.F.slot_list_reverse PySem.F.type_list_reverse mt_gReverse ho.pe hbase hline, sd_mut sa_nil⟩
theorem jsetI (n : Nat) {x : Str} {pos' : Pos} (ho : JE X W (.Name x p) (tVar n) (fVar n)) (hi : JE X W i ti fi) (he : JE X W e te fe) (hs : swapsWithSole [.Subscript (.Name x p) i pos'] e pos.line X.env = pure false := by rfl) (hw : swappedStores [.Subscript (.Name x p) i pos'] e X.env = pure none := by rfl)
    (h1 : (assignEach [.Subscript (.Name x p) i pos'] X.env).map (·.2) = [assign (.Subscript (.Name x p) i pos') X.env] := by rfl)
    (ha : ∀ v, assign (.Subscript (.Name x p) i pos') X.env v = (do
      let ov ← holding [v] (eval (.Name x p) X.env)
      let iv ← holding [v, ov] (eval i X.env)
      standAt pos'
      holding [v, ov, iv] (setItem ov iv v)
      release [v, ov, iv] []) := by intro _; rfl) :
    JS X W (.Assign [.Subscript (.Name x p) i pos'] e pos) (L2.tAsg te (L2.gSub (tVar n) ti L2.rSetL)) (gSetI n fi fe) := ⟨L2.ps_asg he.pe (L2.pg_sub ho.pe hi.pe L2.set_list ha) hs hw h1, ss_setI hi.se he.se⟩
end
end O

/-! Own36: the words of Own35 (and or) as simp lemmas; a stream of draws that is a list of two ints -/
namespace O
open PySem
section
variable {ρ : O.Env} {i n k : Nat} {d : D} {fa fb fe fi : O.Env → Res RV}
def aSt3 (i : Nat) (d : D) (ds : List D) (ρ : O.Env) : Option Nat → SR
  | some j => .nx (setOw i (.lst (ds.set j d)) ρ)
  | none => .no
@[simp] theorem aSt3_some {ds : List D} {j : Nat} : aSt3 i d ds ρ (some j) = .nx (setOw i (.lst (ds.set j d)) ρ) := id rfl
def aSt2 (i : Nat) (d : D) (ρ : O.Env) : Option D → Option OD → SR
  | some (.int k), some (.lst ds) => aSt3 i d ds ρ (L2.ixN ds.length k)
  | _, _ => .no
@[simp] theorem aSt2_some {ds : List D} {k : Int} : aSt2 i d ρ (some (.int k)) (some (.lst ds)) = aSt3 i d ds ρ (L2.ixN ds.length k) := id rfl
def kStI2 (i : Nat) (d : D) (r : RV) (ρ : O.Env) : SR := aSt2 i d ρ (rd r ρ) (ownAt i ρ)
@[simp] theorem u_kStI2 {r : RV} : kStI2 i d r ρ = aSt2 i d ρ (rd r ρ) (ownAt i ρ) := id rfl
def aStI (i : Nat) (fi : O.Env → Res RV) (d : D) (ρ : O.Env) : Option OD → SR
  | some (.lst _) => (fi ρ).thn (kStI2 i d)
  | _ => .no
@[simp] theorem aSt_some {ds : List D} : aStI i fi d ρ (some (.lst ds)) = (fi ρ).thn (kStI2 i d) := id rfl
def kStI (i : Nat) (fi : O.Env → Res RV) (d : D) (ρ : O.Env) : SR := aStI i fi d ρ (ownAt i ρ)
@[simp] theorem u_kStI : kStI i fi d ρ = aStI i fi d ρ (ownAt i ρ) := id rfl
theorem aSt2_is {r : RV} : kStI2 i d r ρ = (match rd r ρ, ownAt i ρ with
    | some (.int k), some (.lst ds) => match L2.ixN ds.length k with
      | some j => .nx (setOw i (.lst (ds.set j d)) ρ)
      | none => .no
    | _, _ => .no) := by
  unfold kStI2 aSt2
  cases rd r ρ with
  | none => rfl
  | some x => cases x <;> first | rfl | (cases ownAt i ρ with
    | none => rfl
    | some o => cases o <;> first | rfl | (simp only [aSt3]; split <;> rename_i h <;> rw [h]))
@[simp] theorem u_gSetI : gSetI i fi fe ρ = ((fe ρ).bind fz).thn (kStI i fi) := by
  unfold gSetI
  congr 1
theorem or_t {r : RV} {ρ1 : O.Env} (h : fa ρ = .ok r ρ1) (ht : (rd r ρ1).bind truD = some true) : fOrT fa fb ρ = .ok r ρ1 := by
  unfold fOrT; rw [h]; simp only [Res.bind, ht]
theorem or_f {r : RV} {ρ1 : O.Env} (h : fa ρ = .ok r ρ1) (ht : (rd r ρ1).bind truD = some false) : fOrT fa fb ρ = fb ρ1 := by
  unfold fOrT; rw [h]; simp only [Res.bind, ht]
end
/-! a stream of draws: its digits and its seed -/
def sk (d m : Int) : OD := .lst [.int d, .int m]
theorem lt0 (x y : D) : gIx (.lst [x, y]) (.int 0) = some (.val x) := by simp [gIx, L2.atI, L2.ixN]
theorem lt1 (x y : D) : gIx (.lst [x, y]) (.int 1) = some (.val y) := by simp [gIx, L2.atI, L2.ixN]
theorem ixN0 : L2.ixN 2 0 = some 0 := by decide
theorem ixN1 : L2.ixN 2 1 = some 1 := by decide
theorem gPow_5 {i : Int} (h : (Builtin.Int.intBits i : Int) * 5 ≤ 134217728) : gPow (.int i) (.int 5) = some (.val (.int (i ^ 5))) := gPow_ii 5 h
theorem bits_add {z m : Int} {c n : Nat} (hz : Builtin.Int.intBits z ≤ n) (hn : 64 ≤ n) (h0 : 0 ≤ m) (h1 : m < 4294967296) (hc : c ≤ 100000) : Builtin.Int.intBits (m * c + z) ≤ n + 1 := by
  apply PyProof.Rows.intBits_le
  have a : z.natAbs < 2 ^ n := Nat.lt_of_lt_of_le (PyProof.Rows.natAbs_lt_pow_bits z) (Nat.pow_le_pow_right (by omega) hz)
  have c' : (2 : Nat) ^ 64 ≤ 2 ^ n := Nat.pow_le_pow_right (by omega) hn
  have c2 : (2 : Nat) ^ 64 = 18446744073709551616 := by decide
  have f : (2 : Nat) ^ (n + 1) = 2 ^ n * 2 := Nat.pow_succ ..
  have g : m.natAbs * c ≤ 4294967296 * 100000 := Nat.mul_le_mul (by omega) hc
  have g2 : (m * (c : Int)).natAbs = m.natAbs * c := by rw [Int.natAbs_mul]; rfl
  rw [f]
  generalize (2 : Nat) ^ n = P at *
  generalize m * (c : Int) = w at *
  omega
end O

/-! Own44: generators that sleep: a run that wakes none of them is the same whatever they would do -/
namespace O
open PySem
/-- a sleeping generator that may not be woken -/
def zz : GenState → GenState
  | .suspended _ l c p fs cl => .suspended (fun _ => .unsupported "") l c p fs cl
  | x => x
def isSusp : GenState → Bool
  | .suspended .. => true
  | _ => false
theorem zz_seen (x : GenState) : (zz x).seen = x.seen := by cases x <;> rfl
theorem zz_bare (x : GenState) : (zz x).bare = x.bare := by cases x <;> rfl
/-- a suspended one without a generator's frame -/
def OkG (x : GenState) : Prop := ∀ k l c p fs cl, x = .suspended k l c p fs cl → splitAtGen fs = none
/-- the tables of generators: those of T sleep -/
def RG (T : Nat → Option GenState) (A B : Array GenState) : Prop :=
  A.size = B.size ∧ ∀ g, (∃ x, T g = some x ∧ isSusp x = true ∧ A[g]? = some (zz x) ∧ B[g]? = some x) ∨ (T g = none ∧ B[g]? = A[g]? ∧ ∀ y, A[g]? = some y → OkG y)
def EF : End → Prop
  | .ret _ => True
  | .susp _ _ _ _ _ _ fs => splitAtGen fs = none
theorem EF.ok {e : End} (h : EF e) : OkG e.genState := by
  cases e with
  | ret r => intro k l c p fs cl q; cases q
  | susp v g l k c p fs => intro k' l' c' p' fs' cl q; cases q; exact h
theorem okG_run : OkG .running := fun _ _ _ _ _ _ q => by cases q
theorem okG_fin : OkG .finished := fun _ _ _ _ _ _ q => by cases q
theorem okG_fresh {c : Code} : OkG (.fresh c) := fun _ _ _ _ _ _ q => by cases q
theorem split_app : ∀ {a b : List Frame}, splitAtGen a = none → splitAtGen b = none → splitAtGen (a ++ b) = none
  | [], _, _, h => h
  | .gen .. :: _, _, h, _ => by simp [splitAtGen] at h
  | .ret .. :: a, b, h, h2 => by
    simp only [splitAtGen, Option.map_eq_none_iff] at h
    simp only [List.cons_append, splitAtGen, Option.map_eq_none_iff]
    exact split_app h h2
theorem split_tail {F : Frame} {fs : List Frame} (h : splitAtGen (F :: fs) = none) : splitAtGen fs = none := by
  cases F with
  | gen => simp [splitAtGen] at h
  | ret => simpa only [splitAtGen, Option.map_eq_none_iff] using h
theorem RG.set {T : Nat → Option GenState} {A B : Array GenState} {g : Nat} {x : GenState} (r : RG T A B) (n : T g = none) (h : OkG x) : RG T (A.setIfInBounds g x) (B.setIfInBounds g x) := by
  refine ⟨by simp [r.1], fun i => ?_⟩
  by_cases z : g = i
  · subst z
    rcases r.2 g with ⟨x', e, _⟩ | ⟨_, e, q⟩
    · rw [n] at e; cases e
    · refine .inr ⟨n, ?_, fun y hy => ?_⟩
      · simp [Array.getElem?_setIfInBounds, r.1]
      · simp only [Array.getElem?_setIfInBounds] at hy
        split at hy
        · split at hy
          · cases hy; exact h
          · cases hy
        · exact q y hy
  · rcases r.2 i with ⟨x', e, u, e1, e2⟩ | ⟨m, e, q⟩
    · exact .inl ⟨x', e, u, by rw [Array.getElem?_setIfInBounds_ne z]; exact e1, by rw [Array.getElem?_setIfInBounds_ne z]; exact e2⟩
    · exact .inr ⟨m, by rw [Array.getElem?_setIfInBounds_ne z, Array.getElem?_setIfInBounds_ne z]; exact e, fun y hy => by rw [Array.getElem?_setIfInBounds_ne z] at hy; exact q y hy⟩
theorem RG.push {T : Nat → Option GenState} {A B : Array GenState} {c : Code} (r : RG T A B) : RG T (A.push (.fresh c)) (B.push (.fresh c)) := by
  refine ⟨by simp [r.1], fun i => ?_⟩
  rcases r.2 i with ⟨x', e, u, e1, e2⟩ | ⟨m, e, q⟩
  · refine .inl ⟨x', e, u, ?_, ?_⟩
    · rw [Array.getElem?_push]; split
      · rename_i z; subst z; simp at e1
      · exact e1
    · rw [Array.getElem?_push]; split
      · rename_i z; subst z; simp at e2
      · exact e2
  · refine .inr ⟨m, ?_, fun y hy => ?_⟩
    · rw [Array.getElem?_push, Array.getElem?_push, r.1, e]
    · rw [Array.getElem?_push] at hy; split at hy
      · cases hy; exact okG_fresh
      · exact q y hy
theorem RG.awake {T : Nat → Option GenState} {A B : Array GenState} {g : Nat} {y : GenState} (r : RG T A B) (e : A[g]? = some y) (h : isSusp y = false) : T g = none ∧ B[g]? = some y ∧ OkG y := by
  rcases r.2 g with ⟨x', _, u, e1, e2⟩ | ⟨m, e2, q⟩
  · rw [e] at e1; cases e1
    cases x' <;> simp [isSusp, zz] at h u
  · exact ⟨m, by rw [e2]; exact e, q y e⟩
theorem RG.at {T : Nat → Option GenState} {A B : Array GenState} {g : Nat} {y : GenState} (r : RG T A B) (e : A[g]? = some y) : ∃ x, B[g]? = some x ∧ x.seen = y.seen := by
  rcases r.2 g with ⟨x, _, _, e1, e2⟩ | ⟨_, e2, _⟩
  · rw [e] at e1; cases e1
    exact ⟨x, e2, (zz_seen x).symm⟩
  · exact ⟨y, e2.trans e, rfl⟩
theorem RG.sus {T : Nat → Option GenState} {A B : Array GenState} {g : Nat} {y : GenState} (r : RG T A B) (e : A[g]? = some y) : (∃ x, isSusp x = true ∧ y = zz x) ∨ (T g = none ∧ B[g]? = some y ∧ OkG y) := by
  rcases r.2 g with ⟨x, _, u, e1, e2⟩ | ⟨n, e2, q⟩
  · rw [e] at e1; cases e1
    exact .inl ⟨x, u, rfl⟩
  · exact .inr ⟨n, e2.trans e, q y e⟩
theorem no_runs {M : Model} {Γ : Ctx} {p : Pos} {t : Sem PySem.Fin} {fs : List Frame} {s s' : Shared} {e : End} (h : Runs M Γ p t fs s e s') : ∀ w, t = .unsupported w → False := by
  induction h <;> intro w q <;> first | (cases q; done) | skip
  case segRet ih _ => exact ih w q
  case segGen ih _ => exact ih w q
  case segSuspOut ih => exact ih w q
  case segSuspGen ih _ => exact ih w q
/-- THE SLEEP: a run that wakes none of those that sleep -/
theorem runs_sleep {M : Model} {T : Nat → Option GenState} {Γ : Ctx} {p : Pos} {t : Sem PySem.Fin} {fs : List Frame} {s s' : Shared} {e : End} (h : Runs M Γ p t fs s e s') : ∀ G, splitAtGen fs = none → RG T s.gens G →
    EF e ∧ ∃ G', RG T s'.gens G' ∧ Runs M Γ p t fs { s with gens := G } e { s' with gens := G' } := by
  induction h <;> intro G hf r
  case done => exact ⟨trivial, G, r, .done⟩
  case raise => exact ⟨trivial, G, r, .raise⟩
  case again hq _ ih => obtain ⟨a, G', r', q⟩ := ih G rfl r; exact ⟨a, G', r', .again hq q⟩
  case rule ih => obtain ⟨a, G', r', q⟩ := ih G rfl r; exact ⟨a, G', r', .rule q⟩
  case «at» ih => obtain ⟨a, G', r', q⟩ := ih G rfl r; exact ⟨a, G', r', .at q⟩
  case load e _ ih => obtain ⟨a, G', r', q⟩ := ih G rfl r; exact ⟨a, G', r', .load e q⟩
  case update e _ ih => obtain ⟨a, G', r', q⟩ := ih G rfl r; exact ⟨a, G', r', .update e q⟩
  case loadIfAlive ih => obtain ⟨a, G', r', q⟩ := ih G rfl r; exact ⟨a, G', r', .loadIfAlive q⟩
  case point ih => obtain ⟨a, G', r', q⟩ := ih G rfl r; exact ⟨a, G', r', .point q⟩
  case alloc ih => obtain ⟨a, G', r', q⟩ := ih G rfl r; exact ⟨a, G', r', .alloc q⟩
  case fresh ih => obtain ⟨a, G', r', q⟩ := ih G rfl r; exact ⟨a, G', r', .fresh q⟩
  case ask ih => obtain ⟨a, G', r', q⟩ := ih G rfl r; exact ⟨a, G', r', .ask q⟩
  case choose e _ ih => obtain ⟨a, G', r', q⟩ := ih G rfl r; exact ⟨a, G', r', .choose e q⟩
  case os ih => obtain ⟨a, G', r', q⟩ := ih G rfl r; exact ⟨a, G', r', .os q⟩
  case handled ih => obtain ⟨a, G', r', q⟩ := ih G rfl r; exact ⟨a, G', r', .handled q⟩
  case stack ih => obtain ⟨a, G', r', q⟩ := ih G rfl r; exact ⟨a, G', r', .stack q⟩
  case thread ih => obtain ⟨a, G', r', q⟩ := ih G rfl r; exact ⟨a, G', r', .thread q⟩
  case genState e _ ih =>
    obtain ⟨a, G', r', q⟩ := ih G rfl r
    obtain ⟨x, e2, e3⟩ := r.at e
    refine ⟨a, G', r', .genState e2 ?_⟩
    rw [e3]
    exact q
  case newGen ih => 
    obtain ⟨a, G', r', q⟩ := ih _ rfl r.push
    refine ⟨a, G', r', .newGen ?_⟩
    rw [r.1] at q
    exact q
  case call ih1 ih2 =>
    obtain ⟨_, G1, r1, q1⟩ := ih1 G rfl r
    obtain ⟨a, G', r', q⟩ := ih2 G1 rfl r1
    exact ⟨a, G', r', .call q1 q⟩
  case callSusp ih =>
    obtain ⟨a, G', r', q⟩ := ih G rfl r
    exact ⟨split_app a rfl, G', r', .callSusp q⟩
  case yield => exact ⟨rfl, G, r, .yield⟩
  case resumeFresh e _ hq _ ih1 ih2 =>
    obtain ⟨n, e2, _⟩ := r.awake e rfl
    obtain ⟨a1, G1, r1, q1⟩ := ih1 _ rfl (r.set n okG_run)
    obtain ⟨a, G', r', q⟩ := ih2 _ rfl (r1.set n a1.ok)
    exact ⟨a, G', r', .resumeFresh e2 q1 hq q⟩
  case resumeSuspended e h1 hq h2 ih1 ih2 =>
    rcases r.sus e with ⟨x, u, e1⟩ | ⟨n, e2, ok⟩
    · cases x <;> cases u
      cases e1
      exact (no_runs h1 _ rfl).elim
    · obtain ⟨a1, G1, r1, q1⟩ := ih1 _ (ok _ _ _ _ _ _ rfl) (r.set n okG_run)
      obtain ⟨a, G', r', q⟩ := ih2 _ rfl (r1.set n a1.ok)
      exact ⟨a, G', r', .resumeSuspended e2 q1 hq q⟩
  case resumeJustStarted e hv _ ih =>
    obtain ⟨n, e2, _⟩ := r.awake e rfl
    obtain ⟨a, G', r', q⟩ := ih G rfl r
    exact ⟨a, G', r', .resumeJustStarted e2 hv q⟩
  case resumeThrowFresh e _ ih =>
    obtain ⟨n, e2, _⟩ := r.awake e rfl
    obtain ⟨a, G', r', q⟩ := ih _ rfl (r.set n okG_fin)
    exact ⟨a, G', r', .resumeThrowFresh e2 q⟩
  case resumeRunning e _ ih =>
    obtain ⟨n, e2, _⟩ := r.awake e rfl
    obtain ⟨a, G', r', q⟩ := ih G rfl r
    exact ⟨a, G', r', .resumeRunning e2 q⟩
  case resumeFinished e _ ih =>
    obtain ⟨n, e2, _⟩ := r.awake e rfl
    obtain ⟨a, G', r', q⟩ := ih G rfl r
    exact ⟨a, G', r', .resumeFinished e2 q⟩
  case segRet ih1 ih2 =>
    obtain ⟨_, G1, r1, q1⟩ := ih1 G rfl r
    obtain ⟨a, G', r', q⟩ := ih2 G1 (split_tail hf) r1
    exact ⟨a, G', r', .segRet q1 q⟩
  case segGen => simp [splitAtGen] at hf
  case segSuspOut hs _ ih =>
    obtain ⟨a, G', r', q⟩ := ih G rfl r
    exact ⟨split_app a hs, G', r', .segSuspOut hs q⟩
  case segSuspGen hs _ _ _ _ _ => rw [hf] at hs; cases hs
theorem wakes_sleep {M : Model} {T : Nat → Option GenState} {Γ : Ctx} {p : Pos} {g : Nat} {rs : Resume} {s s' : Shared} {res : GenResult} (h : Wakes M Γ p g rs s res s') (G : Array GenState) (r : RG T s.gens G) :
    ∃ G', RG T s'.gens G' ∧ Wakes M Γ p g rs { s with gens := G } res { s' with gens := G' } := by
  unfold Wakes at h
  split at h
  · exact h.elim
  · rename_i c e
    obtain ⟨n, e2, _⟩ := r.awake e rfl
    split at h
    · obtain ⟨e1, s1, hr, k1, k2, k3⟩ := h
      obtain ⟨a1, G1, r1, q1⟩ := runs_sleep (T := T) hr _ rfl (r.set n okG_run)
      subst k3
      refine ⟨_, r1.set n a1.ok, ?_⟩
      unfold Wakes
      rw [e2]
      exact ⟨e1, _, q1, k1, k2, rfl⟩
    · obtain ⟨k1, k2⟩ := h
      subst k2
      refine ⟨G, r, ?_⟩
      unfold Wakes
      rw [e2]
      rename_i v hv
      cases v <;> first | exact ⟨k1, rfl⟩ | exact absurd rfl hv
    · obtain ⟨k1, k2⟩ := h
      subst k2
      refine ⟨_, r.set n okG_fin, ?_⟩
      unfold Wakes
      rw [e2]
      exact ⟨k1, rfl⟩
  · rename_i k l c p0 fs cl e
    obtain ⟨e1, s1, hr, k1, k2, k3⟩ := h
    subst k3
    rcases r.2 g with ⟨x, _, u, q1, q2⟩ | ⟨n, q2, o⟩
    · rw [e] at q1
      cases x <;> cases u
      cases q1
      exact (no_runs hr _ rfl).elim
    · obtain ⟨a1, G1, r1, q1⟩ := runs_sleep (T := T) hr _ (o _ e _ _ _ _ _ _ rfl) (r.set n okG_run)
      refine ⟨_, r1.set n a1.ok, ?_⟩
      unfold Wakes
      rw [show ({ s with gens := G } : Shared).gens[g]? = _ from q2.trans e]
      exact ⟨e1, _, q1, k1, k2, rfl⟩
  · rename_i e
    obtain ⟨n, e2, _⟩ := r.awake e rfl
    obtain ⟨k1, k2⟩ := h
    subst k2
    refine ⟨G, r, ?_⟩
    unfold Wakes
    rw [e2]
    exact ⟨k1, rfl⟩
  · rename_i e
    obtain ⟨n, e2, _⟩ := r.awake e rfl
    obtain ⟨k1, k2⟩ := h
    subst k2
    refine ⟨G, r, ?_⟩
    unfold Wakes
    rw [e2]
    exact ⟨k1, rfl⟩
/-- the state with another table of generators -/
abbrev withG (s : Shared) (G : Array GenState) : Shared := { s with gens := G }
theorem wp_sleep {α : Type} {M : Model} {T : Nat → Option GenState} {Γ : Ctx} (t : Sem α) : ∀ (Q : α → Pos → Shared → Prop) (E : Value → Pos → Shared → Prop) (p : Pos) (s : Shared) (G : Array GenState), RG T s.gens G → Sem.wp M Γ t Q E p s →
    Sem.wp M Γ t (fun a p' u => ∃ s' G', u = withG s' G' ∧ RG T s'.gens G' ∧ Q a p' s') (fun e p' u => ∃ s' G', u = withG s' G' ∧ RG T s'.gens G' ∧ E e p' s') p (withG s G) := by
  induction t <;> intro Q E p s G r h
  case call k ih =>
    obtain ⟨x, s1, hr, q⟩ := h
    obtain ⟨_, G1, r1, q1⟩ := runs_sleep (T := T) hr G rfl r
    exact ⟨x, _, q1, ih x Q E p s1 G1 r1 q⟩
  case resume k ih =>
    obtain ⟨x, s1, hr, q⟩ := h
    obtain ⟨G1, r1, q1⟩ := wakes_sleep (T := T) hr G r
    exact ⟨x, _, q1, ih x Q E p s1 G1 r1 q⟩
  case genState g k ih =>
    obtain ⟨st, e, q⟩ := h
    obtain ⟨x, e2, e3⟩ := r.at e
    exact ⟨x, e2, by rw [e3]; exact ih _ Q E p s G r q⟩
  case load k ih => obtain ⟨o, e, q⟩ := h; exact ⟨o, e, ih o Q E p s G r q⟩
  case update k ih => have q := fun r' => ih () Q E p _ G r' h.2; exact ⟨h.1, q r⟩
  case choose k ih => have q := fun r' => ih _ Q E p _ G r' h.2; exact ⟨h.1, q r⟩
  case newGen c k ih =>
    have q0 := fun r' => ih _ Q E p _ (G.push (.fresh c)) r' h
    have q := q0 r.push
    simp only [r.1] at q
    exact q
  case pure => exact ⟨s, G, rfl, r, h⟩
  case raise => exact ⟨s, G, rfl, r, h⟩
  all_goals first | exact h.elim | (rename_i ih; have q := fun r' => ih _ Q E _ _ G r' h; exact q r)
theorem wpAny_sleep {α : Type} {M : Model} {T : Nat → Option GenState} {A : Around} {s : Shared} {G : Array GenState} {t : Sem α} {Q : α → Shared → Prop} {E : Value → Shared → Prop} (r : RG T s.gens G) (h : wpAny M A t Q E s) :
    wpAny M A t (fun a u => ∃ s' G', u = withG s' G' ∧ RG T s'.gens G' ∧ Q a s') (fun e u => ∃ s' G', u = withG s' G' ∧ RG T s'.gens G' ∧ E e s') (withG s G) :=
  fun Γ p hΓ => wp_sleep t _ _ p s G r (h Γ p hΓ)
end O

/-! Own45: for over a generator that is made by a call -/
namespace O
open PySem
open L2 (V Hp HO Rd SqL SqT upd upd_same upd_ne ne_of ne_of_none TE TT TA TS TG TGs TI It VK XK Ends St PE PT PW PA PS PSs PG PGs PI Cx FpOk pinsAt mem_pinsAt)
open PyProof.Rows (AllBare)
theorem gensL {X : Cx} {pins : List (Addr × Obj)} {σ : St} {H : Hp} {s : Shared} {G : Array GenState} (I : L2.Inv X pins σ H s) (b : AllBare G) : L2.Inv X pins σ H (withG s G) :=
  ⟨I.ok, I.os, b, I.base, I.loc, I.cell, I.free, I.freeC, I.pin, I.hok, I.len⟩
/-- all that are suspended, poisoned -/
def pois (G : Array GenState) : Array GenState := G.map zz
def napT (G : Array GenState) : Nat → Option GenState := fun i => match G[i]? with
  | some x => if isSusp x = true then some x else none
  | none => none
theorem zz_awake {x : GenState} (h : isSusp x = false) : zz x = x := by cases x <;> first | rfl | cases h
theorem rg_pois (G : Array GenState) : RG (napT G) (pois G) G := by
  refine ⟨by simp [pois], fun i => ?_⟩
  have e0 : (pois G)[i]? = (G[i]?).map zz := by simp [pois]
  cases e : G[i]? with
  | none =>
    refine .inr ⟨by simp [napT, e], by rw [e0, e]; rfl, fun y hy => ?_⟩
    rw [e0, e] at hy; cases hy
  | some x =>
    cases h : isSusp x with
    | true => exact .inl ⟨x, by simp [napT, e, h], h, by rw [e0, e]; rfl, rfl⟩
    | false =>
      refine .inr ⟨by simp [napT, e, h], by rw [e0, e]; show _ = some (zz x); rw [zz_awake h], fun y hy => ?_⟩
      rw [e0, e] at hy
      have hy : some (zz x) = some y := hy
      rw [zz_awake h] at hy
      cases hy
      intro k l c p fs cl q
      subst q
      cases h
theorem bare_iff {G : Array GenState} : AllBare G ↔ ∀ (i : Nat) (x : GenState), G[i]? = some x → x.bare = true := by
  constructor
  · intro h i x e
    exact h x (Array.mem_of_getElem? e)
  · intro h y hy
    obtain ⟨i, hi, e⟩ := Array.mem_iff_getElem.mp hy
    exact h i y (by rw [Array.getElem?_eq_getElem hi, e])
theorem bare_pois {G : Array GenState} (b : AllBare G) : AllBare (pois G) := bare_iff.mpr fun i x e => by
  have e0 : (pois G)[i]? = (G[i]?).map zz := by simp [pois]
  rw [e0] at e
  cases q : G[i]? with
  | none => rw [q] at e; cases e
  | some y =>
    rw [q] at e; cases e
    rw [zz_bare]
    exact bare_iff.mp b i y q
theorem RG.bare {T : Nat → Option GenState} {A B : Array GenState} (r : RG T A B) (b : AllBare A) : AllBare B := bare_iff.mpr fun i x e => by
  rcases r.2 i with ⟨y, _, _, e1, e2⟩ | ⟨_, e2, _⟩
  · rw [e] at e2; cases e2
    have := bare_iff.mp b i _ e1
    rw [zz_bare] at this
    exact this
  · exact bare_iff.mp b i x (by rw [← e2]; exact e)
theorem RG.nap {G A B : Array GenState} {g : Nat} {x : GenState} (r : RG (napT G) A B) (e : G[g]? = some x) (h : isSusp x = true) : B[g]? = some x := by
  rcases r.2 g with ⟨y, e1, _, _, e2⟩ | ⟨e1, _⟩
  · rw [show napT G g = some x by simp [napT, e, h]] at e1
    cases e1; exact e2
  · rw [show napT G g = some x by simp [napT, e, h]] at e1
    cases e1
/-- what an exception leaves says nothing about who sleeps -/
def SleepX (X : Cx) : Prop := ∀ (T : Nat → Option GenState) (e : Value) (s : Shared) (G : Array GenState), RG T s.gens G → X.xe e s → X.xe e (withG s G)
theorem sleeper {X : Cx} {α : Type} {t : Sem α} {Q Q' : α → Shared → Prop} {s : Shared} (hx : SleepX X) (h : wpAny (model X.prog X.w) X.A t Q X.xe (withG s (pois s.gens)))
    (hq : ∀ a s' G', RG (napT s.gens) s'.gens G' → Q a s' → Q' a (withG s' G')) : wpAny (model X.prog X.w) X.A t Q' X.xe s := by
  have q := wpAny_sleep (G := s.gens) (T := napT s.gens) (s := withG s (pois s.gens)) (rg_pois s.gens) h
  refine wpAny_mono (s := s) q (fun a u ⟨s', G', e, r, k⟩ => ?_) fun e u ⟨s', G', ee, r, k⟩ => ?_
  · subst e; exact hq a s' G' r k
  · subst ee; exact hx _ e s' G' r k
/-- a generator that is walked -/
structure TurnS (X : Cx) (tg : Expr) (J : It) (g : Nat) (it : Addr) (tn : Nat → List Addr → Shared → Prop) : Prop where
  obj : ∀ i fp s, tn i fp s → ∀ b ∈ fp, ∃ o, s.heap.get? b = some o ∧ ∀ v, o.data ≠ .cell v
  sus : ∀ i fp s, tn (i + 1) fp s → ∃ x, s.gens[g]? = some x ∧ isSusp x = true
  keep : ∀ i fp s s', tn i fp s → (∀ b ∈ fp, ∀ o, s.heap.get? b = some o → s'.heap.get? b = some o) → s'.gens[g]? = s.gens[g]? → tn i fp s'
  self : ∀ (A : Around) (i : Nat) (fp : List Addr) (s : Shared) (Q : Value → Shared → Prop) (E : Value → Shared → Prop), tn i fp s → Q (.ref it) s → wpAny (model X.prog X.w) A (pyIter (.ref it)) Q E s
  item : ∀ (i : Nat) (pins : List (Addr × Obj)) (s : Shared) (σ : St) (H : Hp) (fp : List Addr), L2.Inv X pins σ H s → (∀ b ∈ fp, FpOk X pins H b) → tn i fp s → J.go i H →
    wpAny (model X.prog X.w) X.A (pyNext (.ref it)) (fun r s1 => ∃ u, r = some u ∧
      wpAny (model X.prog X.w) X.A (letOwnedTupleGo tg (.ref it) u) (fun _ s2 => ∃ x H' fp', L2.Inv X pins σ H' s2 ∧ L2.RelV x u ∧ J.yld i H x H' ∧ tn (i + 1) fp' s2 ∧ ∀ b ∈ fp', FpOk X pins H' b) X.xe s1) X.xe s
  done : ∀ (i : Nat) (pins : List (Addr × Obj)) (s : Shared) (σ : St) (H : Hp) (fp : List Addr), L2.Inv X pins σ H s → (∀ b ∈ fp, FpOk X pins H b) → tn i fp s → J.stop i H →
    wpAny (model X.prog X.w) X.A (pyNext (.ref it)) (fun r s1 => r = none ∧ L2.Inv X pins σ H s1) X.xe s
/-- the same but for the frame -/
structure SameX (X Y : Cx) : Prop where
  prog : Y.prog = X.prog
  w : Y.w = X.w
  K : Y.K = X.K
  mg : Y.mg = X.mg
  A : Y.A = X.A
  calm : Y.calm = X.calm
theorem SameX.refl (X : Cx) : SameX X X := ⟨rfl, rfl, rfl, rfl, rfl, rfl⟩
def PISE (X : Cx) (pins : List (Addr × Obj)) (σ : St) (tg : Expr) (R : It → Hp → Prop) (itv : Value) (s2 : Shared) : Prop :=
  ∃ (g : Nat) (it : Addr) (fp : List Addr) (tn : Nat → List Addr → Shared → Prop) (J : It) (H' : Hp), itv = .ref it ∧ L2.Inv X pins σ H' s2 ∧ (∀ Y, SameX X Y → TurnS Y tg J g it tn) ∧ tn 0 fp s2 ∧ (∀ b ∈ fp, FpOk X pins H' b) ∧ R J H'
structure PIS (X : Cx) (tg iter : Expr) (wi : TI) : Prop where
  run : ∀ (pins : List (Addr × Obj)) (s : Shared) (σ : St) (H : Hp) (R : It → Hp → Prop), L2.Inv X pins σ H s → wi σ H R →
    wpAny (model X.prog X.w) X.A (eval iter X.env) (fun v s1 => wpAny (model X.prog X.w) X.A (pyIter v) (PISE X pins σ tg R) X.xe s1) X.xe s
theorem ps_forS {X : Cx} {tg iter : Expr} {body : List Stmt} {wi : TI} {g : TG} {tb : TS} {pos : Pos} (hx : SleepX X) (hp : PassesOwn (model X.prog X.w) X.A X.env X.xe) (hi : PIS X tg iter wi) (hg : PG X tg g) (hb : PSs X body tb)
    (hs : ∀ x, foldedSetIterable iter X.env x = pure x := by intro _; rfl) : PS X (.For tg iter body [] pos) (L2.tFor wi g tb) := by
  refine ⟨fun pins s σ H D I h => ?_⟩
  refine wpAny_For (L2.thn (hi.run pins s σ H _ I h) fun v s1 h1 => L2.thn h1 fun itv s2 h2 => ?_) hs
  obtain ⟨gn, it, fp, tn, J, H2, e, I2, TT, st2, f2, W, ⟨m0, w0⟩, turn⟩ := h2
  have T := TT X (.refl X)
  subst e
  refine codeAny_forLoop_any (fun n s' => ∃ i σ' H' fp, L2.Inv X pins σ' H' s' ∧ tn i fp s' ∧ (∀ b ∈ fp, FpOk X pins H' b) ∧ W i n σ' H') ?_ m0 ⟨0, σ, H2, fp, I2, st2, f2, w0⟩
  rintro n s3 ⟨i, σ3, H3, fp3, I3, st3, fr3, w3⟩
  rcases turn i n σ3 H3 w3 with ⟨stop, qn⟩ | ⟨go, N, hN, step⟩
  · refine wpAny_passesOwn hp (L2.thn (T.done i pins s3 σ3 H3 fp3 I3 fr3 st3 stop) fun r s4 ⟨hr, I4⟩ => ?_)
    subst hr
    exact wpAny_execs_nil ⟨σ3, H3, I4, qn⟩
  · refine wpAny_passesOwn hp (L2.thn (T.item i pins s3 σ3 H3 fp3 I3 fr3 st3 go) fun r s4 ⟨u, hr, h4⟩ => ?_)
    subst hr
    refine wpAny_passesOwn hp (L2.thn h4 fun _ s5 ⟨x, H5, fp5, I5, r5, y5, st5, fr5⟩ => ?_)
    obtain ⟨sx, es, us⟩ := T.sus _ _ _ st5
    have I5' := I5.pinned fr5 (T.obj _ _ _ st5)
    have I5p := gensL I5' (bare_pois I5'.bare)
    refine wpAny_passesOwn hp ?_
    refine sleeper hx (Q' := fun (_ : Unit) s6 => s6.gens[gn]? = some sx ∧ ∃ σ6 H6, L2.Inv X (pins ++ pinsAt fp5 s5.heap) σ6 H6 s6 ∧ tb { D with nx := N, ct := N, bk := D.nx } σ6 H6) (hg.run _ _ σ3 H5 x u _ I5p r5 (step x H5 y5)) (fun _ s6 G6 r6 ⟨σ6, H6, I6, q6⟩ => ⟨r6.nap es us, σ6, H6, gensL I6 (r6.bare I6.bare), q6⟩) |> fun z => wpAny_mono z (fun _ s6 ⟨es6, σ6, H6, I6, q6⟩ => ?_) fun _ _ x => x
    have I6p := gensL I6 (bare_pois I6.bare)
    refine wpAny_passesOwn hp ?_
    refine wpAny_mono (sleeper hx (Q' := fun f s7 => s7.gens[gn]? = some sx ∧ L2.SP X (pins ++ pinsAt fp5 s5.heap) { D with nx := N, ct := N, bk := D.nx } f s7) (hb.run _ _ σ6 H6 _ I6p q6) fun f s7 G7 r7 q7 => ⟨r7.nap es6 us, ?_⟩) (fun f s7 ⟨es7, q7⟩ => ?_) fun _ _ x => x
    · cases f with
      | next => obtain ⟨σ7, H7, I7, n7⟩ := q7; exact ⟨σ7, H7, gensL I7 (r7.bare I7.bare), n7⟩
      | cont => obtain ⟨σ7, H7, I7, n7⟩ := q7; exact ⟨σ7, H7, gensL I7 (r7.bare I7.bare), n7⟩
      | brk => obtain ⟨σ7, H7, I7, n7⟩ := q7; exact ⟨σ7, H7, gensL I7 (r7.bare I7.bare), n7⟩
      | ret v => obtain ⟨x7, σ7, H7, I7, rv7, n7⟩ := q7; exact ⟨x7, σ7, H7, gensL I7 (r7.bare I7.bare), rv7, n7⟩
    have again : ∀ {σ7 : St} {H7 : Hp}, L2.Inv X (pins ++ pinsAt fp5 s5.heap) σ7 H7 s7 → N σ7 H7 → ∃ m, m < n ∧ ∃ i σ' H' fp, L2.Inv X pins σ' H' s7 ∧ tn i fp s7 ∧ (∀ b ∈ fp, FpOk X pins H' b) ∧ W i m σ' H' := fun {σ7 H7} I7 n7 => by
      obtain ⟨m', hm, w7⟩ := hN σ7 H7 n7
      refine ⟨m', hm, i + 1, σ7, H7, fp5, I7.unpinned, T.keep _ _ _ _ st5 (fun b hb o e => (I7.pin (b, o) (List.mem_append_right _ (List.mem_append_right _ (mem_pinsAt hb e)))).1) (es7.trans es.symm), fun b hb => ⟨?_, (fr5 b hb).2⟩, w7⟩
      obtain ⟨o, e, d⟩ := T.obj _ _ _ st5 b hb
      exact (I7.pin (b, o) (List.mem_append_right _ (List.mem_append_right _ (mem_pinsAt hb e)))).2.1
    cases f with
    | next => obtain ⟨σ7, H7, I7, n7⟩ := q7; exact again I7 n7
    | cont => obtain ⟨σ7, H7, I7, n7⟩ := q7; exact again I7 n7
    | brk => obtain ⟨σ7, H7, I7, q7⟩ := q7; exact ⟨σ7, H7, I7.unpinned, q7⟩
    | ret v => obtain ⟨x7, σ7, H7, I7, r7, q7⟩ := q7; exact ⟨x7, σ7, H7, I7.unpinned, r7, q7⟩
section
variable {P : Program} {w : World} {K : PySem.W.Frag} {mg : Str → Option Value} {base : Heap} {N : List Str} {qual : Str} {st : Stmt} {f : Addr} {cdv : Value} {A : Around} {outer : List PySem.Env} {s0 : Shared} {H : Hp} {E : XK}
theorem cx_sleep {T : Nat → Option GenState} {e : Value} {s' : Shared} {G : Array GenState} (r : RG T s'.gens G) (c : L2.CX P w outer H s0 E e s') : L2.CX P w outer H s0 E e (withG s' G) := by
  obtain ⟨a, B, H', cls, d, h1, h2, h3, h4, h5, h6, h7, h8⟩ := c
  exact ⟨a, B, H', cls, d, h1, h2, h3, h4, h5, h6, r.bare h7, h8⟩
theorem sleepX_bx : SleepX (bx P w K mg base N qual st f cdv A outer s0 H E) := fun T e s G r h => by
  refine wpAny_mono (wpAny_sleep r h) (fun _ u ⟨s', G', e1, r', c⟩ => ?_) fun _ u ⟨s', G', e1, r', c⟩ => by subst e1; exact cx_sleep r' c
  subst e1
  exact cx_sleep r' c
end
structure JIS (X : Cx) (W : St → XK) (tg iter : Expr) (wi : TI) (fi : Env → Res (List D)) : Prop where
  pi : PIS X tg iter wi
  si : Si X.K W wi fi
section
variable {X : Cx} {W : St → XK} {tg iter : Expr} {pos : Pos} {sb : List Stmt} {t1 : TS} {g1 : Env → SR}
theorem jforS {wi : TI} {fw : Env → Res (List D)} {g : TG} {tgt : Tg} (hx : SleepX X) (hp : PassesOwn (model X.prog X.w) X.A X.env X.xe) (hi : JIS X W tg iter wi fw) (hg : JG X tg g tgt) (hb : JB X W sb t1 g1) (hs : ∀ x, foldedSetIterable iter X.env x = pure x := by intro _; rfl) :
    JS X W (.For tg iter sb [] pos) (L2.tFor wi g t1) (gFor fw tgt g1) := ⟨ps_forS hx hp hi.pi hg.pg hb.pss hs, ss_for hi.si hg.gt hb.ss⟩
end
end O

/-! Own46: one run of a generator, from waking it to its next sleep or its end -/
namespace O
open PySem
open GenW
/-- one run; Φ: how it ends -/
def SegG (M : Model) (A : Around) (Φ : End → Shared → Prop) (c : Code) (t : Sem PySem.Fin) (fs : List Frame) (s : Shared) : Prop :=
  ∀ Γ p, Γ.code = c → Γ.Woken A → ∃ e s', Runs M Γ p t fs s e s' ∧ Φ e s'
section
variable {M : Model} {A : Around} {Φ : End → Shared → Prop} {c : Code} {fs : List Frame} {s : Shared}
theorem segG_wrap {α : Type} {m : Sem α} {K : α → Sem PySem.Fin} {H : Value → Sem PySem.Fin} {gd lv}
    (h : wpAny M (A.over c fs) m (fun a s' => SegG M A Φ c (K a) fs s') (fun x s' => SegG M A Φ c (H x) fs s') s) : SegG M A Φ c (m.wrap K H gd lv) fs s := by
  rintro Γ p rfl hΓ
  exact runs_wrap_of_wp K H gd lv m (h (Γ.over fs) p (hΓ.over fs)) (fun a p' s' h' => h' Γ p' rfl hΓ) (fun x p' s' h' => h' Γ p' rfl hΓ)
/-- no exception is raised -/
theorem segG_wrap0 {α : Type} {m : Sem α} {K : α → Sem PySem.Fin} {H : Value → Sem PySem.Fin} {gd lv}
    (h : wpAny M (A.over c fs) m (fun a s' => SegG M A Φ c (K a) fs s') (fun _ _ => False) s) : SegG M A Φ c (m.wrap K H gd lv) fs s :=
  segG_wrap (wpAny_mono h (fun _ _ x => x) fun _ _ x => x.elim)
theorem segG_bind {α : Type} {m : Sem α} {K : α → Sem PySem.Fin} (h : wpAny M (A.over c fs) m (fun a s' => SegG M A Φ c (K a) fs s') (fun _ _ => False) s) : SegG M A Φ c (m >>= K) fs s := by
  rw [Sem.bind_eq_wrap']; exact segG_wrap0 h
theorem segG_bind_wrap {α β : Type} {m : Sem α} {K : α → Sem β} {K' : β → Sem PySem.Fin} {H' : Value → Sem PySem.Fin} {gd lv}
    (h : wpAny M (A.over c fs) m (fun a s' => SegG M A Φ c ((K a).wrap K' H' gd lv) fs s') (fun _ _ => False) s) : SegG M A Φ c ((m >>= K).wrap K' H' gd lv) fs s := by
  rw [Sem.bind_eq_wrap', Sem.wrap_wrap]; exact segG_wrap0 h
theorem segG_at {p' : Pos} {k : Unit → Sem PySem.Fin} (h : SegG M A Φ c (k ()) fs s) : SegG M A Φ c (.at p' k) fs s :=
  segG_wrap (m := standAt p') (K := k) (H := .raise) (gd := id) (lv := id) (wpAny_standAt h)
theorem segG_point {l : List Value} {k : Unit → Sem PySem.Fin} (h : SegG M A Φ c (k ()) fs s) : SegG M A Φ c (.point l k) fs s :=
  segG_wrap (m := point) (K := k) (H := .raise) (gd := id) (lv := fun _ => l) (wpAny_point h)
theorem segG_call {c' : Code} {h g l} {k : Result → Sem PySem.Fin} (hc : ∀ p, SegG M A Φ c' (M.den c') (.ret k h g l c p [] :: fs) s) : SegG M A Φ c (.call c' h g l k) fs s := by
  rintro Γ p rfl hΓ
  obtain ⟨e, s', hr, he⟩ := (hc p) (Γ.goto c') p rfl (hΓ.goto c')
  exact ⟨e, s', runs_call_seg hr, he⟩
theorem segG_leaf {k h g l c₁ p₁ kp} (r : Result) (hk : SegG M A Φ c₁ (k r) fs s) : SegG M A Φ c (leafOf r) (.ret k h g l c₁ p₁ kp :: fs) s := by
  rintro Γ p rfl hΓ
  obtain ⟨e, s', hr, he⟩ := hk (Γ.goto c₁) p₁ rfl (hΓ.goto c₁)
  exact ⟨e, s', Runs.pop r hr, he⟩
theorem segG_again {c' : Code} (hq : c'.quiet = true) (hc : SegG M A Φ c' (M.den c') fs s) : SegG M A Φ c (.pure (.again c')) fs s := by
  rintro Γ p rfl hΓ
  obtain ⟨e, s', hr, he⟩ := hc (Γ.goto c') p rfl (hΓ.goto c')
  exact ⟨e, s', Runs.head (c₁ := c') (fun _ _ x => .again hq x) hr, he⟩
theorem segG_end (r : Result) (h : Φ (.ret r) s) : SegG M A Φ c (leafOf r) [] s := by
  rintro Γ p rfl _
  exact ⟨.ret r, s, Runs.leaf r, h⟩
theorem segG_yield {v g l} {k : Resume → Sem PySem.Fin} (hfs : splitAtGen fs = none) (h : ∀ p, Φ (.susp v g l k c p fs) s) : SegG M A Φ c (.yield v g l k) fs s := by
  rintro Γ p rfl _
  exact ⟨_, s, Runs.yield' fs hfs, h p⟩
variable {env : PySem.Env} {K : Flow → Sem PySem.Fin} {H : Value → Sem PySem.Fin} {gd : Bool → Bool} {lv : List Value → List Value}
theorem segG_nil (h : SegG M A Φ c (K .next) fs s) : SegG M A Φ c ((execs [] env).wrap K H gd lv) fs s := h
theorem segG_cons {st : Stmt} {rest : List Stmt} (h : SegG M A Φ c ((exec st env).wrap (fun f => match f with | .next => (execs rest env).wrap K H gd lv | f => K f) H gd lv) fs s) :
    SegG M A Φ c ((execs (st :: rest) env).wrap K H gd lv) fs s := by rw [execs_cons_wrap]; exact h
/-- yield e -/
theorem segG_Yield {e : Expr} {ypos pos : Pos} (hfs : splitAtGen fs = none) (hgd : gd false = false) (hfg : fs.any Frame.guarded = false)
    (h : wpAny M (A.over c fs) (eval e env) (fun v s' => ∀ g' l' k' p', (End.susp v g' l' k' c p' fs).quiet = true → (∀ s'' Φ', SegG M A Φ' c (K .next) fs s'' → SegG M A Φ' c (k' (.send .none)) fs s'') → Φ (.susp v g' l' k' c p' fs) s') (fun _ _ => False) s)
    (hco : env.scope.isCoroutine = false := by rfl) (hi : interactive env = false := by rfl) :
    SegG M A Φ c ((exec (.Expr (.Yield (some e) ypos) pos) env).wrap K H gd lv) fs s := by
  rw [exec_Expr env _ pos hi rfl]
  show SegG M A Φ c (.at pos fun _ => ((eval e env >>= fun v => (standAt ypos >>= fun _ => yieldOut env v)) >>= fun x =>
    dropValue (.Yield (some e) ypos) pos x).wrap K H gd lv) fs s
  have hy : ∀ v, yieldOut env v = yieldValue v := fun v => by simp only [yieldOut, hco, Bool.false_eq_true, if_false]
  simp only [hy]
  refine segG_at ?_
  rw [Sem.bind_eq_wrap', Sem.bind_eq_wrap', Sem.wrap_wrap, Sem.wrap_wrap]
  refine segG_wrap (wpAny_mono h (fun v s' h' => ?_) fun _ _ x => x.elim)
  refine segG_at (segG_yield hfs fun p => h' _ _ _ _ ?_ fun s'' Φ' hh => hh)
  show (!((gd false) || fs.any Frame.guarded)) = true
  rw [hgd, hfg]; rfl
/-- what a loop's call does with what comes back -/
abbrev backK (env : PySem.Env) (K : Flow → Sem PySem.Fin) (H : Value → Sem PySem.Fin) (gd : Bool → Bool) (lv : List Value → List Value) : Result → Sem PySem.Fin := fun r => ((match r with | .ok f => (.pure f : Sem Flow) | .error e => .raise e).onRaise fun (x : Value) => do
        if (← field x 1) == Value.none then unsupported "frame.own-activation:exception-without-traceback"
        setFlight x env.frame).wrap K H gd lv
theorem segG_For {target iter : Expr} {body orelse : List Stmt} {pos : Pos}
    (h : wpAny M (A.over c fs) (eval iter env) (fun x s1 => wpAny M (A.over c fs) (pyIter x) (fun it s2 => ∀ p,
      SegG M A Φ (.forLoop target it body orelse env) (M.den (.forLoop target it body orelse env)) (.ret (backK env K H gd lv) none (gd false) (lv []) c p [] :: fs) s2) (fun _ _ => False) s1) (fun _ _ => False) s)
    (hs : ∀ x, foldedSetIterable iter env x = pure x := by intro _; rfl) :
    SegG M A Φ c ((exec (.For target iter body orelse pos) env).wrap K H gd lv) fs s := by
  rw [exec_For]
  refine segG_bind_wrap (wpAny_standAt ?_)
  refine segG_bind_wrap (wpAny_mono h (fun x s1 h1 => ?_) fun _ _ x => x)
  refine segG_bind_wrap (wpAny_of_eq (hs x) ?_)
  refine segG_bind_wrap (wpAny_standAt ?_)
  refine segG_bind_wrap (wpAny_holding (wpAny_mono h1 (fun it s2 h2 => ?_) fun _ _ x => x))
  exact segG_call h2
end
section
variable {prog : Program} {w : World} {A : Around} {Φ : End → Shared → Prop} {fs : List Frame} {s : Shared} {env : PySem.Env}
theorem segG_forLoop {target : Expr} {it : Value} {body orelse : List Stmt}
    (h : wpAny (model prog w) (A.over (.forLoop target it body orelse env) fs) (pyNext it) (fun r s1 => match r with
      | none => SegG (model prog w) A Φ (.forLoop target it body orelse env) (.pure (.again (.block orelse env))) fs s1
      | some v => wpAny (model prog w) (A.over (.forLoop target it body orelse env) fs) (letOwnedTupleGo target it v) (fun _ s1' => wpAny (model prog w) (A.over (.forLoop target it body orelse env) fs) (assign target env v) (fun _ s2 =>
          SegG (model prog w) A Φ (.forLoop target it body orelse env) ((execs body env).wrap (fun f => match f with
            | .next | .cont => .pure (.again (.forLoop target it body orelse env))
            | .brk => .pure (.done .next)
            | .ret v => .pure (.done (.ret v))) (fun e => (do noteFrame e env; theTreesLotGoes e : Sem Unit).wrap (fun _ => .raise e) .raise id id) id id) fs s2) (fun _ _ => False) s1') (fun _ _ => False) s1) (fun _ _ => False) s) :
    SegG (model prog w) A Φ (.forLoop target it body orelse env) ((model prog w).den (.forLoop target it body orelse env)) fs s := by
  show SegG _ A Φ _ ((forTurn target it body orelse env).onRaise (fun x => do noteFrame x env; theTreesLotGoes x)) fs s
  unfold forTurn
  rw [Sem.onRaise_eq_wrap]
  refine segG_bind_wrap (wpAny_standAt ?_)
  refine segG_bind_wrap (wpAny_onRaise (wpAny_mono h (fun r s1 h1 => ?_) fun _ _ x => x.elim))
  cases r with
  | none => exact h1
  | some v =>
    refine segG_bind_wrap (wpAny_mono h1 (fun _ s1' h2 => ?_) fun _ _ x => x)
    refine segG_bind_wrap (wpAny_mono h2 (fun _ s2 h3 => ?_) fun _ _ x => x)
    show SegG _ A Φ _ (Sem.wrap _ _ _ _ ((execs body env) >>= _)) fs s2
    rw [Sem.bind_eq_wrap', Sem.wrap_wrap]
    rw [Sem.wrap_congr (execs body env) _ _ (K' := fun f => match f with
            | .next | .cont => .pure (.again (.forLoop target it body orelse env))
            | .brk => .pure (.done .next)
            | .ret v => .pure (.done (.ret v))) (H' := (fun e => (do noteFrame e env; theTreesLotGoes e : Sem Unit).wrap (fun _ => .raise e) .raise id id))
        (fun f => by cases f <;> rfl)
        (fun e => by first | exact Sem.bind_eq_wrap _ _ | (show (do noteFrame e env; theTreesLotGoes e : Sem Unit).bind (fun _ => .raise e) = _; rw [Sem.bind_eq_wrap]))]
    exact h3
theorem segG_func {body : List Stmt}
    (h : SegG (model prog w) A Φ (.func body env) ((execs body env).wrap (fun f => .pure (.done (.ret (match f with | .ret v => v | _ => .none))))
      (fun e => (leaving env e).wrap (fun _ => .raise e) .raise id id) id id) fs s) :
    SegG (model prog w) A Φ (.func body env) ((model prog w).den (.func body env)) fs s := by
  show SegG (model prog w) A Φ _ (.point [] fun _ => ((execs body env).onRaise (leaving env)) >>= _) fs s
  refine segG_point ?_
  rw [Sem.onRaise_eq_wrap, Sem.bind_eq_wrap', Sem.wrap_wrap]
  rw [Sem.wrap_congr (execs body env) _ _ (K' := fun f => .pure (.done (.ret (match f with | .ret v => v | _ => .none))))
    (H' := fun e => (leaving env e).wrap (fun _ => .raise e) .raise id id) (fun f => by cases f <;> rfl)
    (fun e => by rw [Sem.bind_eq_wrap, Sem.wrap_wrap]; rfl)]
  exact h
end
/-- a generator, woken -/
def GoesG (M : Model) (A : Around) (Φ : End → Shared → Prop) (gs : GenState) (r : Resume) (s : Shared) : Prop :=
  match gs with
  | .fresh c => r = .send .none ∧ SegG M A Φ c (M.den c) [] s
  | .suspended k _ c _ fs _ => SegG M A Φ c (k r) fs s
  | _ => False
theorem wpAny_resumeS {M : Model} {A : Around} {Φ : End → Shared → Prop} {E : Value → Shared → Prop} {s : Shared} {g : Nat} {gs : GenState}
    {r : Resume} {l : List Value} {α : Type} {k : GenResult → Sem α} {Q : α → Shared → Prop} (hg : s.gens[g]? = some gs) (hq : ∀ e s', Φ e s' → e.quiet = true)
    (hgo : GoesG M A Φ gs r (s.setGen g .running)) (hk : ∀ e s₁, Φ e s₁ → wpAny M A (k e.result) Q E (s₁.setGen g e.genState)) : wpAny M A (.resume g r l k) Q E s := by
  intro Γ p hΓ
  rw [Sem.wp_resume]
  have hB : ∀ c, (Γ.wake c p).Woken A := fun c => hΓ.wake c p
  cases gs with
  | fresh c =>
    obtain ⟨rfl, hs⟩ := hgo
    obtain ⟨e₁, s₁, hr, he⟩ := hs (Γ.wake c p) p rfl (hB c)
    exact ⟨_, _, by unfold Wakes; rw [hg]; exact ⟨e₁, s₁, hr, hq e₁ s₁ he, rfl, rfl⟩, hk e₁ s₁ he Γ p hΓ⟩
  | suspended k₀ l₀ c₀ p₀ fs₀ cl =>
    obtain ⟨e₁, s₁, hr, he⟩ := hgo (Γ.wake c₀ p) p₀ rfl (hB c₀)
    exact ⟨_, _, by unfold Wakes; rw [hg]; exact ⟨e₁, s₁, hr, hq e₁ s₁ he, rfl, rfl⟩, hk e₁ s₁ he Γ p hΓ⟩
  | running => exact hgo.elim
  | finished => exact hgo.elim
/-- next(g): it yields, or it ends; it raises nothing -/
theorem next_genS {P : Program} {w : World} {A : Around} {E : Value → Shared → Prop} {s : Shared} {a : Addr} {g : Nat} {gs : GenState} {Φ : End → Shared → Prop} {Q : Option Value → Shared → Prop} (hh : A.handled = none)
    (hl : s.heap.NoLimit) (hroom : A.depth < recursionLimit) (hg : s.heap.IsGen a g) (hgs : s.gens[g]? = some gs) (hq : ∀ e s', Φ e s' → e.quiet = true)
    (hgo : GoesG (model P w) A.in1 Φ gs (.send .none) (s.setGen g .running))
    (hY : ∀ v g' l' k' c' p' fs' s₁, Φ (.susp v g' l' k' c' p' fs') s₁ → Q (some v) (s₁.setGen g (End.susp v g' l' k' c' p' fs').genState))
    (hR : ∀ r s₁, Φ (.ret r) s₁ → (r = .ok (.ret .none) ∨ r = .ok .next) ∧ ∀ h', (∀ b o, s₁.heap.get? b = some o → h'.get? b = some o) → Q none { s₁.setGen g .finished with heap := h' }) :
    wpAny (model P w) A (pyNext (.ref a)) Q E s := by
  unfold pyNext
  refine wpAny_bind (wpAny_attempt (wpAny_callSpecial?_slot (name := Str.ofString "__next__") hg.typeIs slot_gen_next
    (wpAny_call_entry slot_gen_next hg.typeIs entry_gen_next ?_ (args_gen_next _))))
  show wpAny _ A.in1 (Builtin.Generator.genWake (.ref a) (.send .none)) _ _ s
  unfold Builtin.Generator.genWake
  refine wpAny_bind (wpAny_holding (wpAny_genNumber hg (wpAny_bind (wpAny_genState hgs ?_))))
  have key : wpAny (model P w) A.in1 (.resume g (.send .none) [] fun x => (pure x : Sem GenResult)) (fun x s₁ => (∃ v, x = .yielded v ∧ Q (some v) s₁) ∨ (x = .returned .none ∧ ∀ h', (∀ b o, s₁.heap.get? b = some o → h'.get? b = some o) → Q none { s₁ with heap := h' })) E s := by
    refine wpAny_resumeS hgs hq hgo fun e s₁ he => ?_
    cases e with
    | ret r =>
      obtain ⟨hr, hp⟩ := hR r s₁ he
      have hres : End.result (.ret r) = .returned .none := by rcases hr with hr | hr <;> rw [hr] <;> rfl
      rw [hres]
      exact wpAny_pure (.inr ⟨rfl, hp⟩)
    | susp v g' l' k' c' p' fs' => exact wpAny_pure (.inl ⟨v, rfl, hY _ _ _ _ _ _ _ _ he⟩)
  cases gs with
  | running => exact hgo.elim
  | finished => exact hgo.elim
  | _ =>
    refine wpAny_bind (wpAny_roomToWake hl hroom ?_)
    show wpAny _ A.in1 (.resume g (.send .none) [] _) _ _ s
    refine wpAny_resumeS hgs hq hgo fun e s₁ he => ?_
    cases e with
    | ret r =>
      obtain ⟨hr, hp⟩ := hR r s₁ he
      have hres : End.result (.ret r) = .returned .none := by rcases hr with hr | hr <;> rw [hr] <;> rfl
      first | rw [hres] | simp only [hres]
      show wpAny _ A.in1 (newExc (.type "StopIteration") [] >>= _) _ _ _
      refine wpAny_bind ?_
      simp only [newExc, newTuple]
      refine wpAny_bind (wpAny_newObj_type ?_ (by size_fits))
      refine wpAny_bind (m := firstArgMember _ _) (wpAny_of_eq (a := Value.none) (by first | rfl | (simp only [firstArgMember]; rfl)) ?_)
      refine wpAny_newObj_type ?_ (by size_fits)
      simp only [raiseNew]
      refine wpAny_bind (wpAny_bind (wpAny_handled ?_))
      first | rw [show A.in1.handled = none from hh] | rw [hh]
      refine wpAny_throw ?_
      refine wpAny_bind (wpAny_isInstance (T := "StopIteration") (b := true) ⟨_, Heap.get?_push_size _ rfl, rfl⟩ isSubtype_stop ?_)
      exact wpAny_pure (hp _ fun b o hb => Heap.get?_push_of_some _ (Heap.get?_push_of_some _ hb))
    | susp v g' l' k' c' p' fs' => exact wpAny_pure ⟨v, rfl, wpAny_pure (hY _ _ _ _ _ _ _ _ he)⟩
end O

/-! Own47: the generator neighbours: its body -/
namespace O
open PySem
open GenW
open L2 (V Hp HO Rd SqL SqT upd upd_same upd_ne ne_of ne_of_none TE TT TA TS TG TGs TI It VK XK Ends St Cx FpOk)
open PyProof.Rows (AllBare)
abbrev nbStmts (p : Nat → Pos) : List Stmt :=
  [.Assign [.Name "before" (p 0)] (.Constant (.int 0) 0 (p 1)) (p 2),
   .For (.Name "row_id" (p 3)) (.Call (.Name "list" (p 4)) [.Name "order" (p 5)] [] (p 6))
     [.Expr (.Yield (some (.Tuple [.Name "before" (p 7), .Name "row_id" (p 8)] 0 (p 9))) (p 10)) (p 11),
      .Assign [.Name "before" (p 12)] (.Name "row_id" (p 13)) (p 14)] [] (p 15)]
/-- what stands while it sleeps; j: the last one that it gave; bf: the one before -/
structure NbSlp (L it l : Addr) (us : Array Value) (bf u : Value) (j : Nat) (h : Heap) : Prop where
  ns : ∃ m, h.Ns L m ∧ m "before" = some bf ∧ m "row_id" = some u
  li : h.IsListIter it l (j + 1)
  ls : h.IsList l us
structure NbKept (L it : Addr) (s₀ s : Shared) : Prop where
  os : s.os = s₀.os
  gens : s.gens = s₀.gens
  keep : ∀ b o, b ≠ L → b ≠ it → s₀.heap.get? b = some o → s.heap.get? b = some o
theorem NbKept.trans {L it : Addr} {s₀ s₁ s₂ : Shared} (a : NbKept L it s₀ s₁) (b : NbKept L it s₁ s₂) : NbKept L it s₀ s₂ :=
  ⟨b.os.trans a.os, b.gens.trans a.gens, fun c o h1 h2 e => b.keep c o h1 h2 (a.keep c o h1 h2 e)⟩
def tupObj (vs : Array Value) : Obj := { cls := .type "tuple", data := .seq vs }
/-- how a run ends; r: how many are to come -/
def NbEnd (M : Model) (A : Around) (L it l : Addr) (us : Array Value) : Nat → Nat → Value → Shared → End → Shared → Prop
  | 0, _, _, s₀, e, s => e = .ret (.ok (.ret .none)) ∧ NbKept L it s₀ s
  | r + 1, j, bf, s₀, e, s => ∃ T u g lv k c p fs, e = .susp (.ref T) g lv k c p fs ∧ e.quiet = true ∧ us[j]? = some u ∧ s₀.heap.objs.size ≤ T ∧ s.heap.get? T = some (tupObj #[bf, u]) ∧ NbKept L it s₀ s ∧ NbSlp L it l us bf u j s.heap ∧
      ∀ s', NbSlp L it l us bf u j s'.heap → SegG M A (NbEnd M A L it l us r (j + 1) u s') c (k (.send .none)) fs s'
theorem nbEnd_quiet {M : Model} {A : Around} {L it l : Addr} {us : Array Value} : ∀ {r j : Nat} {bf : Value} {s₀ s : Shared} {e : End}, NbEnd M A L it l us r j bf s₀ e s → e.quiet = true
  | 0, _, _, _, _, _, h => by rw [h.1]; rfl
  | r + 1, _, _, _, _, _, h => by obtain ⟨T, u, g, lv, k, c, p, fs, h1, h2, _⟩ := h; exact h2
/-- the scope -/
structure NbScope (sc : Scope) : Prop where
  kind : sc.kind = .function
  co : sc.isCoroutine = false
  gen : sc.isGenerator = true
  o : sc.names.lookup ("order" : Str) = some NameKind.local
  b : sc.names.lookup ("before" : Str) = some NameKind.local
  r : sc.names.lookup ("row_id" : Str) = some NameKind.local
  l : sc.names.lookup ("list" : Str) = some NameKind.globalImplicit
  nocell : ∀ y ∈ sc.names, y.2 ≠ NameKind.cell
section
variable {P : Program} {w : World} {A : Around} {L it l : Addr} {us : Array Value} {env : PySem.Env} {fs : List Frame} {p : Nat → Pos}
variable {c : Code} {K : Flow → Sem PySem.Fin} {H : Value → Sem PySem.Fin} {gd : Bool → Bool} {lv : List Value → List Value} {cp : Pos}
abbrev nbCode (p : Nat → Pos) (env : PySem.Env) (it : Addr) : Code := .forLoop (.Name "row_id" (p 3)) (.ref it) [.Expr (.Yield (some (.Tuple [.Name "before" (p 7), .Name "row_id" (p 8)] 0 (p 9))) (p 10)) (p 11), .Assign [.Name "before" (p 12)] (.Name "row_id" (p 13)) (p 14)] [] env
theorem ns_at {h h' : Heap} {a b : Addr} {m : Str → Option Value} (n : h.Ns a m) (e : a ≠ b) (s : Heap.SameBut b h h') : h'.Ns a m := n.sameBut s e
theorem li_at {h h' : Heap} {a b l : Addr} {i : Nat} (n : h.IsListIter a l i) (e : a ≠ b) (s : Heap.SameBut b h h') : h'.IsListIter a l i := n.at fun o q => (s.2 a e).trans q
theorem ls_at {h h' : Heap} {a b : Addr} {us : Array Value} (n : h.IsList a us) (e : a ≠ b) (s : Heap.SameBut b h h') : h'.IsList a us := n.at fun o q => (s.2 a e).trans q
/-- the turns -/
theorem nb_turns (S : NbScope env.scope) (hL : env.locals = L) (hh : (A.over (nbCode p env it) (.ret (backK env K H gd lv) none (gd false) (lv []) c cp [] :: fs)).handled = none) (hsp : splitAtGen fs = none) (hgd : gd false = false) (hgf : fs.any Frame.guarded = false)
    (h1 : L ≠ it) (h2 : L ≠ l) (h3 : it ≠ l)
    (hend : ∀ Φ s, Φ (.ret (.ok (.ret .none))) s → SegG (model P w) A Φ c (K .next) fs s) :
    ∀ (r j : Nat) (bf : Value) (s₀ s : Shared), j + r = us.size → NbKept L it s₀ s → (∃ m, s.heap.Ns L m ∧ m "before" = some bf) → s.heap.IsListIter it l j → s.heap.IsList l us → s₀.heap.objs.size ≤ s.heap.objs.size →
      SegG (model P w) A (NbEnd (model P w) A L it l us r j bf s₀) (nbCode p env it) ((model P w).den (nbCode p env it)) (.ret (backK env K H gd lv) none (gd false) (lv []) c cp [] :: fs) s := by
  subst hL
  intro r
  induction r with
  | zero =>
    intro j bf s₀ s hj kp ⟨m, hn, hb⟩ hi hl hz
    refine segG_forLoop ?_
    refine wpAny_pyNext_list_end hh hi hl (by simp; omega) fun h' hk => ?_
    refine segG_again rfl ?_
    show SegG _ A _ _ (do return Fin.done (← (execs [] env).onRaise (fun x => do noteFrame x env; theTreesLotGoes x))) _ _
    refine segG_bind (wpAny_onRaise (wpAny_execs_nil ?_))
    refine segG_leaf (.ok .next) ?_
    refine hend _ _ ?_
    exact ⟨rfl, kp.trans ⟨rfl, rfl, fun b o e1 e2 e => hk b o e2 e⟩⟩
  | succ r ih =>
    intro j bf s₀ s hj kp ⟨m, hn, hb⟩ hi hl hz
    have hjl : j < us.size := by omega
    obtain ⟨u, hu⟩ : ∃ u, us[j]? = some u := ⟨us[j], Array.getElem?_eq_getElem hjl⟩
    refine segG_forLoop ?_
    refine wpAny_pyNext_list_item hi hl hu fun h' hi' hk => ?_
    refine wpAny_pure ?_
    have hn1 := ns_at hn h1 hk
    refine wpAny_assign_Name (wpAny_storeName_local S.r hn1 (fun h2' hn2 hk2 => ?_) (by rw [S.kind]; rfl))
    have hi2 := li_at hi' (Ne.symm h1) hk2
    have hl2 := ls_at (ls_at hl (Ne.symm h3) hk) (Ne.symm h2) hk2
    refine segG_cons ?_
    have hsp' : splitAtGen (.ret (backK env K H gd lv) none (gd false) (lv []) c cp [] :: fs) = none := by
      show (splitAtGen fs).map _ = none
      rw [hsp]; rfl
    have hgf' : (Frame.ret (backK env K H gd lv) none (gd false) (lv []) c cp [] :: fs).any Frame.guarded = false := by
      show (gd false || fs.any Frame.guarded) = false
      rw [hgd, hgf]; rfl
    refine segG_Yield hsp' rfl hgf' ?_ S.co (by show (env.scope.kind == .module && _) = false; rw [S.kind]; rfl)
    refine wpAny_Tuple (Calls.spliced_cons (wpAny_Name (wpAny_loadName_local S.kind S.b hn2 (v := bf) ?_ (Calls.spliced_cons (wpAny_Name (wpAny_loadName_local S.kind S.r hn2 (v := u) ?_ (Calls.spliced_nil ⟨by show 2 ≤ sizeLine; decide, fun g' l' k' p' hq hk' => ?_⟩)))))))
    · show (if ("before" : Str) = "row_id" then some u else m "before") = some bf
      rw [if_neg (by decide)]; exact hb
    · show (if ("row_id" : Str) = "row_id" then some u else m "row_id") = some u
      rw [if_pos rfl]
    have sl : ∀ (o : Obj), NbSlp env.locals it l us bf u j (h2'.push o) := fun o => ⟨⟨_, hn2.push o, by show (if ("before" : Str) = "row_id" then some u else m "before") = some bf; rw [if_neg (by decide)]; exact hb, by show (if ("row_id" : Str) = "row_id" then some u else m "row_id") = some u; rw [if_pos rfl]⟩, hi2.at fun ob q => Heap.get?_push_of_some _ q, hl2.at fun ob q => Heap.get?_push_of_some _ q⟩
    have sz1 : s.heap.objs.size ≤ h2'.objs.size := by rw [hk2.1, hk.1]; exact Nat.le_refl _
    refine ⟨h2'.objs.size, u, g', l', k', _, p', _, rfl, hq, hu, Nat.le_trans hz sz1, Heap.get?_push_size _ rfl, ⟨kp.os, kp.gens, fun b o e1 e2 e => Heap.get?_push_of_some _ ((hk2.2 b e1).trans ((hk.2 b e2).trans (kp.keep b o e1 e2 e)))⟩, sl _, fun s' zz' => hk' s' _ ?_⟩
    obtain ⟨⟨m', n', b', r'⟩, i', l''⟩ := zz'
    show SegG _ A _ _ ((execs [.Assign [.Name "before" (p 12)] (.Name "row_id" (p 13)) (p 14)] env).wrap _ _ id id) _ s'
    refine segG_cons ?_
    refine segG_wrap0 (wpAny_Assign_Name (wpAny_Name (wpAny_loadName_local S.kind S.r n' r' (wpAny_storeName_local S.b n' (fun h3' hn3 hk3 => ?_) (by rw [S.kind]; rfl)))))
    show SegG _ A _ _ ((execs [] env).wrap _ _ id id) _ _
    refine segG_nil ?_
    refine segG_again rfl ?_
    refine ih (j + 1) u s' _ (by omega) ⟨rfl, rfl, fun b o e1 e2 e => (hk3.2 b e1).trans e⟩ ⟨_, hn3, by show (if ("before" : Str) = "before" then some u else m' "before") = some u; rw [if_pos rfl]⟩ (li_at i' (Ne.symm h1) hk3) (ls_at l'' (Ne.symm h2) hk3) (by show _ ≤ h3'.objs.size; rw [hk3.1]; exact Nat.le_refl _)
end
end O

/-! Own48: neighbours, called and walked -/
namespace O
open PySem
open GenW
open L2 (V Hp HO Rd SqL SqT upd upd_same upd_ne ne_of ne_of_none TE TT TA TS TG TGs TI It VK XK Ends St PE Cx FpOk Gl Room Vals RelV)
open PyProof.Rows (AllBare)
theorem segG_mono {M : Model} {A : Around} {Φ Φ' : End → Shared → Prop} {c : Code} {t : Sem PySem.Fin} {fs : List Frame} {s : Shared} (h : SegG M A Φ c t fs s) (k : ∀ e s', Φ e s' → Φ' e s') : SegG M A Φ' c t fs s :=
  fun Γ p hc hΓ => let ⟨e, s', hr, he⟩ := h Γ p hc hΓ; ⟨e, s', hr, k e s' he⟩
theorem goesG_mono {M : Model} {A : Around} {Φ Φ' : End → Shared → Prop} {gs : GenState} {r : Resume} {s : Shared} (h : GoesG M A Φ gs r s) (k : ∀ e s', Φ e s' → Φ' e s') : GoesG M A Φ' gs r s := by
  cases gs with
  | fresh c => exact ⟨h.1, segG_mono h.2 k⟩
  | suspended k₀ l c p fs cl => exact segG_mono (c := c) h k
  | running => exact h
  | finished => exact h
theorem set_at {s : Shared} {g : Nat} {x : GenState} (h : g < s.gens.size) : (s.setGen g x).gens[g]? = some x := by
  simp [Shared.setGen, h]
theorem bare_set {s : Shared} {g : Nat} {x : GenState} (h : AllBare s.gens) (hx : x.bare = true) : AllBare (s.setGen g x).gens := bare_iff.mpr fun i y e => by
  by_cases z : i = g
  · subst z
    by_cases hl : i < s.gens.size
    · rw [set_at hl] at e; cases e; exact hx
    · simp [Shared.setGen, hl] at e
  · refine bare_iff.mp h i y ?_
    rw [← e]
    simp [Shared.setGen, Array.getElem?_setIfInBounds_ne (Ne.symm z)]
theorem inv_any {X : Cx} {pins : List (Addr × Obj)} {σ : St} {H : Hp} {s s' : Shared} (I : L2.Inv X pins σ H s) (h : s'.heap = s.heap) (o : s'.os = s.os) (b : AllBare s'.gens) : L2.Inv X pins σ H s' := by
  obtain ⟨hh, g, d, t, os⟩ := s
  obtain ⟨hh', g', d', t', os'⟩ := s'
  cases h; cases o
  exact ⟨I.ok, I.os, b, I.base, I.loc, I.cell, I.free, I.freeC, I.pin, I.hok, I.len⟩
section
variable {P : Program} {w : World} {A : Around} {L : Addr} {env : PySem.Env} {p : Nat → Pos}
/-- the first run -/
theorem nb_first (S : NbScope env.scope) (hL : env.locals = L) (hh : A.handled = none) {s : Shared} {m mg mb : Str → Option Value} {o : Addr} {us : Array Value} (hn : s.heap.Ns L m) (ho : m "order" = some (.ref o)) (hoL : o ≠ L)
    (hg : s.heap.Ns env.globals mg) (hb : s.heap.Ns env.builtins mb) (hgL : env.globals ≠ L) (hbL : env.builtins ≠ L) (hgl : mg "list" = none) (hbl : mb "list" = some (.type "list")) (hl : s.heap.IsList o us) (hz : us.size ≤ sizeLine) :
    SegG (model P w) A (fun e s1 => ∃ it l bf, s.heap.objs.size ≤ it ∧ s.heap.objs.size ≤ l ∧ it ≠ l ∧ RelV (.int 0) bf ∧ NbEnd (model P w) A L it l us us.size 0 bf s e s1) (.func (nbStmts p) env) ((model P w).den (.func (nbStmts p) env)) [] s := by
  subst hL
  have hA : (A.over (.func (nbStmts p) env) []).handled = none := by rw [over_func]; exact hh
  refine segG_func ?_
  refine segG_cons ?_
  refine segG_wrap0 (wpAny_Assign_Name (wpAny_Constant_int (wpAny_storeName_local S.b hn (fun h1 hn1 hk1 => ?_) (by rw [S.kind]; rfl))))
  show SegG _ A _ _ ((execs [_] env).wrap _ _ id id) _ _
  refine segG_cons ?_
  have hl1 : h1.IsList o us := ls_at hl hoL hk1
  obtain ⟨oo, hoo, hoc, nl, hod⟩ := hl1
  have hz1 : h1.objs.size = s.heap.objs.size := hk1.1
  refine segG_For (PyProof.Rows.Call_ (Calls.Name_function_global S.kind S.l (Calls.loadGlobal_builtin (s := { s with heap := h1, toks := s.toks + 1 + 1 }) (hg.sameBut hk1 hgL) hgl (hb.sameBut hk1 hbL) hbl (PyProof.Rows.callWith_type1
    (Calls.spliced_cons (wpAny_Name (wpAny_loadName_local S.kind S.o hn1 (v := .ref o) ?_ (Calls.spliced_nil
      (call_list_seq o (.inl rfl) hoo hoc hod (fun h2 c2 hk2 hl2 => ?_) hz)))))))))
  · show (if ("order" : Str) = "before" then _ else m "order") = some (.ref o)
    rw [if_neg (by decide)]; exact ho
  have hl2' : h2.IsList h1.objs.size us := ⟨_, hl2, rfl, _, rfl⟩
  refine wpAny_pyIter_list (s := { s with heap := h2, toks := s.toks + 1 + 1 }) hl2' ?_
  intro cp
  have lt1 : env.locals < h1.objs.size := hn1.lt
  have lt2 : h1.objs.size < h2.objs.size := Heap.lt_size hl2
  have hrel : RelV (.int 0) (Value.int 0 s.toks) := ⟨_, rfl⟩
  refine segG_mono (nb_turns (it := h2.objs.size) (l := h1.objs.size) (us := us) (p := p) (P := P) (w := w) (A := A) (fs := []) S rfl ?_ rfl rfl rfl (Nat.ne_of_lt (Nat.lt_trans lt1 lt2)) (Nat.ne_of_lt lt1) (Nat.ne_of_gt lt2) (fun Φ s' hs => ?_) us.size 0 (.int 0 s.toks) s _ (by omega) ⟨rfl, rfl, fun b ob e1 e2 e => ?_⟩ ⟨_, (hn1.keeps hk2).push _, ?_⟩ ⟨_, Heap.get?_push_size _ rfl, rfl, rfl⟩ (hl2'.at fun ob q => Heap.get?_push_of_some _ q) ?_) fun e s' hs => ⟨h2.objs.size, h1.objs.size, .int 0 s.toks, by omega, by omega, Nat.ne_of_gt lt2, hrel, hs⟩
  · rw [over_loop rfl rfl]; exact hA
  · exact segG_nil (segG_end (.ok (.ret .none)) hs)
  · exact Heap.get?_push_of_some _ (hk2 b ob ((hk1.2 b e1).trans e))
  · show (if ("before" : Str) = "before" then _ else m "before") = _
    rw [if_pos rfl]
  · show _ ≤ (h2.push _).objs.size
    rw [Heap.size_push]; omega
end
/-! ### walked -/
def prevV (xs : List V) : Nat → V
  | 0 => .int 0
  | k + 1 => (xs[k]?).getD .non
def ItN (K : PySem.W.Frag) (o : Addr) (xs : List V) : It :=
  ⟨fun i H => i < xs.length ∧ (i = 0 → SqL K H o xs), fun i H v H' => ∃ T x, v = .ref T ∧ H T = none ∧ H' = upd H T (.tup [prevV xs i, x]) ∧ xs[i]? = some x, fun i H => i = xs.length ∧ (i = 0 → SqL K H o xs)⟩
def nbTn (P : Program) (w : World) (A : Around) (env : PySem.Env) (p : Nat → Pos) (xs : List V) (o a g : Nat) : Nat → List Addr → Shared → Prop
  | 0, fp, s => fp = [a, env.locals] ∧ s.heap.IsGen a g ∧ s.gens[g]? = some (.fresh (.func (nbStmts p) env)) ∧ ∃ m, s.heap.Ns env.locals m ∧ m "order" = some (.ref o)
  | i + 1, fp, s => ∃ it l us bf u gs, fp = [a, env.locals, it, l] ∧ Vals xs us.toList ∧ us[i]? = some u ∧ s.heap.IsGen a g ∧ s.gens[g]? = some gs ∧ isSusp gs = true ∧ env.locals ≠ it ∧ env.locals ≠ l ∧ it ≠ l ∧ a ≠ it ∧ NbSlp env.locals it l us bf u i s.heap ∧
      ∀ s', NbSlp env.locals it l us bf u i s'.heap → GoesG (model P w) A.in1 (NbEnd (model P w) A.in1 env.locals it l us (us.size - (i + 1)) (i + 1) u s') gs (.send .none) s'
section
variable {X : Cx} {env : PySem.Env} {p : Nat → Pos} {xs : List V} {o a g : Nat} {tg : Expr}
theorem ns_obj {h : Heap} {L : Addr} {m : Str → Option Value} (n : h.Ns L m) : ∃ o, h.get? L = some o ∧ ∀ v, o.data ≠ .cell v := by
  obtain ⟨o, es, ep, ho, hd, _⟩ := n
  exact ⟨o, ho, fun v q => by rw [hd] at q; cases q⟩
theorem gen_obj {h : Heap} {a g : Nat} (n : h.IsGen a g) : ∃ o, h.get? a = some o ∧ ∀ v, o.data ≠ .cell v := by
  obtain ⟨o, nm, qn, ho, hc, hd, hs⟩ := n
  exact ⟨o, ho, fun v q => by rw [hd] at q; cases q⟩
theorem li_obj {h : Heap} {a l i : Nat} (n : h.IsListIter a l i) : ∃ o, h.get? a = some o ∧ ∀ v, o.data ≠ .cell v := by
  obtain ⟨o, ho, hc, hd⟩ := n
  exact ⟨o, ho, fun v q => by rw [hd] at q; cases q⟩
theorem ls_obj {h : Heap} {a : Nat} {us : Array Value} (n : h.IsList a us) : ∃ o, h.get? a = some o ∧ ∀ v, o.data ≠ .cell v := by
  obtain ⟨o, ho, hc, k, hd⟩ := n
  exact ⟨o, ho, fun v q => by rw [hd] at q; cases q⟩
theorem NbSlp.at {L it l : Addr} {us : Array Value} {bf u : Value} {j : Nat} {h h' : Heap} (z : NbSlp L it l us bf u j h) (k : ∀ b ∈ [L, it, l], ∀ o, h.get? b = some o → h'.get? b = some o) : NbSlp L it l us bf u j h' := by
  obtain ⟨⟨m, hn, e1, e2⟩, hi, hl⟩ := z
  exact ⟨⟨m, hn.at' (k L (by simp)), e1, e2⟩, hi.at (k it (by simp)), hl.at (k l (by simp))⟩
theorem isGen_at {h h' : Heap} {a g : Nat} (n : h.IsGen a g) (k : ∀ o, h.get? a = some o → h'.get? a = some o) : h'.IsGen a g := by
  obtain ⟨o, nm, qn, ho, r⟩ := n
  exact ⟨o, nm, qn, k o ho, r⟩
theorem fp_base {pins : List (Addr × Obj)} {s : Shared} {σ : St} {H : Hp} {b : Addr} {ob : Obj} (I : L2.Inv X pins σ H s) (f : FpOk X pins H b) (e : X.base.get? b = some ob) : False := by
  obtain ⟨_, _, _, h, _⟩ := f
  rcases h with h | h
  · exact I.ok.noex b ob e h
  · have := Heap.lt_size e
    exact absurd (Nat.lt_of_lt_of_le this (Nat.le_trans I.ok.bsz h)) (Nat.lt_irrefl _)
/-- how the next run ends -/
def NbΦ (X : Cx) (pins : List (Addr × Obj)) (H : Hp) (env : PySem.Env) (xs : List V) (a i : Nat) (s₀ : Shared) (e : End) (s1 : Shared) : Prop :=
  ∃ it l us bf, env.locals ≠ it ∧ env.locals ≠ l ∧ it ≠ l ∧ a ≠ it ∧ FpOk X pins H it ∧ FpOk X pins H l ∧ Vals xs us.toList ∧ RelV (prevV xs i) bf ∧ NbEnd (model X.prog X.w) X.A.in1 env.locals it l us (us.size - i) i bf s₀ e s1
theorem nb_ready (S : NbScope env.scope) (hmg : X.mg "list" = none) (hge : env.globals = mainGlobals) (hbe : env.builtins = builtinsNs) (hc : X.calm = true) {pins : List (Addr × Obj)} {s : Shared} {σ : St} {H : Hp} {fp : List Addr} {i : Nat} (I : L2.Inv X pins σ H s) (hf : ∀ b ∈ fp, FpOk X pins H b)
    (hs : nbTn X.prog X.w X.A env p xs o a g i fp s) (hq : i = 0 → SqL X.K H o xs) : ∃ gs, s.gens[g]? = some gs ∧ GoesG (model X.prog X.w) X.A.in1 (NbΦ X pins H env xs a i (s.setGen g .running)) gs (.send .none) (s.setGen g .running) := by
  cases i with
  | zero =>
    obtain ⟨rfl, hg, hgs, m, hn, hm⟩ := hs
    obtain ⟨its, rv, pl, hz⟩ := I.list (hq rfl)
    obtain ⟨mb, hb1, hb2⟩ := I.mod.blt
    have fL := hf env.locals (by simp)
    have hlt : env.locals < s.heap.objs.size := hn.lt
    have halt : a < s.heap.objs.size := by obtain ⟨o', ho', _⟩ := gen_obj hg; exact Heap.lt_size ho'
    have hoH : H o ≠ none ∨ o ∈ [o] := .inr (by simp)
    refine ⟨_, hgs, rfl, ?_⟩
    refine segG_mono (nb_first (us := its.toArray) (P := X.prog) (w := X.w) (A := X.A.in1) (p := p) S rfl (I.ok.hd hc) (s := s.setGen g .running) hn hm ?_ (by rw [hge]; exact I.mod.glob.keeps I.bk) (by rw [hbe]; exact hb1.keeps I.bk) ?_ ?_ hmg ((hb2 "list" (by decide)).trans (by rfl)) pl.isList (by have e := rv.length; simp; omega)) ?_
    · intro z
      obtain ⟨_, _, _, e1, d1, _⟩ := hn
      obtain ⟨_, e2, _, _, d2⟩ := pl.isList
      rw [z, e1] at e2
      cases e2
      rw [d1] at d2
      cases d2
    · rw [hge]; intro z
      obtain ⟨ob, _, _, e1, _⟩ := I.mod.glob
      rw [z] at e1
      exact fp_base I fL e1
    · rw [hbe]; intro z
      obtain ⟨ob, _, _, e1, _⟩ := hb1
      rw [z] at e1
      exact fp_base I fL e1
    · rintro e s1 ⟨it, l, bf, h1, h2, h3, h4, h5⟩
      have h1 : s.heap.objs.size ≤ it := h1
      have h2 : s.heap.objs.size ≤ l := h2
      exact ⟨it, l, its.toArray, bf, Nat.ne_of_lt (Nat.lt_of_lt_of_le hlt h1), Nat.ne_of_lt (Nat.lt_of_lt_of_le hlt h2), h3, Nat.ne_of_lt (Nat.lt_of_lt_of_le halt h1), I.fpOk h1 (I.hok.fresh h1), I.fpOk h2 (I.hok.fresh h2), rv, h4, h5⟩
  | succ i =>
    obtain ⟨it, l, us, bf, u, gs, rfl, rv, hu, hg, hgs, hsu, n1, n2, n3, n4, sl, go⟩ := hs
    refine ⟨gs, hgs, goesG_mono (go (s.setGen g .running) sl) fun e s1 h => ⟨it, l, us, u, n1, n2, n3, n4, hf it (by simp), hf l (by simp), rv, ?_, h⟩⟩
    have hx : ∃ x, xs[i]? = some x ∧ RelV x u := by
      have hl := rv.length
      have hi : i < us.size := (Array.getElem?_eq_some_iff.mp hu).1
      have hi2 : i < xs.length := by rw [hl]; simpa using hi
      obtain ⟨u', hu', r'⟩ := rv.get (List.getElem?_eq_getElem hi2)
      have : us.toList[i]? = some u := by simpa using hu
      rw [this] at hu'
      cases hu'
      exact ⟨_, List.getElem?_eq_getElem hi2, r'⟩
    obtain ⟨x, hx, rx⟩ := hx
    show RelV ((xs[i]?).getD .non) u
    rw [hx]; exact rx
theorem nb_turn (S : NbScope env.scope) (hmg : X.mg "list" = none) (hge : env.globals = mainGlobals) (hbe : env.builtins = builtinsNs) (hc : X.calm = true) (hr : X.A.depth < recursionLimit) (hal : a ≠ env.locals) : TurnS X tg (ItN X.K o xs) g a (nbTn X.prog X.w X.A env p xs o a g) where
  obj := fun i fp s hs b hb => by
    cases i with
    | zero =>
      obtain ⟨rfl, hg, hgs, m, hn, hm⟩ := hs
      have e : b = a ∨ b = env.locals := by simpa using hb
      rcases e with rfl | rfl
      · exact gen_obj hg
      · exact ns_obj hn
    | succ i =>
      obtain ⟨it, l, us, bf, u, gs, rfl, rv, hu, hg, hgs, hsu, n1, n2, n3, n4, ⟨⟨m, hn, _⟩, hi, hl⟩, go⟩ := hs
      have e : b = a ∨ b = env.locals ∨ b = it ∨ b = l := by simpa using hb
      rcases e with rfl | rfl | rfl | rfl
      · exact gen_obj hg
      · exact ns_obj hn
      · exact li_obj hi
      · exact ls_obj hl
  sus := fun i fp s hs => by
    obtain ⟨it, l, us, bf, u, gs, rfl, rv, hu, hg, hgs, hsu, _⟩ := hs
    exact ⟨gs, hgs, hsu⟩
  self := fun A i fp s Q E hs h => by
    cases i with
    | zero => exact wpAny_pyIter_gen hs.2.1 h
    | succ i => obtain ⟨_, _, _, _, _, _, _, _, _, hg, _⟩ := hs; exact wpAny_pyIter_gen hg h
  keep := fun i fp s s' hs k hg' => by
    cases i with
    | zero =>
      obtain ⟨rfl, hg, hgs, m, hn, hm⟩ := hs
      exact ⟨rfl, isGen_at hg (k a (by simp)), hg'.trans hgs, m, hn.at' (k env.locals (by simp)), hm⟩
    | succ i =>
    obtain ⟨it, l, us, bf, u, gs, rfl, rv, hu, hg, hgs, hsu, n1, n2, n3, n4, sl, go⟩ := hs
    exact ⟨it, l, us, bf, u, gs, rfl, rv, hu, isGen_at hg (k a (by simp)), hg'.trans hgs, hsu, n1, n2, n3, n4, sl.at (fun b hb => k b (List.mem_cons_of_mem _ hb)), go⟩
  item := fun i pins s σ H fp I hf hs hgo => by
    obtain ⟨hi, hq⟩ := hgo
    obtain ⟨gs, hgs, go⟩ := nb_ready S hmg hge hbe hc I hf hs hq
    have ha : FpOk X pins H a := by
      cases i with
      | zero => obtain ⟨rfl, _⟩ := hs; exact hf a (by simp)
      | succ i => obtain ⟨_, _, _, _, _, _, rfl, _⟩ := hs; exact hf a (by simp)
    have hL : FpOk X pins H env.locals := by
      cases i with
      | zero => obtain ⟨rfl, _⟩ := hs; exact hf _ (by simp)
      | succ i => obtain ⟨_, _, _, _, _, _, rfl, _⟩ := hs; exact hf _ (by simp)
    have hg : s.heap.IsGen a g := by
      cases i with
      | zero => exact hs.2.1
      | succ i => obtain ⟨_, _, _, _, _, _, rfl, _, _, hg, _⟩ := hs; exact hg
    have hlt : env.locals < s.heap.objs.size := by
      cases i with
      | zero => obtain ⟨_, _, _, m, hn, _⟩ := hs; exact hn.lt
      | succ i => obtain ⟨_, _, _, _, _, _, rfl, _, _, _, _, _, _, _, _, _, ⟨⟨m, hn, _⟩, _⟩, _⟩ := hs; exact hn.lt
    have halt : a < s.heap.objs.size := by obtain ⟨o', ho', _⟩ := gen_obj hg; exact Heap.lt_size ho'
    have hgl : g < s.gens.size := (Array.getElem?_eq_some_iff.mp hgs).1
    refine next_genS (I.ok.hd hc) I.nolimit hr hg hgs (fun e s' he => by obtain ⟨_, _, _, _, _, _, _, _, _, _, _, _, h⟩ := he; exact nbEnd_quiet h) go (fun v g' l' k' c' p' fs' s₁ he => ?_) fun r s₁ he => ?_
    · obtain ⟨it, l, us, bf, n1, n2, n3, n4, fit, fl, rv, rbf, he⟩ := he
      have hus : us.size = xs.length := by have := rv.length; simpa using this.symm
      obtain ⟨rr, hrr⟩ : ∃ rr, us.size - i = rr + 1 := ⟨us.size - i - 1, by omega⟩
      rw [hrr] at he
      obtain ⟨T, u, g2, lv, k, c, pp, fs, e1, e2, e3, e4, e5, kp, sl, nxt⟩ := he
      cases e1
      have e4 : s.heap.objs.size ≤ T := e4
      obtain ⟨x, hx, rx⟩ : ∃ x, xs[i]? = some x ∧ RelV x u := by
        obtain ⟨u', hu', r'⟩ := rv.get (List.getElem?_eq_getElem hi)
        have : us.toList[i]? = some u := by simpa using e3
        rw [this] at hu'
        cases hu'
        exact ⟨_, List.getElem?_eq_getElem hi, r'⟩
      have hTit : T ≠ it := fun z => by
        obtain ⟨ob, q, qc, _⟩ := sl.li
        rw [← z, e5] at q; cases q; exact absurd qc (by intro y; simp [tupObj] at y)
      have hTl : T ≠ l := fun z => by
        obtain ⟨ob, q, qc, _⟩ := sl.ls
        rw [← z, e5] at q; cases q; exact absurd qc (by intro y; simp [tupObj] at y)
      have hg1 : s₁.heap.IsGen a g := isGen_at hg fun ob q => kp.keep a ob hal n4 q
      refine ⟨_, rfl, ?_⟩
      obtain ⟨og, nm, qn, ho, hc', hd', hs'⟩ := hg1
      refine L2.go_of (s := s₁.setGen g _) ho hc' hd' (by decide) ?_
      have new : L2.ObjOk X.prog X.w (upd H T (.tup [prevV xs i, x])) s₁.heap T (.tup [prevV xs i, x]) :=
        ⟨by show 2 ≤ sizeLine; decide, [bf, u], .cons rbf (.cons rx .nil), ⟨_, e5, rfl, _, rfl⟩⟩
      have I1 := I.turnedNew (t' := s.toks) (ch := [env.locals, it]) (h' := s₁.heap) (fun b ob hb q => kp.keep b ob (fun z => hb (by simp [z])) (fun z => hb (by simp [z])) q) (fun b hb => by
        have e : b = env.locals ∨ b = it := by simpa using hb
        rcases e with rfl | rfl
        · exact hL
        · exact fit) e4 new
      have hb1 : AllBare s₁.gens := by rw [kp.gens]; exact bare_set I.bare rfl
      have hb2 := bare_set (g := g) hb1 (End.bare_of_quiet e2)
      have hgs1 : g < s₁.gens.size := by rw [kp.gens]; show g < (s.setGen g .running).gens.size; rw [setGen_size]; exact hgl
      refine ⟨.ref T, _, [a, env.locals, it, l], inv_any I1 rfl kp.os hb2, rfl, ⟨T, x, rfl, I.hok.fresh e4, rfl, hx⟩, ⟨it, l, us, bf, u, _, rfl, rv, e3, ⟨og, nm, qn, ho, hc', hd', hs'⟩, set_at hgs1, rfl, n1, n2, n3, n4, sl, fun s' z => ?_⟩, fun b hb => ?_⟩
      · have : us.size - (i + 1) = rr := by omega
        rw [this]
        exact nxt s' z
      · have hne : b ≠ T := by
          have e : b = a ∨ b = env.locals ∨ b = it ∨ b = l := by simpa using hb
          rcases e with rfl | rfl | rfl | rfl
          · exact Nat.ne_of_lt (Nat.lt_of_lt_of_le halt e4)
          · exact Nat.ne_of_lt (Nat.lt_of_lt_of_le hlt e4)
          · exact Ne.symm hTit
          · exact Ne.symm hTl
        have fb : FpOk X pins H b := by
          have e : b = a ∨ b = env.locals ∨ b = it ∨ b = l := by simpa using hb
          rcases e with rfl | rfl | rfl | rfl
          · exact ha
          · exact hL
          · exact fit
          · exact fl
        exact ⟨by rw [upd_ne hne]; exact fb.1, fb.2⟩
    · obtain ⟨it, l, us, bf, n1, n2, n3, n4, fit, fl, rv, rbf, he⟩ := he
      have hus : us.size = xs.length := by have := rv.length; simpa using this.symm
      obtain ⟨rr, hrr⟩ : ∃ rr, us.size - i = rr + 1 := ⟨us.size - i - 1, by omega⟩
      rw [hrr] at he
      obtain ⟨T, u, g2, lv, k, c, pp, fs, e1, _⟩ := he
      cases e1
  done := fun i pins s σ H fp I hf hs hst => by
    obtain ⟨hi, hq⟩ := hst
    obtain ⟨gs, hgs, go⟩ := nb_ready S hmg hge hbe hc I hf hs hq
    have hL : FpOk X pins H env.locals := by
      cases i with
      | zero => obtain ⟨rfl, _⟩ := hs; exact hf _ (by simp)
      | succ i => obtain ⟨_, _, _, _, _, _, rfl, _⟩ := hs; exact hf _ (by simp)
    have hg : s.heap.IsGen a g := by
      cases i with
      | zero => exact hs.2.1
      | succ i => obtain ⟨_, _, _, _, _, _, rfl, _, _, hg, _⟩ := hs; exact hg
    refine next_genS (I.ok.hd hc) I.nolimit hr hg hgs (fun e s' he => by obtain ⟨_, _, _, _, _, _, _, _, _, _, _, _, h⟩ := he; exact nbEnd_quiet h) go (fun v g' l' k' c' p' fs' s₁ he => ?_) fun r s₁ he => ?_
    · obtain ⟨it, l, us, bf, n1, n2, n3, n4, fit, fl, rv, rbf, he⟩ := he
      have hus : us.size = xs.length := by have := rv.length; simpa using this.symm
      have hrr : us.size - i = 0 := by omega
      rw [hrr] at he
      obtain ⟨e1, _⟩ := he
      cases e1
    · obtain ⟨it, l, us, bf, n1, n2, n3, n4, fit, fl, rv, rbf, he⟩ := he
      have hus : us.size = xs.length := by have := rv.length; simpa using this.symm
      have hrr : us.size - i = 0 := by omega
      rw [hrr] at he
      obtain ⟨e1, kp⟩ := he
      cases e1
      refine ⟨.inl rfl, fun h' hk => ⟨rfl, ?_⟩⟩
      have I1 := I.turnedL (t' := s.toks) (ch := [env.locals, it]) (h' := h') (fun b ob hb q => hk b ob (kp.keep b ob (fun z => hb (by simp [z])) (fun z => hb (by simp [z])) q)) (fun b hb => by
        have e : b = env.locals ∨ b = it := by simpa using hb
        rcases e with rfl | rfl
        · exact hL
        · exact fit)
      refine inv_any I1 rfl kp.os (bare_set (s := s₁) ?_ rfl)
      rw [kp.gens]; exact bare_set I.bare rfl
end
end O

/-! Own49: for x in neighbours(l) -/
namespace O
open PySem
open GenW
open L2 (V Hp HO Rd SqL SqT upd upd_same upd_ne ne_of ne_of_none TE TT TA TS TG TGs TI It VK XK Ends St PE PA Cx FpOk Gl Room Vals RelV thn)
open PyProof.Rows (AllBare)
/-- the def neighbours, by its name -/
structure CalN (K : PySem.W.Frag) (mg : Str → Option Value) : Prop where
  ex : ∃ (f : Addr) (fd : FuncData) (st : Stmt) (p : Nat → Pos), L2.Fun K "neighbours" "neighbours" st f fd ∧ L2.defBody st = nbStmts p ∧ NbScope (L2.defScope st) ∧ mg "neighbours" = some (.ref f) ∧ L2.Binds K fd ["order"] [] ∧ ∀ (s : Shared) (u : Value), BindsTo s fd ⟨[], [("order", u)]⟩ [("order", u)]
def iNb (K : PySem.W.Frag) (te : TE) : TI := fun σ H R => te σ H fun x H1 => ∃ o xs, x = .ref o ∧ SqL K H1 o xs ∧ R (ItN K o xs) H1
section
variable {X : Cx} {tg e : Expr} {te : TE} {pn pos : Pos}
theorem nb_call {pins : List (Addr × Obj)} {σ : St} {H1 : Hp} {s1 : Shared} {R : It → Hp → Prop} {f : Addr} {fd : FuncData} {st : Stmt} {p : Nat → Pos} {as : List Value} {kw : List (Str × Value)} (F : L2.Fun X.K "neighbours" "neighbours" st f fd) (hb : L2.defBody st = nbStmts p) (S : NbScope (L2.defScope st))
    (hr : X.A.depth < recursionLimit) (hc : X.calm = true) (hl : X.mg "list" = none) {o : Addr} {xs : List V} (hbd : BindsTo s1 fd ⟨as, kw⟩ [(("order" : Str), Value.ref o)]) (I1 : L2.Inv X pins σ H1 s1) (q : R (ItN X.K o xs) H1) :
    wpAny (model X.prog X.w) X.A (call (.ref f) as kw) (fun v s2 => wpAny (model X.prog X.w) X.A (pyIter v) (PISE X pins σ tg R) X.xe s2) X.xe s1 := by
  obtain ⟨oc, od, kV, doc, pm, an, cdv, ct, osl, rfl, lk, hcd⟩ := F.ex
  refine wpAny_call ?_
  refine codeAny_call_generator (body := L2.defBody st) hr (I1.kIn _ _ lk) rfl S.co S.gen rfl (PySem.W.codeRec_of I1.kIn hcd) ?_
  refine hbd _ _ _ _ ?_
  refine wpAny_newFunctionEnv (fun y hy => S.nocell y hy) (fun y hy => ?_) (fun h' hn hk => ?_) S.kind
  · have : y = (("order" : Str), Value.ref o) := List.mem_singleton.mp hy
    rw [this]; exact S.o
  have kp : ∀ b ob, s1.heap.get? b = some ob → h'.get? b = some ob := fun b ob q => by
    rw [hk.2 b (Nat.ne_of_lt (Heap.lt_size q))]
    exact Heap.get?_push_of_some _ q
  have sz : h'.objs.size = s1.heap.objs.size + 1 := by rw [hk.1, Heap.size_push]
  refine ⟨I1.nolimit.keeps kp, ?_⟩
  rw [hb]
  have main : ∀ (env : PySem.Env) (go : Obj) (nm qn : Value) (tk2 : Nat), env.scope = L2.defScope st → env.locals = s1.heap.objs.size → env.globals = mainGlobals → env.builtins = builtinsNs → go.cls = .type "generator" → go.data = .fields #[.int s1.gens.size 0, nm, qn] → go.slots = #[] → (∀ h : Heap, (h.push go).get? h.objs.size = some go) →
      wpAny (model X.prog X.w) X.A (pyIter (.ref h'.objs.size)) (PISE X pins σ tg R) X.xe { s1 with gens := s1.gens.push (.fresh (.func (nbStmts p) env)), toks := tk2, heap := h'.push go } := by
    intro env go nm qn tk2 h1 h2 h3 h4 hgc hgd0 hgs hgp
    have hgen : (h'.push go).IsGen h'.objs.size s1.gens.size := ⟨go, nm, qn, hgp _, hgc, hgd0, hgs⟩
    refine wpAny_pyIter_gen hgen ?_
    have kp2 : ∀ b ob, s1.heap.get? b = some ob → (h'.push go).get? b = some ob := fun b ob q => Heap.get?_push_of_some _ (kp b ob q)
    have I2 := I1.kept (t' := tk2) kp2
    refine ⟨s1.gens.size, h'.objs.size, [h'.objs.size, env.locals], nbTn X.prog X.w X.A env p xs o h'.objs.size s1.gens.size, ItN X.K o xs, H1, rfl, inv_any I2 rfl rfl (AllBare.push I1.bare rfl), fun Y e => ?_, ⟨rfl, hgen, Array.getElem?_push_size .., fun y => [(("order" : Str), Value.ref o)].reverse.lookup y, ?_, ?_⟩, fun b hb => ?_, q⟩
    · have q := nb_turn (X := Y) (tg := tg) (env := env) (p := p) (xs := xs) (o := o) (a := h'.objs.size) (g := s1.gens.size) (by rw [h1]; exact S) (by rw [e.mg]; exact hl) h3 h4 (by rw [e.calm]; exact hc) (by rw [e.A]; exact hr) (by rw [h2, sz]; omega)
      rw [e.K, e.prog, e.w, e.A] at q
      exact q
    · rw [h2]; exact hn.push _
    · rfl
    · have e : b = h'.objs.size ∨ b = env.locals := by simpa using hb
      rcases e with rfl | rfl
      · exact I1.fpOk (by omega) (I1.hok.fresh (by omega))
      · rw [h2]; exact I1.fpOk (Nat.le_refl _) (I1.hok.fresh (Nat.le_refl _))
  exact main _ _ _ _ _ rfl rfl rfl rfl rfl rfl rfl fun h => Heap.get?_push_size _ rfl
theorem pis_nb (C : CalN X.K X.mg) (hr : X.A.depth < recursionLimit) (hc : X.calm = true) (hl : X.mg "list" = none) (he : PE X e te) (hg : Gl X "neighbours" := by rfl) (hst : starEach [e] X.env = (false, eval e X.env) :: starEach [] X.env := by rfl) :
    PIS X tg (.Call (.Name "neighbours" pn) [e] [] pos) (iNb X.K te) := by
  refine ⟨fun pins s σ H R I h => ?_⟩
  obtain ⟨f, fd, st, p, F, hb, S, hm, hbd, _⟩ := C.ex
  refine wpAny_Call_Name_kw (L2.ld_glob I hg hm ?_ (by decide))
  refine PySem.W.callWith_K (h₀ := X.base) I.ok.mod.kin F.kp (Calls.spliced_cons (thn (he.run pins s σ H _ I h) fun u s1 ⟨x, H1, I1, r1, o, xs, ex, hq, q⟩ => ?_) |> fun z => by rw [hst]; exact z) hst rfl
  subst ex
  obtain rfl : u = Value.ref o := r1
  exact Calls.spliced_nil ⟨I1.kIn, nb_call F hb S hr hc hl (hbd s1 [.ref o] I1.kIn rfl) I1 q⟩
/-- neighbours(order=e) -/
theorem pis_nbK {kpos : Pos} (C : CalN X.K X.mg) (hr : X.A.depth < recursionLimit) (hc : X.calm = true) (hl : X.mg "list" = none) (he : PE X e te) (hg : Gl X "neighbours" := by rfl)
    (hall : (backToKw pos (keywordEach [⟨some "order", e, kpos⟩] X.env)).all (·.1.isSome) = true := by rfl) (hks : (backToKw pos (keywordEach [⟨some "order", e, kpos⟩] X.env)).filterMap (·.1) = [("order" : Str)] := by rfl)
    (hpl : ((backTo pos (starEach [] X.env)).any (·.1) || (backToKw pos (keywordEach [⟨some "order", e, kpos⟩] X.env)).any (·.1.isNone)) = false := by rfl) :
    PIS X tg (.Call (.Name "neighbours" pn) [] [⟨some "order", e, kpos⟩] pos) (iNb X.K te) := by
  refine ⟨fun pins s σ H R I h => ?_⟩
  obtain ⟨f, fd, st, p, F, hb, S, hm, _, hbk⟩ := C.ex
  refine wpAny_Call_Name_kw (L2.ld_glob I hg hm ?_ (by decide))
  refine PySem.W.callWith_KW0 (h₀ := X.base) I.ok.mod.kin F.kp hall (thn ((L2.pk_cons he L2.pk_nil).run pos pins s σ H (fun vs H1 => match vs with | [x] => ∃ o xs, x = .ref o ∧ SqL X.K H1 o xs ∧ R (ItN X.K o xs) H1 | _ => False) I h) fun us s1 ⟨vs, H1, I1, rs, q⟩ => ⟨I1.kIn, ?_⟩) hpl
  cases rs with
  | nil => exact q.elim
  | cons r1 r2 =>
    cases r2 with
    | cons _ _ => exact q.elim
    | nil =>
    obtain ⟨o, xs, ex, hq, q⟩ := q
    subst ex
    obtain rfl := r1
    rw [hks]
    exact nb_call F hb S hr hc hl (hbk s1 (.ref o)) I1 q
end
/-! ### its data -/
def nbD (p : D) : List D → List D
  | [] => []
  | d :: ds => .tup [p, d] :: nbD d ds
theorem nbD_len : ∀ (ds : List D) (p : D), (nbD p ds).length = ds.length
  | [], _ => rfl
  | d :: ds, p => by simp [nbD, nbD_len ds d]
def prevD (p : D) (ds : List D) : Nat → D
  | 0 => p
  | k + 1 => (ds[k]?).getD .non
theorem nbD_get : ∀ (ds : List D) (p : D) (j : Nat) (d : D), ds[j]? = some d → (nbD p ds)[j]? = some (.tup [prevD p ds j, d])
  | [], _, _, _, h => by simp at h
  | x :: ds, p, 0, d, h => by simp at h; subst h; simp [nbD, prevD]
  | x :: ds, p, j + 1, d, h => by
    have q := nbD_get ds x j d (by simpa using h)
    simp only [nbD, List.getElem?_cons_succ, q]
    cases j with
    | zero => simp [prevD]
    | succ j => simp [prevD]
def gItNb : D → Option (List D)
  | .lst ds => some (nbD (.int 0) ds)
  | _ => none
section
variable {K : PySem.W.Frag} {W : St → XK}
theorem si_nb {te : TE} {fe : O.Env → Res RV} (he : Sd K W (rV K) te fe) : Si K W (iNb K te) (fWalk fe gItNb) :=
  si_of (k := fun x H1 R => ∃ o xs, x = .ref o ∧ SqL K H1 o xs ∧ R (ItN K o xs) H1) he rfl fun C Hs fp Hd H σ ρ d ds v I hr eg R p => by
    cases d with
    | lst es =>
      cases eg
      obtain ⟨a, xs, rfl, hl, h⟩ := rWk_rd hr
      refine ⟨a, xs, rfl, .inl (h _ _ _ _ _ I (.refl _)).1, p _ ?_⟩
      unfold WalkD
      rw [nbD_len, ← hl]
      refine ⟨fun i H' hi ⟨fp', Hd', σ', ρ', I', l'⟩ => ⟨hi, fun _ => .inl (h _ _ _ _ _ I' l').1⟩, fun H' ⟨fp', Hd', σ', ρ', I', l'⟩ => ⟨rfl, fun _ => .inl (h _ _ _ _ _ I' l').1⟩, fun i H' x H'' hi ⟨fp', Hd', σ', ρ', I', l'⟩ ⟨T, y, e0, hT, e1, e3⟩ => ?_⟩
      subst e0 e1
      obtain ⟨d, hd, _⟩ := (h _ _ _ _ _ I' l').2.get' e3
      refine ⟨_, nbD_get es (.int 0) i d hd, fun fp3 Hd3 σ3 ρ3 I3 l3 => ?_⟩
      have hr3 := (h _ _ _ _ _ I3 l3).2
      obtain ⟨d', hd', r'⟩ := hr3.get' e3
      rw [hd] at hd'
      cases hd'
      refine newR_tup I3.le hT (.cons ?_ (.cons r' .nil))
      cases i with
      | zero => exact .int 0
      | succ k =>
        have hk : k < xs.length := by omega
        obtain ⟨d2, hd2, r2⟩ := hr3.get' (List.getElem?_eq_getElem hk)
        show Rep K Hd3 ((es[k]?).getD .non) ((xs[k]?).getD .non)
        rw [hd2, List.getElem?_eq_getElem hk]
        exact r2
    | _ => cases eg
end
section
variable {X : Cx} {W : St → XK} {tg e : Expr} {te : TE} {fe : O.Env → Res RV} {pn pos : Pos}
theorem jnb {K : PySem.W.Frag} (C : CalN X.K X.mg) (hr : X.A.depth < recursionLimit) (hc : X.calm = true) (hl : X.mg "list" = none) (he : JE X W e te fe) (hg : Gl X "neighbours" := by rfl) (hst : starEach [e] X.env = (false, eval e X.env) :: starEach [] X.env := by rfl) (hK : X.K = K := by rfl) :
    JIS X W tg (.Call (.Name "neighbours" pn) [e] [] pos) (iNb K te) (fWalk fe gItNb) := by
  subst hK
  exact ⟨pis_nb C hr hc hl he.pe hg hst, si_nb he.se⟩
theorem jnbK {K : PySem.W.Frag} {kpos : Pos} (C : CalN X.K X.mg) (hr : X.A.depth < recursionLimit) (hc : X.calm = true) (hl : X.mg "list" = none) (he : JE X W e te fe) (hg : Gl X "neighbours" := by rfl)
    (hall : (backToKw pos (keywordEach [⟨some "order", e, kpos⟩] X.env)).all (·.1.isSome) = true := by rfl) (hks : (backToKw pos (keywordEach [⟨some "order", e, kpos⟩] X.env)).filterMap (·.1) = [("order" : Str)] := by rfl)
    (hpl : ((backTo pos (starEach [] X.env)).any (·.1) || (backToKw pos (keywordEach [⟨some "order", e, kpos⟩] X.env)).any (·.1.isNone)) = false := by rfl) (hK : X.K = K := by rfl) :
    JIS X W tg (.Call (.Name "neighbours" pn) [] [⟨some "order", e, kpos⟩] pos) (iNb K te) (fWalk fe gItNb) := by
  subst hK
  exact ⟨pis_nbK C hr hc hl he.pe hg hall hks hpl, si_nb he.se⟩
end
end O

/-! Own50: a list comprehension over a generator -/
namespace O
open PySem
open L2 (V Hp HO Rd SqL SqT upd upd_same upd_ne ne_of ne_of_none TE TT TA TS TG TGs TI It VK XK Ends St PE PT PTs PG Cx FpOk pinsAt mem_pinsAt)
open PyProof.Rows (AllBare)
theorem sleep1 {X : Cx} {α : Type} {t : Sem α} {Q : α → Shared → Prop} {s : Shared} {gn : Nat} {sx : GenState} (hx : SleepX X) (es : s.gens[gn]? = some sx) (us : isSusp sx = true) (h : wpAny (model X.prog X.w) X.A t Q X.xe (withG s (pois s.gens)))
    (hin : ∀ a s' G', RG (napT s.gens) s'.gens G' → Q a s' → Q a (withG s' G')) : wpAny (model X.prog X.w) X.A t (fun a s' => s'.gens[gn]? = some sx ∧ Q a s') X.xe s :=
  sleeper hx h fun a s' G' r q => ⟨r.nap es us, hin a s' G' r q⟩
theorem sleepX_blk {X : Cx} {s : Shared} {H : Hp} {scope : Scope} {ce : PySem.Env} {fp : List Addr} : SleepX (X.blk s H scope ce fp) := fun _ _ _ _ _ h => h.elim
theorem fals {α : Type} {M : Model} {A : Around} {t : Sem α} {Q Q' : α → Shared → Prop} {E : Value → Shared → Prop} {s : Shared} (h : wpAny M A t Q (fun _ _ => False) s) (k : ∀ a s', Q a s' → Q' a s') : wpAny M A t Q' E s := wpAny_mono h k fun _ _ z => z.elim
section
variable {X : Cx}
theorem lc_walks {pins : List (Addr × Obj)} {s : Shared} {σ : St} {H : Hp} {Q : VK} {elt tg iter : Expr} {ifs : List Expr} {scope : Scope} {own : List (Str × Nat)} {pos pos' : Pos} {wi : TI} {g : TG} {tt : TT} {te : TE} {use : Option (Value → Sem Unit)} {Qf : Value → Shared → Prop}
    (nd : X.N.Nodup) (I : L2.Inv X pins σ H s) (walked : PIS X tg iter wi) (blk : L2.BlkOk X.N X.env.scope scope own)
    (asg : ∀ (s : Shared) (H : Hp) (C : Addr) (cl : List (Str × Addr)) (fp : List Addr), PG (X.blk s H scope (compEnvC scope cl C X.env) fp) tg g)
    (tst : ∀ (s : Shared) (H : Hp) (C : Addr) (cl : List (Str × Addr)) (fp : List Addr), PTs (X.blk s H scope (compEnvC scope cl C X.env) fp) ifs tt)
    (elm : ∀ (s : Shared) (H : Hp) (C : Addr) (cl : List (Str × Addr)) (fp : List Addr), PE (X.blk s H scope (compEnvC scope cl C X.env) fp) elt te)
    (nofold : ∀ x, foldedSetIterable iter X.env x = pure x) (want : L2.tLc wi g tt te (own.map (·.2)) σ H Q)
    (after : ∀ D C s' m H', L2.Inv X pins σ H' s' → Q (.ref D) H' → s'.heap.Ns C m → FpOk X pins H' C → compPost (model X.prog X.w) X.A X.xe use Qf (.ref D) C (.ok .next) s') :
    wpAny (model X.prog X.w) X.A (comprehension (.ListComp elt [⟨tg, iter, ifs, 0⟩] scope pos) scope X.env pos' (newList []) false (eval iter X.env) use) Qf X.xe s := by
  refine wpAny_comprehension_free rfl nofold (L2.closure_ok fun y hy e => (blk.free y hy e).elim (fun k => I.ok.has _ (.inl k)) fun k => I.ok.has _ (.inr k)) blk.kind (fun y hy e => (blk.uniq y hy).trans (congrArg some e)) ?_
  refine L2.thn (walked.run pins s σ H _ I want) fun xv s1 first => L2.thn first fun itv s2 made => ?_
  obtain ⟨gn, it, fp, tn, J, H2, e0, I2, TT, st2, f2, goal⟩ := made
  subst e0
  refine wpAny_newObj_type (L2.newEnv_comp ?_) (by show 0 ≤ sizeLine; decide)
  have T0 := TT X (.refl X)
  have freeD : H2 s2.heap.objs.size = none := I2.hok.fresh (Nat.le_refl _)
  obtain ⟨W, ⟨m0, w0⟩, turn⟩ := goal s2.heap.objs.size freeD
  generalize eD : s2.heap.objs.size = D at freeD w0 turn ⊢
  generalize es3 : ({ s2 with heap := s2.heap.push { cls := .type "list", data := .seq ([] : List Value).toArray } } : Shared) = s3
  have hp3 : s3.heap = s2.heap.push { cls := .type "list", data := .seq ([] : List Value).toArray } := by rw [← es3]
  have g3 : s3.gens = s2.gens := by rw [← es3]
  have I3 : L2.Inv X pins σ (upd H2 D (.lst [])) s3 := by
    subst es3
    exact I2.laid (t' := s2.toks) (fun b o e => Heap.get?_push_of_some _ e) (Nat.le_of_eq eD) ⟨Nat.zero_le _, [], 0, .nil, by rw [← eD]; exact Heap.get?_push_size _ rfl⟩
  have k23 : ∀ b o, s2.heap.get? b = some o → s3.heap.get? b = some o := fun b o e => by rw [hp3]; exact Heap.get?_push_of_some _ e
  have young : ∀ b ∈ fp, b < s2.heap.objs.size := fun b hb => let ⟨o, e, _⟩ := T0.obj _ _ _ st2 b hb; Heap.lt_size e
  have f3 : ∀ b ∈ fp, FpOk X pins (upd H2 D (.lst [])) b ∧ b < s3.heap.objs.size := fun b hb => by
    have lt := young b hb
    exact ⟨⟨by rw [upd_ne (by rw [← eD]; exact Nat.ne_of_lt lt)]; exact (f2 b hb).1, (f2 b hb).2⟩, by rw [hp3, Heap.size_push]; exact Nat.lt_succ_of_lt lt⟩
  have st3 : tn 0 fp s3 := T0.keep _ _ _ _ st2 (fun b _ o e => k23 b o e) (by rw [g3])
  have I4 := L2.block_start I3 blk nd f3
  generalize ec : cellsFrom (s3.heap.objs.size + 1) scope.names (L2.cloFrom X.env.cells scope.names []) = cl at I4 ⊢
  have pg := asg s3 (upd H2 D (.lst [])) s3.heap.objs.size cl fp
  have pt := tst s3 (upd H2 D (.lst [])) s3.heap.objs.size cl fp
  have pe := elm s3 (upd H2 D (.lst [])) s3.heap.objs.size cl fp
  generalize eH : upd H2 D (.lst []) = H3 at *
  show codeAny _ _ (.compStart (.ListComp elt [⟨tg, iter, ifs, 0⟩] scope pos) 0 (.ref it) (.ref D) (compEnvC scope cl s3.heap.objs.size X.env)) (compPost (model X.prog X.w) X.A X.xe use Qf (.ref D) s3.heap.objs.size) { s3 with heap := pushCells (s3.heap.push { cls := .type "dict", data := .dict #[] }) scope.names }
  generalize ee : compEnvC scope cl s3.heap.objs.size X.env = ce at *
  have cL : ce.locals = s3.heap.objs.size := by subst ee; rfl
  generalize es4 : ({ s3 with heap := pushCells (s3.heap.push { cls := .type "dict", data := .dict #[] }) scope.names } : Shared) = s4 at I4 ⊢
  have st4 : tn 0 fp s4 := T0.keep _ _ _ _ st3 (fun b _ o e => by subst es4; exact pushCells_keeps _ _ _ _ (Heap.get?_push_of_some _ e)) (by subst es4; rfl)
  have T := TT (X.blk s3 H3 scope ce fp) ⟨rfl, rfl, rfl, rfl, rfl, rfl⟩
  have fpB : ∀ b ∈ fp, FpOk (X.blk s3 H3 scope ce fp) [] H3 b := fun b hb =>
    ⟨(f3 b hb).1.1, (I4.ok.exf b hb).1, I4.ok.exfs b hb, .inl hb, (I4.ok.exf b hb).2, fun p hp => by cases hp⟩
  have run : codeAny (model X.prog X.w) X.A (.compLoop (.ListComp elt [⟨tg, iter, ifs, 0⟩] scope pos) 0 (.ref it) (.ref D) ce) (compPost (model X.prog X.w) X.A X.xe use Qf (.ref D) s3.heap.objs.size) s4 := by
    refine L2.compLoop_any (fun n s' => ∃ i H' fp', L2.Inv (X.blk s3 H3 scope ce fp) [] (L2.wipe σ (own.map (·.2))) H' s' ∧ tn i fp' s' ∧ (∀ b ∈ fp', FpOk (X.blk s3 H3 scope ce fp) [] H' b) ∧ W i n H') ?_ m0 ⟨0, H3, fp, I4, st4, fpB, w0⟩
    rintro n s5 ⟨i, H5, fp5, I5, st5, ok5, w5⟩
    rcases turn i n H5 w5 with ⟨stop, fin⟩ | ⟨go, Nx, next, step⟩
    · refine fals (T.done i [] s5 _ H5 fp5 I5 ok5 st5 stop) fun r s6 ⟨er, I6⟩ => ?_
      subst er
      have I7 : L2.Inv X pins σ H5 s6 := I3.call' (ch := fp) I6.os I6.base I6.hok I6.bare fun b hb => let z := (f3 b hb).1.2; ⟨z.2.2.1, z.1, z.2.2.2.1, z.2.2.2.2⟩
      obtain ⟨m, named, _⟩ := I6.loc
      have named : s6.heap.Ns ce.locals m := named
      have free : H5 ce.locals = none := I6.free
      rw [cL] at named free
      exact after D _ s6 m H5 I7 fin named (I3.fpOk (Nat.le_refl _) free)
    · refine fals (T.item i [] s5 _ H5 fp5 I5 ok5 st5 go) fun r s6 ⟨u, er, h6⟩ => ?_
      subst er
      refine fals h6 fun _ s7 ⟨x, H7, fp7, I7, r7, y7, st7, ok7⟩ => ?_
      obtain ⟨sx, e7, us⟩ := T.sus _ _ _ st7
      have J7 := I7.pinned ok7 (T.obj _ _ _ st7)
      have P7 := gensL J7 (bare_pois J7.bare)
      refine fals (sleep1 (gn := gn) sleepX_blk e7 us (pg.run _ (withG s7 (pois s7.gens)) _ H7 x u _ P7 r7 (step x H7 y7)) fun a s' G' rg ⟨σ', H', I', q⟩ => ⟨σ', H', gensL I' (rg.bare I'.bare), q⟩) fun _ s8 ⟨e8, σ8, H8, I8, w8, q8⟩ => ?_
      refine fals (sleep1 (gn := gn) sleepX_blk e8 us (pt.run _ (withG s8 (pois s8.gens)) σ8 H8 _ (gensL I8 (bare_pois I8.bare)) q8) fun a s' G' rg ⟨H', I', q⟩ => ⟨H', gensL I' (rg.bare I'.bare), q⟩) fun b s9 ⟨e9, H9, I9, q9⟩ => ?_
      have back : ∀ {s' : Shared} {H' : Hp}, s'.gens[gn]? = some sx → L2.Inv (X.blk s3 H3 scope ce fp) ([] ++ pinsAt fp7 s7.heap) σ8 H' s' → Nx H' → ∃ m, m < n ∧ ∃ i H' fp', L2.Inv (X.blk s3 H3 scope ce fp) [] (L2.wipe σ (own.map (·.2))) H' s' ∧ tn i fp' s' ∧ (∀ b ∈ fp', FpOk (X.blk s3 H3 scope ce fp) [] H' b) ∧ W i m H' := fun {s' H'} eg I' nx => by
        obtain ⟨m', less, w'⟩ := next H' nx
        have stay : ∀ b ∈ fp7, ∀ o, s7.heap.get? b = some o → s'.heap.get? b = some o ∧ H' b = none := fun b hb o e =>
          let z := I'.pin (b, o) (List.mem_append_right _ (List.mem_append_right _ (mem_pinsAt hb e))); ⟨z.1, z.2.1⟩
        refine ⟨m', less, i + 1, H', fp7, (I'.unpinned (pins := [])).weak (by rw [← w8, L2.wipe_length]) (fun j v e => (L2.wipe_some (by rw [w8]; exact e)).1), T.keep _ _ _ _ st7 (fun b hb o e => (stay b hb o e).1) (eg.trans e7.symm), fun b hb => ⟨?_, (ok7 b hb).2⟩, w'⟩
        obtain ⟨o, e, _⟩ := T.obj _ _ _ st7 b hb
        exact (stay b hb o e).2
      cases b with
      | false =>
        rw [if_neg Bool.false_ne_true] at q9
        rw [if_neg Bool.false_ne_true]
        exact back e9 I9 q9
      | true =>
        rw [if_pos rfl] at q9
        rw [if_pos rfl]
        refine fals (sleep1 (gn := gn) sleepX_blk e9 us (pe.run _ (withG s9 (pois s9.gens)) σ8 H9 _ (gensL I9 (bare_pois I9.bare)) q9) fun a s' G' rg ⟨y, H', I', ry, q⟩ => ⟨y, H', gensL I' (rg.bare I'.bare), ry, q⟩) fun z s10 ⟨e10, y, H10, I10, ry, acc, hD, hz, nx⟩ => ?_
        refine fals (sleep1 (X := X.blk s3 H3 scope ce fp) (gn := gn) (Q := fun _ s' => L2.Inv (X.blk s3 H3 scope ce fp) ([] ++ pinsAt fp7 s7.heap) σ8 (upd H10 D (.lst (acc ++ [y]))) s') sleepX_blk e10 us (L2.app_ok (gensL I10 (bare_pois I10.bare)) hD hz ry fun s11 I11 => I11) fun a s' G' rg I' => gensL I' (rg.bare I'.bare)) fun _ s11 ⟨e11, I11⟩ => ?_
        exact back e11 I11 nx
  exact codeAny_compStart_list run (T0.self X.A 0 fp s4 _ _ st4 run)
theorem pe_lcS {elt tg iter : Expr} {ifs : List Expr} {scope : Scope} {own : List (Str × Nat)} {pos : Pos} {wi : TI} {g : TG} {tt : TT} {te : TE} (nd : X.N.Nodup) (walked : PIS X tg iter wi) (blk : L2.BlkOk X.N X.env.scope scope own)
    (asg : ∀ (s : Shared) (H : Hp) (C : Addr) (cl : List (Str × Addr)) (fp : List Addr), PG (X.blk s H scope (compEnvC scope cl C X.env) fp) tg g)
    (tst : ∀ (s : Shared) (H : Hp) (C : Addr) (cl : List (Str × Addr)) (fp : List Addr), PTs (X.blk s H scope (compEnvC scope cl C X.env) fp) ifs tt)
    (elm : ∀ (s : Shared) (H : Hp) (C : Addr) (cl : List (Str × Addr)) (fp : List Addr), PE (X.blk s H scope (compEnvC scope cl C X.env) fp) elt te) (nofold : ∀ x, foldedSetIterable iter X.env x = pure x := by intro _; rfl) :
    PE X (.ListComp elt [⟨tg, iter, ifs, 0⟩] scope pos) (L2.tLc wi g tt te (own.map (·.2))) := by
  refine ⟨fun pins s σ H Q I h => ?_⟩
  rw [eval_ListComp]
  refine lc_walks nd I walked blk asg tst elm nofold h fun D C s' m H' I' q named f => ⟨m, named, fun h'' same => ?_⟩
  obtain ⟨f0, f1, f2, f3, f4, f5⟩ := f
  exact ⟨.ref D, H', I'.turned (t' := s'.toks) (fun b o hb e => (same.2 b hb).trans e) f0 f1 f3 f4 f5, rfl, q⟩
end
section
variable {X : Cx} {W : St → XK} {tg iter elt : Expr} {pos : Pos} {te : TE} {fe : O.Env → Res RV} {tt : TT} {ft : O.Env → Res Bool}
theorem jlcS {ifs : List Expr} {scope : Scope} {wi : TI} {fw : O.Env → Res (List D)} {g : TG} {tgt : Tg} (own : List (Str × Nat)) (nd : X.N.Nodup) (hi : JIS X W tg iter wi fw) (ok : L2.blkC X.N X.env.scope scope own = true)
    (hg : ∀ (s : Shared) (H : Hp) (C : Addr) (cl : List (Str × Addr)) (fp : List Addr), JG (X.blk s H scope (PySem.compEnvC scope cl C X.env) fp) tg g tgt) (ht : ∀ (s : Shared) (H : Hp) (C : Addr) (cl : List (Str × Addr)) (fp : List Addr), JTs (X.blk s H scope (PySem.compEnvC scope cl C X.env) fp) W0 ifs tt ft)
    (he : ∀ (s : Shared) (H : Hp) (C : Addr) (cl : List (Str × Addr)) (fp : List Addr), JE (X.blk s H scope (PySem.compEnvC scope cl C X.env) fp) W0 elt te fe) (hv : ∀ u ∈ slotsT tgt, u ∈ own.map (·.2) := by decide) (hs : ∀ x, foldedSetIterable iter X.env x = pure x := by intro _; rfl) :
    JE X W (.ListComp elt [⟨tg, iter, ifs, 0⟩] scope pos) (L2.tLc wi g tt te (own.map (·.2))) (fLc fw (own.map (·.2)) tgt ft fe) :=
  ⟨pe_lcS nd hi.pi (L2.blkOk_by ok) (fun s H C cl fp => (hg s H C cl fp).pg) (fun s H C cl fp => (ht s H C cl fp).pts) (fun s H C cl fp => (he s H C cl fp).pe) hs, sd_lc hi.si (hg {} (fun _ => none) 0 [] []).gt hv (ht {} (fun _ => none) 0 [] []).st (he {} (fun _ => none) 0 [] []).se⟩
end
end O

/-! Own51: calls with keywords alone -/
namespace O
open PySem
open PyProof.Rows (envOfC AllBare)
open L2 (V Hp HO Rd SqL SqT upd upd_same upd_ne ne_of ne_of_none TE TT TA TS TG TGs TI TO It VK XK Ends St PE PA PK Cx tCons tNil Sp Gl Room Vals RelV Env0)
/-- in another sequence -/
def permL {α : Type} (π : List Nat) (xs : List α) : List α := π.filterMap fun i => xs[i]?
theorem perm_vals {π : List Nat} {vs : List V} {us : List Value} (r : Vals vs us) : Vals (permL π vs) (permL π us) := by
  induction π with
  | nil => exact .nil
  | cons i π ih =>
    unfold permL at ih ⊢
    rw [List.filterMap_cons, List.filterMap_cons]
    cases e : vs[i]? with
    | none =>
      have : us[i]? = none := by
        rw [List.getElem?_eq_none_iff] at e ⊢
        rw [← r.length]; exact e
      simp only [this]
      exact ih
    | some v =>
      obtain ⟨u, hu, rv⟩ := r.get e
      simp only [hu]
      exact .cons rv ih
section
variable {K : PySem.W.Frag} {W : St → XK}
theorem RVs.at {Hd : Hp} {σ : St} : ∀ {rs : List RV} {vs : List V} (i : Nat), RVs K Hd σ rs vs → ∀ r, rs[i]? = some r → ∃ v, vs[i]? = some v ∧ RVs K Hd σ [r] [v]
  | _, _, _, .nil, _, e => by simp at e
  | _, _, 0, .val h q, _, e => by simp at e; subst e; exact ⟨_, rfl, .val h .nil⟩
  | _, _, 0, .bor h q, _, e => by simp at e; subst e; exact ⟨_, rfl, .bor h .nil⟩
  | _, _, i + 1, .val h q, r, e => by simpa using RVs.at i q r (by simpa using e)
  | _, _, i + 1, .bor h q, r, e => by simpa using RVs.at i q r (by simpa using e)
theorem RVs.perm {Hd : Hp} {σ : St} {rs : List RV} {vs : List V} (q : RVs K Hd σ rs vs) (π : List Nat) : RVs K Hd σ (permL π rs) (permL π vs) := by
  induction π with
  | nil => exact .nil
  | cons i π ih =>
    unfold permL at ih ⊢
    rw [List.filterMap_cons, List.filterMap_cons]
    cases e : rs[i]? with
    | none =>
      have : vs[i]? = none := by
        rw [List.getElem?_eq_none_iff] at e ⊢
        rw [← q.length]; exact e
      simp only [this]
      exact ih
    | some r =>
      obtain ⟨v, hv, rv⟩ := q.at i r e
      simp only [hv]
      exact RVs.app (rs := [r]) (vs := [v]) rv ih
def tPerm (m : Nat) (π : List Nat) (t : TA) : TA := fun σ H Q => t σ H fun zs H1 => zs.length = m ∧ Q (permL π zs) H1
def fPerm (m : Nat) (π : List Nat) (f : O.Env → Res (List RV)) : O.Env → Res (List RV) := fun ρ => (f ρ).bind fun rs ρ1 => if rs.length = m then .ok (permL π rs) ρ1 else .no
theorem sd_perm {m : Nat} {π : List Nat} {t : TA} {f : O.Env → Res (List RV)} (h : Sd K W (rA K) t f) : Sd K W (rA K) (tPerm m π t) (fPerm m π f) := fun C fp Hd H σ ρ I Q p =>
  h.run I p fun rs vs fp1 Hd1 H1 ρ1 s1 I1 r1 p => by
    have r1 : RVs K Hd1 σ rs vs := r1
    by_cases hm : rs.length = m
    · rw [if_pos hm] at p
      exact ⟨by rw [← r1.length]; exact hm, p _ fp1 Hd1 H1 (.refl _ _ _) I1 (r1.perm π)⟩
    · rw [if_neg hm] at p; exact p.elim
end
section
variable {P : Program} {w : World} {K : PySem.W.Frag} {mg : Str → Option Value} {base : Heap}
/-- a def that is called with the keywords ks; π: where each parameter stands among them -/
structure CalK (P : Program) (w : World) (K : PySem.W.Frag) (mg : Str → Option Value) (base : Heap) (x : Str) (k n : Nat) (ks : List Str) (π : List Nat) (F : List Ar → FO) : Prop where
  ex : ∃ fA : Addr, (∀ (A : Around) (outer : List PySem.Env) (s : Shared) (H : Hp) (ws : List Value) (zs : List V) (Q : VK) (E : XK), RoomG k A → Env0 P w K mg base A outer s H → Vals zs ws → zs.length = ks.length → spF K n F (permL π zs) H Q E →
    codeAny (model P w) A (.call (.ref fA) ⟨[], ks.zip ws⟩) (L2.CR (L2.CX P w) outer P w H s Q E) s) ∧ mg x = some (.ref fA) ∧ PySem.W.keepIn K (.ref fA) = true
theorem calK_of {x : Str} {k n : Nat} {fA : Addr} {fd : FuncData} {ps : List Str} {st : Stmt} {F : List Ar → FO} (ks : List Str) (π : List Nat) (U : L2.Fun K x x st fA fd) (gm : mg x = some (.ref fA)) (G : FnG P w K mg base k fA fd ps (spF K n F))
    (hb : ∀ (kV doc pm : Value) (an : Option Addr) (cdv ct : Value) (ws : List Value), ws.length = ks.length → bindArgs (PySem.W.fnOf x x (L2.defArgs st) (L2.defBody st) (L2.defScope st) .none kV doc pm an cdv ct) ⟨[], ks.zip ws⟩ = pure (ps.zip (permL π ws))) : CalK P w K mg base x k n ks π F := by
  refine ⟨fA, fun A outer s H ws zs Q E room e0 r many prom => ?_, gm, U.kp⟩
  obtain ⟨oc, od, kV, doc, pm, an, cdv, ct, osl, rfl, look, code⟩ := U.ex
  exact G.go A outer s H ⟨[], ks.zip ws⟩ (permL π ws) (permL π zs) Q E room e0 (.of_eq (hb kV doc pm an cdv ct ws (by rw [← r.length]; exact many))) (perm_vals r) prom
/-- a def with a star parameter, its m others by keyword -/
structure CalSK (P : Program) (w : World) (K : PySem.W.Frag) (mg : Str → Option Value) (base : Heap) (x : Str) (k m : Nat) (ks : List Str) (π : List Nat) (F : List Ar → FO) : Prop where
  ex : ∃ fA : Addr, (∀ (A : Around) (outer : List PySem.Env) (s : Shared) (H : Hp) (ws : List Value) (zs : List V) (Q : VK) (E : XK), RoomG k A → Env0 P w K mg base A outer s H → Vals zs ws → zs.length = ks.length → spS K m F (permL π zs) H Q E →
    codeAny (model P w) A (.call (.ref fA) ⟨[], ks.zip ws⟩) (L2.CR (L2.CX P w) outer P w H s Q E) s) ∧ mg x = some (.ref fA) ∧ PySem.W.keepIn K (.ref fA) = true
theorem perm_len {α : Type} {π : List Nat} {xs : List α} (h : ∀ i ∈ π, i < xs.length) : (permL π xs).length = π.length := by
  induction π with
  | nil => rfl
  | cons i π ih =>
    have hi := h i (by simp)
    have q := ih fun j hj => h j (by simp [hj])
    unfold permL at q ⊢
    rw [List.filterMap_cons, List.getElem?_eq_getElem hi]
    simp only [List.length_cons, q]
theorem calSK_of {x pv : Str} {fA : Addr} {N ps : List Str} {k n m : Nat} {st : Stmt} {params : Arguments} {g : O.Env → SR} {oc kV doc pm cdv ct : Value} {an od : Option Addr} {osl : Array (Option Value)} (ks : List Str) (π : List Nat)
    (lk : K.lookup fA = some ⟨oc, od, .func (PySem.W.fnOf x x params (L2.defBody st) (L2.defScope st) .none kV doc pm an cdv ct), osl⟩) (hcd : PySem.W.codeIn K cdv x = true) (kp : PySem.W.keepIn K (.ref fA) = true) (S : L2.FnScope N (ps ++ [pv]) (L2.defScope st)) (gm : mg x = some (.ref fA)) (hN : N.length = n) (hp : ps.length = m) (hmn : m + 1 ≤ n) (hπ : ∀ i ∈ π, i < ks.length) (hl : π.length = m)
    (hb : ∀ ws : List Value, ws.length = ks.length → bindArgs (PySem.W.fnOf x x params (L2.defBody st) (L2.defScope st) .none kV doc pm an cdv ct) ⟨[], ks.zip ws⟩ = (newTuple [] >>= fun t => pure (ps.zip (permL π ws) ++ [(pv, t)])))
    (hB : ∀ (A : Around) (outer : List PySem.Env) (s : Shared) (H : Hp) (E : XK), RoomG k (A.deeper (envOfC x (L2.defScope st) s.heap.objs.size fA cdv)) → ∃ t, JB (bx P w K mg base N x st fA cdv A outer s H E) (fun _ => E) (L2.defBody st) t g) :
    CalSK P w K mg base x (k + 1) m ks π (runF n g) := by
  refine ⟨fA, fun A outer s H ws zs Q E room e0 r many ⟨vs, rest, ev, hv, _, hq⟩ => ?_, gm, kp⟩
  have free : H s.heap.objs.size = none := e0.hok.fresh (Nat.le_refl _)
  have many' : ws.length = ks.length := by rw [← r.length]; exact many
  have lz : (permL π zs).length = m := by rw [perm_len (by rw [many]; exact hπ), hl]
  have lw : (permL π ws).length = m := by rw [perm_len (by rw [many']; exact hπ), hl]
  have er : rest = [] := by
    have := congrArg List.length ev
    rw [List.length_append, lz, hv] at this
    exact List.length_eq_zero_iff.mp (by omega)
  subst er
  rw [List.append_nil] at ev
  subst ev
  have rr := perm_vals (π := π) r
  refine StX.run_bnd lk hcd S room.room e0 (G := fun xs H2 => ∃ p, H p = none ∧ xs = permL π zs ++ [V.ref p] ∧ H2 = upd H p (.tup [])) (fun A' Ex Q' h => ?_) fun s2 H2 xs ⟨p, hpn, ex, eH⟩ hr' => ?_
  · rw [hb ws many']
    refine wpAny_bind (wpAny_newTuple (wpAny_pure ?_) (Nat.zero_le _))
    have put : L2.ObjOk P w (upd H s.heap.objs.size (.tup [])) (s.heap.push ({ cls := .type "tuple", data := .seq ([] : List Value).toArray } : Obj)) s.heap.objs.size (.tup []) := ⟨Nat.zero_le _, [], .nil, ⟨_, Heap.get?_push_size _ rfl, rfl, _, rfl⟩⟩
    have grown := StX.un_laid (fs := L2.frs outer) (s := s) (o := ({ cls := .type "tuple", data := .seq ([] : List Value).toArray } : Obj)) (u := .tup []) free
    have got := h _ _ (permL π zs ++ [V.ref s.heap.objs.size]) (permL π ws ++ [Value.ref s.heap.objs.size]) (StX.env0_laid e0 put) grown rfl (fun e s' => StX.cxUp outer s H _ _ E e s' grown (fun b o q => Heap.get?_push_of_some _ q) rfl) (rr.append (.cons rfl .nil))
      (by rw [List.length_append, List.length_append, lz, hp]; rfl) ⟨_, free, rfl, rfl⟩
    rw [List.zip_append (by rw [lw, hp])] at got
    exact got
  · subst ex eH
    obtain ⟨t, jb⟩ := hB A outer s2 _ E ⟨hr', room.gd⟩
    exact ⟨t, jb.pss, body_ok hN hmn jb.ss (hq p hpn)⟩
end
structure JK (X : Cx) (W : St → XK) (kws : List Keyword) (t : TA) (f : O.Env → Res (List RV)) : Prop where
  pk : PK X kws t
  sa : Sd X.K W (rA X.K) t f
section
variable {X : Cx} {W : St → XK} {e : Expr} {kws : List Keyword} {nm : Option Str} {kpos p pos : Pos} {te : TE} {fe : O.Env → Res RV} {t : TA} {f : O.Env → Res (List RV)}
theorem jknil : JK X W [] tNil aNil := ⟨L2.pk_nil, sa_nil⟩
theorem jkcons (ha : JE X W e te fe) (hr : JK X W kws t f) : JK X W (⟨nm, e, kpos⟩ :: kws) (tCons te t) (aCons fe f) := ⟨L2.pk_cons ha.pe hr.pk, sa_cons ha.se hr.sa⟩
theorem jcalK {K : PySem.W.Frag} {x : Str} {k j n : Nat} {ks : List Str} {π : List Nat} {F : List Ar → FO} (ms : List Md) (c : CalK X.prog X.w X.K X.mg X.base x k n ks π F) (hr : RoomG j X.A) (tk : ∀ σ, L2.PassesAt (L2.CX X.prog X.w) X σ (W σ)) (ha : JK X W kws t f) (hj : k ≤ j := by first | decide | omega) (hl : ms.length = n := by rfl) (hg : Gl X x := by rfl)
    (hdb : (x == ("__debug__" : Str)) = false := by decide) (hall : (backToKw pos (keywordEach kws X.env)).all (·.1.isSome) = true := by rfl) (hks : (backToKw pos (keywordEach kws X.env)).filterMap (·.1) = ks := by rfl)
    (hpl : ((backTo pos (starEach [] X.env)).any (·.1) || (backToKw pos (keywordEach kws X.env)).any (·.1.isNone)) = false := by rfl) (hK : X.K = K := by rfl) :
    JE X W (.Call (.Name x p) [] kws pos) (L2.tCallSD (spF K n F) [] W (tPerm ks.length π t)) (fCall ms [] F (fPerm ks.length π f)) := by
  subst hK
  obtain ⟨fA, go, h2, h3⟩ := c.ex
  refine ⟨⟨fun pins s σ H Q I h => ?_⟩, sd_call hl (fun _ => .nil) (sd_perm ha.sa)⟩
  refine wpAny_Call_Name_kw (L2.ld_glob I hg h2 ?_ hdb)
  refine PySem.W.callWith_KW0 (h₀ := X.base) I.ok.mod.kin h3 hall (L2.thn (ha.pk.run pos pins s σ H _ I h) fun ws s1 ⟨zs, H1, I1, r, many, q⟩ => ⟨I1.kIn, ?_⟩) hpl
  rw [hks]
  have q : spF X.K n F (permL π zs ++ []) H1 Q (W σ) := q
  rw [List.append_nil] at q
  refine wpAny_call (codeAny_mono (go X.A X.stack s1 H1 ws zs Q (W σ) (hr.mono hj) I1.env0 r many q) fun r s' hq => ?_)
  rcases r with e | fl
  · exact tk σ pins H1 s1 e s' I1 hq
  · cases fl with
    | ret u => exact I1.after hq
    | next => exact hq.elim
    | brk => exact hq.elim
    | cont => exact hq.elim
theorem jcalSK {K : PySem.W.Frag} {x : Str} {k j m : Nat} {ks : List Str} {π : List Nat} {F : List Ar → FO} (ms : List Md) (c : CalSK X.prog X.w X.K X.mg X.base x k m ks π F) (hr : RoomG j X.A) (tk : ∀ σ, L2.PassesAt (L2.CX X.prog X.w) X σ (W σ)) (ha : JK X W kws t f) (hj : k ≤ j := by first | decide | omega) (hl : ms.length = m + 1 := by rfl) (hg : Gl X x := by rfl)
    (hdb : (x == ("__debug__" : Str)) = false := by decide) (hall : (backToKw pos (keywordEach kws X.env)).all (·.1.isSome) = true := by rfl) (hks : (backToKw pos (keywordEach kws X.env)).filterMap (·.1) = ks := by rfl)
    (hpl : ((backTo pos (starEach [] X.env)).any (·.1) || (backToKw pos (keywordEach kws X.env)).any (·.1.isNone)) = false := by rfl) (hK : X.K = K := by rfl) :
    JE X W (.Call (.Name x p) [] kws pos) (L2.tCallSD (spF K (m + 1) F) [] W (tStarA m (tPerm ks.length π t))) (fCall ms [] F (fStarA m (fPerm ks.length π f))) := by
  subst hK
  obtain ⟨fA, go, h2, h3⟩ := c.ex
  refine ⟨⟨fun pins s σ H Q I h => ?_⟩, sd_call hl (fun _ => .nil) (sd_starA (sd_perm ha.sa))⟩
  refine wpAny_Call_Name_kw (L2.ld_glob I hg h2 ?_ hdb)
  refine PySem.W.callWith_KW0 (h₀ := X.base) I.ok.mod.kin h3 hall (L2.thn (ha.pk.run pos pins s σ H _ I h) fun ws s1 ⟨zs, H1, I1, r, many, q⟩ => ⟨I1.kIn, ?_⟩) hpl
  rw [hks]
  have q' : spS X.K m F (permL π zs) H1 Q (W σ) := by
    obtain ⟨vs, rest, e1, e2, e3, q⟩ := q
    refine ⟨vs, rest, e1, e2, e3, fun b hb => ?_⟩
    have z : spF X.K (m + 1) F ((vs ++ [V.ref b]) ++ []) (upd H1 b (HO.tup rest)) Q (W σ) := q b hb
    rwa [List.append_nil] at z
  refine wpAny_call (codeAny_mono (go X.A X.stack s1 H1 ws zs Q (W σ) (hr.mono hj) I1.env0 r many q') fun r s' hq => ?_)
  rcases r with e | fl
  · exact tk σ pins H1 s1 e s' I1 hq
  · cases fl with
    | ret u => exact I1.after hq
    | next => exact hq.elim
    | brk => exact hq.elim
    | cont => exact hq.elim
end
end O

/-! Own52: a walk over what is a list or a tuple -/
namespace O
open PySem
open L2 (V Hp HO Rd SqL SqT upd upd_same upd_ne ne_of ne_of_none TE TT TA TS TG TI It VK XK Ends St PE PI Cx Itl Itt)
def iSeq (K : PySem.W.Frag) (te : TE) : TI := fun σ H R => te σ H fun x H1 => ∃ a, x = .ref a ∧ (((∃ xs, SqL K H1 a xs) ∧ R (Itl K a) H1) ∨ ((∃ xs, SqT K H1 a xs) ∧ R (Itt K a) H1))
def gItS : D → Option (List D)
  | .lst ds => some ds
  | .tup ds => some ds
  | _ => none
theorem pi_seq {X : Cx} {tg l : Expr} {tl : TE} (hl : PE X l tl) : PI X tg l (iSeq X.K tl) := by
  refine ⟨fun pins s σ H R I h => L2.thn (hl.run pins s σ H _ I h) fun v s1 got => ?_⟩
  obtain ⟨x, H1, I1, rv, a, ex, both⟩ := got
  subst ex
  obtain rfl : v = Value.ref a := rv
  have young : ∀ b, b ∈ [s1.heap.objs.size] → L2.FpOk X pins H1 b := fun b hb => by
    rw [List.mem_singleton.mp hb]
    exact I1.fpOk (Nat.le_refl _) (I1.hok.fresh (Nat.le_refl _))
  rcases both with ⟨⟨xs, sq⟩, go⟩ | ⟨⟨xs, sq⟩, go⟩
  · obtain ⟨its, _, pl, _⟩ := I1.list sq
    exact wpAny_pyIter_list pl.isList ⟨_, _, _, _, H1, rfl, I1.kept (t' := s1.toks) fun b o e => Heap.get?_push_of_some _ e, L2.turn_list a _, ⟨_, Heap.get?_push_size _ rfl, rfl, rfl⟩, young, go⟩
  · obtain ⟨its, _, pl, _⟩ := I1.tuple sq
    exact wpAny_pyIter_tuple (show s1.heap.IsTuple a its.toArray from pl) ⟨_, _, _, _, H1, rfl, I1.kept (t' := s1.toks) fun b o e => Heap.get?_push_of_some _ e, L2.turn_tuple a _, ⟨_, Heap.get?_push_size _ rfl, rfl, rfl⟩, young, go⟩
section
variable {K : PySem.W.Frag} {W : St → XK}
theorem si_seq {te : TE} {fe : O.Env → Res RV} (he : Sd K W (rV K) te fe) : Si K W (iSeq K te) (fWalk fe gItS) :=
  si_of (k := fun x H1 R => ∃ a, x = .ref a ∧ (((∃ xs, SqL K H1 a xs) ∧ R (Itl K a) H1) ∨ ((∃ xs, SqT K H1 a xs) ∧ R (Itt K a) H1))) he rfl fun C Hs fp Hd H σ ρ d ds v I hr eg R p => by
    cases d with
    | lst es =>
      cases eg
      obtain ⟨a, xs, rfl, many, h⟩ := rWk_rd hr
      refine ⟨a, rfl, .inl ⟨⟨xs, .inl (h _ _ _ _ _ I (.refl _)).1⟩, p _ ?_⟩⟩
      unfold WalkD
      rw [← many]
      refine L2.walk_list.mono (fun H' ⟨fp', Hd', σ', ρ', I', l'⟩ => .inl (h _ _ _ _ _ I' l').1) fun i H' x H'' hi ⟨fp', Hd', σ', ρ', I', l'⟩ ⟨same, at'⟩ => ?_
      subst same
      obtain ⟨d, hd, _⟩ := (h _ _ _ _ _ I' l').2.get' at'
      refine ⟨d, hd, fun fp3 Hd3 σ3 ρ3 I3 l3 => ?_⟩
      obtain ⟨d', hd', r'⟩ := (h _ _ _ _ _ I3 l3).2.get' at'
      cases hd.symm.trans hd'
      exact newR_here I3.le r'
    | tup es =>
      cases eg
      have h := rWk_rep rfl hr
      cases h _ _ _ _ _ I (.refl _) with
      | tup hq r0 =>
        rename_i a xs
        refine ⟨a, rfl, .inr ⟨⟨xs, I.le.sqT hq⟩, p _ ?_⟩⟩
        unfold WalkD
        rw [← r0.length]
        refine L2.walk_tup.mono (fun H' ⟨fp', Hd', σ', ρ', I', l'⟩ => I'.le.sqT (l'.sqT hq)) fun i H' x H'' hi ⟨fp', Hd', σ', ρ', I', l'⟩ ⟨same, at'⟩ => ?_
        subst same
        obtain ⟨d, hd, rd⟩ := r0.get' at'
        exact ⟨d, hd, fun fp3 Hd3 σ3 ρ3 I3 l3 => newR_here I3.le (rd.mono l3)⟩
    | _ => cases eg
end
theorem jis {X : Cx} {W : St → XK} {tg e : Expr} {te : TE} {fe : O.Env → Res RV} {K : PySem.W.Frag} (h : JE X W e te fe) (hK : X.K = K := by rfl) : JI X W tg e (iSeq K te) (fWalk fe gItS) := by
  subst hK
  exact ⟨pi_seq h.pe, si_seq h.se⟩
end O

namespace K08
open PySem O
/-! ### what each def computes -/
def g_is_integer : O.Env → SR := (gRet (fAndV (f1 (fVar 0) (gIsi "int")) (fNotV (f1 (fVar 0) (gIsi "bool")))))
def F_is_integer : List Ar → FO := runF 1 g_is_integer
def g_is_id : O.Env → SR := (gRet (fAndV (fCall [.br] [] F_is_integer (aCons (fVar 0) aNil)) (fChain (fC (.int 1)) (fVar 0) (fC (.int 1000000)) gLe gLe)))
def F_is_id : List Ar → FO := runF 1 g_is_id
def g_is_item : O.Env → SR := (gSeq (gIf (fOr (fNot (fB (f1 (fVar 0) (gIsi "tuple")))) (fOr (fB (f2 (fCB (aCons (fVar 0) aNil) gLen) (fC (.int 2)) gNeE)) (fNot (fB (fCall [.br] [] F_is_id (aCons (f2 (fVar 0) (fC (.int 0)) gIx) aNil)))))) (gRet (fC (.bl false))) gNext)
  (gSeq (gSet 2 (f2 (fVar 0) (fC (.int 1)) gIx))
  (gSeq (gIf (fOr (fNot (fB (f1 (fVar 2) (gIsi "tuple")))) (fB (f2 (fCB (aCons (fVar 2) aNil) gLen) (fVar 1) gNeE))) (gRet (fC (.bl false))) gNext)
  (gRet (fCB (aCons (fLc (fWalk (fVar 2) gItT) [3] (.name 3) fYes (fAndV (fCall [.br] [] F_is_integer (aCons (fVar 3) aNil)) (fChain (f1 (fC (.int 1000000000)) gNeg) (fVar 3) (fC (.int 1000000000)) gLe gLe))) aNil) gAll)))))
def F_is_item : List Ar → FO := runF 4 g_is_item
def g_is_rule : O.Env → SR := (gSeq (gIf (fOr (fNot (fB (f1 (fVar 0) (gIsi "tuple")))) (fNot (fB (fCB (aCons (fLc (fWalk (fVar 0) gItT) [3] (.name 3) fYes (fCall [.br] [] F_is_integer (aCons (fVar 3) aNil))) aNil) gAll)))) (gRet (fC (.bl false))) gNext)
  (gSeq (gSet 2 (fLc (fWalk (fVar 0) gItT) [3] (.name 3) fYes (fCB (aCons (fVar 3) aNil) gAbs)))
  (gRet (fAndV (f2 (f1 (fVar 2) gLenSetA) (fCB (aCons (fVar 2) aNil) gLen) gEqE) (fCB (aCons (fLc (fWalk (fVar 2) gItL) [3] (.name 3) fYes (fChain (fC (.int 1)) (fVar 3) (fVar 1) gLe gLe)) aNil) gAll)))))
def F_is_rule : List Ar → FO := runF 4 g_is_rule
def g_sort_key : O.Env → SR := (gRet (f2 (fCB (aCons (fLc (fWalk (fVar 0) gItT) [3] (.name 3) fYes (fIf (fB (f2 (fVar 3) (fC (.int 0)) gGtT)) (f2 (fVar 2) (f2 (fVar 3) (fC (.int 1)) gSubX) gIx) (f1 (f2 (fVar 2) (f2 (f1 (fVar 3) gNeg) (fC (.int 1)) gSubX) gIx) gNeg))) aNil) gTuple) (fTup (iCons (fVar 1) aNil)) gAdd))
def F_sort_key : List Ar → FO := runF 4 g_sort_key
def g_compare_items : O.Env → SR := (gSeq (gParN [3, 4] (hCons (fCall [.br, .br, .br] [] F_sort_key (aCons (fVar 0) (aCons (f2 (fVar 1) (fC (.int 0)) gIx) (aCons (f2 (fVar 1) (fC (.int 1)) gIx) aNil)))) (hCons (fCall [.br, .br, .br] [] F_sort_key (aCons (fVar 0) (aCons (f2 (fVar 2) (fC (.int 0)) gIx) (aCons (f2 (fVar 2) (fC (.int 1)) gIx) aNil)))) hNil)))
  (gRet (f2 (f2 (fVar 3) (fVar 4) gGtT) (f2 (fVar 3) (fVar 4) gLtT) gSubX)))
def F_compare_items : List Ar → FO := runF 5 g_compare_items
def g_rule_order : O.Env → SR := (gRet (fLc (fWalk (fCB (aCons (fLc (fWalk (fVar 1) gItK) [3] (.name 3) fYes (fCall [.br, .br, .br] [] F_sort_key (aCons (fVar 0) (aCons (fVar 3) (aCons (f2 (fVar 1) (fVar 3) gDGet) aNil))))) aNil) gSortedT) gItL) [2] (.name 2) fYes (f2 (fVar 2) (f1 (fC (.int 1)) gNeg) gIx)))
def F_rule_order : List Ar → FO := runF 4 g_rule_order
def g_are_ids : O.Env → SR := (gRet (fAndV (fCB (aCons (fLc (fWalk (fVar 0) gItS) [1] (.name 1) fYes (fCall [.br] [] F_is_id (aCons (fVar 1) aNil))) aNil) gAll) (f2 (f1 (fVar 0) gLenSetA) (fCB (aCons (fVar 0) aNil) gLen) gEqE)))
def F_are_ids : List Ar → FO := runF 2 g_are_ids
def g_is_order : O.Env → SR := (gRet (fAndV (f1 (fVar 0) (gIsi "list")) (fCall [.br] [] F_are_ids (aCons (fVar 0) aNil))))
def F_is_order : List Ar → FO := runF 1 g_is_order
def g_is_move : O.Env → SR := (gSeq (gIf (fOr (fNot (fB (f1 (fVar 1) (gIsi "tuple")))) (fB (f2 (fCB (aCons (fVar 1) aNil) gLen) (fC (.int 2)) gNeE))) (gRet (fC (.bl false))) gNext)
  (gSeq (gAsg (.tup [(.name 2), (.name 3)]) (fVar 1))
  (gSeq (gIf (fOr (fNot (fB (f1 (fVar 2) (gIsi "tuple")))) (fOr (fB (f2 (fVar 2) (fTup aNil) gEqE)) (fOr (fNot (fB (fCall [.br] [] F_are_ids (aCons (fVar 2) aNil)))) (fNot (fB (fCB (aCons (fLc (fWalk (fVar 2) gItT) [4] (.name 4) fYes (f2 (fVar 4) (fVar 0) gIn)) aNil) gAll)))))) (gRet (fC (.bl false))) gNext)
  (gRet (fAndV (fCall [.br] [] F_is_integer (aCons (fVar 3) aNil)) (fOrV (f2 (fVar 3) (fC (.int 0)) gEqE) (fAndV (f2 (fVar 3) (fVar 0) gIn) (f2 (fVar 3) (fVar 2) gNotIn))))))))
def F_is_move : List Ar → FO := runF 5 g_is_move
noncomputable def g_do_move (cBadMove : Addr) : O.Env → SR := (gSeq (gIf (fNot (fB (fCall [.br, .br] [] F_is_move (aCons (fVar 0) (aCons (fVar 1) aNil))))) (gRaise cBadMove "value" (fVar 1)) gNext)
  (gSeq (gAsg (.tup [(.name 2), (.name 3)]) (fVar 1))
  (gSeq (gSet 4 (fLc (fWalk (fVar 0) gItL) [6] (.name 6) (fB (f2 (fVar 6) (fVar 2) gNotIn)) (fVar 6)))
  (gSeq (gSet 5 (fIf (fB (f2 (fVar 3) (fC (.int 0)) gEqE)) (fC (.int 0)) (f2 (fBM (fVar 4) (aCons (fVar 3) aNil) gIndex) (fC (.int 1)) gAdd)))
  (gRet (f2 (f2 (fSl (fVar 4) fNoPart (fPart (fVar 5)) gSl) (fCB (aCons (fVar 2) aNil) gList) gAdd) (fSl (fVar 4) (fPart (fVar 5)) fNoPart gSl) gAdd))))))
noncomputable def F_do_move (cBadMove : Addr) : List Ar → FO := runF 7 (g_do_move cBadMove)
noncomputable def g_do_moves (cBadMove : Addr) : O.Env → SR := (gSeq (gSet 2 (fCB (aCons (fVar 0) aNil) gList))
  (gSeq (gFor (fWalk (fVar 1) gItT) (.name 3)
  (gSet 2 (fCall [.br, .br] [] (F_do_move cBadMove) (aCons (fVar 2) (aCons (fVar 3) aNil)))))
  (gRet (fVar 2))))
noncomputable def F_do_moves (cBadMove : Addr) : List Ar → FO := runF 4 (g_do_moves cBadMove)
def g_law_deck : O.Env → SR := (gSeq (gSet 2 (f2 (fC (.int 1009)) (f2 (fVar 1) (fC (.int 57)) gMulI) gAdd))
  (gSeq (gFor (fWalk (fVar 0) gItL) (.name 3)
  (gSet 2 (f2 (f2 (f2 (f2 (f2 (f2 (fVar 2) (fC (.int 20011)) gMulI) (f2 (fVar 3) (fVar 3) gMulI) gAdd) (fC (.int 13)) gAdd) (fC (.int 2)) gPow) (fC (.int 2147483549)) gMod) (fC (.int 3)) gAdd)))
  (gSeq (gSet 4 (fIf (fAnd (fB (f2 (fVar 1) (fCB (aCons (fVar 0) aNil) gLen) gLtT)) (fB (f2 (f2 (fVar 0) (fVar 1) gIx) (f2 (fC (.int 10)) (fC (.int 18)) gPow) gGe))) (f2 (f2 (fVar 0) (fVar 1) gIx) (f2 (fC (.int 10)) (fC (.int 18)) gPow) gSubX) (fC (.int 0))))
  (gRet (fDisp (pCons (fC (.str "digits")) (fVar 4) (pCons (fC (.str "mixed")) (fVar 2) pNil)))))))
def F_law_deck : List Ar → FO := runF 5 g_law_deck
def g_law_draw : O.Env → SR := (gSeq (gIf (fB (f2 (f2 (fVar 0) (fC (.str "digits")) gDGet) (fVar 1) gGe)) (gSeq (gSet 2 (f2 (f2 (fVar 0) (fC (.str "digits")) gDGet) (fVar 1) gMod))
    (gSeq (gPutI 0 (fC (.str "digits")) (f2 (f2 (fVar 0) (fC (.str "digits")) gDGet) (fVar 1) gFdiv))
    (gRet (fVar 2)))) gNext)
  (gSeq (gPutI 0 (fC (.str "mixed")) (f2 (f2 (f2 (f2 (fVar 0) (fC (.str "mixed")) gDGet) (fC (.int 39373)) gMulI) (fC (.int 2027)) gAdd) (fC (.int 2147483549)) gMod))
  (gRet (f2 (f2 (f2 (f2 (f2 (f2 (f2 (fVar 0) (fC (.str "mixed")) gDGet) (fC (.int 2)) gPow) (fC (.int 2147483423)) gMod) (fC (.int 3)) gPow) (fC (.int 998244353)) gMod) (fC (.int 7)) gFdiv) (fVar 1) gMod))))
def F_law_draw : List Ar → FO := runF 3 g_law_draw
def g_law_choose : O.Env → SR := (gRet (f2 (fVar 1) (fCall [.io, .br] [] F_law_draw (aCons (fVar 0) (aCons (fCB (aCons (fVar 1) aNil) gLen) aNil))) gIx))
def F_law_choose : List Ar → FO := runF 2 g_law_choose
def g_law_same : O.Env → SR := (gRet (f2 (fLc (fWalk (fVar 0) gItL) [1] (.name 1) (fB (f2 (fCB (aCons (f2 (fVar 1) (fC (.int 0)) gIx) aNil) gReprA) (fCB (aCons (f2 (fVar 1) (fC (.int 1)) gIx) aNil) gReprA) gNeE)) (fVar 1)) (fLst aNil) gEqE))
def F_law_same : List Ar → FO := runF 2 g_law_same
noncomputable def b0_law (cBadMove : Addr) : O.Env → SR := (gSeq (gSetL 4 (fDisp (pCons (fC (.int 3)) (fTup (iCons (fC (.int 1)) (iCons (fC (.int 2)) aNil))) (pCons (fC (.int 7)) (fTup (iCons (fCall [.io, .br] [] F_law_draw (aCons (fVar 2) (aCons (fC (.int 3)) aNil))) (iCons (fC (.int 2)) aNil))) (pCons (fC (.int 5)) (fTup (iCons (fC (.int 1)) (iCons (fCall [.io, .br] [] F_law_draw (aCons (fVar 2) (aCons (fC (.int 4)) aNil))) aNil))) pNil)))))
      (gSeq (gSet 5 (fCall [.io, .br] [] F_law_choose (aCons (fVar 2) (aCons (fLst (iCons (fTup aNil) (iCons (fTup (iCons (fC (.int 1)) aNil)) (iCons (fTup (iCons (f2 (fC (.int 0)) (fC (.int 2)) gSubX) (iCons (fC (.int 1)) aNil))) (iCons (fTup (iCons (fC (.int 2)) aNil)) aNil))))) aNil))))
      (gSeq (gParN [6, 7] (hCons (fTup (iCons (fC (.int 3)) (iCons (f2 (fVar 4) (fC (.int 3)) gDGet) aNil))) (hCons (fTup (iCons (fC (.int 5)) (iCons (f2 (fVar 4) (fC (.int 5)) gDGet) aNil))) hNil)))
      (gSeq (gParN [8, 9] (hCons (fLst (iCons (fC (.int 3)) (iCons (fC (.int 7)) (iCons (fC (.int 5)) aNil)))) (hCons (fTup (iCons (fTup (iCons (fC (.int 7)) aNil)) (iCons (fCall [.io, .br] [] F_law_choose (aCons (fVar 2) (aCons (fLst (iCons (fC (.int 0)) (iCons (fC (.int 3)) (iCons (fC (.int 5)) aNil)))) aNil))) aNil))) hNil)))
      (gSeq (gSet 10 (fLst (iCons (fTup (iCons (fCall [.br, .br] [] F_is_item (fPerm 2 [1, 0] (aCons (fC (.int 2)) (aCons (fVar 6) aNil)))) (iCons (fCall [.br, .br] [] F_is_item (aCons (fVar 6) (aCons (fC (.int 2)) aNil))) aNil))) (iCons (fTup (iCons (fCall [.br, .br] [] F_is_rule (fPerm 2 [1, 0] (aCons (fC (.int 2)) (aCons (fVar 5) aNil)))) (iCons (fCall [.br, .br] [] F_is_rule (aCons (fVar 5) (aCons (fC (.int 2)) aNil))) aNil))) aNil))))
      (gSeq (gDrop (fMutL 10 (iCons (fTup (iCons (fCall [.br, .br, .br] [] F_compare_items (fPerm 3 [2, 1, 0] (aCons (fVar 6) (aCons (fVar 7) (aCons (fVar 5) aNil))))) (iCons (fCall [.br, .br, .br] [] F_compare_items (aCons (fVar 5) (aCons (fVar 7) (aCons (fVar 6) aNil)))) aNil))) aNil) gAppend))
      (gSeq (gDrop (fMutL 10 (iCons (fTup (iCons (fCall [.br, .br] [] F_rule_order (fPerm 2 [1, 0] (aCons (fVar 4) (aCons (fVar 5) aNil)))) (iCons (fCall [.br, .br] [] F_rule_order (aCons (fVar 5) (aCons (fVar 4) aNil))) aNil))) aNil) gAppend))
      (gSeq (gDrop (fMutL 10 (iCons (fTup (iCons (fCall [.br] [] F_is_order (fPerm 1 [0] (aCons (fVar 8) aNil))) (iCons (fCall [.br] [] F_is_order (aCons (fVar 8) aNil)) aNil))) aNil) gAppend))
      (gSeq (gDrop (fMutL 10 (iCons (fTup (iCons (fCall [.br, .br] [] F_is_move (fPerm 2 [1, 0] (aCons (fVar 9) (aCons (fVar 8) aNil)))) (iCons (fCall [.br, .br] [] F_is_move (aCons (fVar 8) (aCons (fVar 9) aNil))) aNil))) aNil) gAppend))
      (gSeq (gDrop (fMutL 10 (iCons (fTup (iCons (fCall [.br, .br] [] (F_do_move cBadMove) (fPerm 2 [1, 0] (aCons (fVar 9) (aCons (fVar 8) aNil)))) (iCons (fCall [.br, .br] [] (F_do_move cBadMove) (aCons (fVar 8) (aCons (fVar 9) aNil))) aNil))) aNil) gAppend))
      (gSeq (gDrop (fMutL 10 (iCons (fTup (iCons (fCall [.br, .br] [] (F_do_moves cBadMove) (fStarA 1 (fPerm 1 [0] (aCons (fVar 8) aNil)))) (iCons (fCall [.br, .br] [] (F_do_moves cBadMove) (fStarA 1 (aCons (fVar 8) aNil))) aNil))) aNil) gAppend))
      (gSeq (gDrop (fMutL 10 (iCons (fTup (iCons (fLc (fWalk (fVar 8) gItNb) [11] (.name 11) fYes (fVar 11)) (iCons (fLc (fWalk (fVar 8) gItNb) [11] (.name 11) fYes (fVar 11)) aNil))) aNil) gAppend))
      (gIf (fNot (fB (fCall [.br] [] F_law_same (aCons (fVar 10) aNil)))) (gRet (fC (.bl false))) gNext)))))))))))))
noncomputable def b1_law (cBadMove : Addr) : O.Env → SR := (gSeq (gSet 2 (fCall [.br, .br] [] F_law_deck (aCons (fVar 0) (aCons (fVar 1) aNil))))
    (gFor (fRng1 (aCons (fC (.int 4)) aNil)) (.name 3)
    (b0_law cBadMove)))
noncomputable def g_law (cBadMove : Addr) : O.Env → SR := (gSeq (gFor (fRng1 (aCons (fCB (aCons (fC (.int 1)) (aCons (fCB (aCons (fC (.int 4)) (aCons (fCB (aCons (fVar 0) aNil) gLen) aNil)) gMin) aNil)) gMax) aNil)) (.name 1)
  (b1_law cBadMove))
  (gRet (fC (.bl true))))
noncomputable def F_law (cBadMove : Addr) : List Ar → FO := runF 12 (g_law cBadMove)
/-! ### and does -/
def top (i : Nat) : Stmt := PySem.Challenge.pw_handsorted_k08_arguments_by_name.main.body.getD i (.Pass ⟨0, 0, 0, 0⟩)
abbrev s_is_integer : Stmt := top 6
abbrev s_is_id : Stmt := top 7
abbrev s_is_item : Stmt := top 8
abbrev s_is_rule : Stmt := top 9
abbrev s_sort_key : Stmt := top 10
abbrev s_compare_items : Stmt := top 11
abbrev s_rule_order : Stmt := top 12
abbrev s_are_ids : Stmt := top 14
abbrev s_is_order : Stmt := top 15
abbrev s_is_move : Stmt := top 16
abbrev s_do_move : Stmt := top 17
abbrev s_do_moves : Stmt := top 18
abbrev s_law_deck : Stmt := top 21
abbrev s_law_draw : Stmt := top 22
abbrev s_law_choose : Stmt := top 23
abbrev s_law_same : Stmt := top 24
abbrev s_law : Stmt := top 25
section
variable {P : Program} {w : World} {K : PySem.W.Frag} {mg : PySem.Str → Option Value} {base : Heap} {fA : Addr} {fd : FuncData} {cBadMove : Addr}
abbrev s_neighbours : Stmt := top 19
def p_neighbours : Nat → Pos := fun i => [⟨60, 4, 60, 10⟩, ⟨60, 13, 60, 14⟩, ⟨60, 4, 60, 14⟩, ⟨61, 8, 61, 14⟩, ⟨61, 18, 61, 22⟩, ⟨61, 23, 61, 28⟩, ⟨61, 18, 61, 29⟩, ⟨62, 15, 62, 21⟩, ⟨62, 23, 62, 29⟩, ⟨62, 14, 62, 30⟩, ⟨62, 8, 62, 30⟩, ⟨62, 8, 62, 30⟩, ⟨63, 8, 63, 14⟩, ⟨63, 17, 63, 23⟩, ⟨63, 8, 63, 23⟩, ⟨61, 4, 63, 23⟩].getD i ⟨0, 0, 0, 0⟩
theorem nb_kw (F : L2.Fun K "neighbours" "neighbours" s_neighbours fA fd) (s : Shared) (u : Value) : BindsTo s fd ⟨[], [("order", u)]⟩ [("order", u)] := by
  obtain ⟨oc, od, kV, doc, pm, an, cdv, ct, osl, rfl, look, code⟩ := F.ex
  exact .of_eq rfl
theorem nb_ok (F : L2.Fun K "neighbours" "neighbours" s_neighbours fA fd) (gm : mg "neighbours" = some (.ref fA)) : CalN K mg :=
  ⟨fA, fd, s_neighbours, p_neighbours, F, rfl, ⟨rfl, rfl, rfl, rfl, rfl, rfl, rfl, by decide +kernel⟩, gm, F.binds (ps := ["order"]) fun _ _ _ _ _ _ us hl => match us, hl with | [_], _ => rfl, fun s u => nb_kw F s u⟩
abbrev s_BadMove : Stmt := clsAt (top 2) 0
theorem sc_BadMove : L2.FnScope ["self", "value"] ["self", "value"] (L2.defScope s_BadMove) := ⟨rfl, rfl, rfl, by decide +kernel, rfl, by decide +kernel, by decide +kernel⟩
theorem ini_BadMove {CH : Addr} {mc : Value} (B : BaseI K CH mc) (gm : mg "HandError" = some (.ref CH)) (F : L2.Fun K "__init__" "BadMove.__init__" s_BadMove fA fd) : L2.FnOk P w K mg base (L2.CX P w) 1 fA fd ["self", "value"] (spIni K cBadMove "value") :=
  ini_ok F sc_BadMove fun cdv A outer s H E => L2.pss_cons (L2.ps_expr (pe_baseI B rfl gm (L2.pa_cons (jv (W := W0) 0).pe (L2.pa_cons (jstr (W := W0)).pe L2.pa_nil)))) (L2.pss_one (L2.ps_ost (jv (W := W0) 0).pe (jv (W := W0) 1).pe))
theorem sc_is_integer : L2.FnScope ["value"] ["value"] (L2.defScope s_is_integer) := ⟨rfl, rfl, rfl, by decide +kernel, rfl, by decide +kernel, by decide +kernel⟩
theorem ok_is_integer (F : L2.Fun K "is_integer" "is_integer" s_is_integer fA fd) (gm : mg "is_integer" = some (.ref fA)) (m_isinstance : mg "isinstance" = none) (m_int : mg "int" = none) (m_bool : mg "bool" = none) (i_int : IsiK K "int") (i_bool : IsiK K "bool") : CalG P w K mg base "is_integer" 1 1 ["value"] F_is_integer :=
  have sc := sc_is_integer
  cal_ofG (N := ["value"]) F sc gm rfl rfl (by decide) (F.binds (ps := ["value"]) fun _ _ _ _ _ _ us hl => match us, hl with | [_], _ => rfl) fun cdv A outer s H E hr => ⟨_, (jb1 (jret (jandV (jisi i_int m_isinstance m_int (jv 0)) (joneV (jnotV (jisi i_bool m_isinstance m_bool (jv 0)))))))⟩
theorem sc_is_id : L2.FnScope ["value"] ["value"] (L2.defScope s_is_id) := ⟨rfl, rfl, rfl, by decide +kernel, rfl, by decide +kernel, by decide +kernel⟩
theorem ok_is_id (F : L2.Fun K "is_id" "is_id" s_is_id fA fd) (gm : mg "is_id" = some (.ref fA)) (c_is_integer : CalG P w K mg base "is_integer" 1 1 ["value"] F_is_integer) {t_LAST_ID : Tok} (g_LAST_ID : mg "LAST_ID" = some (.int 1000000 t_LAST_ID)) : CalG P w K mg base "is_id" 2 1 ["value"] F_is_id :=
  have sc := sc_is_id
  cal_ofG (N := ["value"]) F sc gm rfl rfl (by decide) (F.binds (ps := ["value"]) fun _ _ _ _ _ _ us hl => match us, hl with | [_], _ => rfl) fun cdv A outer s H E hr => ⟨_, (jb1 (jret (jandV (jcalG [.br] c_is_integer hr tkB (jacons (jv 0) janil)) (joneV (jchain (op_gLe) (op_gLe) ji (jv 0) (jglob g_LAST_ID ⟨_, rfl⟩))))))⟩
theorem sc_is_item : L2.FnScope ["value", "width", "fields", "field"] ["value", "width"] (L2.defScope s_is_item) := ⟨rfl, rfl, rfl, by decide +kernel, rfl, by decide +kernel, by decide +kernel⟩
theorem fn_is_item (F : L2.Fun K "is_item" "is_item" s_is_item fA fd) (c_is_id : CalG P w K mg base "is_id" 2 1 ["value"] F_is_id) (c_is_integer : CalG P w K mg base "is_integer" 1 1 ["value"] F_is_integer) (m_isinstance : mg "isinstance" = none) (m_tuple : mg "tuple" = none) (m_len : mg "len" = none) (m_all : mg "all" = none) (i_tuple : IsiK K "tuple") {t_LIMIT : Tok} (g_LIMIT : mg "LIMIT" = some (.int 1000000000 t_LIMIT)) : FnG P w K mg base 3 fA fd ["value", "width"] (spF K 2 F_is_item) :=
  have sc := sc_is_item
  def_okG (N := ["value", "width", "fields", "field"]) F sc rfl rfl (by decide) fun cdv A outer s H E hr => ⟨_, (jbcons (jifS (JW.jt (jor (jnot (jval (jisi i_tuple m_isinstance m_tuple (jv 0)))) (jor (jcmpT (op_gNeE (by have := hr.units; exact this)) (jcb cb_len m_len (jacons (jv 0) janil)) ji) (jor1 (jnot (jval (jcalG [.br] c_is_id hr tkB (jacons (jix (jv 0) ji) janil)))))))) (jb1 (jret jbl)) jbnil)
  (jbcons (jset 2 sc.nd (jix (jv 0) ji))
  (jbcons (jifS (JW.jt (jor (jnot (jval (jisi i_tuple m_isinstance m_tuple (jv 2)))) (jor1 (jcmpT (op_gNeE (by have := hr.units; exact this)) (jcb cb_len m_len (jacons (jv 2) janil)) (jv 1))))) (jb1 (jret jbl)) jbnil)
  (jb1 (jret (jcb (cb_all rfl) m_all (jacons (jlc [("field", 3)] rfl sc.nd (jit (jv 2)) (by rfl) (fun s H C cl fp => (jgn 3 sc.nd)) (fun s H C cl fp => jts0) (fun s H C cl fp => (jandV (jcalG [.br] c_is_integer hr tk0 (jacons (jv 3) janil)) (joneV (jchain (op_gLe) (op_gLe) (jneg (jglob g_LIMIT ⟨_, rfl⟩)) (jv 3) (jglob g_LIMIT ⟨_, rfl⟩)))))) janil)))))))⟩
theorem ok_is_item (F : L2.Fun K "is_item" "is_item" s_is_item fA fd) (gm : mg "is_item" = some (.ref fA)) (G : FnG P w K mg base 3 fA fd ["value", "width"] (spF K 2 F_is_item)) : CalG P w K mg base "is_item" 3 2 ["value", "width"] F_is_item :=
  ⟨⟨fA, fd, G, gm, F.kp, F.binds (ps := ["value", "width"]) fun _ _ _ _ _ _ us hl => match us, hl with | [_, _], _ => rfl⟩⟩
theorem okk_is_item (F : L2.Fun K "is_item" "is_item" s_is_item fA fd) (gm : mg "is_item" = some (.ref fA)) (G : FnG P w K mg base 3 fA fd ["value", "width"] (spF K 2 F_is_item)) : CalK P w K mg base "is_item" 3 2 ["width", "value"] [1, 0] F_is_item :=
  calK_of ["width", "value"] [1, 0] F gm G fun _ _ _ _ _ _ ws hl => match ws, hl with | [_, _], _ => rfl
theorem sc_is_rule : L2.FnScope ["value", "width", "columns", "column"] ["value", "width"] (L2.defScope s_is_rule) := ⟨rfl, rfl, rfl, by decide +kernel, rfl, by decide +kernel, by decide +kernel⟩
theorem fn_is_rule (F : L2.Fun K "is_rule" "is_rule" s_is_rule fA fd) (c_is_integer : CalG P w K mg base "is_integer" 1 1 ["value"] F_is_integer) (m_isinstance : mg "isinstance" = none) (m_tuple : mg "tuple" = none) (m_all : mg "all" = none) (m_abs : mg "abs" = none) (m_len : mg "len" = none) (m_set : mg "set" = none) (i_tuple : IsiK K "tuple") : FnG P w K mg base 2 fA fd ["value", "width"] (spF K 2 F_is_rule) :=
  have sc := sc_is_rule
  def_okG (N := ["value", "width", "columns", "column"]) F sc rfl rfl (by decide) fun cdv A outer s H E hr => ⟨_, (jbcons (jifS (JW.jt (jor (jnot (jval (jisi i_tuple m_isinstance m_tuple (jv 0)))) (jor1 (jnot (jval (jcb (cb_all rfl) m_all (jacons (jlc [("column", 3)] rfl sc.nd (jit (jv 0)) (by rfl) (fun s H C cl fp => (jgn 3 sc.nd)) (fun s H C cl fp => jts0) (fun s H C cl fp => (jcalG [.br] c_is_integer hr tk0 (jacons (jv 3) janil)))) janil))))))) (jb1 (jret jbl)) jbnil)
  (jbcons (by first | exact (jsetLc (n := 2) [("column", 3)] rfl sc.nd (jit (jv 0)) (by rfl) (fun s H C cl fp => (jgn 3 sc.nd)) (fun s H C cl fp => jts0) (fun s H C cl fp => (jcb cb_abs m_abs (jacons (jv 3) janil)))) | exact (jset 2 sc.nd (jlc [("column", 3)] rfl sc.nd (jit (jv 0)) (by rfl) (fun s H C cl fp => (jgn 3 sc.nd)) (fun s H C cl fp => jts0) (fun s H C cl fp => (jcb cb_abs m_abs (jacons (jv 3) janil))))))
  (jb1 (jret (jandV (jcmp (op_gEqE (by have := hr.units; exact this)) (jlsA rfl m_len m_set (jv 2)) (jcb cb_len m_len (jacons (jv 2) janil))) (joneV (jcb (cb_all rfl) m_all (jacons (jlc [("column", 3)] rfl sc.nd (jil (jv 2)) (by rfl) (fun s H C cl fp => (jgn 3 sc.nd)) (fun s H C cl fp => jts0) (fun s H C cl fp => (jchain (op_gLe) (op_gLe) ji (jv 3) (jv 1)))) janil))))))))⟩
theorem ok_is_rule (F : L2.Fun K "is_rule" "is_rule" s_is_rule fA fd) (gm : mg "is_rule" = some (.ref fA)) (G : FnG P w K mg base 2 fA fd ["value", "width"] (spF K 2 F_is_rule)) : CalG P w K mg base "is_rule" 2 2 ["value", "width"] F_is_rule :=
  ⟨⟨fA, fd, G, gm, F.kp, F.binds (ps := ["value", "width"]) fun _ _ _ _ _ _ us hl => match us, hl with | [_, _], _ => rfl⟩⟩
theorem okk_is_rule (F : L2.Fun K "is_rule" "is_rule" s_is_rule fA fd) (gm : mg "is_rule" = some (.ref fA)) (G : FnG P w K mg base 2 fA fd ["value", "width"] (spF K 2 F_is_rule)) : CalK P w K mg base "is_rule" 2 2 ["width", "value"] [1, 0] F_is_rule :=
  calK_of ["width", "value"] [1, 0] F gm G fun _ _ _ _ _ _ ws hl => match ws, hl with | [_, _], _ => rfl
theorem sc_sort_key : L2.FnScope ["rule", "row_id", "fields", "column"] ["rule", "row_id", "fields"] (L2.defScope s_sort_key) := ⟨rfl, rfl, rfl, by decide +kernel, rfl, by decide +kernel, by decide +kernel⟩
theorem ok_sort_key (F : L2.Fun K "sort_key" "sort_key" s_sort_key fA fd) (gm : mg "sort_key" = some (.ref fA)) (m_tuple : mg "tuple" = none) : CalG P w K mg base "sort_key" 1 3 ["rule", "row_id", "fields"] F_sort_key :=
  have sc := sc_sort_key
  cal_ofG (N := ["rule", "row_id", "fields", "column"]) F sc gm rfl rfl (by decide) (F.binds (ps := ["rule", "row_id", "fields"]) fun _ _ _ _ _ _ us hl => match us, hl with | [_, _, _], _ => rfl) fun cdv A outer s H E hr => ⟨_, (jb1 (jret (jop op_gAdd (jcty cb_tuple m_tuple (jacons (jlc [("column", 3)] rfl sc.nd (jit (jv 0)) (by rfl) (fun s H C cl fp => (jgn 3 sc.nd)) (fun s H C cl fp => jts0) (fun s H C cl fp => (jif (jcmpT (op_gGtT (by have := hr.units; exact this)) (jv 3) ji) (jix (jv 2) (jop op_gSubX (jv 3) ji)) (jneg (jix (jv 2) (jop op_gSubX (jneg (jv 3)) ji)))))) janil)) (jtup (jitem (jv 1) janil)))))⟩
theorem sc_compare_items : L2.FnScope ["rule", "first", "second", "left", "right"] ["rule", "first", "second"] (L2.defScope s_compare_items) := ⟨rfl, rfl, rfl, by decide +kernel, rfl, by decide +kernel, by decide +kernel⟩
theorem fn_compare_items (F : L2.Fun K "compare_items" "compare_items" s_compare_items fA fd) (c_sort_key : CalG P w K mg base "sort_key" 1 3 ["rule", "row_id", "fields"] F_sort_key) : FnG P w K mg base 2 fA fd ["rule", "first", "second"] (spF K 3 F_compare_items) :=
  have sc := sc_compare_items
  def_okG (N := ["rule", "first", "second", "left", "right"]) F sc rfl rfl (by decide) fun cdv A outer s H E hr => ⟨_, (jbcons (jpar 3 4 rfl sc.nd (jmcons (jcalG [.br, .br, .br] c_sort_key hr tkB (jacons (jv 0) (jacons (jix (jv 1) ji) (jacons (jix (jv 1) ji) janil)))) (jmcons (jcalG [.br, .br, .br] c_sort_key hr tkB (jacons (jv 0) (jacons (jix (jv 2) ji) (jacons (jix (jv 2) ji) janil)))) jmnil)))
  (jb1 (jret (jop op_gSubX (jcmp (op_gGtT (by have := hr.units; exact this)) (jv 3) (jv 4)) (jcmp (op_gLtT (by have := hr.units; exact this)) (jv 3) (jv 4))))))⟩
theorem ok_compare_items (F : L2.Fun K "compare_items" "compare_items" s_compare_items fA fd) (gm : mg "compare_items" = some (.ref fA)) (G : FnG P w K mg base 2 fA fd ["rule", "first", "second"] (spF K 3 F_compare_items)) : CalG P w K mg base "compare_items" 2 3 ["rule", "first", "second"] F_compare_items :=
  ⟨⟨fA, fd, G, gm, F.kp, F.binds (ps := ["rule", "first", "second"]) fun _ _ _ _ _ _ us hl => match us, hl with | [_, _, _], _ => rfl⟩⟩
theorem okk_compare_items (F : L2.Fun K "compare_items" "compare_items" s_compare_items fA fd) (gm : mg "compare_items" = some (.ref fA)) (G : FnG P w K mg base 2 fA fd ["rule", "first", "second"] (spF K 3 F_compare_items)) : CalK P w K mg base "compare_items" 2 3 ["second", "first", "rule"] [2, 1, 0] F_compare_items :=
  calK_of ["second", "first", "rule"] [2, 1, 0] F gm G fun _ _ _ _ _ _ ws hl => match ws, hl with | [_, _, _], _ => rfl
theorem sc_rule_order : L2.FnScope ["rule", "items", "key", "row_id"] ["rule", "items"] (L2.defScope s_rule_order) := ⟨rfl, rfl, rfl, by decide +kernel, rfl, by decide +kernel, by decide +kernel⟩
theorem fn_rule_order (F : L2.Fun K "rule_order" "rule_order" s_rule_order fA fd) (c_sort_key : CalG P w K mg base "sort_key" 1 3 ["rule", "row_id", "fields"] F_sort_key) (m_sorted : mg "sorted" = none) : FnG P w K mg base 2 fA fd ["rule", "items"] (spF K 2 F_rule_order) :=
  have sc := sc_rule_order
  def_okG (N := ["rule", "items", "key", "row_id"]) F sc rfl rfl (by decide) fun cdv A outer s H E hr => ⟨_, (jb1 (jret (jlc [("key", 2)] rfl sc.nd (jil (jcb cb_sortedT m_sorted (jacons (jlc [("row_id", 3)] rfl sc.nd (jik (jv 1)) (by rfl) (fun s H C cl fp => (jgn 3 sc.nd)) (fun s H C cl fp => jts0) (fun s H C cl fp => (jcalG [.br, .br, .br] c_sort_key hr tk0 (jacons (jv 0) (jacons (jv 3) (jacons (jdget (by have := hr.units; exact this) (jv 1) (jv 3)) janil)))))) janil))) (by rfl) (fun s H C cl fp => (jgn 2 sc.nd)) (fun s H C cl fp => jts0) (fun s H C cl fp => (jix (jv 2) (jneg ji))))))⟩
theorem ok_rule_order (F : L2.Fun K "rule_order" "rule_order" s_rule_order fA fd) (gm : mg "rule_order" = some (.ref fA)) (G : FnG P w K mg base 2 fA fd ["rule", "items"] (spF K 2 F_rule_order)) : CalG P w K mg base "rule_order" 2 2 ["rule", "items"] F_rule_order :=
  ⟨⟨fA, fd, G, gm, F.kp, F.binds (ps := ["rule", "items"]) fun _ _ _ _ _ _ us hl => match us, hl with | [_, _], _ => rfl⟩⟩
theorem okk_rule_order (F : L2.Fun K "rule_order" "rule_order" s_rule_order fA fd) (gm : mg "rule_order" = some (.ref fA)) (G : FnG P w K mg base 2 fA fd ["rule", "items"] (spF K 2 F_rule_order)) : CalK P w K mg base "rule_order" 2 2 ["items", "rule"] [1, 0] F_rule_order :=
  calK_of ["items", "rule"] [1, 0] F gm G fun _ _ _ _ _ _ ws hl => match ws, hl with | [_, _], _ => rfl
theorem sc_are_ids : L2.FnScope ["values", "row_id"] ["values"] (L2.defScope s_are_ids) := ⟨rfl, rfl, rfl, by decide +kernel, rfl, by decide +kernel, by decide +kernel⟩
theorem ok_are_ids (F : L2.Fun K "are_ids" "are_ids" s_are_ids fA fd) (gm : mg "are_ids" = some (.ref fA)) (c_is_id : CalG P w K mg base "is_id" 2 1 ["value"] F_is_id) (m_all : mg "all" = none) (m_len : mg "len" = none) (m_set : mg "set" = none) : CalG P w K mg base "are_ids" 3 1 ["values"] F_are_ids :=
  have sc := sc_are_ids
  cal_ofG (N := ["values", "row_id"]) F sc gm rfl rfl (by decide) (F.binds (ps := ["values"]) fun _ _ _ _ _ _ us hl => match us, hl with | [_], _ => rfl) fun cdv A outer s H E hr => ⟨_, (jb1 (jret (jandV (jcb (cb_all rfl) m_all (jacons (jlc [("row_id", 1)] rfl sc.nd (jis (jv 0)) (by rfl) (fun s H C cl fp => (jgn 1 sc.nd)) (fun s H C cl fp => jts0) (fun s H C cl fp => (jcalG [.br] c_is_id hr tk0 (jacons (jv 1) janil)))) janil)) (joneV (jcmp (op_gEqE (by have := hr.units; exact this)) (jlsA rfl m_len m_set (jv 0)) (jcb cb_len m_len (jacons (jv 0) janil)))))))⟩
theorem sc_is_order : L2.FnScope ["value"] ["value"] (L2.defScope s_is_order) := ⟨rfl, rfl, rfl, by decide +kernel, rfl, by decide +kernel, by decide +kernel⟩
theorem fn_is_order (F : L2.Fun K "is_order" "is_order" s_is_order fA fd) (c_are_ids : CalG P w K mg base "are_ids" 3 1 ["values"] F_are_ids) (m_isinstance : mg "isinstance" = none) (m_list : mg "list" = none) (i_list : IsiK K "list") : FnG P w K mg base 4 fA fd ["value"] (spF K 1 F_is_order) :=
  have sc := sc_is_order
  def_okG (N := ["value"]) F sc rfl rfl (by decide) fun cdv A outer s H E hr => ⟨_, (jb1 (jret (jandV (jisi i_list m_isinstance m_list (jv 0)) (joneV (jcalG [.br] c_are_ids hr tkB (jacons (jv 0) janil))))))⟩
theorem ok_is_order (F : L2.Fun K "is_order" "is_order" s_is_order fA fd) (gm : mg "is_order" = some (.ref fA)) (G : FnG P w K mg base 4 fA fd ["value"] (spF K 1 F_is_order)) : CalG P w K mg base "is_order" 4 1 ["value"] F_is_order :=
  ⟨⟨fA, fd, G, gm, F.kp, F.binds (ps := ["value"]) fun _ _ _ _ _ _ us hl => match us, hl with | [_], _ => rfl⟩⟩
theorem okk_is_order (F : L2.Fun K "is_order" "is_order" s_is_order fA fd) (gm : mg "is_order" = some (.ref fA)) (G : FnG P w K mg base 4 fA fd ["value"] (spF K 1 F_is_order)) : CalK P w K mg base "is_order" 4 1 ["value"] [0] F_is_order :=
  calK_of ["value"] [0] F gm G fun _ _ _ _ _ _ ws hl => match ws, hl with | [_], _ => rfl
theorem sc_is_move : L2.FnScope ["order", "value", "ids", "behind", "row_id"] ["order", "value"] (L2.defScope s_is_move) := ⟨rfl, rfl, rfl, by decide +kernel, rfl, by decide +kernel, by decide +kernel⟩
theorem fn_is_move (F : L2.Fun K "is_move" "is_move" s_is_move fA fd) (c_are_ids : CalG P w K mg base "are_ids" 3 1 ["values"] F_are_ids) (c_is_integer : CalG P w K mg base "is_integer" 1 1 ["value"] F_is_integer) (m_isinstance : mg "isinstance" = none) (m_tuple : mg "tuple" = none) (m_len : mg "len" = none) (m_all : mg "all" = none) (i_tuple : IsiK K "tuple") : FnG P w K mg base 4 fA fd ["order", "value"] (spF K 2 F_is_move) :=
  have sc := sc_is_move
  def_okG (N := ["order", "value", "ids", "behind", "row_id"]) F sc rfl rfl (by decide) fun cdv A outer s H E hr => ⟨_, (jbcons (jifS (JW.jt (jor (jnot (jval (jisi i_tuple m_isinstance m_tuple (jv 1)))) (jor1 (jcmpT (op_gNeE (by have := hr.units; exact this)) (jcb cb_len m_len (jacons (jv 1) janil)) ji)))) (jb1 (jret jbl)) jbnil)
  (jbcons (jasg (jgt rfl (jgcons (jgn 2 sc.nd) (jgcons (jgn 3 sc.nd) jgnil))) (jv 1))
  (jbcons (jifS (JW.jt (jor (jnot (jval (jisi i_tuple m_isinstance m_tuple (jv 2)))) (jor (jcmpT (op_gEqE (by have := hr.units; exact this)) (jv 2) (jtup janil)) (jor (jnot (jval (jcalG [.br] c_are_ids hr tkB (jacons (jv 2) janil)))) (jor1 (jnot (jval (jcb (cb_all rfl) m_all (jacons (jlc [("row_id", 4)] rfl sc.nd (jit (jv 2)) (by rfl) (fun s H C cl fp => (jgn 4 sc.nd)) (fun s H C cl fp => jts0) (fun s H C cl fp => (jcmp (op_gIn) (jv 4) (jv 0)))) janil))))))))) (jb1 (jret jbl)) jbnil)
  (jb1 (jret (jandV (jcalG [.br] c_is_integer hr tkB (jacons (jv 3) janil)) (joneV (jorV (jcmp (op_gEqE (by have := hr.units; exact this)) (jv 3) ji) (joneV (jandV (jcmp (op_gIn) (jv 3) (jv 0)) (joneV (jcmp (op_gNotIn) (jv 3) (jv 2)))))))))))))⟩
theorem ok_is_move (F : L2.Fun K "is_move" "is_move" s_is_move fA fd) (gm : mg "is_move" = some (.ref fA)) (G : FnG P w K mg base 4 fA fd ["order", "value"] (spF K 2 F_is_move)) : CalG P w K mg base "is_move" 4 2 ["order", "value"] F_is_move :=
  ⟨⟨fA, fd, G, gm, F.kp, F.binds (ps := ["order", "value"]) fun _ _ _ _ _ _ us hl => match us, hl with | [_, _], _ => rfl⟩⟩
theorem okk_is_move (F : L2.Fun K "is_move" "is_move" s_is_move fA fd) (gm : mg "is_move" = some (.ref fA)) (G : FnG P w K mg base 4 fA fd ["order", "value"] (spF K 2 F_is_move)) : CalK P w K mg base "is_move" 4 2 ["value", "order"] [1, 0] F_is_move :=
  calK_of ["value", "order"] [1, 0] F gm G fun _ _ _ _ _ _ ws hl => match ws, hl with | [_, _], _ => rfl
theorem sc_do_move : L2.FnScope ["order", "move", "ids", "behind", "left", "place", "row_id"] ["order", "move"] (L2.defScope s_do_move) := ⟨rfl, rfl, rfl, by decide +kernel, rfl, by decide +kernel, by decide +kernel⟩
theorem fn_do_move (F : L2.Fun K "do_move" "do_move" s_do_move fA fd) (c_is_move : CalG P w K mg base "is_move" 4 2 ["order", "value"] F_is_move) (m_list : mg "list" = none) (R_BadMove : ErrC P w K mg base 1 "BadMove" cBadMove "value") : FnG P w K mg base 5 fA fd ["order", "move"] (spF K 2 (F_do_move cBadMove)) :=
  have sc := sc_do_move
  def_okG (N := ["order", "move", "ids", "behind", "left", "place", "row_id"]) F sc rfl rfl (by decide) fun cdv A outer s H E hr => ⟨_, (jbcons (jifS (jnot (jval (jcalG [.br, .br] c_is_move hr tkB (jacons (jv 0) (jacons (jv 1) janil))))) (jb1 (jraise R_BadMove hr rfl (L2.takes_of rfl rfl rfl rfl) (jv 1))) jbnil)
  (jbcons (jasg (jgt rfl (jgcons (jgn 2 sc.nd) (jgcons (jgn 3 sc.nd) jgnil))) (jv 1))
  (jbcons (by first | exact (jsetLc (n := 4) [("row_id", 6)] rfl sc.nd (jil (jv 0)) (by rfl) (fun s H C cl fp => (jgn 6 sc.nd)) (fun s H C cl fp => (jts1 (jcmpT (op_gNotIn) (jv 6) (jv 2)))) (fun s H C cl fp => (jv 6))) | exact (jset 4 sc.nd (jlc [("row_id", 6)] rfl sc.nd (jil (jv 0)) (by rfl) (fun s H C cl fp => (jgn 6 sc.nd)) (fun s H C cl fp => (jts1 (jcmpT (op_gNotIn) (jv 6) (jv 2)))) (fun s H C cl fp => (jv 6)))))
  (jbcons (jset 5 sc.nd (jif (jcmpT (op_gEqE (by have := hr.units; exact this)) (jv 3) ji) ji (jop op_gAdd (jindex (jv 4) (jacons (jv 3) janil)) ji)))
  (jb1 (jret (jop op_gAdd (jop op_gAdd (jsl (jv 4) jno (jpart (jv 5))) (jcty cb_list m_list (jacons (jv 2) janil))) (jsl (jv 4) (jpart (jv 5)) jno))))))))⟩
theorem ok_do_move (F : L2.Fun K "do_move" "do_move" s_do_move fA fd) (gm : mg "do_move" = some (.ref fA)) (G : FnG P w K mg base 5 fA fd ["order", "move"] (spF K 2 (F_do_move cBadMove))) : CalG P w K mg base "do_move" 5 2 ["order", "move"] (F_do_move cBadMove) :=
  ⟨⟨fA, fd, G, gm, F.kp, F.binds (ps := ["order", "move"]) fun _ _ _ _ _ _ us hl => match us, hl with | [_, _], _ => rfl⟩⟩
theorem okk_do_move (F : L2.Fun K "do_move" "do_move" s_do_move fA fd) (gm : mg "do_move" = some (.ref fA)) (G : FnG P w K mg base 5 fA fd ["order", "move"] (spF K 2 (F_do_move cBadMove))) : CalK P w K mg base "do_move" 5 2 ["move", "order"] [1, 0] (F_do_move cBadMove) :=
  calK_of ["move", "order"] [1, 0] F gm G fun _ _ _ _ _ _ ws hl => match ws, hl with | [_, _], _ => rfl
theorem sc_do_moves : L2.FnScope ["order", "moves", "found", "move"] ["order", "moves"] (L2.defScope s_do_moves) := ⟨rfl, rfl, rfl, by decide +kernel, rfl, by decide +kernel, by decide +kernel⟩
theorem ok_do_moves {oc kV dc pm cd ct : Value} {od an : Option Addr} {sl : Array (Option Value)} (lk : K.lookup fA = some ⟨oc, od, .func (PySem.W.fnOf "do_moves" "do_moves" (L2.defArgs s_do_moves) (L2.defBody s_do_moves) (L2.defScope s_do_moves) .none kV dc pm an cd ct), sl⟩) (hcd : PySem.W.codeIn K cd "do_moves" = true) (kp : PySem.W.keepIn K (.ref fA) = true) (gm : mg "do_moves" = some (.ref fA)) (c_do_move : CalG P w K mg base "do_move" 5 2 ["order", "move"] (F_do_move cBadMove)) (m_list : mg "list" = none) : CalS P w K mg base "do_moves" 6 1 (F_do_moves cBadMove) :=
  have sc := sc_do_moves
  cal_ofS (N := ["order", "moves", "found", "move"]) (ps := ["order"]) (pv := "moves") lk hcd kp sc gm rfl rfl (by decide) (fun us rest hl => StX.bind_star1 (B := fun us => bindArgs _ ⟨us, []⟩) (fun _ => rfl) (fun _ _ _ => rfl) us rest hl) fun A outer s H E hr => ⟨_, (jbcons (jset 2 sc.nd (jcty cb_list m_list (jacons (jv 0) janil)))
  (jbcons (jfor psB rfl (jit (jv 1)) (jgn 3 sc.nd)
  (jb1 (jset 2 sc.nd (jcalG [.br, .br] c_do_move hr tkB (jacons (jv 2) (jacons (jv 3) janil))))))
  (jb1 (jret (jv 2)))))⟩
theorem okk_do_moves {oc kV dc pm cd ct : Value} {od an : Option Addr} {sl : Array (Option Value)} (lk : K.lookup fA = some ⟨oc, od, .func (PySem.W.fnOf "do_moves" "do_moves" (L2.defArgs s_do_moves) (L2.defBody s_do_moves) (L2.defScope s_do_moves) .none kV dc pm an cd ct), sl⟩) (hcd : PySem.W.codeIn K cd "do_moves" = true) (kp : PySem.W.keepIn K (.ref fA) = true) (gm : mg "do_moves" = some (.ref fA)) (c_do_move : CalG P w K mg base "do_move" 5 2 ["order", "move"] (F_do_move cBadMove)) (m_list : mg "list" = none) : CalSK P w K mg base "do_moves" 6 1 ["order"] [0] (F_do_moves cBadMove) :=
  have sc := sc_do_moves
  calSK_of (N := ["order", "moves", "found", "move"]) (ps := ["order"]) (pv := "moves") ["order"] [0] lk hcd kp sc gm rfl rfl (by decide) (by decide) rfl (fun ws hl => match ws, hl with | [_], _ => rfl) fun A outer s H E hr => ⟨_, (jbcons (jset 2 sc.nd (jcty cb_list m_list (jacons (jv 0) janil)))
  (jbcons (jfor psB rfl (jit (jv 1)) (jgn 3 sc.nd)
  (jb1 (jset 2 sc.nd (jcalG [.br, .br] c_do_move hr tkB (jacons (jv 2) (jacons (jv 3) janil))))))
  (jb1 (jret (jv 2)))))⟩
theorem sc_law_deck : L2.FnScope ["script", "start", "mixed", "entry", "digits"] ["script", "start"] (L2.defScope s_law_deck) := ⟨rfl, rfl, rfl, by decide +kernel, rfl, by decide +kernel, by decide +kernel⟩
theorem ok_law_deck (F : L2.Fun K "_law_deck" "_law_deck" s_law_deck fA fd) (gm : mg "_law_deck" = some (.ref fA)) (m_len : mg "len" = none) : CalG P w K mg base "_law_deck" 1 2 ["script", "start"] F_law_deck :=
  have sc := sc_law_deck
  cal_ofG (N := ["script", "start", "mixed", "entry", "digits"]) F sc gm rfl rfl (by decide) (F.binds (ps := ["script", "start"]) fun _ _ _ _ _ _ us hl => match us, hl with | [_, _], _ => rfl) fun cdv A outer s H E hr => ⟨_, (jbcons (jset 2 sc.nd (jop op_gAdd ji (jop op_gMulI (jv 1) ji)))
  (jbcons (jfor psB rfl (jil (jv 0)) (jgn 3 sc.nd)
  (jb1 (jset 2 sc.nd (jop op_gAdd (jop op_gMod (jop op_gPow (jop op_gAdd (jop op_gAdd (jop op_gMulI (jv 2) ji) (jop op_gMulI (jv 3) (jv 3))) ji) ji) ji) ji))))
  (jbcons (jset 4 sc.nd (jif (JW.jt (jand (jcmpT (op_gLtT (by have := hr.units; exact this)) (jv 1) (jcb cb_len m_len (jacons (jv 0) janil))) (jand1 (jcmpT (op_gGe) (jix (jv 0) (jv 1)) (jop op_gPow ji ji))))) (jop op_gSubX (jix (jv 0) (jv 1)) (jop op_gPow ji ji)) ji))
  (jb1 (jret (jdisp (jpcons jstr (jv 4) (jpcons jstr (jv 2) jpnil))))))))⟩
theorem sc_law_draw : L2.FnScope ["deck", "size", "found"] ["deck", "size"] (L2.defScope s_law_draw) := ⟨rfl, rfl, rfl, by decide +kernel, rfl, by decide +kernel, by decide +kernel⟩
theorem ok_law_draw (F : L2.Fun K "_law_draw" "_law_draw" s_law_draw fA fd) (gm : mg "_law_draw" = some (.ref fA)) : CalG P w K mg base "_law_draw" 1 2 ["deck", "size"] F_law_draw :=
  have sc := sc_law_draw
  cal_ofG (N := ["deck", "size", "found"]) F sc gm rfl rfl (by decide) (F.binds (ps := ["deck", "size"]) fun _ _ _ _ _ _ us hl => match us, hl with | [_, _], _ => rfl) fun cdv A outer s H E hr => ⟨_, (jbcons (jifS (jcmpT (op_gGe) (jdget (by have := hr.units; exact this) (jv 0) jstr) (jv 1)) (jbcons (jset 2 sc.nd (jop op_gMod (jdget (by have := hr.units; exact this) (jv 0) jstr) (jv 1)))
    (jbcons (jput 0 (by have := hr.units; exact this) (jv 0) jstr (jop op_gFdiv (jdget (by have := hr.units; exact this) (jv 0) jstr) (jv 1)))
    (jb1 (jret (jv 2))))) jbnil)
  (jbcons (jput 0 (by have := hr.units; exact this) (jv 0) jstr (jop op_gMod (jop op_gAdd (jop op_gMulI (jdget (by have := hr.units; exact this) (jv 0) jstr) ji) ji) ji))
  (jb1 (jret (jop op_gMod (jop op_gFdiv (jop op_gMod (jop op_gPow (jop op_gMod (jop op_gPow (jdget (by have := hr.units; exact this) (jv 0) jstr) ji) ji) ji) ji) ji) (jv 1))))))⟩
theorem sc_law_choose : L2.FnScope ["deck", "things"] ["deck", "things"] (L2.defScope s_law_choose) := ⟨rfl, rfl, rfl, by decide +kernel, rfl, by decide +kernel, by decide +kernel⟩
theorem ok_law_choose (F : L2.Fun K "_law_choose" "_law_choose" s_law_choose fA fd) (gm : mg "_law_choose" = some (.ref fA)) (c_law_draw : CalG P w K mg base "_law_draw" 1 2 ["deck", "size"] F_law_draw) (m_len : mg "len" = none) : CalG P w K mg base "_law_choose" 2 2 ["deck", "things"] F_law_choose :=
  have sc := sc_law_choose
  cal_ofG (N := ["deck", "things"]) F sc gm rfl rfl (by decide) (F.binds (ps := ["deck", "things"]) fun _ _ _ _ _ _ us hl => match us, hl with | [_, _], _ => rfl) fun cdv A outer s H E hr => ⟨_, (jb1 (jret (jix (jv 1) (jcalG [.io, .br] c_law_draw hr tkB (jacons (jv 0) (jacons (jcb cb_len m_len (jacons (jv 1) janil)) janil))))))⟩
theorem sc_law_same : L2.FnScope ["pairs", "pair"] ["pairs"] (L2.defScope s_law_same) := ⟨rfl, rfl, rfl, by decide +kernel, rfl, by decide +kernel, by decide +kernel⟩
theorem ok_law_same (F : L2.Fun K "_law_same" "_law_same" s_law_same fA fd) (gm : mg "_law_same" = some (.ref fA)) (m_repr : mg "repr" = none) : CalG P w K mg base "_law_same" 1 1 ["pairs"] F_law_same :=
  have sc := sc_law_same
  cal_ofG (N := ["pairs", "pair"]) F sc gm rfl rfl (by decide) (F.binds (ps := ["pairs"]) fun _ _ _ _ _ _ us hl => match us, hl with | [_], _ => rfl) fun cdv A outer s H E hr => ⟨_, (jb1 (jret (jcmp (op_gEqE (by have := hr.units; exact this)) (jlc [("pair", 1)] rfl sc.nd (jil (jv 0)) (by rfl) (fun s H C cl fp => (jgn 1 sc.nd)) (fun s H C cl fp => (jts1 (jcmpT (op_gNeE (by have := hr.units; exact this)) (jcb (cb_reprA (by have := hr.units; exact this) hr.gd) m_repr (jacons (jix (jv 1) ji) janil)) (jcb (cb_reprA (by have := hr.units; exact this) hr.gd) m_repr (jacons (jix (jv 1) ji) janil))))) (fun s H C cl fp => (jv 1))) (jlst janil))))⟩
theorem sc_law : L2.FnScope ["script", "start", "deck", "turn", "stock", "way", "one", "other", "line", "step", "pairs", "pair"] ["script"] (L2.defScope s_law) := ⟨rfl, rfl, rfl, by decide +kernel, rfl, by decide +kernel, by decide +kernel⟩
theorem law_fn (F : L2.Fun K "law" "law" s_law fA fd) (c_law_deck : CalG P w K mg base "_law_deck" 1 2 ["script", "start"] F_law_deck) (c_law_draw : CalG P w K mg base "_law_draw" 1 2 ["deck", "size"] F_law_draw) (c_law_choose : CalG P w K mg base "_law_choose" 2 2 ["deck", "things"] F_law_choose) (c_is_item : CalG P w K mg base "is_item" 3 2 ["value", "width"] F_is_item) (c_is_rule : CalG P w K mg base "is_rule" 2 2 ["value", "width"] F_is_rule) (c_compare_items : CalG P w K mg base "compare_items" 2 3 ["rule", "first", "second"] F_compare_items) (c_rule_order : CalG P w K mg base "rule_order" 2 2 ["rule", "items"] F_rule_order) (c_is_order : CalG P w K mg base "is_order" 4 1 ["value"] F_is_order) (c_is_move : CalG P w K mg base "is_move" 4 2 ["order", "value"] F_is_move) (c_do_move : CalG P w K mg base "do_move" 5 2 ["order", "move"] (F_do_move cBadMove)) (c_do_moves : CalS P w K mg base "do_moves" 6 1 (F_do_moves cBadMove)) (c_law_same : CalG P w K mg base "_law_same" 1 1 ["pairs"] F_law_same) (ck_is_item : CalK P w K mg base "is_item" 3 2 ["width", "value"] [1, 0] F_is_item) (ck_is_rule : CalK P w K mg base "is_rule" 2 2 ["width", "value"] [1, 0] F_is_rule) (ck_compare_items : CalK P w K mg base "compare_items" 2 3 ["second", "first", "rule"] [2, 1, 0] F_compare_items) (ck_rule_order : CalK P w K mg base "rule_order" 2 2 ["items", "rule"] [1, 0] F_rule_order) (ck_is_order : CalK P w K mg base "is_order" 4 1 ["value"] [0] F_is_order) (ck_is_move : CalK P w K mg base "is_move" 4 2 ["value", "order"] [1, 0] F_is_move) (ck_do_move : CalK P w K mg base "do_move" 5 2 ["move", "order"] [1, 0] (F_do_move cBadMove)) (ck_do_moves : CalSK P w K mg base "do_moves" 6 1 ["order"] [0] (F_do_moves cBadMove)) (c_neighbours : CalN K mg) (m_range : mg "range" = none) (m_max : mg "max" = none) (m_min : mg "min" = none) (m_len : mg "len" = none) (m_list : mg "list" = none) {s : Shared} {H : L2.Hp} {v : L2.V} {u : Value} {Q : L2.VK} {E : L2.XK} (e0 : L2.Env0 P w K mg base callerA [] s H) (bind : BindsTo s fd ⟨[u], []⟩ [("script", u)]) (rel : L2.RelV v u) (prom : spF K 1 (F_law cBadMove) [v] H Q E) : codeAny (model P w) callerA (.call (.ref fA) ⟨[u], []⟩) (L2.CR (L2.CX P w) [] P w H s Q E) s :=
  have sc := sc_law
  law_runG (N := ["script", "start", "deck", "turn", "stock", "way", "one", "other", "line", "step", "pairs", "pair"]) (k := 6) F sc rfl (by decide) ⟨rfl, by decide, by decide⟩ (fun cdv A outer s H E hr => ⟨_, (jbcons (jfor psB rfl (jr1 m_range (jacons (jcb (cb_max rfl) m_max (jacons ji (jacons (jcb (cb_min rfl) m_min (jacons ji (jacons (jcb cb_len m_len (jacons (jv 0) janil)) janil))) janil))) janil)) (jgn 1 sc.nd)
  (jbcons (jset 2 sc.nd (jcalG [.br, .br] c_law_deck hr tkB (jacons (jv 0) (jacons (jv 1) janil))))
    (jb1 (jfor psB rfl (jr1 m_range (jacons ji janil)) (jgn 3 sc.nd)
    (jbcons (jsetL 4 sc.nd (jdisp (jpcons ji (jtup (jitem ji (jitem ji janil))) (jpcons ji (jtup (jitem (jcalG [.io, .br] c_law_draw hr tkB (jacons (jv 2) (jacons ji janil))) (jitem ji janil))) (jpcons ji (jtup (jitem ji (jitem (jcalG [.io, .br] c_law_draw hr tkB (jacons (jv 2) (jacons ji janil))) janil))) jpnil)))))
      (jbcons (jset 5 sc.nd (jcalG [.io, .br] c_law_choose hr tkB (jacons (jv 2) (jacons (jlst (jitem (jtup janil) (jitem (jtup (jitem ji janil)) (jitem (jtup (jitem (jop op_gSubX ji ji) (jitem ji janil))) (jitem (jtup (jitem ji janil)) janil))))) janil))))
      (jbcons (jpar 6 7 rfl sc.nd (jmcons (jtup (jitem ji (jitem (jdget (by have := hr.units; exact this) (jv 4) ji) janil))) (jmcons (jtup (jitem ji (jitem (jdget (by have := hr.units; exact this) (jv 4) ji) janil))) jmnil)))
      (jbcons (jpar 8 9 rfl sc.nd (jmcons (jlst (jitem ji (jitem ji (jitem ji janil)))) (jmcons (jtup (jitem (jtup (jitem ji janil)) (jitem (jcalG [.io, .br] c_law_choose hr tkB (jacons (jv 2) (jacons (jlst (jitem ji (jitem ji (jitem ji janil)))) janil))) janil))) jmnil)))
      (jbcons (jset 10 sc.nd (jlst (jitem (jtup (jitem (jcalK [.br, .br] ck_is_item hr tkB (jkcons ji (jkcons (jv 6) jknil))) (jitem (jcalG [.br, .br] c_is_item hr tkB (jacons (jv 6) (jacons ji janil))) janil))) (jitem (jtup (jitem (jcalK [.br, .br] ck_is_rule hr tkB (jkcons ji (jkcons (jv 5) jknil))) (jitem (jcalG [.br, .br] c_is_rule hr tkB (jacons (jv 5) (jacons ji janil))) janil))) janil))))
      (jbcons (jdrop (jappend (jv 10) (jitem (jtup (jitem (jcalK [.br, .br, .br] ck_compare_items hr tkB (jkcons (jv 6) (jkcons (jv 7) (jkcons (jv 5) jknil)))) (jitem (jcalG [.br, .br, .br] c_compare_items hr tkB (jacons (jv 5) (jacons (jv 7) (jacons (jv 6) janil)))) janil))) janil)))
      (jbcons (jdrop (jappend (jv 10) (jitem (jtup (jitem (jcalK [.br, .br] ck_rule_order hr tkB (jkcons (jv 4) (jkcons (jv 5) jknil))) (jitem (jcalG [.br, .br] c_rule_order hr tkB (jacons (jv 5) (jacons (jv 4) janil))) janil))) janil)))
      (jbcons (jdrop (jappend (jv 10) (jitem (jtup (jitem (jcalK [.br] ck_is_order hr tkB (jkcons (jv 8) jknil)) (jitem (jcalG [.br] c_is_order hr tkB (jacons (jv 8) janil)) janil))) janil)))
      (jbcons (jdrop (jappend (jv 10) (jitem (jtup (jitem (jcalK [.br, .br] ck_is_move hr tkB (jkcons (jv 9) (jkcons (jv 8) jknil))) (jitem (jcalG [.br, .br] c_is_move hr tkB (jacons (jv 8) (jacons (jv 9) janil))) janil))) janil)))
      (jbcons (jdrop (jappend (jv 10) (jitem (jtup (jitem (jcalK [.br, .br] ck_do_move hr tkB (jkcons (jv 9) (jkcons (jv 8) jknil))) (jitem (jcalG [.br, .br] c_do_move hr tkB (jacons (jv 8) (jacons (jv 9) janil))) janil))) janil)))
      (jbcons (jdrop (jappend (jv 10) (jitem (jtup (jitem (jcalSK [.br, .br] ck_do_moves hr tkB (jkcons (jv 8) jknil)) (jitem (jcalS [.br, .br] c_do_moves hr tkB (jacons (jv 8) janil)) janil))) janil)))
      (jbcons (jdrop (jappend (jv 10) (jitem (jtup (jitem (jlcS [("pair", 11)] sc.nd (jnbK c_neighbours hr.room.depth rfl m_list (jv 8)) (by rfl) (fun s H C cl fp => (jgn 11 sc.nd)) (fun s H C cl fp => jts0) (fun s H C cl fp => (jv 11))) (jitem (jlcS [("pair", 11)] sc.nd (jnb c_neighbours hr.room.depth rfl m_list (jv 8)) (by rfl) (fun s H C cl fp => (jgn 11 sc.nd)) (fun s H C cl fp => jts0) (fun s H C cl fp => (jv 11))) janil))) janil)))
      (jb1 (jifS (jnot (jval (jcalG [.br] c_law_same hr tkB (jacons (jv 10) janil)))) (jb1 (jret jbl)) jbnil))))))))))))))))))
  (jb1 (jret jbl)))⟩) e0 bind rel prom
end

end K08
namespace K08
open PySem O
theorem p_draw (d m size : Int) (hd : 0 ≤ d) (hm : 0 ≤ m) (hm2 : m < 4294967296) (hs : 0 < size) (hs2 : size < 1073741824) :
    ∃ r d' m', F_law_draw [.io (dk d m), .br (.int size)] = .ret (.val (.int r)) [some (dk d' m'), none] ∧ 0 ≤ r ∧ r < size ∧ 0 ≤ d' ∧ 0 ≤ m' ∧ m' < 4294967296 := by
  by_cases h : size ≤ d
  · refine ⟨d % size, d / size, m, ?_, Int.emod_nonneg _ (by omega), Int.emod_lt_of_pos _ hs, Int.ediv_nonneg hd (by omega), hm, hm2⟩
    simp [F_law_draw, u_runF, g_law_draw, startE, slotA, dk, gDGet, keyD, dk_d, dk_m, dk_pd, dk_pm, h, hs, hs2, gMod_ii, gFdiv_ii]
  · have b1 : (Builtin.Int.intBits m : Int) + (Builtin.Int.intBits 39373 : Int) ≤ 134217728 := by
      have x : Builtin.Int.intBits m ≤ 32 := bits_le hm (by omega)
      have y : Builtin.Int.intBits 39373 ≤ 32 := bits_le (by omega) (by omega)
      omega
    have c0 : 0 ≤ (m * 39373 + 2027) % 2147483549 := Int.emod_nonneg _ (by omega)
    have c1 : (m * 39373 + 2027) % 2147483549 < 2147483549 := Int.emod_lt_of_pos _ (by omega)
    generalize hM : (m * 39373 + 2027) % 2147483549 = M at *
    have b2 : (Builtin.Int.intBits M : Int) * 2 ≤ 134217728 := by
      have x : Builtin.Int.intBits M ≤ 32 := bits_le c0 (by omega)
      omega
    have d0 : 0 ≤ M ^ 2 % 2147483423 := Int.emod_nonneg _ (by omega)
    have d1 : M ^ 2 % 2147483423 < 2147483423 := Int.emod_lt_of_pos _ (by omega)
    generalize hN : M ^ 2 % 2147483423 = N at *
    have b3 : (Builtin.Int.intBits N : Int) * 3 ≤ 134217728 := by
      have x : Builtin.Int.intBits N ≤ 32 := bits_le d0 (by omega)
      omega
    refine ⟨N ^ 3 % 998244353 / 7 % size, d, M, ?_, Int.emod_nonneg _ (by omega), Int.emod_lt_of_pos _ hs, hd, c0, by omega⟩
    simp [F_law_draw, u_runF, g_law_draw, startE, slotA, dk, gDGet, keyD, dk_d, dk_m, dk_pd, dk_pm, h, hs, hs2, gMod_ii, gFdiv_ii, gMulI_ii b1, gPow_2 b2, gPow_3 b3, hM, hN]
theorem p_choose (d m : Int) (ds : List D) (hd : 0 ≤ d) (hm : 0 ≤ m) (hm2 : m < 4294967296) (h0 : ds ≠ []) (hs : ds.length < 1000000) :
    ∃ (r : Nat) (x : D) (d' m' : Int), ds[r]? = some x ∧ F_law_choose [.io (dk d m), .br (.lst ds)] = .ret (.val x) [some (dk d' m'), none] ∧ 0 ≤ d' ∧ 0 ≤ m' ∧ m' < 4294967296 := by
  have hpos : 0 < ds.length := List.length_pos_iff.mpr h0
  obtain ⟨r, d', m', e, r0, r1, k1, k2, k3⟩ := p_draw d m ds.length hd hm hm2 (by omega) (by omega)
  have hr : r.toNat < ds.length := by omega
  refine ⟨r.toNat, ds[r.toNat], d', m', List.getElem?_eq_getElem hr, ?_, k1, k2, k3⟩
  have hix : L2.atI ds r = some ds[r.toNat] := atI_ok r0 hr
  simp [F_law_choose, u_runF, g_law_choose, startE, slotA, gLen, e, gIx, hix]
theorem draw (d m size : Int) (g : Good d m) (hs : 0 < size) (hs2 : size < 1073741824) : ∃ r d' m', F_law_draw [.io (dk d m), .br (.int size)] = .ret (.val (.int r)) [some (dk d' m'), none] ∧ 0 ≤ r ∧ r < size ∧ Good d' m' := by
  obtain ⟨r, d', m', e, a, b, c, f, h⟩ := p_draw d m size g.d0 g.m0 g.m1 hs hs2
  exact ⟨r, d', m', e, a, b, c, f, h⟩
theorem p_deck (ns : List Int) (st : Int) (h0 : 0 ≤ st) (h1 : st ≤ 100) (hl : ns.length ≤ 63) (hb : ∀ z ∈ ns, Builtin.Int.intBits z ≤ 1048576) : ∃ d m, F_law_deck [.br (.scr ns), .br (.int st)] = .ret (.own (dk d m)) [none, none] ∧ Good d m := by
  have b57 : Builtin.Int.intBits 57 ≤ 32 := bits_le (by omega) (by omega)
  have bst : Builtin.Int.intBits st ≤ 32 := bits_le h0 (by omega)
  have bm0 : (Builtin.Int.intBits st : Int) + (Builtin.Int.intBits 57 : Int) ≤ 134217728 := by omega
  have b20 : Builtin.Int.intBits 20011 ≤ 32 := bits_le (by omega) (by omega)
  obtain ⟨ρ', e, m, s3, rfl, g0, g1⟩ := forD_ok (k := takeT (.name 3)) (g := gSet 2 (f2 (f2 (f2 (f2 (f2 (f2 (fVar 2) (fC (.int 20011)) gMulI) (f2 (fVar 3) (fVar 3) gMulI) gAdd) (fC (.int 13)) gAdd) (fC (.int 2)) gPow) (fC (.int 2147483549)) gMod) (fC (.int 3)) gAdd))
    (fun ds ρ => ∃ (m : Int) (s3 : Sl), ρ = [.br (.scr ns), .br (.int st), .sh (.int m), s3, .un] ∧ 0 ≤ m ∧ m < 4294967296 ∧ (s3 = .un ∨ ∃ z, s3 = .sh (.int z)) ∧ ∃ xs : List Int, ds = xs.map .int ∧ ∀ z ∈ xs, Builtin.Int.intBits z ≤ 1048576) (fun d ds ρ ⟨m, s3, e, a, b, hs, xs, ex, hx⟩ => by
      subst e
      cases xs with
      | nil => cases ex
      | cons z xs =>
        cases ex
        have hz := hx z (by simp)
        have bm : Builtin.Int.intBits m ≤ 32 := bits_le a (by omega)
        have q1 : (Builtin.Int.intBits m : Int) + (Builtin.Int.intBits 20011 : Int) ≤ 134217728 := by omega
        have q2 : (Builtin.Int.intBits z : Int) + (Builtin.Int.intBits z : Int) ≤ 134217728 := by omega
        have q3 := bits_sum hz (by omega) a b
        have q4 : (Builtin.Int.intBits (m * 20011 + z * z + 13) : Int) * 2 ≤ 134217728 := by omega
        have c0 : 0 ≤ (m * 20011 + z * z + 13) ^ 2 % 2147483549 := Int.emod_nonneg _ (by omega)
        have c1 : (m * 20011 + z * z + 13) ^ 2 % 2147483549 < 2147483549 := Int.emod_lt_of_pos _ (by omega)
        refine ⟨[.br (.scr ns), .br (.int st), .sh (.int m), .sh (.int z), .un], [.br (.scr ns), .br (.int st), .sh (.int ((m * 20011 + z * z + 13) ^ 2 % 2147483549 + 3)), .sh (.int z), .un], ?_, ?_, _, _, rfl, by omega, by omega, .inr ⟨z, rfl⟩, xs, rfl, fun y hy => hx y (by simp [hy])⟩
        · rcases hs with rfl | ⟨z0, rfl⟩ <;> simp
        · simp [gMulI_ii q1, gMulI_ii q2, gPow_2 q4, gMod_ii]) (ns.map .int) [.br (.scr ns), .br (.int st), .sh (.int (1009 + st * 57)), .un, .un] ⟨_, _, rfl, by omega, by omega, .inl rfl, ns, rfl, hb⟩
  have mg : ∀ d : Int, mergeD [] [(.inr (Str.ofString "digits"), .int d), (.inr (Str.ofString "mixed"), .int m)] = [(.inr (Str.ofString "digits"), .int d), (.inr (Str.ofString "mixed"), .int m)] := fun d => by simp [mergeD, putD, k_dm]
  by_cases hs : st < (ns.length : Int)
  · have hst : L2.atI ns st = some ns[st.toNat] := atI_ok h0 (by omega)
    by_cases hd : 1000000000000000000 ≤ ns[st.toNat]
    · refine ⟨ns[st.toNat] - 1000000000000000000, m, ?_, ⟨by omega, g0, g1.1⟩⟩
      simp [F_law_deck, u_runF, g_law_deck, startE, slotA, gMulI_ii bm0, gItL, e, gLen, hs, gIx, hst, ten18, hd, keyD, mg, dk]
    · refine ⟨0, m, ?_, ⟨by omega, g0, g1.1⟩⟩
      simp [F_law_deck, u_runF, g_law_deck, startE, slotA, gMulI_ii bm0, gItL, e, gLen, hs, gIx, hst, ten18, hd, keyD, mg, dk]
  · refine ⟨0, m, ?_, ⟨by omega, g0, g1.1⟩⟩
    simp [F_law_deck, u_runF, g_law_deck, startE, slotA, gMulI_ii bm0, gItL, e, gLen, hs, keyD, mg, dk]
theorem choose_int (d m : Int) (ns : List Int) (g : Good d m) (h0 : ns ≠ []) (hs : ns.length < 1000000) : ∃ (z d' m' : Int), z ∈ ns ∧ F_law_choose [.io (dk d m), .br (.lst (ns.map .int))] = .ret (.val (.int z)) [some (dk d' m'), none] ∧ Good d' m' := by
  obtain ⟨r, x, d', m', ex, e, k1, k2, k3⟩ := p_choose d m (ns.map .int) g.d0 g.m0 g.m1 (by simpa using h0) (by simpa using hs)
  rw [List.getElem?_map] at ex
  cases h : ns[r]? with
  | none => rw [h] at ex; cases ex
  | some z => rw [h] at ex; cases ex; exact ⟨z, d', m', List.mem_of_getElem? h, e, k1, k2, k3⟩
end K08

namespace K08
open PySem O
def kv (fs : List Int) (c : Int) : Int := if 0 < c then fs.getD (c - 1).toNat 0 else -(fs.getD (-c - 1).toNat 0)
def Col (fs : List Int) (c : Int) : Prop := c ≠ 0 ∧ -(fs.length : Int) ≤ c ∧ c ≤ fs.length
theorem ix_row (fs : List Int) {z : Int} (h0 : 0 ≤ z) (h1 : z < fs.length) : gIx (.tup (fs.map .int)) (.int z) = some (.val (.int (fs.getD z.toNat 0))) := by
  have hz : z.toNat < fs.length := by omega
  have e : L2.atI fs z = some fs[z.toNat] := atI_ok h0 hz
  simp only [gIx, atI_map, e, Option.map_some]
  rw [List.getD_eq_getElem?_getD, List.getElem?_eq_getElem hz]
  rfl
theorem p_sort_key (cols fs : List Int) (r : Int) (hc : ∀ c ∈ cols, Col fs c) (hl : cols.length < 4000) : F_sort_key [.br (.tup (cols.map .int)), .br (.int r), .br (.tup (fs.map .int))] = .ret (.val (rowT (cols.map (kv fs) ++ [r]))) [none, none, none] := by
  have hz := sizeLine_is
  have lc := lcD_ok (vs := [3]) (t := .name 3) (ft := fYes) (fe := fIf (fB (f2 (fVar 3) (fC (.int 0)) gGtT)) (f2 (fVar 2) (f2 (fVar 3) (fC (.int 1)) gSubX) gIx) (f1 (f2 (fVar 2) (f2 (f1 (fVar 3) gNeg) (fC (.int 1)) gSubX) gIx) gNeg)) (ρ0 := [.br (.tup (cols.map .int)), .br (.int r), .br (.tup (fs.map .int)), .un]) (fun _ => true) (fun d => match d with | .int c => .int (kv fs c) | _ => .non) (cols.map .int) (fun d hdm => by
    obtain ⟨c, hm, rfl⟩ := List.mem_map.mp hdm
    obtain ⟨c0, c1, c2⟩ := hc c hm
    refine ⟨[.br (.tup (cols.map .int)), .br (.int r), .br (.tup (fs.map .int)), .sh (.int c)], [.br (.tup (cols.map .int)), .br (.int r), .br (.tup (fs.map .int)), .sh (.int c)], by simp, by simp, fun z => by simp at z, fun _ => ⟨[.br (.tup (cols.map .int)), .br (.int r), .br (.tup (fs.map .int)), .sh (.int c)], ?_, by simp [wipeE]⟩⟩
    by_cases h : 0 < c
    · have e := ix_row fs (z := c - 1) (by omega) (by omega)
      simp [h, e, kv]
    · have e := ix_row fs (z := -c - 1) (by omega) (by omega)
      simp [h, gNeg, e, kv]) 0 (by simp; omega)
  have e1 : ((cols.map D.int).filter fun _ => true).map (fun d => match d with | .int c => D.int (kv fs c) | _ => .non) = (cols.map (kv fs)).map .int := by
    rw [List.filter_eq_self.mpr (by simp), List.map_map, List.map_map]
    rfl
  rw [e1] at lc
  have sz : (cols.map (kv fs)).length + 1 ≤ sizeLine := by rw [List.length_map]; omega
  have ga : gAdd (.tup ((cols.map (kv fs)).map .int)) (.tup [.int r]) = some (.val (rowT (cols.map (kv fs) ++ [r]))) := by
    simp only [gAdd, rowT, List.map_append, List.map_cons, List.map_nil]
    rw [if_pos (by simp; simp at sz; omega)]
  simp [-List.map_map, F_sort_key, u_runF, g_sort_key, startE, slotA, gItT, wipeE, lc, restE, gTuple, ga]
def item (a : Int) (fs : List Int) : D := .tup [.int a, .tup (fs.map .int)]
def key (cols : List Int) (a : Int) (fs : List Int) : List Int := cols.map (kv fs) ++ [a]
def cmpI (cols : List Int) (a : Int) (fs : List Int) (b : Int) (gs : List Int) : Int := nB (HT.lexLt (key cols b gs) (key cols a fs)) - nB (HT.lexLt (key cols a fs) (key cols b gs))
theorem at0 (x y : D) : gIx (.tup [x, y]) (.int 0) = some (.val x) := by
  simp only [gIx]
  rw [show (0 : Int) = ((0 : Nat) : Int) from rfl, L2.atI_nat (j := 0) (v := x) rfl]
  rfl
theorem at1 (x y : D) : gIx (.tup [x, y]) (.int 1) = some (.val y) := by
  simp only [gIx]
  rw [show (1 : Int) = ((1 : Nat) : Int) from rfl, L2.atI_nat (j := 1) (v := y) rfl]
  rfl
theorem p_compare (cols fs gs : List Int) (a b : Int) (hf : ∀ c ∈ cols, Col fs c) (hg : ∀ c ∈ cols, Col gs c) (hl : cols.length < 4000) :
    F_compare_items [.br (.tup (cols.map .int)), .br (item a fs), .br (item b gs)] = .ret (.val (.int (cmpI cols a fs b gs))) [none, none, none] := by
  have e1 := p_sort_key cols fs a hf hl
  have e2 := p_sort_key cols gs b hg hl
  have l1 : gLtT (rowT (cols.map (kv fs) ++ [a])) (rowT (cols.map (kv gs) ++ [b])) = some (.val (.bl (HT.lexLt (key cols a fs) (key cols b gs)))) := gLtT_tt
  have l2 : gGtT (rowT (cols.map (kv fs) ++ [a])) (rowT (cols.map (kv gs) ++ [b])) = some (.val (.bl (HT.lexLt (key cols b gs) (key cols a fs)))) := gGtT_tt
  simp [F_compare_items, u_runF, g_compare_items, startE, slotA, item, at0, at1, e1, e2, l1, l2, cmpI]
def stockK (its : List (Int × List Int)) : List (L2.Key × D) := its.map fun p => (.inl p.1, .tup (p.2.map .int))
theorem stock_get : ∀ (its : List (Int × List Int)) (nd : (its.map (·.1)).Nodup) (p : Int × List Int), p ∈ its → getD (stockK its) (.inl p.1) = some (.tup (p.2.map .int))
  | [], _, _, h => by cases h
  | q :: its, nd, p, h => by
    rw [List.map_cons, List.nodup_cons] at nd
    rcases List.mem_cons.mp h with rfl | h
    · simp [stockK, getD]
    · have hne : ¬ q.1 = p.1 := fun e => nd.1 (e ▸ List.mem_map.mpr ⟨p, h, rfl⟩)
      have ih := stock_get its nd.2 p h
      unfold stockK getD at ih ⊢
      rw [List.map_cons, List.find?_cons]
      have e : decide ((Sum.inl q.1 : L2.Key) = Sum.inl p.1) = false := by simp [hne]
      rw [e]
      exact ih
theorem rowsD_rows : ∀ rows : List (List Int), (∀ r ∈ rows, r ≠ []) → rowsD (rows.map rowT) = some rows
  | [], _ => rfl
  | [] :: rows, h => absurd rfl (h [] (by simp))
  | (n :: ns) :: rows, h => by
    have ih := rowsD_rows rows fun r hr => h r (by simp [hr])
    have e : intsD ((n :: ns).map D.int) = some (n :: ns) := intsD_map _
    show rowsD (.tup ((n :: ns).map .int) :: rows.map rowT) = _
    simp only [rowsD, e, ih]
def look (its : List (Int × List Int)) (i : Int) : List Int := ((its.find? fun p => decide (p.1 = i)).map (·.2)).getD []
theorem look_is : ∀ (its : List (Int × List Int)) (nd : (its.map (·.1)).Nodup) (p : Int × List Int), p ∈ its → look its p.1 = p.2
  | [], _, _, h => by cases h
  | q :: its, nd, p, h => by
    rw [List.map_cons, List.nodup_cons] at nd
    unfold look
    rcases List.mem_cons.mp h with rfl | h
    · simp
    · have hne : ¬ q.1 = p.1 := fun e => nd.1 (e ▸ List.mem_map.mpr ⟨p, h, rfl⟩)
      have ih := look_is its nd.2 p h
      unfold look at ih
      simp only [List.find?_cons, hne, decide_false]
      exact ih
theorem lc_keys (cols : List Int) (its : List (Int × List Int)) (nd : (its.map (·.1)).Nodup) (hl : its.length < 4000) (hcl : cols.length < 4000) (hf : ∀ p ∈ its, ∀ c ∈ cols, Col p.2 c) :
    lcD [3] (.name 3) fYes (fCall [.br, .br, .br] [] F_sort_key (aCons (fVar 0) (aCons (fVar 3) (aCons (f2 (fVar 1) (fVar 3) gDGet) aNil)))) 0 ((its.map (·.1)).map .int) [.br (.tup (cols.map .int)), .br (.dlk (stockK its)), .un, .un] = .ok ((its.map fun p => key cols p.1 p.2).map rowT) [.br (.tup (cols.map .int)), .br (.dlk (stockK its)), .un, .un] := by
  have hz := sizeLine_is
  rw [lcD_ok (fun _ => true) (fun d => match d with | .int i => rowT (key cols i (look its i)) | _ => .non) ((its.map (·.1)).map .int) (fun x hx => ?_) 0 (by simp; omega)]
  · rw [List.filter_eq_self.mpr (by simp), List.map_map, List.map_map, List.map_map]
    congr 1
    refine List.map_congr_left fun p hp => ?_
    show rowT (key cols p.1 (look its p.1)) = rowT (key cols p.1 p.2)
    rw [look_is its nd p hp]
  · obtain ⟨i, hi, rfl⟩ := List.mem_map.mp hx
    obtain ⟨p, hp, rfl⟩ := List.mem_map.mp hi
    have e := p_sort_key cols p.2 p.1 (hf p hp) hcl
    have eg : gDGet (.dlk (stockK its)) (.int p.1) = some (.val (.tup (p.2.map .int))) := by simp [gDGet, keyD, stock_get its nd p hp]
    refine ⟨[.br (.tup (cols.map .int)), .br (.dlk (stockK its)), .un, .sh (.int p.1)], [.br (.tup (cols.map .int)), .br (.dlk (stockK its)), .un, .sh (.int p.1)], by simp, by simp, fun z => by simp at z, fun _ => ⟨[.br (.tup (cols.map .int)), .br (.dlk (stockK its)), .un, .sh (.int p.1)], ?_, by simp [wipeE]⟩⟩
    simp [eg, e, look_is its nd p hp, key]
def lastI (r : List Int) : Int := (r.getLast?).getD 0
theorem lastI_key (cols : List Int) (a : Int) (fs : List Int) : lastI (key cols a fs) = a := by simp [lastI, key]
theorem ix_last (ns : List Int) (a : Int) : gIx (rowT (ns ++ [a])) (.int (-1)) = some (.val (.int a)) := by
  unfold rowT
  have e : L2.ixN (ns.length + 1) (-1) = some ns.length := by
    unfold L2.ixN
    split <;> simp <;> omega
  simp [gIx, L2.atI, e]
theorem keysD (its : List (Int × List Int)) : (stockK its).map (fun p => kDD p.1) = (its.map (·.1)).map .int := by
  simp [stockK, kDD]
def ordered (cols : List Int) (its : List (Int × List Int)) : List Int := (sortR (its.map fun p => key cols p.1 p.2)).map lastI
theorem p_rule_order (cols : List Int) (its : List (Int × List Int)) (nd : (its.map (·.1)).Nodup) (hl : its.length < 4000) (hcl : cols.length < 4000) (hf : ∀ p ∈ its, ∀ c ∈ cols, Col p.2 c) :
    F_rule_order [.br (.tup (cols.map .int)), .br (.dlk (stockK its))] = .ret (.own (.lst ((ordered cols its).map .int))) [none, none] := by
  have hz := sizeLine_is
  have lk := lc_keys cols its nd hl hcl hf
  have er := rowsD_rows (its.map fun p => key cols p.1 p.2) (fun r hr => by
    obtain ⟨p, hp, rfl⟩ := List.mem_map.mp hr
    simp [key])
  have lc := lcD_ok (vs := [2]) (t := .name 2) (ft := fYes) (fe := f2 (fVar 2) (f1 (fC (.int 1)) gNeg) gIx) (ρ0 := [.br (.tup (cols.map .int)), .br (.dlk (stockK its)), .un, .un]) (fun _ => true) (fun d => match d with | .tup ds => (match ds.getLast? with | some x => x | none => .non) | _ => .non) ((sortR (its.map fun p => key cols p.1 p.2)).map rowT) (fun d hdm => by
    obtain ⟨r, hr, rfl⟩ := List.mem_map.mp hdm
    obtain ⟨p, hp, rfl⟩ := List.mem_map.mp ((sortR_perm _).mem_iff.mp hr)
    refine ⟨[.br (.tup (cols.map .int)), .br (.dlk (stockK its)), .sh (rowT (key cols p.1 p.2)), .un], [.br (.tup (cols.map .int)), .br (.dlk (stockK its)), .sh (rowT (key cols p.1 p.2)), .un], by simp, by simp, fun z => by simp at z, fun _ => ⟨[.br (.tup (cols.map .int)), .br (.dlk (stockK its)), .sh (rowT (key cols p.1 p.2)), .un], ?_, by simp [wipeE]⟩⟩
    have e := ix_last (cols.map (kv p.2)) p.1
    simp [gNeg, key, e]
    simp [rowT]) 0 (by
    have := (sortR_perm (its.map fun p => key cols p.1 p.2)).length_eq
    simp at this ⊢
    omega)
  have e1 : ((((sortR (its.map fun p => key cols p.1 p.2)).map rowT).filter fun _ => true).map (fun d => match d with | .tup ds => (match ds.getLast? with | some x => x | none => D.non) | _ => .non)) = (ordered cols its).map .int := by
    rw [List.filter_eq_self.mpr (by simp), List.map_map]
    unfold ordered
    rw [List.map_map]
    refine List.map_congr_left fun r hr => ?_
    obtain ⟨p, hp, rfl⟩ := List.mem_map.mp ((sortR_perm _).mem_iff.mp hr)
    simp [rowT, lastI, key]
  rw [e1] at lc
  simp [F_rule_order, u_runF, g_rule_order, startE, slotA, gItK, keysD, wipeE, -List.map_map]
  rw [lk]
  simp [wipeE, restE, gSortedT, er, gItL, -List.map_map]
  rw [lc]
  simp [wipeE, restE]
end K08

namespace K08
open PySem O
def mvd (l T : List Int) (b : Int) : List Int :=
  (l.filter fun n => decide (n ∉ T)).take (if b = 0 then 0 else (l.filter fun n => decide (n ∉ T)).idxOf b + 1) ++ T ++ (l.filter fun n => decide (n ∉ T)).drop (if b = 0 then 0 else (l.filter fun n => decide (n ∉ T)).idxOf b + 1)
theorem idx_end {b : Int} : ∀ {Y Z : List Int}, b ∉ Y → (Y ++ b :: Z).idxOf b = Y.length
  | [], Z, _ => by simp
  | y :: Y, Z, h => by
    have h1 : ¬ y = b := fun e => h (by simp [e])
    have h2 : b ∉ Y := fun e => h (by simp [e])
    have h3 : (y == b) = false := by simpa using h1
    rw [List.cons_append, List.idxOf_cons, idx_end h2, h3]
    rfl
def Ends (b : Int) (X1 : List Int) : Prop := (b = 0 ∧ X1 = []) ∨ (b ≠ 0 ∧ ∃ Y, X1 = Y ++ [b] ∧ b ∉ Y)
theorem mvd_at {l T X1 X2 : List Int} {b : Int} (h : (l.filter fun n => decide (n ∉ T)) = X1 ++ X2) (hb : Ends b X1) : mvd l T b = X1 ++ T ++ X2 := by
  unfold mvd
  rw [h]
  rcases hb with ⟨rfl, rfl⟩ | ⟨h0, Y, rfl, hY⟩
  · simp
  · rw [if_neg h0]
    have e : (Y ++ [b] ++ X2).idxOf b = Y.length := by rw [List.append_assoc]; exact idx_end hY
    rw [e]
    have e2 : Y.length + 1 = (Y ++ [b]).length := by simp
    rw [e2, List.take_left, List.drop_left]
theorem ends_of {X : List Int} {b : Int} (hb : b = 0 ∨ b ∈ X) (h0 : (0 : Int) ∉ X) : ∃ X1 X2, X = X1 ++ X2 ∧ Ends b X1 := by
  by_cases h : b = 0
  · exact ⟨[], X, rfl, .inl ⟨h, rfl⟩⟩
  · have hm : b ∈ X := hb.resolve_left h
    clear hb h0
    induction X with
    | nil => cases hm
    | cons x X ih =>
      by_cases e : x = b
      · subst e
        exact ⟨[x], X, rfl, .inr ⟨h, [], rfl, by simp⟩⟩
      · have hm' : b ∈ X := by
          rcases List.mem_cons.mp hm with q | q
          · exact absurd q.symm e
          · exact q
        obtain ⟨X1, X2, e1, e2⟩ := ih hm'
        refine ⟨x :: X1, X2, by rw [e1]; rfl, ?_⟩
        rcases e2 with ⟨q, _⟩ | ⟨q, Y, e3, e4⟩
        · exact absurd q h
        · exact .inr ⟨q, x :: Y, by rw [e3]; rfl, fun z => by
            rcases List.mem_cons.mp z with z | z
            · exact e z.symm
            · exact e4 z⟩
theorem filter_out {A T B : List Int} (h : (A ++ T ++ B).Nodup) : ((A ++ T ++ B).filter fun n => decide (n ∉ T)) = A ++ B := by
  rw [List.nodup_append, List.nodup_append] at h
  obtain ⟨⟨hA, hT, h1⟩, hB, h2⟩ := h
  rw [List.filter_append, List.filter_append]
  have a : (A.filter fun n => decide (n ∉ T)) = A := List.filter_eq_self.mpr fun x hx => by
    simp only [decide_eq_true_eq]
    exact fun hm => h1 x hx x hm rfl
  have t : (T.filter fun n => decide (n ∉ T)) = [] := List.filter_eq_nil_iff.mpr fun x hx => by simp [hx]
  have b : (B.filter fun n => decide (n ∉ T)) = B := List.filter_eq_self.mpr fun x hx => by
    simp only [decide_eq_true_eq]
    exact fun hm => h2 x (by simp [hm]) x hx rfl
  rw [a, t, b, List.append_nil]
theorem p_is_integer (n : Int) : F_is_integer [.br (.int n)] = .ret (.val (.bl true)) [none] := by
  simp [F_is_integer, u_runF, g_is_integer, startE, slotA, gIsi, tyN, isT]
theorem p_is_id (n : Int) (h1 : 1 ≤ n) (h2 : n ≤ 1000000) : F_is_id [.br (.int n)] = .ret (.val (.bl true)) [none] := by
  simp [F_is_id, u_runF, g_is_id, startE, slotA, p_is_integer, h1, h2]
theorem all_t {α : Type} (l : List α) : (l.all fun _ => true) = true := by simp
theorem p_are_ids (ns : List Int) (h : ∀ n ∈ ns, 1 ≤ n ∧ n ≤ 1000000) (hd : ns.Nodup) (hl : ns.length < 4000) : F_are_ids [.br (.tup (ns.map .int))] = .ret (.val (.bl true)) [none] := by
  have hz := sizeLine_is
  have hc := lcD_ok (vs := [1]) (t := .name 1) (ft := fYes) (fe := fCall [.br] [] F_is_id (aCons (fVar 1) aNil)) (ρ0 := [.br (.tup (ns.map .int)), .un]) (fun _ => true) (fun _ => .bl true) (ns.map .int) (fun d hdm => by
    obtain ⟨n, hn, rfl⟩ := List.mem_map.mp hdm
    obtain ⟨a, b⟩ := h n hn
    refine ⟨[.br (.tup (ns.map .int)), .sh (.int n)], [.br (.tup (ns.map .int)), .sh (.int n)], by simp, by simp, fun z => by simp at z, fun _ => ⟨[.br (.tup (ns.map .int)), .sh (.int n)], ?_, by simp [wipeE]⟩⟩
    simp [p_is_id n a b]) 0 (by simp; omega)
  simp [F_are_ids, u_runF, g_are_ids, startE, slotA, gItS, wipeE, hc, restE, gAll, gLenSetA, intsD_map, nub_all.mpr hd, hl, gLen, gEqE, all_t]
theorem p_are_idsL (ns : List Int) (h : ∀ n ∈ ns, 1 ≤ n ∧ n ≤ 1000000) (hd : ns.Nodup) (hl : ns.length < 4000) : F_are_ids [.br (.lst (ns.map .int))] = .ret (.val (.bl true)) [none] := by
  have hz := sizeLine_is
  have hc := lcD_ok (vs := [1]) (t := .name 1) (ft := fYes) (fe := fCall [.br] [] F_is_id (aCons (fVar 1) aNil)) (ρ0 := [.br (.lst (ns.map .int)), .un]) (fun _ => true) (fun _ => .bl true) (ns.map .int) (fun d hdm => by
    obtain ⟨n, hn, rfl⟩ := List.mem_map.mp hdm
    obtain ⟨a, b⟩ := h n hn
    refine ⟨[.br (.lst (ns.map .int)), .sh (.int n)], [.br (.lst (ns.map .int)), .sh (.int n)], by simp, by simp, fun z => by simp at z, fun _ => ⟨[.br (.lst (ns.map .int)), .sh (.int n)], ?_, by simp [wipeE]⟩⟩
    simp [p_is_id n a b]) 0 (by simp; omega)
  simp [F_are_ids, u_runF, g_are_ids, startE, slotA, gItS, wipeE, hc, restE, gAll, gLenSetA, intsD_map, nub_all.mpr hd, hl, gLen, gEqE, all_t]
theorem p_is_move (order ids : List Int) (b : Int) (h : ∀ n ∈ ids, 1 ≤ n ∧ n ≤ 1000000) (hd : ids.Nodup) (hl : ids.length < 4000) (hne : ids ≠ []) (hin : ∀ n ∈ ids, n ∈ order) (hb : b = 0 ∨ (b ∈ order ∧ b ∉ ids)) :
    F_is_move [.br (.lst (order.map .int)), .br (.tup [.tup (ids.map .int), .int b])] = .ret (.val (.bl true)) [none, none] := by
  have hz := sizeLine_is
  have hc := lcD_ok (vs := [4]) (t := .name 4) (ft := fYes) (fe := f2 (fVar 4) (fVar 0) gIn) (ρ0 := [.br (.lst (order.map .int)), .br (.tup [.tup (ids.map .int), .int b]), .sh (.tup (ids.map .int)), .sh (.int b), .un]) (fun _ => true) (fun _ => .bl true) (ids.map .int) (fun d hdm => by
    obtain ⟨n, hn, rfl⟩ := List.mem_map.mp hdm
    have hno := hin n hn
    refine ⟨[.br (.lst (order.map .int)), .br (.tup [.tup (ids.map .int), .int b]), .sh (.tup (ids.map .int)), .sh (.int b), .sh (.int n)], [.br (.lst (order.map .int)), .br (.tup [.tup (ids.map .int), .int b]), .sh (.tup (ids.map .int)), .sh (.int b), .sh (.int n)], by simp, by simp, fun z => by simp at z, fun _ => ⟨[.br (.lst (order.map .int)), .br (.tup [.tup (ids.map .int), .int b]), .sh (.tup (ids.map .int)), .sh (.int b), .sh (.int n)], ?_, by simp [wipeE]⟩⟩
    simp [gIn, hno]) 0 (by simp; omega)
  have ha := p_are_ids ids h hd hl
  by_cases h0 : b = 0
  · subst h0
    simp [F_is_move, u_runF, g_is_move, startE, slotA, gIsi, tyN, isT, gLen, gNeE, hne, gEqE, ha, gItT, wipeE, hc, restE, gAll, all_t, p_is_integer]
  · obtain ⟨hb1, hb2⟩ := hb.resolve_left h0
    simp [F_is_move, u_runF, g_is_move, startE, slotA, gIsi, tyN, isT, gLen, gNeE, hne, gEqE, ha, gItT, wipeE, hc, restE, gAll, all_t, p_is_integer, h0, gIn, gNotIn, hb1, hb2]
theorem gAdd_l {xs ys : List Int} (h : xs.length + ys.length ≤ sizeLine) : gAdd (.lst (xs.map .int)) (.lst (ys.map .int)) = some (.own (.lst ((xs ++ ys).map .int))) := by
  simp only [gAdd, List.length_map, if_pos h, List.map_append]
theorem findIdx_ints (b : Int) : ∀ {l : List Int}, b ∈ l → (l.map L2.V.int).findIdx? (fun z => L2.eqV z (.int b)) = some (l.idxOf b)
  | [], h => by cases h
  | x :: l, h => by
    by_cases e : x = b
    · subst e
      simp [List.findIdx?_cons, L2.eqV]
    · have h' : b ∈ l := by
        rcases List.mem_cons.mp h with q | q
        · exact absurd q.symm e
        · exact q
      have e' : (x == b) = false := by simpa using e
      rw [List.map_cons, List.findIdx?_cons, findIdx_ints b h', List.idxOf_cons, e']
      simp [L2.eqV, e']
theorem gIndex_ints {b : Int} {l : List Int} (h : b ∈ l) : gIndex (.lst (l.map .int)) [.int b] = some (.val (.int (l.idxOf b : Nat))) := by
  simp only [gIndex, fv, fvs_ints, findIdx_ints b h, Option.map_some]
theorem cutI_lo (l : List Int) (p : Nat) : cutD (l.map D.int) none (some (p : Int)) = (l.take p).map D.int := by
  unfold cutD
  rw [HT.sIx_none, HT.sIx_nat, List.drop_zero, List.map_take, Nat.sub_zero]
  rcases Nat.le_total p (l.map D.int).length with h | h
  · rw [Nat.min_eq_left h]
  · rw [Nat.min_eq_right h, List.take_of_length_le (Nat.le_refl _), List.take_of_length_le h]
theorem cutI_hi (l : List Int) (p : Nat) : cutD (l.map D.int) (some (p : Int)) none = (l.drop p).map D.int := by
  unfold cutD
  rw [HT.sIx_none, HT.sIx_nat, List.map_drop]
  rcases Nat.le_total p (l.map D.int).length with h | h
  · rw [Nat.min_eq_left h, List.take_of_length_le (by simp)]
  · rw [Nat.min_eq_right h, Nat.sub_self, List.take_zero, List.drop_of_length_le h]
theorem filt_ints (l T : List Int) : ((l.map D.int).filter fun d => match d with | .int n => decide (n ∉ T) | _ => false) = (l.filter fun n => decide (n ∉ T)).map D.int := by
  induction l with
  | nil => rfl
  | cons x l ih =>
    rw [List.map_cons, List.filter_cons, List.filter_cons, ih]
    by_cases h : x ∈ T <;> simp [h]
theorem lc_out {vs : List Nat} {v w : Nat} {ρ0 : O.Env} {l T : List Int} {K : Int → O.Env} (hl : l.length < 4000) (ht : ∀ n, takeT (.name v) (.int n) ρ0 = some (K n)) (hw : ∀ n, wipeE (K n) vs = ρ0) (hv : ∀ n, (K n)[v]? = some (.sh (.int n))) (hT : ∀ n, rdo (K n)[w]? = some (.tup (T.map .int)))
    (hk : ∀ n, kVar w (K n) (K n)[w]? = .ok (.bor w) (K n)) : lcD vs (.name v) (fB (f2 (fVar v) (fVar w) gNotIn)) (fVar v) 0 (l.map .int) ρ0 = .ok ((l.filter fun n => decide (n ∉ T)).map D.int) ρ0 := by
  have hz := sizeLine_is
  rw [lcD_ok (fun d => match d with | .int n => decide (n ∉ T) | _ => false) id (l.map .int) (fun d hdm => ?_) 0 (by simp; omega), filt_ints, List.map_id]
  obtain ⟨n, hn, rfl⟩ := List.mem_map.mp hdm
  refine ⟨K n, K n, ht n, ?_, fun _ => hw n, fun _ => ⟨K n, ?_, hw n⟩⟩
  · simp [hv n, hk n, hT n, gNotIn]
  · simp [hv n]
theorem p_do_move {cBadMove : Addr} (order ids : List Int) (b : Int) (h : ∀ n ∈ ids, 1 ≤ n ∧ n ≤ 1000000) (hd : ids.Nodup) (hl : ids.length < 4000) (hol : order.length < 4000) (hne : ids ≠ []) (hin : ∀ n ∈ ids, n ∈ order) (hb : b = 0 ∨ (b ∈ order ∧ b ∉ ids)) :
    F_do_move cBadMove [.br (.lst (order.map .int)), .br (.tup [.tup (ids.map .int), .int b])] = .ret (.own (.lst ((mvd order ids b).map .int))) [none, none] := by
  have hz := sizeLine_is
  have hm := p_is_move order ids b h hd hl hne hin hb
  have hc := lc_out (vs := [6]) (v := 6) (w := 2) (T := ids) (ρ0 := [.br (.lst (order.map .int)), .br (.tup [.tup (ids.map .int), .int b]), .sh (.tup (ids.map .int)), .sh (.int b), .un, .un, .un]) (K := fun n => [.br (.lst (order.map .int)), .br (.tup [.tup (ids.map .int), .int b]), .sh (.tup (ids.map .int)), .sh (.int b), .un, .un, .sh (.int n)]) hol (by intro n; simp) (by intro n; simp [wipeE]) (by intro n; simp) (by intro n; simp) (by intro n; simp)
  have hX : (order.filter fun n => decide (n ∉ ids)).length ≤ order.length := List.length_filter_le _ _
  have gen : ∀ (p : Nat), (if b = 0 then 0 else (order.filter fun n => decide (n ∉ ids)).idxOf b + 1) = p → (fIf (fB (f2 (fVar 3) (fC (.int 0)) gEqE)) (fC (.int 0)) (f2 (fBM (fVar 4) (aCons (fVar 3) aNil) gIndex) (fC (.int 1)) gAdd)) [.br (.lst (order.map .int)), .br (.tup [.tup (ids.map .int), .int b]), .sh (.tup (ids.map .int)), .sh (.int b), .ow (.lst ((order.filter fun n => decide (n ∉ ids)).map .int)), .un, .un] = .ok (.val (.int (p : Int))) [.br (.lst (order.map .int)), .br (.tup [.tup (ids.map .int), .int b]), .sh (.tup (ids.map .int)), .sh (.int b), .ow (.lst ((order.filter fun n => decide (n ∉ ids)).map .int)), .un, .un] := fun p hp => by
    by_cases h0 : b = 0
    · subst h0
      rw [if_pos rfl] at hp
      subst hp
      simp [gEqE]
    · obtain ⟨hb1, hb2⟩ := hb.resolve_left h0
      rw [if_neg h0] at hp
      have hbX : b ∈ order.filter fun n => decide (n ∉ ids) := List.mem_filter.mpr ⟨hb1, by simp [hb2]⟩
      generalize hXe : (order.filter fun n => decide (n ∉ ids)) = X at *
      subst hp
      simp [gEqE, h0, gIndex_ints hbX]
  generalize hp : (if b = 0 then 0 else (order.filter fun n => decide (n ∉ ids)).idxOf b + 1) = p at gen
  have hg := gen p rfl
  have hmv : mvd order ids b = (order.filter fun n => decide (n ∉ ids)).take p ++ ids ++ (order.filter fun n => decide (n ∉ ids)).drop p := by unfold mvd; rw [hp]
  rw [hmv]
  generalize hXe : (order.filter fun n => decide (n ∉ ids)) = X at *
  have s1 : (X.take p).length + ids.length ≤ sizeLine := by rw [List.length_take]; omega
  have s2 : (X.take p ++ ids).length + (X.drop p).length ≤ sizeLine := by rw [List.length_append, List.length_take, List.length_drop]; omega
  have q1 := gAdd_l s1
  have q2 := gAdd_l s2
  simp [F_do_move, u_runF, g_do_move, startE, slotA, -u_fIf, -List.map_append, -List.map_take, -List.map_drop, hm, gItL, wipeE, hc, restE, hg, gSl, cutI_lo, cutI_hi, gList, q1, q2]
theorem p_is_order (ns : List Int) (h : ∀ n ∈ ns, 1 ≤ n ∧ n ≤ 1000000) (hd : ns.Nodup) (hl : ns.length < 4000) : F_is_order [.br (.lst (ns.map .int))] = .ret (.val (.bl true)) [none] := by
  have e := p_are_idsL ns h hd hl
  generalize ns.map D.int = L at *
  simp [F_is_order, u_runF, g_is_order, startE, slotA, gIsi, tyN, isT, e]
theorem p_do_moves {cBadMove : Addr} (ds : List D) : F_do_moves cBadMove [.br (.lst ds), .br (.tup [])] = .ret (.own (.lst ds)) [none, none] := by
  simp [F_do_moves, u_runF, g_do_moves, startE, slotA, gList, gItT, forD]
theorem p_do_moves2 {cBadMove : Addr} (ds : List D) : F_do_moves cBadMove [.br (.lst ds), .sh (.tup [])] = .ret (.own (.lst ds)) [none, none] := by
  simp [F_do_moves, u_runF, g_do_moves, startE, slotA, gList, gItT, forD]
theorem p_item (f g : Int) (hf : 0 ≤ f ∧ f ≤ 10) (hg : 0 ≤ g ∧ g ≤ 10) : F_is_item [.br (item 3 [f, g]), .br (.int 2)] = .ret (.val (.bl true)) [none, none] := by
  have hz := sizeLine_is
  have h1 := p_is_id 3 (by omega) (by omega)
  have z0 : 0 < sizeLine := by omega
  have z1 : 1 < sizeLine := by omega
  have f1 : -1000000000 ≤ f := by omega
  have f2 : f ≤ 1000000000 := by omega
  have g1 : -1000000000 ≤ g := by omega
  have g2 : g ≤ 1000000000 := by omega
  have e1 := p_is_integer f
  have e2 := p_is_integer g
  simp [item, F_is_item, u_runF, g_is_item, startE, slotA, gIsi, tyN, isT, gLen, gNeE, gEqE, at0, at1, h1, e1, e2, gItT, wipeE, lcD, restE, gAll, blsD, gNeg, f1, f2, g1, g2, z0, z1]
def ways : List (List Int) := [[], [1], [-2, 1], [2]]
theorem p_rule {cols : List Int} (h : cols ∈ ways) : F_is_rule [.br (.tup (cols.map .int)), .br (.int 2)] = .ret (.val (.bl true)) [none, none] := by
  have hz := sizeLine_is
  simp only [ways, List.mem_cons, List.not_mem_nil, or_false] at h
  have z0 : 0 < sizeLine := by omega
  have z1 : 1 < sizeLine := by omega
  have e0 := p_is_integer
  rcases h with rfl | rfl | rfl | rfl <;> simp [F_is_rule, u_runF, g_is_rule, startE, slotA, gIsi, tyN, isT, gLen, gNeE, gEqE, e0, gItT, gItL, wipeE, lcD, restE, gAll, blsD, gNeg, gAbs, gLenSetA, intsD, nubI, z0, z1]
end K08

namespace O
open PySem
section
variable {ρ : O.Env} {f : O.Env → Res (List RV)} {m : Nat} {π : List Nat}
def kPm (m : Nat) (π : List Nat) (rs : List RV) (ρ : O.Env) : Res (List RV) := if rs.length = m then .ok (permL π rs) ρ else .no
@[simp] theorem u_fPerm : fPerm m π f ρ = (f ρ).bind (kPm m π) := id rfl
theorem pm2 {a b : RV} : kPm 2 [1, 0] [a, b] ρ = .ok [b, a] ρ := id rfl
theorem pm3 {a b c : RV} : kPm 3 [2, 1, 0] [a, b, c] ρ = .ok [c, b, a] ρ := id rfl
theorem pm1 {a : RV} : kPm 1 [0] [a] ρ = .ok [a] ρ := id rfl
end
end O
namespace K08
open PySem O
theorem sq {a b : O.Env → SR} {ρ ρ1 : O.Env} (h : a ρ = .nx ρ1) : gSeq a b ρ = b ρ1 := by simp [gSeq, h]
theorem u_gSetL {i : Nat} {fa : O.Env → Res RV} {ρ ρ1 : O.Env} {kvs : List (L2.Key × D)} {s : Sl} (h : fa ρ = .ok (.own (.dic kvs)) ρ1) (hs : ρ1[i]? = some s) (f : Fr s) : gSetL i fa ρ = .nx (ρ1.set i (.sh (.dlk kvs))) := by
  unfold gSetL
  have e := f []
  rw [h]
  simp only [Res.thn]
  have : free i ρ1 = true := by
    unfold free
    rw [hs]
    cases s with
    | io _ => simp [fre] at e
    | _ => rfl
  rw [if_pos this]
theorem put_dk {i : Nat} {d m : Int} {ρ : O.Env} : putSlot i (.own (dk d m)) ρ = fre (ρ.set i (.ow (dk d m))) ρ[i]? := put_dic
/-- what the law compares: pairs of the same -/
def prD (x : D) : D := .tup [x, x]
theorem ix_pr (x y : D) : gIx (.tup [x, y]) (.int 0) = some (.val x) ∧ gIx (.tup [x, y]) (.int 1) = some (.val y) := ⟨at0 x y, at1 x y⟩
theorem p_same (xs : List D) (h : ∀ x ∈ xs, ∃ r, gReprA [x] = some (.val (.str r))) (hl : xs.length < 4000) : F_law_same [.br (.lst (xs.map prD))] = .ret (.val (.bl true)) [none] := by
  have hz := sizeLine_is
  have hc := lcD_ok (vs := [1]) (t := .name 1) (ft := fB (f2 (fCB (aCons (f2 (fVar 1) (fC (.int 0)) gIx) aNil) gReprA) (fCB (aCons (f2 (fVar 1) (fC (.int 1)) gIx) aNil) gReprA) gNeE)) (fe := fVar 1) (ρ0 := [.br (.lst (xs.map prD)), .un]) (fun _ => false) (fun d => d) (xs.map prD) (fun d hdm => by
    obtain ⟨x, hx, rfl⟩ := List.mem_map.mp hdm
    obtain ⟨r, er⟩ := h x hx
    have e0 := at0 x x
    have e1 := at1 x x
    generalize xs.map prD = L at *
    refine ⟨[.br (.lst L), .sh (prD x)], [.br (.lst L), .sh (prD x)], by simp, ?_, fun _ => by simp [wipeE], fun z => by simp at z⟩
    simp [prD, e0, e1, er, gNeE]) 0 (by simp; omega)
  generalize xs.map prD = L at *
  simp [F_law_same, u_runF, g_law_same, startE, slotA, gItL, wipeE, hc, restE, gEqE]
end K08

namespace K08
open PySem O
noncomputable def t0_b0_law (cBadMove : Addr) : O.Env → SR := (gSetL 4 (fDisp (pCons (fC (.int 3)) (fTup (iCons (fC (.int 1)) (iCons (fC (.int 2)) aNil))) (pCons (fC (.int 7)) (fTup (iCons (fCall [.io, .br] [] F_law_draw (aCons (fVar 2) (aCons (fC (.int 3)) aNil))) (iCons (fC (.int 2)) aNil))) (pCons (fC (.int 5)) (fTup (iCons (fC (.int 1)) (iCons (fCall [.io, .br] [] F_law_draw (aCons (fVar 2) (aCons (fC (.int 4)) aNil))) aNil))) pNil)))))
noncomputable def t1_b0_law (cBadMove : Addr) : O.Env → SR := (gSet 5 (fCall [.io, .br] [] F_law_choose (aCons (fVar 2) (aCons (fLst (iCons (fTup aNil) (iCons (fTup (iCons (fC (.int 1)) aNil)) (iCons (fTup (iCons (f2 (fC (.int 0)) (fC (.int 2)) gSubX) (iCons (fC (.int 1)) aNil))) (iCons (fTup (iCons (fC (.int 2)) aNil)) aNil))))) aNil))))
noncomputable def t2_b0_law (cBadMove : Addr) : O.Env → SR := (gParN [6, 7] (hCons (fTup (iCons (fC (.int 3)) (iCons (f2 (fVar 4) (fC (.int 3)) gDGet) aNil))) (hCons (fTup (iCons (fC (.int 5)) (iCons (f2 (fVar 4) (fC (.int 5)) gDGet) aNil))) hNil)))
noncomputable def t3_b0_law (cBadMove : Addr) : O.Env → SR := (gParN [8, 9] (hCons (fLst (iCons (fC (.int 3)) (iCons (fC (.int 7)) (iCons (fC (.int 5)) aNil)))) (hCons (fTup (iCons (fTup (iCons (fC (.int 7)) aNil)) (iCons (fCall [.io, .br] [] F_law_choose (aCons (fVar 2) (aCons (fLst (iCons (fC (.int 0)) (iCons (fC (.int 3)) (iCons (fC (.int 5)) aNil)))) aNil))) aNil))) hNil)))
noncomputable def t4_b0_law (cBadMove : Addr) : O.Env → SR := (gSet 10 (fLst (iCons (fTup (iCons (fCall [.br, .br] [] F_is_item (fPerm 2 [1, 0] (aCons (fC (.int 2)) (aCons (fVar 6) aNil)))) (iCons (fCall [.br, .br] [] F_is_item (aCons (fVar 6) (aCons (fC (.int 2)) aNil))) aNil))) (iCons (fTup (iCons (fCall [.br, .br] [] F_is_rule (fPerm 2 [1, 0] (aCons (fC (.int 2)) (aCons (fVar 5) aNil)))) (iCons (fCall [.br, .br] [] F_is_rule (aCons (fVar 5) (aCons (fC (.int 2)) aNil))) aNil))) aNil))))
noncomputable def t5_b0_law (cBadMove : Addr) : O.Env → SR := (gDrop (fMutL 10 (iCons (fTup (iCons (fCall [.br, .br, .br] [] F_compare_items (fPerm 3 [2, 1, 0] (aCons (fVar 6) (aCons (fVar 7) (aCons (fVar 5) aNil))))) (iCons (fCall [.br, .br, .br] [] F_compare_items (aCons (fVar 5) (aCons (fVar 7) (aCons (fVar 6) aNil)))) aNil))) aNil) gAppend))
noncomputable def t6_b0_law (cBadMove : Addr) : O.Env → SR := (gDrop (fMutL 10 (iCons (fTup (iCons (fCall [.br, .br] [] F_rule_order (fPerm 2 [1, 0] (aCons (fVar 4) (aCons (fVar 5) aNil)))) (iCons (fCall [.br, .br] [] F_rule_order (aCons (fVar 5) (aCons (fVar 4) aNil))) aNil))) aNil) gAppend))
noncomputable def t7_b0_law (cBadMove : Addr) : O.Env → SR := (gDrop (fMutL 10 (iCons (fTup (iCons (fCall [.br] [] F_is_order (fPerm 1 [0] (aCons (fVar 8) aNil))) (iCons (fCall [.br] [] F_is_order (aCons (fVar 8) aNil)) aNil))) aNil) gAppend))
noncomputable def t8_b0_law (cBadMove : Addr) : O.Env → SR := (gDrop (fMutL 10 (iCons (fTup (iCons (fCall [.br, .br] [] F_is_move (fPerm 2 [1, 0] (aCons (fVar 9) (aCons (fVar 8) aNil)))) (iCons (fCall [.br, .br] [] F_is_move (aCons (fVar 8) (aCons (fVar 9) aNil))) aNil))) aNil) gAppend))
noncomputable def t9_b0_law (cBadMove : Addr) : O.Env → SR := (gDrop (fMutL 10 (iCons (fTup (iCons (fCall [.br, .br] [] (F_do_move cBadMove) (fPerm 2 [1, 0] (aCons (fVar 9) (aCons (fVar 8) aNil)))) (iCons (fCall [.br, .br] [] (F_do_move cBadMove) (aCons (fVar 8) (aCons (fVar 9) aNil))) aNil))) aNil) gAppend))
noncomputable def t10_b0_law (cBadMove : Addr) : O.Env → SR := (gDrop (fMutL 10 (iCons (fTup (iCons (fCall [.br, .br] [] (F_do_moves cBadMove) (fStarA 1 (fPerm 1 [0] (aCons (fVar 8) aNil)))) (iCons (fCall [.br, .br] [] (F_do_moves cBadMove) (fStarA 1 (aCons (fVar 8) aNil))) aNil))) aNil) gAppend))
noncomputable def t11_b0_law (cBadMove : Addr) : O.Env → SR := (gDrop (fMutL 10 (iCons (fTup (iCons (fLc (fWalk (fVar 8) gItNb) [11] (.name 11) fYes (fVar 11)) (iCons (fLc (fWalk (fVar 8) gItNb) [11] (.name 11) fYes (fVar 11)) aNil))) aNil) gAppend))
noncomputable def t12_b0_law (cBadMove : Addr) : O.Env → SR := (gIf (fNot (fB (fCall [.br] [] F_law_same (aCons (fVar 10) aNil)))) (gRet (fC (.bl false))) gNext)
theorem b0_law_is (cBadMove : Addr) : b0_law cBadMove = (gSeq (t0_b0_law cBadMove) (gSeq (t1_b0_law cBadMove) (gSeq (t2_b0_law cBadMove) (gSeq (t3_b0_law cBadMove) (gSeq (t4_b0_law cBadMove) (gSeq (t5_b0_law cBadMove) (gSeq (t6_b0_law cBadMove) (gSeq (t7_b0_law cBadMove) (gSeq (t8_b0_law cBadMove) (gSeq (t9_b0_law cBadMove) (gSeq (t10_b0_law cBadMove) (gSeq (t11_b0_law cBadMove) (t12_b0_law cBadMove))))))))))))) := rfl
abbrev Ev (ns : List Int) (st d m : Int) (s3 s4 s5 s6 s7 s8 s9 s10 s11 : Sl) : O.Env := [.sh (.scr ns), .sh (.int st), .ow (dk d m), s3, s4, s5, s6, s7, s8, s9, s10, s11]
abbrev its (a b : Int) : List (Int × List Int) := [(3, [1, 2]), (7, [a, 2]), (5, [1, b])]
abbrev stk (a b : Int) : Sl := .sh (.dlk (stockK (its a b)))
abbrev wy (cols : List Int) : Sl := .sh (.tup (cols.map .int))
abbrev oneS : Sl := .sh (item 3 [1, 2])
abbrev othS (b : Int) : Sl := .sh (item 5 [1, b])
abbrev lnD : D := .lst [.int 3, .int 7, .int 5]
abbrev lnO : Sl := .ow (.lst [.int 3, .int 7, .int 5])
abbrev stD (h : Int) : D := .tup [.tup [.int 7], .int h]
abbrev stS (h : Int) : Sl := .sh (stD h)
section
variable {cBadMove : Addr} {ns : List Int} {st d m d' m' d2 m2 a b c h : Int} {s3 s4 s5 s6 s7 s8 s9 s10 s11 : Sl} {cols out ids : List Int}
theorem merge3 (x y z : D) : mergeD [] [(.inl 3, x), (.inl 7, y), (.inl 5, z)] = [(.inl 3, x), (.inl 7, y), (.inl 5, z)] := by
  simp [mergeD, putD]
theorem a0 (e1 : F_law_draw [.io (dk d m), .br (.int 3)] = .ret (.val (.int a)) [some (dk d' m'), none]) (e2 : F_law_draw [.io (dk d' m'), .br (.int 4)] = .ret (.val (.int b)) [some (dk d2 m2), none]) (f4 : Fr s4) :
    t0_b0_law cBadMove (Ev ns st d m s3 s4 s5 s6 s7 s8 s9 s10 s11) = .nx (Ev ns st d2 m2 s3 (.sh (.dlk (stockK (its a b)))) s5 s6 s7 s8 s9 s10 s11) := by
  have hz := sizeLine_is
  have z2 : (2 : Nat) ≤ sizeLine := by omega
  have z1 : (1 : Nat) ≤ sizeLine := by omega
  have mg := merge3 (.tup [.int 1, .int 2]) (.tup [.int a, .int 2]) (.tup [.int 1, .int b])
  refine (u_gSetL (i := 4) (s := s4) (ρ1 := Ev ns st d2 m2 s3 s4 s5 s6 s7 s8 s9 s10 s11) (kvs := stockK (its a b)) ?_ rfl f4).trans rfl
  simp [Ev, e1, e2, keyD, mg, stockK, z1, z2]
theorem a1 (e : F_law_choose [.io (dk d m), .br (.lst [.tup [], .tup [.int 1], .tup [.int (-2), .int 1], .tup [.int 2]])] = .ret (.val (.tup (cols.map .int))) [some (dk d' m'), none]) (f5 : Fr s5) :
    t1_b0_law cBadMove (Ev ns st d m s3 s4 s5 s6 s7 s8 s9 s10 s11) = .nx (Ev ns st d' m' s3 s4 (wy cols) s6 s7 s8 s9 s10 s11) := by
  have hz := sizeLine_is
  have z1 : (1 : Nat) ≤ sizeLine := by omega
  have z2 : (2 : Nat) ≤ sizeLine := by omega
  have z4 : (4 : Nat) ≤ sizeLine := by omega
  have F5 : ∀ ρ', fre ρ' (some s5) = some ρ' := f5
  simp [t1_b0_law, Ev, z1, z2, z4, e, F5]
theorem get3 : getD (stockK (its a b)) (.inl 3) = some (.tup [.int 1, .int 2]) ∧ getD (stockK (its a b)) (.inl 5) = some (.tup [.int 1, .int b]) := by
  simp [stockK, getD]
theorem a2 {S : List (L2.Key × D)} {x y : D} (g3 : getD S (.inl 3) = some x) (g5 : getD S (.inl 5) = some y) (f6 : Fr s6) (f7 : Fr s7) : t2_b0_law cBadMove (Ev ns st d m s3 (.sh (.dlk S)) s5 s6 s7 s8 s9 s10 s11) = .nx (Ev ns st d m s3 (.sh (.dlk S)) s5 (.sh (.tup [.int 3, x])) (.sh (.tup [.int 5, y])) s8 s9 s10 s11) := by
  have hz := sizeLine_is
  have z1 : (1 : Nat) ≤ sizeLine := by omega
  have z2 : (2 : Nat) ≤ sizeLine := by omega
  have F6 : ∀ ρ', fre ρ' (some s6) = some ρ' := f6
  have F7 : ∀ ρ', fre ρ' (some s7) = some ρ' := f7
  simp [t2_b0_law, Ev, gDGet, keyD, g3, g5, z1, z2, F6, F7]
theorem a3 (e : F_law_choose [.io (dk d m), .br (.lst [.int 0, .int 3, .int 5])] = .ret (.val (.int h)) [some (dk d' m'), none]) (f8 : Fr s8) (f9 : Fr s9) :
    t3_b0_law cBadMove (Ev ns st d m s3 s4 s5 s6 s7 s8 s9 s10 s11) = .nx (Ev ns st d' m' s3 s4 s5 s6 s7 lnO (stS h) s10 s11) := by
  have hz := sizeLine_is
  have z1 : (1 : Nat) ≤ sizeLine := by omega
  have z2 : (2 : Nat) ≤ sizeLine := by omega
  have z3 : (3 : Nat) ≤ sizeLine := by omega
  have F8 : ∀ ρ', fre ρ' (some s8) = some ρ' := f8
  have F9 : ∀ ρ', fre ρ' (some s9) = some ρ' := f9
  simp [t3_b0_law, Ev, z1, z2, z3, e, F8, F9]
variable {S : List (L2.Key × D)} {C L : List D} {I J T v : D} {X : List D}
theorem sz : 0 < sizeLine ∧ 1 ≤ sizeLine ∧ 2 ≤ sizeLine ∧ 1 < sizeLine ∧ 2 < sizeLine := by have := sizeLine_is; omega
theorem app_is (h : X.length < 4000) : gAppend X [.tup [v, v]] = some (X ++ [prD v], .non) := by
  have hz := sizeLine_is
  have hl : X.length < sizeLine := by omega
  simp [gAppend, hl, prD]
theorem a4 (e1 : F_is_item [.br I, .br (.int 2)] = .ret (.val (.bl true)) [none, none]) (e2 : F_is_rule [.br (.tup C), .br (.int 2)] = .ret (.val (.bl true)) [none, none]) (f10 : Fr s10) :
    t4_b0_law cBadMove (Ev ns st d m s3 s4 (.sh (.tup C)) (.sh I) s7 s8 s9 s10 s11) = .nx (Ev ns st d m s3 s4 (.sh (.tup C)) (.sh I) s7 s8 s9 (.ow (.lst [prD (.bl true), prD (.bl true)])) s11) := by
  obtain ⟨z0, z1, z2, y1, y2⟩ := sz
  have F10 : ∀ ρ', fre ρ' (some s10) = some ρ' := f10
  simp [t4_b0_law, Ev, pm2, e1, e2, z1, z2, F10, prD]
theorem a5 (hl : X.length < 4000) (e : F_compare_items [.br (.tup C), .br J, .br I] = .ret (.val v) [none, none, none]) :
    t5_b0_law cBadMove (Ev ns st d m s3 s4 (.sh (.tup C)) (.sh I) (.sh J) s8 s9 (.ow (.lst X)) s11) = .nx (Ev ns st d m s3 s4 (.sh (.tup C)) (.sh I) (.sh J) s8 s9 (.ow (.lst (X ++ [prD v]))) s11) := by
  obtain ⟨z0, z1, z2, y1, y2⟩ := sz
  have ea := app_is (v := v) hl
  simp [t5_b0_law, Ev, pm3, e, z1, z2, ea]
theorem a6 (hl : X.length < 4000) (e : F_rule_order [.br (.tup C), .br (.dlk S)] = .ret (.own (.lst L)) [none, none]) :
    t6_b0_law cBadMove (Ev ns st d m s3 (.sh (.dlk S)) (.sh (.tup C)) s6 s7 s8 s9 (.ow (.lst X)) s11) = .nx (Ev ns st d m s3 (.sh (.dlk S)) (.sh (.tup C)) s6 s7 s8 s9 (.ow (.lst (X ++ [prD (.lst L)]))) s11) := by
  obtain ⟨z0, z1, z2, y1, y2⟩ := sz
  have ea := app_is (v := .lst L) hl
  simp [t6_b0_law, Ev, pm2, e, z1, z2, ea]
theorem a7 (hl : X.length < 4000) (e : F_is_order [.br (.lst L)] = .ret (.val v) [none]) :
    t7_b0_law cBadMove (Ev ns st d m s3 s4 s5 s6 s7 (.ow (.lst L)) s9 (.ow (.lst X)) s11) = .nx (Ev ns st d m s3 s4 s5 s6 s7 (.ow (.lst L)) s9 (.ow (.lst (X ++ [prD v]))) s11) := by
  obtain ⟨z0, z1, z2, y1, y2⟩ := sz
  have ea := app_is (v := v) hl
  simp [t7_b0_law, Ev, pm1, e, z1, z2, ea]
theorem a8 (hl : X.length < 4000) (e : F_is_move [.br (.lst L), .br T] = .ret (.val v) [none, none]) :
    t8_b0_law cBadMove (Ev ns st d m s3 s4 s5 s6 s7 (.ow (.lst L)) (.sh T) (.ow (.lst X)) s11) = .nx (Ev ns st d m s3 s4 s5 s6 s7 (.ow (.lst L)) (.sh T) (.ow (.lst (X ++ [prD v]))) s11) := by
  obtain ⟨z0, z1, z2, y1, y2⟩ := sz
  have ea := app_is (v := v) hl
  simp [t8_b0_law, Ev, pm2, e, z1, z2, ea]
theorem a9 {Y : List D} (hl : X.length < 4000) (e : F_do_move cBadMove [.br (.lst L), .br T] = .ret (.own (.lst Y)) [none, none]) :
    t9_b0_law cBadMove (Ev ns st d m s3 s4 s5 s6 s7 (.ow (.lst L)) (.sh T) (.ow (.lst X)) s11) = .nx (Ev ns st d m s3 s4 s5 s6 s7 (.ow (.lst L)) (.sh T) (.ow (.lst (X ++ [prD (.lst Y)]))) s11) := by
  obtain ⟨z0, z1, z2, y1, y2⟩ := sz
  have ea := app_is (v := .lst Y) hl
  simp [t9_b0_law, Ev, pm2, e, z1, z2, ea]
theorem a10 (hl : X.length < 4000) :
    t10_b0_law cBadMove (Ev ns st d m s3 s4 s5 s6 s7 (.ow (.lst L)) s9 (.ow (.lst X)) s11) = .nx (Ev ns st d m s3 s4 s5 s6 s7 (.ow (.lst L)) s9 (.ow (.lst (X ++ [prD (.lst L)]))) s11) := by
  obtain ⟨z0, z1, z2, y1, y2⟩ := sz
  have ea := app_is (v := .lst L) hl
  have e := p_do_moves (cBadMove := cBadMove) L
  have e' := p_do_moves2 (cBadMove := cBadMove) L
  simp [t10_b0_law, Ev, pm1, packA, valsD, e, e', z1, z2, ea]
theorem a11 (hl : X.length < 4000) :
    t11_b0_law cBadMove (Ev ns st d m s3 s4 s5 s6 s7 (.ow (.lst [.int 3, .int 7, .int 5])) s9 (.ow (.lst X)) s11) = .nx (Ev ns st d m s3 s4 s5 s6 s7 (.sh (.lst [.int 3, .int 7, .int 5])) s9 (.ow (.lst (X ++ [prD (.lst (nbD (.int 0) [.int 3, .int 7, .int 5]))]))) s11) := by
  obtain ⟨z0, z1, z2, y1, y2⟩ := sz
  have ea := app_is (v := .lst (nbD (.int 0) [.int 3, .int 7, .int 5])) hl
  simp only [nbD] at ea
  simp [t11_b0_law, Ev, gItNb, nbD, wipeE, lcD, restE, z0, y1, y2, z1, z2, ea]
theorem a12 (e : F_law_same [.br (.lst X)] = .ret (.val (.bl true)) [none]) :
    t12_b0_law cBadMove (Ev ns st d m s3 s4 s5 s6 s7 s8 s9 (.ow (.lst X)) s11) = .nx (Ev ns st d m s3 s4 s5 s6 s7 s8 s9 (.ow (.lst X)) s11) := by
  simp [t12_b0_law, Ev, e]
end
end K08

namespace K08
open PySem O
def Shown (x : D) : Prop := ∃ r, gReprA [x] = some (.val (.str r))
theorem shown_bl (b : Bool) : Shown (.bl b) := ⟨_, fine_repr rfl (by simp [dpD, pyD, PyData.depth]) (by simp [bkD, pyD, PyData.bulk])⟩
theorem shown_int {c : Int} (h : -1000 ≤ c ∧ c ≤ 1000) : Shown (.int c) := ⟨_, fine_repr (by simp only [fineD]; exact int_small (by unfold smallI; omega)) (by rw [dp_int]; omega) (by rw [bk_int]; omega)⟩
theorem shown_ints {ns : List Int} (h : ∀ n ∈ ns, -1000 ≤ n ∧ n ≤ 1000) (hl : ns.length ≤ 100) : Shown (.lst (ns.map .int)) :=
  ⟨_, fine_repr (by simpa [fineD] using fine_ints fun n hn => by have := h n hn; unfold smallI; omega) (by rw [dp_lst, dpD_ints]; omega) (by rw [bk_lst, bkD_ints]; omega)⟩
theorem shown_nb : Shown (.lst (nbD (.int 0) [.int 3, .int 7, .int 5])) := by
  have i0 : intOk 0 = true := int_small (by unfold smallI; omega)
  have i3 : intOk 3 = true := int_small (by unfold smallI; omega)
  have i7 : intOk 7 = true := int_small (by unfold smallI; omega)
  have i5 : intOk 5 = true := int_small (by unfold smallI; omega)
  exact ⟨_, fine_repr (by simp [nbD, fineD, fineDs, i0, i3, i7, i5]) (by simp [nbD, dp_lst, dp_tup, dp_cons, dp_nil, dp_int]) (by simp [nbD, bk_lst, bk_tup, bk_cons, bk_nil, bk_int])⟩
theorem cmp_small (cols : List Int) (a : Int) (fs : List Int) (b : Int) (gs : List Int) : -1000 ≤ cmpI cols a fs b gs ∧ cmpI cols a fs b gs ≤ 1000 := by
  have hb : ∀ x : Bool, 0 ≤ nB x ∧ nB x ≤ 1 := fun x => by cases x <;> simp [nB]
  unfold cmpI
  have h1 := hb (HT.lexLt (key cols b gs) (key cols a fs))
  have h2 := hb (HT.lexLt (key cols a fs) (key cols b gs))
  omega
theorem way_col {cols : List Int} (h : cols ∈ ways) (x y : Int) : ∀ c ∈ cols, Col [x, y] c := by
  simp only [ways, List.mem_cons, List.not_mem_nil, or_false] at h
  intro c hc
  rcases h with rfl | rfl | rfl | rfl <;> simp at hc <;> (try rcases hc with rfl | rfl) <;> (try subst hc) <;> simp [Col]
theorem way_len {cols : List Int} (h : cols ∈ ways) : cols.length < 4000 := by
  simp only [ways, List.mem_cons, List.not_mem_nil, or_false] at h
  rcases h with rfl | rfl | rfl | rfl <;> simp
end K08

namespace K08
open PySem O
theorem ord_small {cols : List Int} {a b : Int} : (∀ n ∈ ordered cols (its a b), -1000 ≤ n ∧ n ≤ 1000) ∧ (ordered cols (its a b)).length ≤ 100 := by
  constructor
  · intro n hn
    unfold ordered at hn
    obtain ⟨r, hr, rfl⟩ := List.mem_map.mp hn
    have hr := (sortR_perm _).mem_iff.mp hr
    obtain ⟨p, hp, rfl⟩ := List.mem_map.mp hr
    rw [lastI_key]
    simp [its] at hp
    rcases hp with rfl | rfl | rfl <;> simp
  · unfold ordered
    rw [List.length_map, (sortR_perm _).length_eq, List.length_map]
    simp [its]
theorem mvd_small {h : Int} (hh : h ∈ [(0 : Int), 3, 5]) : (∀ n ∈ mvd [3, 7, 5] [7] h, -1000 ≤ n ∧ n ≤ 1000) ∧ (mvd [3, 7, 5] [7] h).length ≤ 100 := by
  simp only [List.mem_cons, List.not_mem_nil, or_false] at hh
  rcases hh with rfl | rfl | rfl <;> decide
theorem idsok : (∀ n ∈ [(3 : Int), 7, 5], 1 ≤ n ∧ n ≤ 1000000) ∧ [(3 : Int), 7, 5].Nodup := by decide
theorem beh {h : Int} (hh : h ∈ [(0 : Int), 3, 5]) : h = 0 ∨ (h ∈ [(3 : Int), 7, 5] ∧ h ∉ [(7 : Int)]) := by
  simp only [List.mem_cons, List.not_mem_nil, or_false] at hh
  rcases hh with rfl | rfl | rfl <;> decide
theorem choose_way {d m : Int} (g : Good d m) : ∃ cols d' m', cols ∈ ways ∧ F_law_choose [.io (dk d m), .br (.lst [.tup [], .tup [.int 1], .tup [.int (-2), .int 1], .tup [.int 2]])] = .ret (.val (.tup (cols.map .int))) [some (dk d' m'), none] ∧ Good d' m' := by
  obtain ⟨r, x, d', m', ex, e, k1, k2, k3⟩ := p_choose d m [.tup [], .tup [.int 1], .tup [.int (-2), .int 1], .tup [.int 2]] g.d0 g.m0 g.m1 (by simp) (by simp)
  have key : ∃ cols, cols ∈ ways ∧ x = .tup (cols.map .int) := by
    match r, ex with
    | 0, ex => simp at ex; exact ⟨[], by simp [ways], ex.symm⟩
    | 1, ex => simp at ex; exact ⟨[1], by simp [ways], ex.symm⟩
    | 2, ex => simp at ex; exact ⟨[-2, 1], by simp [ways], ex.symm⟩
    | 3, ex => simp at ex; exact ⟨[2], by simp [ways], ex.symm⟩
    | r + 4, ex => simp at ex
  obtain ⟨cols, hc, rfl⟩ := key
  exact ⟨cols, d', m', hc, e, ⟨k1, k2, k3⟩⟩
structure Rest (s4 s5 s6 s7 s8 s9 s10 s11 : Sl) : Prop where
  f4 : Fr s4
  f5 : Fr s5
  f6 : Fr s6
  f7 : Fr s7
  f8 : Fr s8
  f9 : Fr s9
  f10 : Fr s10
  f11 : Fr s11
section
variable {cBadMove : Addr} {ns : List Int} {st d m : Int} {s3 s4 s5 s6 s7 s8 s9 s10 s11 : Sl}
theorem p_b0 (g : Good d m) (R : Rest s4 s5 s6 s7 s8 s9 s10 s11) :
    ∃ d' m' t4 t5 t6 t7 t8 t9 t10 t11, b0_law cBadMove (Ev ns st d m s3 s4 s5 s6 s7 s8 s9 s10 s11) = .nx (Ev ns st d' m' s3 t4 t5 t6 t7 t8 t9 t10 t11) ∧ Good d' m' ∧ Rest t4 t5 t6 t7 t8 t9 t10 t11 := by
  obtain ⟨a, d1, m1, e1, _, _, g1⟩ := draw d m 3 g (by omega) (by omega)
  obtain ⟨b, d2, m2, e2, b0, b1, g2⟩ := draw d1 m1 4 g1 (by omega) (by omega)
  obtain ⟨cols, d3, m3, hc, e3, g3⟩ := choose_way g2
  obtain ⟨h, d4, m4, hh, e4, g4⟩ := choose_int d3 m3 [0, 3, 5] g3 (by simp) (by simp)
  have e4 : F_law_choose [.io (dk d3 m3), .br (.lst [.int 0, .int 3, .int 5])] = .ret (.val (.int h)) [some (dk d4 m4), none] := e4
  have r1 := p_item 1 2 (by omega) (by omega)
  have r2 := p_rule hc
  have r3 := p_compare cols [1, b] [1, 2] 5 3 (way_col hc 1 b) (way_col hc 1 2) (way_len hc)
  have r4 := p_rule_order cols (its a b) (by simp [its]) (by simp [its]) (way_len hc) (fun p hp c hcm => by
    simp [its] at hp
    rcases hp with rfl | rfl | rfl
    · exact way_col hc 1 2 c hcm
    · exact way_col hc a 2 c hcm
    · exact way_col hc 1 b c hcm)
  have r5 : F_is_order [.br (.lst [.int 3, .int 7, .int 5])] = .ret (.val (.bl true)) [none] := p_is_order [3, 7, 5] idsok.1 idsok.2 (by simp)
  have r6 : F_is_move [.br (.lst [.int 3, .int 7, .int 5]), .br (.tup [.tup [.int 7], .int h])] = .ret (.val (.bl true)) [none, none] := p_is_move [3, 7, 5] [7] h (by simp) (by simp) (by simp) (by simp) (by simp) (beh hh)
  have r7 : F_do_move cBadMove [.br (.lst [.int 3, .int 7, .int 5]), .br (.tup [.tup [.int 7], .int h])] = .ret (.own (.lst ((mvd [3, 7, 5] [7] h).map .int))) [none, none] := p_do_move [3, 7, 5] [7] h (by simp) (by simp) (by simp) (by simp) (by simp) (by simp) (beh hh)
  have sm := mvd_small hh
  have so := ord_small (cols := cols) (a := a) (b := b)
  have sc := cmp_small cols 5 [1, b] 3 [1, 2]
  generalize mvd [3, 7, 5] [7] h = out at *
  generalize ordered cols (its a b) = ids at *
  generalize cmpI cols 5 [1, b] 3 [1, 2] = c at *
  have rs := p_same [.bl true, .bl true, .int c, .lst (ids.map .int), .bl true, .bl true, .lst (out.map .int), .lst ([(3 : Int), 7, 5].map .int), .lst (nbD (.int 0) [.int 3, .int 7, .int 5])] (fun x hx => by
    simp only [List.mem_cons, List.not_mem_nil, or_false] at hx
    rcases hx with rfl | rfl | rfl | rfl | rfl | rfl | rfl | rfl | rfl
    · exact shown_bl true
    · exact shown_bl true
    · exact shown_int sc
    · exact shown_ints so.1 so.2
    · exact shown_bl true
    · exact shown_bl true
    · exact shown_ints sm.1 sm.2
    · exact shown_ints (by simp) (by simp)
    · exact shown_nb) (by simp)
  have get := get3 (a := a) (b := b)
  refine ⟨d4, m4, .sh (.dlk (stockK (its a b))), .sh (.tup (cols.map .int)), .sh (.tup [.int 3, .tup [.int 1, .int 2]]), .sh (.tup [.int 5, .tup [.int 1, .int b]]), .sh (.lst [.int 3, .int 7, .int 5]), .sh (.tup [.tup [.int 7], .int h]), .ow (.lst ([D.bl true, .bl true, .int c, .lst (ids.map .int), .bl true, .bl true, .lst (out.map .int), .lst ([(3 : Int), 7, 5].map .int), .lst (nbD (.int 0) [.int 3, .int 7, .int 5])].map prD)), s11, ?_, g4, ⟨fr_sh, fr_sh, fr_sh, fr_sh, fr_sh, fr_sh, fr_ow, R.f11⟩⟩
  refine (congrFun (b0_law_is cBadMove) _).trans ?_
  refine (sq (a0 e1 e2 R.f4)).trans ?_
  refine (sq (a1 e3 R.f5)).trans ?_
  refine (sq (a2 get.1 get.2 R.f6 R.f7)).trans ?_
  refine (sq (a3 e4 R.f8 R.f9)).trans ?_
  refine (sq (a4 r1 r2 R.f10)).trans ?_
  refine (sq (a5 (by simp) r3)).trans ?_
  refine (sq (a6 (by simp) r4)).trans ?_
  refine (sq (a7 (by simp) r5)).trans ?_
  refine (sq (a8 (by simp) r6)).trans ?_
  refine (sq (a9 (by simp) r7)).trans ?_
  refine (sq (a10 (by simp))).trans ?_
  refine (sq (a11 (by simp))).trans ?_
  exact a12 rs
theorem p_b1 (hl : ns.length ≤ 63) (hb : ∀ z ∈ ns, Builtin.Int.intBits z ≤ 1048576) (h0 : 0 ≤ st) (h1 : st ≤ 100) {s2 : Sl} (f2 : Fr s2) (f3 : Fr s3) (R : Rest s4 s5 s6 s7 s8 s9 s10 s11) :
    ∃ t2 t3 t4 t5 t6 t7 t8 t9 t10 t11, b1_law cBadMove [.sh (.scr ns), .sh (.int st), s2, s3, s4, s5, s6, s7, s8, s9, s10, s11] = .nx [.sh (.scr ns), .sh (.int st), t2, t3, t4, t5, t6, t7, t8, t9, t10, t11] ∧ Fr t2 ∧ Fr t3 ∧ Rest t4 t5 t6 t7 t8 t9 t10 t11 := by
  obtain ⟨d, m, e1, g1⟩ := p_deck ns st h0 h1 hl hb
  obtain ⟨ρ', e, ⟨d', m', t3, t4, t5, t6, t7, t8, t9, t10, t11, rfl, g', q3, R'⟩, _⟩ := forD_ok (k := takeT (.name 3)) (g := b0_law cBadMove)
    (fun ds ρ => (∃ d m t3 t4 t5 t6 t7 t8 t9 t10 t11, ρ = Ev ns st d m t3 t4 t5 t6 t7 t8 t9 t10 t11 ∧ Good d m ∧ Fr t3 ∧ Rest t4 t5 t6 t7 t8 t9 t10 t11) ∧ ∀ y ∈ ds, ∃ i : Int, y = .int i) (fun y ds ρ ⟨⟨d, m, t3, t4, t5, t6, t7, t8, t9, t10, t11, e, g, q3, R⟩, hd⟩ => by
    subst e
    obtain ⟨i, rfl⟩ := hd y (by simp)
    obtain ⟨d', m', u4, u5, u6, u7, u8, u9, u10, u11, e, g', R'⟩ := p_b0 (cBadMove := cBadMove) (ns := ns) (st := st) (s3 := .sh (.int i)) g R
    have F3 : ∀ ρ', fre ρ' (some t3) = some ρ' := q3
    exact ⟨Ev ns st d m (.sh (.int i)) t4 t5 t6 t7 t8 t9 t10 t11, _, by simp [Ev, F3], e, ⟨_, _, _, _, _, _, _, _, _, _, _, rfl, g', fr_sh, R'⟩, fun y hy => hd y (by simp [hy])⟩)
    (rngD 0 4) _ ⟨⟨d, m, s3, s4, s5, s6, s7, s8, s9, s10, s11, rfl, g1, f3, R⟩, fun y hy => by
      obtain ⟨i, _, e⟩ := rng_mem hy
      exact ⟨_, e⟩⟩
  refine ⟨.ow (dk d' m'), t3, t4, t5, t6, t7, t8, t9, t10, t11, ?_, fr_ow, q3, R'⟩
  have F2 : ∀ ρ', fre ρ' (some s2) = some ρ' := f2
  have a1 : gSet 2 (fCall [.br, .br] [] F_law_deck (aCons (fVar 0) (aCons (fVar 1) aNil))) [.sh (.scr ns), .sh (.int st), s2, s3, s4, s5, s6, s7, s8, s9, s10, s11] = .nx (Ev ns st d m s3 s4 s5 s6 s7 s8 s9 s10 s11) := by
    simp [Ev, e1, put_dk, F2]
  have eb : b1_law cBadMove = gSeq (gSet 2 (fCall [.br, .br] [] F_law_deck (aCons (fVar 0) (aCons (fVar 1) aNil)))) (gFor (fRng1 (aCons (fC (.int 4)) aNil)) (.name 3) (b0_law cBadMove)) := rfl
  rw [eb, sq a1]
  simp [Ev]
  exact e
end
theorem p_starts {cBadMove : Addr} {ns : List Int} (hl : ns.length ≤ 63) (hb : ∀ z ∈ ns, Builtin.Int.intBits z ≤ 1048576) (n : Nat) (hn : n ≤ 100) :
    ∃ ρ', forD (takeT (.name 1)) (b1_law cBadMove) (rngD 0 n) [.sh (.scr ns), .un, .un, .un, .un, .un, .un, .un, .un, .un, .un, .un] = .nx ρ' ∧ ∃ t1 t2 t3 t4 t5 t6 t7 t8 t9 t10 t11, ρ' = [.sh (.scr ns), t1, t2, t3, t4, t5, t6, t7, t8, t9, t10, t11] := by
  obtain ⟨ρ', e, ⟨t1, t2, t3, t4, t5, t6, t7, t8, t9, t10, t11, e', _⟩, _⟩ := forD_ok (k := takeT (.name 1)) (g := b1_law cBadMove)
    (fun ds ρ => (∃ t1 t2 t3 t4 t5 t6 t7 t8 t9 t10 t11, ρ = [.sh (.scr ns), t1, t2, t3, t4, t5, t6, t7, t8, t9, t10, t11] ∧ Fr t1 ∧ Fr t2 ∧ Fr t3 ∧ Rest t4 t5 t6 t7 t8 t9 t10 t11) ∧ ∀ y ∈ ds, ∃ i : Int, 0 ≤ i ∧ i ≤ 100 ∧ y = .int i) (fun y ds ρ ⟨⟨t1, t2, t3, t4, t5, t6, t7, t8, t9, t10, t11, e, q1, q2, q3, R⟩, hd⟩ => by
    subst e
    obtain ⟨i, h0, h1, rfl⟩ := hd y (by simp)
    obtain ⟨u2, u3, u4, u5, u6, u7, u8, u9, u10, u11, e, r2, r3, R'⟩ := p_b1 (cBadMove := cBadMove) (ns := ns) (st := i) hl hb h0 h1 q2 q3 R
    have F1 : ∀ ρ', fre ρ' (some t1) = some ρ' := q1
    exact ⟨_, _, by simp [F1], e, ⟨_, _, _, _, _, _, _, _, _, _, _, rfl, fr_sh, r2, r3, R'⟩, fun y hy => hd y (by simp [hy])⟩)
    (rngD 0 n) _ ⟨⟨.un, .un, .un, .un, .un, .un, .un, .un, .un, .un, .un, rfl, fr_un, fr_un, fr_un, ⟨fr_un, fr_un, fr_un, fr_un, fr_un, fr_un, fr_un, fr_un⟩⟩, fun y hy => by
      obtain ⟨i, hi, e⟩ := rng_mem hy
      exact ⟨0 + (i : Int), by omega, by omega, e⟩⟩
  exact ⟨ρ', e, t1, t2, t3, t4, t5, t6, t7, t8, t9, t10, t11, e'⟩
theorem law_true {cBadMove : Addr} (ns : List Int) (hl : ns.length ≤ 63) (hb : ∀ z ∈ ns, Builtin.Int.intBits z ≤ 1048576) : ∃ os, F_law cBadMove [.sh (.scr ns)] = .ret (.val (.bl true)) os := by
  refine ⟨[none], ?_⟩
  have hr : ∃ n : Nat, n ≤ 100 ∧ (∀ (a : Int), a = (if (if (ns.length : Int) < 4 then (ns.length : Int) else 4) > 1 then (if (ns.length : Int) < 4 then (ns.length : Int) else 4) else 1) → a = (n : Int)) := by
    refine ⟨if (if ns.length < 4 then ns.length else 4) > 1 then (if ns.length < 4 then ns.length else 4) else 1, by split <;> (try split) <;> omega, fun a e => ?_⟩
    subst e
    split <;> split <;> (try split) <;> (try split) <;> omega
  obtain ⟨n, hn, hn2⟩ := hr
  obtain ⟨ρ', e, t1, t2, t3, t4, t5, t6, t7, t8, t9, t10, t11, rfl⟩ := p_starts (cBadMove := cBadMove) hl hb n hn
  have em := hn2 _ rfl
  have e0 : (fRng1 (aCons (fCB (aCons (fC (.int 1)) (aCons (fCB (aCons (fC (.int 4)) (aCons (fCB (aCons (fVar 0) aNil) gLen) aNil)) gMin) aNil)) gMax) aNil)) [.sh (.scr ns), .un, .un, .un, .un, .un, .un, .un, .un, .un, .un, .un] = .ok (rngD 0 n) [.sh (.scr ns), .un, .un, .un, .un, .un, .un, .un, .un, .un, .un, .un] := by
    simp only [u_fRng1, u_aCons, u_fCB, u_fC, u_fVar, List.getElem?_cons_zero, kVar_sh, bind_ok, fzo_bor, fzo_val, u_kA, u_aNil, u_kA2, u_kC, rds_cons, rds_nil, rd_bor, rd_val, rdo_sh, cO_some, aC_some, gLen, gMin, gMax, gMM, az_some, u_kR, em, aR_some]
    rw [if_pos (by omega), Int.toNat_natCast]
  simp [F_law, u_runF, g_law, startE, slotA, -u_fRng1, e0, e]
end K08

namespace K08
open PySem O
theorem all_mk {l : PySem.W.OpenLaw} {w : World} {K : PySem.W.Frag} {h : Heap} {mg : PySem.Str → Option Value} {fA : Addr} {f0 : Addr} {od0 an0 : Option Addr} {sl0 : Array (Option Value)} {oc0 kV0 dc0 pm0 cd0 ct0 : Value} {f1 : Addr} {od1 an1 : Option Addr} {sl1 : Array (Option Value)} {oc1 kV1 dc1 pm1 cd1 ct1 : Value} {f2 : Addr} {od2 an2 : Option Addr} {sl2 : Array (Option Value)} {oc2 kV2 dc2 pm2 cd2 ct2 : Value} {f3 : Addr} {od3 an3 : Option Addr} {sl3 : Array (Option Value)} {oc3 kV3 dc3 pm3 cd3 ct3 : Value} {f4 : Addr} {od4 an4 : Option Addr} {sl4 : Array (Option Value)} {oc4 kV4 dc4 pm4 cd4 ct4 : Value} {f5 : Addr} {od5 an5 : Option Addr} {sl5 : Array (Option Value)} {oc5 kV5 dc5 pm5 cd5 ct5 : Value} {f6 : Addr} {od6 an6 : Option Addr} {sl6 : Array (Option Value)} {oc6 kV6 dc6 pm6 cd6 ct6 : Value} {f7 : Addr} {od7 an7 : Option Addr} {sl7 : Array (Option Value)} {oc7 kV7 dc7 pm7 cd7 ct7 : Value} {f8 : Addr} {od8 an8 : Option Addr} {sl8 : Array (Option Value)} {oc8 kV8 dc8 pm8 cd8 ct8 : Value} {f9 : Addr} {od9 an9 : Option Addr} {sl9 : Array (Option Value)} {oc9 kV9 dc9 pm9 cd9 ct9 : Value} {f10 : Addr} {od10 an10 : Option Addr} {sl10 : Array (Option Value)} {oc10 kV10 dc10 pm10 cd10 ct10 : Value} {f11 : Addr} {od11 an11 : Option Addr} {sl11 : Array (Option Value)} {oc11 kV11 dc11 pm11 cd11 ct11 : Value} {f12 : Addr} {od12 an12 : Option Addr} {sl12 : Array (Option Value)} {oc12 kV12 dc12 pm12 cd12 ct12 : Value} {f13 : Addr} {od13 an13 : Option Addr} {sl13 : Array (Option Value)} {oc13 kV13 dc13 pm13 cd13 ct13 : Value} {f14 : Addr} {od14 an14 : Option Addr} {sl14 : Array (Option Value)} {oc14 kV14 dc14 pm14 cd14 ct14 : Value} {f15 : Addr} {od15 an15 : Option Addr} {sl15 : Array (Option Value)} {oc15 kV15 dc15 pm15 cd15 ct15 : Value} {f16 : Addr} {od16 an16 : Option Addr} {sl16 : Array (Option Value)} {oc16 kV16 dc16 pm16 cd16 ct16 : Value} {cBadMove cH fI : Addr} {enm eq : PySem.Str} {eN : Addr} {ebs ebm esn esub eab ecol edd ek0 ek1 ek2 ek3 ek5 : _} {odI anI : Option Addr} {slI : Array (Option Value)} {ocI kVI dcI pmI cdI ctI : Value} {fnb : Addr} {odnb annb : Option Addr} {slnb : Array (Option Value)} {ocnb kVnb dcnb pmnb cdnb ctnb : Value} {t_LAST_ID : Tok} {t_LIMIT : Tok} (X : K.In h) (G : h.Ns mainGlobals mg) (hfa : mg "law" = some (.ref fA))
    (a0 : PySem.W.nsIn K mainGlobals "is_integer" = some (some (.ref f0))) (l0 : K.lookup f0 = some ⟨oc0, od0, .func (PySem.W.fnOf "is_integer" "is_integer" (L2.defArgs s_is_integer) (L2.defBody s_is_integer) (L2.defScope s_is_integer) .none kV0 dc0 pm0 an0 cd0 ct0), sl0⟩) (c0 : PySem.W.codeIn K cd0 "is_integer" = true) (k0 : PySem.W.keepIn K (.ref f0) = true)
    (a1 : PySem.W.nsIn K mainGlobals "is_id" = some (some (.ref f1))) (l1 : K.lookup f1 = some ⟨oc1, od1, .func (PySem.W.fnOf "is_id" "is_id" (L2.defArgs s_is_id) (L2.defBody s_is_id) (L2.defScope s_is_id) .none kV1 dc1 pm1 an1 cd1 ct1), sl1⟩) (c1 : PySem.W.codeIn K cd1 "is_id" = true) (k1 : PySem.W.keepIn K (.ref f1) = true)
    (a2 : PySem.W.nsIn K mainGlobals "is_item" = some (some (.ref f2))) (l2 : K.lookup f2 = some ⟨oc2, od2, .func (PySem.W.fnOf "is_item" "is_item" (L2.defArgs s_is_item) (L2.defBody s_is_item) (L2.defScope s_is_item) .none kV2 dc2 pm2 an2 cd2 ct2), sl2⟩) (c2 : PySem.W.codeIn K cd2 "is_item" = true) (k2 : PySem.W.keepIn K (.ref f2) = true)
    (a3 : PySem.W.nsIn K mainGlobals "is_rule" = some (some (.ref f3))) (l3 : K.lookup f3 = some ⟨oc3, od3, .func (PySem.W.fnOf "is_rule" "is_rule" (L2.defArgs s_is_rule) (L2.defBody s_is_rule) (L2.defScope s_is_rule) .none kV3 dc3 pm3 an3 cd3 ct3), sl3⟩) (c3 : PySem.W.codeIn K cd3 "is_rule" = true) (k3 : PySem.W.keepIn K (.ref f3) = true)
    (a4 : PySem.W.nsIn K mainGlobals "sort_key" = some (some (.ref f4))) (l4 : K.lookup f4 = some ⟨oc4, od4, .func (PySem.W.fnOf "sort_key" "sort_key" (L2.defArgs s_sort_key) (L2.defBody s_sort_key) (L2.defScope s_sort_key) .none kV4 dc4 pm4 an4 cd4 ct4), sl4⟩) (c4 : PySem.W.codeIn K cd4 "sort_key" = true) (k4 : PySem.W.keepIn K (.ref f4) = true)
    (a5 : PySem.W.nsIn K mainGlobals "compare_items" = some (some (.ref f5))) (l5 : K.lookup f5 = some ⟨oc5, od5, .func (PySem.W.fnOf "compare_items" "compare_items" (L2.defArgs s_compare_items) (L2.defBody s_compare_items) (L2.defScope s_compare_items) .none kV5 dc5 pm5 an5 cd5 ct5), sl5⟩) (c5 : PySem.W.codeIn K cd5 "compare_items" = true) (k5 : PySem.W.keepIn K (.ref f5) = true)
    (a6 : PySem.W.nsIn K mainGlobals "rule_order" = some (some (.ref f6))) (l6 : K.lookup f6 = some ⟨oc6, od6, .func (PySem.W.fnOf "rule_order" "rule_order" (L2.defArgs s_rule_order) (L2.defBody s_rule_order) (L2.defScope s_rule_order) .none kV6 dc6 pm6 an6 cd6 ct6), sl6⟩) (c6 : PySem.W.codeIn K cd6 "rule_order" = true) (k6 : PySem.W.keepIn K (.ref f6) = true)
    (a7 : PySem.W.nsIn K mainGlobals "are_ids" = some (some (.ref f7))) (l7 : K.lookup f7 = some ⟨oc7, od7, .func (PySem.W.fnOf "are_ids" "are_ids" (L2.defArgs s_are_ids) (L2.defBody s_are_ids) (L2.defScope s_are_ids) .none kV7 dc7 pm7 an7 cd7 ct7), sl7⟩) (c7 : PySem.W.codeIn K cd7 "are_ids" = true) (k7 : PySem.W.keepIn K (.ref f7) = true)
    (a8 : PySem.W.nsIn K mainGlobals "is_order" = some (some (.ref f8))) (l8 : K.lookup f8 = some ⟨oc8, od8, .func (PySem.W.fnOf "is_order" "is_order" (L2.defArgs s_is_order) (L2.defBody s_is_order) (L2.defScope s_is_order) .none kV8 dc8 pm8 an8 cd8 ct8), sl8⟩) (c8 : PySem.W.codeIn K cd8 "is_order" = true) (k8 : PySem.W.keepIn K (.ref f8) = true)
    (a9 : PySem.W.nsIn K mainGlobals "is_move" = some (some (.ref f9))) (l9 : K.lookup f9 = some ⟨oc9, od9, .func (PySem.W.fnOf "is_move" "is_move" (L2.defArgs s_is_move) (L2.defBody s_is_move) (L2.defScope s_is_move) .none kV9 dc9 pm9 an9 cd9 ct9), sl9⟩) (c9 : PySem.W.codeIn K cd9 "is_move" = true) (k9 : PySem.W.keepIn K (.ref f9) = true)
    (a10 : PySem.W.nsIn K mainGlobals "do_move" = some (some (.ref f10))) (l10 : K.lookup f10 = some ⟨oc10, od10, .func (PySem.W.fnOf "do_move" "do_move" (L2.defArgs s_do_move) (L2.defBody s_do_move) (L2.defScope s_do_move) .none kV10 dc10 pm10 an10 cd10 ct10), sl10⟩) (c10 : PySem.W.codeIn K cd10 "do_move" = true) (k10 : PySem.W.keepIn K (.ref f10) = true)
    (a11 : PySem.W.nsIn K mainGlobals "do_moves" = some (some (.ref f11))) (l11 : K.lookup f11 = some ⟨oc11, od11, .func (PySem.W.fnOf "do_moves" "do_moves" (L2.defArgs s_do_moves) (L2.defBody s_do_moves) (L2.defScope s_do_moves) .none kV11 dc11 pm11 an11 cd11 ct11), sl11⟩) (c11 : PySem.W.codeIn K cd11 "do_moves" = true) (k11 : PySem.W.keepIn K (.ref f11) = true)
    (a12 : PySem.W.nsIn K mainGlobals "_law_deck" = some (some (.ref f12))) (l12 : K.lookup f12 = some ⟨oc12, od12, .func (PySem.W.fnOf "_law_deck" "_law_deck" (L2.defArgs s_law_deck) (L2.defBody s_law_deck) (L2.defScope s_law_deck) .none kV12 dc12 pm12 an12 cd12 ct12), sl12⟩) (c12 : PySem.W.codeIn K cd12 "_law_deck" = true) (k12 : PySem.W.keepIn K (.ref f12) = true)
    (a13 : PySem.W.nsIn K mainGlobals "_law_draw" = some (some (.ref f13))) (l13 : K.lookup f13 = some ⟨oc13, od13, .func (PySem.W.fnOf "_law_draw" "_law_draw" (L2.defArgs s_law_draw) (L2.defBody s_law_draw) (L2.defScope s_law_draw) .none kV13 dc13 pm13 an13 cd13 ct13), sl13⟩) (c13 : PySem.W.codeIn K cd13 "_law_draw" = true) (k13 : PySem.W.keepIn K (.ref f13) = true)
    (a14 : PySem.W.nsIn K mainGlobals "_law_choose" = some (some (.ref f14))) (l14 : K.lookup f14 = some ⟨oc14, od14, .func (PySem.W.fnOf "_law_choose" "_law_choose" (L2.defArgs s_law_choose) (L2.defBody s_law_choose) (L2.defScope s_law_choose) .none kV14 dc14 pm14 an14 cd14 ct14), sl14⟩) (c14 : PySem.W.codeIn K cd14 "_law_choose" = true) (k14 : PySem.W.keepIn K (.ref f14) = true)
    (a15 : PySem.W.nsIn K mainGlobals "_law_same" = some (some (.ref f15))) (l15 : K.lookup f15 = some ⟨oc15, od15, .func (PySem.W.fnOf "_law_same" "_law_same" (L2.defArgs s_law_same) (L2.defBody s_law_same) (L2.defScope s_law_same) .none kV15 dc15 pm15 an15 cd15 ct15), sl15⟩) (c15 : PySem.W.codeIn K cd15 "_law_same" = true) (k15 : PySem.W.keepIn K (.ref f15) = true)
    (a16 : PySem.W.nsIn K mainGlobals "law" = some (some (.ref f16))) (l16 : K.lookup f16 = some ⟨oc16, od16, .func (PySem.W.fnOf "law" "law" (L2.defArgs s_law) (L2.defBody s_law) (L2.defScope s_law) .none kV16 dc16 pm16 an16 cd16 ct16), sl16⟩) (c16 : PySem.W.codeIn K cd16 "law" = true) (k16 : PySem.W.keepIn K (.ref f16) = true)
    (eA : PySem.W.nsIn K mainGlobals "BadMove" = some (some (.ref cBadMove))) (eB : PySem.W.nsIn K mainGlobals "HandError" = some (some (.ref cH))) (eL : K.lookup cBadMove = some (excClassObj enm eq cBadMove eN ebs ebm true esn esub eab ecol edd ek0 ek1 ek2 ek3 ek5 "ValueError.__new__")) (eR : PySem.HandSPX.refsVE ebm = true)
    (eS : PySem.W.findIn K (.ref cBadMove) "__setattr__" = some (some (.builtin "object.__setattr__"))) (eX : PySem.W.subIn K (.ref cBadMove) (.type "BaseException") = some true) (eT : PySem.W.typeIn K (.ref cBadMove) = some (.type "type")) (eK : PySem.W.keepIn K (.ref cBadMove) = true)
    (eI : PySem.W.findIn K (.ref cBadMove) "__init__" = some (some (.ref fI))) (eJ : PySem.W.typeIn K (.ref fI) = some (.type "function")) (eF : K.lookup fI = some ⟨ocI, odI, .func (PySem.W.fnOf "__init__" "BadMove.__init__" (L2.defArgs s_BadMove) (L2.defBody s_BadMove) (L2.defScope s_BadMove) .none kVI dcI pmI anI cdI ctI), slI⟩) (eC : PySem.W.codeIn K cdI "BadMove.__init__" = true) (eP : PySem.W.keepIn K (.ref fI) = true)
    (eN0 : PySem.W.findIn K (.ref cBadMove) "value" = some none) (eG1 : PySem.W.findIn K (.ref cBadMove) "__getattribute__" = some (some (.builtin "BaseException.__getattribute__"))) (eG2 : PySem.W.findIn K (.ref cBadMove) "__getattr__" = some none) (eG3 : PySem.W.hasDictIn K cBadMove = true) (eH1 : PySem.W.readsIn K cH (.type "type") = true) (eH2 : PySem.W.specialIn K (.ref cH) "__getattribute__" = some (some (.builtin "type.__getattribute__"))) (eH3 : PySem.W.findCls K (.ref cH) (.type "type") "__init__" = some (.val (.builtin "ValueError.__init__"))) (eM : PySem.W.exmOne K (.ref cBadMove) (.ref cBadMove) = some true)
    (anb : PySem.W.nsIn K mainGlobals "neighbours" = some (some (.ref fnb))) (lnb : K.lookup fnb = some ⟨ocnb, odnb, .func (PySem.W.fnOf "neighbours" "neighbours" (L2.defArgs s_neighbours) (L2.defBody s_neighbours) (L2.defScope s_neighbours) .none kVnb dcnb pmnb annb cdnb ctnb), slnb⟩) (cnb : PySem.W.codeIn K cdnb "neighbours" = true) (knb : PySem.W.keepIn K (.ref fnb) = true)
    (z_isinstance : PySem.W.nsIn K mainGlobals "isinstance" = some none)
    (z_int : PySem.W.nsIn K mainGlobals "int" = some none)
    (z_bool : PySem.W.nsIn K mainGlobals "bool" = some none)
    (z_tuple : PySem.W.nsIn K mainGlobals "tuple" = some none)
    (z_len : PySem.W.nsIn K mainGlobals "len" = some none)
    (z_all : PySem.W.nsIn K mainGlobals "all" = some none)
    (z_abs : PySem.W.nsIn K mainGlobals "abs" = some none)
    (z_set : PySem.W.nsIn K mainGlobals "set" = some none)
    (z_sorted : PySem.W.nsIn K mainGlobals "sorted" = some none)
    (z_list : PySem.W.nsIn K mainGlobals "list" = some none)
    (z_repr : PySem.W.nsIn K mainGlobals "repr" = some none)
    (z_range : PySem.W.nsIn K mainGlobals "range" = some none)
    (z_max : PySem.W.nsIn K mainGlobals "max" = some none)
    (z_min : PySem.W.nsIn K mainGlobals "min" = some none)
    (z_LAST_ID : PySem.W.nsIn K mainGlobals "LAST_ID" = some (some (.int 1000000 t_LAST_ID)))
    (z_LIMIT : PySem.W.nsIn K mainGlobals "LIMIT" = some (some (.int 1000000000 t_LIMIT)))
    (i_int_NoneType : PySem.W.kitOne K (.type "NoneType") (.type "int") = some false)
    (i_int_bool : PySem.W.kitOne K (.type "bool") (.type "int") = some true)
    (i_int_int : PySem.W.kitOne K (.type "int") (.type "int") = some true)
    (i_int_str : PySem.W.kitOne K (.type "str") (.type "int") = some false)
    (i_int_tuple : PySem.W.kitOne K (.type "tuple") (.type "int") = some false)
    (i_int_list : PySem.W.kitOne K (.type "list") (.type "int") = some false)
    (i_int_dict : PySem.W.kitOne K (.type "dict") (.type "int") = some false)
    (i_bool_NoneType : PySem.W.kitOne K (.type "NoneType") (.type "bool") = some false)
    (i_bool_bool : PySem.W.kitOne K (.type "bool") (.type "bool") = some true)
    (i_bool_int : PySem.W.kitOne K (.type "int") (.type "bool") = some false)
    (i_bool_str : PySem.W.kitOne K (.type "str") (.type "bool") = some false)
    (i_bool_tuple : PySem.W.kitOne K (.type "tuple") (.type "bool") = some false)
    (i_bool_list : PySem.W.kitOne K (.type "list") (.type "bool") = some false)
    (i_bool_dict : PySem.W.kitOne K (.type "dict") (.type "bool") = some false)
    (i_tuple_NoneType : PySem.W.kitOne K (.type "NoneType") (.type "tuple") = some false)
    (i_tuple_bool : PySem.W.kitOne K (.type "bool") (.type "tuple") = some false)
    (i_tuple_int : PySem.W.kitOne K (.type "int") (.type "tuple") = some false)
    (i_tuple_str : PySem.W.kitOne K (.type "str") (.type "tuple") = some false)
    (i_tuple_tuple : PySem.W.kitOne K (.type "tuple") (.type "tuple") = some true)
    (i_tuple_list : PySem.W.kitOne K (.type "list") (.type "tuple") = some false)
    (i_tuple_dict : PySem.W.kitOne K (.type "dict") (.type "tuple") = some false)
    (i_list_NoneType : PySem.W.kitOne K (.type "NoneType") (.type "list") = some false)
    (i_list_bool : PySem.W.kitOne K (.type "bool") (.type "list") = some false)
    (i_list_int : PySem.W.kitOne K (.type "int") (.type "list") = some false)
    (i_list_str : PySem.W.kitOne K (.type "str") (.type "list") = some false)
    (i_list_tuple : PySem.W.kitOne K (.type "tuple") (.type "list") = some false)
    (i_list_list : PySem.W.kitOne K (.type "list") (.type "list") = some true)
    (i_list_dict : PySem.W.kitOne K (.type "dict") (.type "list") = some false) :
    ∀ (ns : List Int), (∃ os, (F_law cBadMove) [.sh (.scr ns)] = .ret (.val (.bl true)) os) → ∀ (s : Shared) (base : Heap) (H : L2.Hp) (a : Addr), L2.Env0 l.prog w K mg base callerA [] s H → L2.SqL K H a (ns.map L2.V.int) → codeAny (model l.prog w) callerA (.call (.ref fA) ⟨[.ref a], []⟩) (L2.CR (L2.CX l.prog w) [] l.prog w H s (fun v _ => v = .bl true) fun _ _ _ => False) s := by
  have e := hfa.symm.trans (PySem.W.mg_of X G a16)
  cases e
  have i_int : IsiK K "int" := fun t ht => by
    simp only [List.mem_cons, List.not_mem_nil, or_false] at ht
    rcases ht with rfl | rfl | rfl | rfl | rfl | rfl | rfl
    · exact i_int_NoneType
    · exact i_int_bool
    · exact i_int_int
    · exact i_int_str
    · exact i_int_tuple
    · exact i_int_list
    · exact i_int_dict
  have i_bool : IsiK K "bool" := fun t ht => by
    simp only [List.mem_cons, List.not_mem_nil, or_false] at ht
    rcases ht with rfl | rfl | rfl | rfl | rfl | rfl | rfl
    · exact i_bool_NoneType
    · exact i_bool_bool
    · exact i_bool_int
    · exact i_bool_str
    · exact i_bool_tuple
    · exact i_bool_list
    · exact i_bool_dict
  have i_tuple : IsiK K "tuple" := fun t ht => by
    simp only [List.mem_cons, List.not_mem_nil, or_false] at ht
    rcases ht with rfl | rfl | rfl | rfl | rfl | rfl | rfl
    · exact i_tuple_NoneType
    · exact i_tuple_bool
    · exact i_tuple_int
    · exact i_tuple_str
    · exact i_tuple_tuple
    · exact i_tuple_list
    · exact i_tuple_dict
  have i_list : IsiK K "list" := fun t ht => by
    simp only [List.mem_cons, List.not_mem_nil, or_false] at ht
    rcases ht with rfl | rfl | rfl | rfl | rfl | rfl | rfl
    · exact i_list_NoneType
    · exact i_list_bool
    · exact i_list_int
    · exact i_list_str
    · exact i_list_tuple
    · exact i_list_list
    · exact i_list_dict
  intro ns ht s base H a e0 hS
  have F_BadMove := L2.fun_mk eF eC eP
  have R_BadMove : ErrC l.prog w K mg base 1 "BadMove" cBadMove "value" := err_mk eI eJ (ini_BadMove ⟨eH1, eH2, eH3⟩ (PySem.W.mg_of X G eB) F_BadMove) (F_BadMove.binds (ps := ["self", "value"]) fun _ _ _ _ _ _ us hl => match us, hl with | [_, _], _ => rfl) (PySem.W.mg_of X G eA) ⟨_, _, _, _, _, _, _, _, _, _, _, _, _, _, _, eL, eR⟩ eS eX eT eK eN0 eG1 eG2 eG3
  have C_neighbours : CalN K mg := nb_ok (L2.fun_mk lnb cnb knb) (PySem.W.mg_of X G anb)
  have C_is_integer : CalG l.prog w K mg base "is_integer" 1 1 ["value"] F_is_integer := ok_is_integer (L2.fun_mk l0 c0 k0) (PySem.W.mg_of X G a0) (PySem.W.mg_none_of X G z_isinstance) (PySem.W.mg_none_of X G z_int) (PySem.W.mg_none_of X G z_bool) i_int i_bool
  have C_is_id : CalG l.prog w K mg base "is_id" 2 1 ["value"] F_is_id := ok_is_id (L2.fun_mk l1 c1 k1) (PySem.W.mg_of X G a1) C_is_integer (PySem.W.mg_of X G z_LAST_ID)
  have G_is_item : FnG l.prog w K mg base 3 f2 _ ["value", "width"] (spF K 2 F_is_item) := fn_is_item (L2.fun_mk l2 c2 k2) C_is_id C_is_integer (PySem.W.mg_none_of X G z_isinstance) (PySem.W.mg_none_of X G z_tuple) (PySem.W.mg_none_of X G z_len) (PySem.W.mg_none_of X G z_all) i_tuple (PySem.W.mg_of X G z_LIMIT)
  have C_is_item : CalG l.prog w K mg base "is_item" 3 2 ["value", "width"] F_is_item := ok_is_item (L2.fun_mk l2 c2 k2) (PySem.W.mg_of X G a2) G_is_item
  have CK_is_item : CalK l.prog w K mg base "is_item" 3 2 ["width", "value"] [1, 0] F_is_item := okk_is_item (L2.fun_mk l2 c2 k2) (PySem.W.mg_of X G a2) G_is_item
  have G_is_rule : FnG l.prog w K mg base 2 f3 _ ["value", "width"] (spF K 2 F_is_rule) := fn_is_rule (L2.fun_mk l3 c3 k3) C_is_integer (PySem.W.mg_none_of X G z_isinstance) (PySem.W.mg_none_of X G z_tuple) (PySem.W.mg_none_of X G z_all) (PySem.W.mg_none_of X G z_abs) (PySem.W.mg_none_of X G z_len) (PySem.W.mg_none_of X G z_set) i_tuple
  have C_is_rule : CalG l.prog w K mg base "is_rule" 2 2 ["value", "width"] F_is_rule := ok_is_rule (L2.fun_mk l3 c3 k3) (PySem.W.mg_of X G a3) G_is_rule
  have CK_is_rule : CalK l.prog w K mg base "is_rule" 2 2 ["width", "value"] [1, 0] F_is_rule := okk_is_rule (L2.fun_mk l3 c3 k3) (PySem.W.mg_of X G a3) G_is_rule
  have C_sort_key : CalG l.prog w K mg base "sort_key" 1 3 ["rule", "row_id", "fields"] F_sort_key := ok_sort_key (L2.fun_mk l4 c4 k4) (PySem.W.mg_of X G a4) (PySem.W.mg_none_of X G z_tuple)
  have G_compare_items : FnG l.prog w K mg base 2 f5 _ ["rule", "first", "second"] (spF K 3 F_compare_items) := fn_compare_items (L2.fun_mk l5 c5 k5) C_sort_key
  have C_compare_items : CalG l.prog w K mg base "compare_items" 2 3 ["rule", "first", "second"] F_compare_items := ok_compare_items (L2.fun_mk l5 c5 k5) (PySem.W.mg_of X G a5) G_compare_items
  have CK_compare_items : CalK l.prog w K mg base "compare_items" 2 3 ["second", "first", "rule"] [2, 1, 0] F_compare_items := okk_compare_items (L2.fun_mk l5 c5 k5) (PySem.W.mg_of X G a5) G_compare_items
  have G_rule_order : FnG l.prog w K mg base 2 f6 _ ["rule", "items"] (spF K 2 F_rule_order) := fn_rule_order (L2.fun_mk l6 c6 k6) C_sort_key (PySem.W.mg_none_of X G z_sorted)
  have C_rule_order : CalG l.prog w K mg base "rule_order" 2 2 ["rule", "items"] F_rule_order := ok_rule_order (L2.fun_mk l6 c6 k6) (PySem.W.mg_of X G a6) G_rule_order
  have CK_rule_order : CalK l.prog w K mg base "rule_order" 2 2 ["items", "rule"] [1, 0] F_rule_order := okk_rule_order (L2.fun_mk l6 c6 k6) (PySem.W.mg_of X G a6) G_rule_order
  have C_are_ids : CalG l.prog w K mg base "are_ids" 3 1 ["values"] F_are_ids := ok_are_ids (L2.fun_mk l7 c7 k7) (PySem.W.mg_of X G a7) C_is_id (PySem.W.mg_none_of X G z_all) (PySem.W.mg_none_of X G z_len) (PySem.W.mg_none_of X G z_set)
  have G_is_order : FnG l.prog w K mg base 4 f8 _ ["value"] (spF K 1 F_is_order) := fn_is_order (L2.fun_mk l8 c8 k8) C_are_ids (PySem.W.mg_none_of X G z_isinstance) (PySem.W.mg_none_of X G z_list) i_list
  have C_is_order : CalG l.prog w K mg base "is_order" 4 1 ["value"] F_is_order := ok_is_order (L2.fun_mk l8 c8 k8) (PySem.W.mg_of X G a8) G_is_order
  have CK_is_order : CalK l.prog w K mg base "is_order" 4 1 ["value"] [0] F_is_order := okk_is_order (L2.fun_mk l8 c8 k8) (PySem.W.mg_of X G a8) G_is_order
  have G_is_move : FnG l.prog w K mg base 4 f9 _ ["order", "value"] (spF K 2 F_is_move) := fn_is_move (L2.fun_mk l9 c9 k9) C_are_ids C_is_integer (PySem.W.mg_none_of X G z_isinstance) (PySem.W.mg_none_of X G z_tuple) (PySem.W.mg_none_of X G z_len) (PySem.W.mg_none_of X G z_all) i_tuple
  have C_is_move : CalG l.prog w K mg base "is_move" 4 2 ["order", "value"] F_is_move := ok_is_move (L2.fun_mk l9 c9 k9) (PySem.W.mg_of X G a9) G_is_move
  have CK_is_move : CalK l.prog w K mg base "is_move" 4 2 ["value", "order"] [1, 0] F_is_move := okk_is_move (L2.fun_mk l9 c9 k9) (PySem.W.mg_of X G a9) G_is_move
  have G_do_move : FnG l.prog w K mg base 5 f10 _ ["order", "move"] (spF K 2 (F_do_move cBadMove)) := fn_do_move (L2.fun_mk l10 c10 k10) C_is_move (PySem.W.mg_none_of X G z_list) R_BadMove
  have C_do_move : CalG l.prog w K mg base "do_move" 5 2 ["order", "move"] (F_do_move cBadMove) := ok_do_move (L2.fun_mk l10 c10 k10) (PySem.W.mg_of X G a10) G_do_move
  have CK_do_move : CalK l.prog w K mg base "do_move" 5 2 ["move", "order"] [1, 0] (F_do_move cBadMove) := okk_do_move (L2.fun_mk l10 c10 k10) (PySem.W.mg_of X G a10) G_do_move
  have C_do_moves : CalS l.prog w K mg base "do_moves" 6 1 (F_do_moves cBadMove) := ok_do_moves l11 c11 k11 (PySem.W.mg_of X G a11) C_do_move (PySem.W.mg_none_of X G z_list)
  have CK_do_moves : CalSK l.prog w K mg base "do_moves" 6 1 ["order"] [0] (F_do_moves cBadMove) := okk_do_moves l11 c11 k11 (PySem.W.mg_of X G a11) C_do_move (PySem.W.mg_none_of X G z_list)
  have C_law_deck : CalG l.prog w K mg base "_law_deck" 1 2 ["script", "start"] F_law_deck := ok_law_deck (L2.fun_mk l12 c12 k12) (PySem.W.mg_of X G a12) (PySem.W.mg_none_of X G z_len)
  have C_law_draw : CalG l.prog w K mg base "_law_draw" 1 2 ["deck", "size"] F_law_draw := ok_law_draw (L2.fun_mk l13 c13 k13) (PySem.W.mg_of X G a13)
  have C_law_choose : CalG l.prog w K mg base "_law_choose" 2 2 ["deck", "things"] F_law_choose := ok_law_choose (L2.fun_mk l14 c14 k14) (PySem.W.mg_of X G a14) C_law_draw (PySem.W.mg_none_of X G z_len)
  have C_law_same : CalG l.prog w K mg base "_law_same" 1 1 ["pairs"] F_law_same := ok_law_same (L2.fun_mk l15 c15 k15) (PySem.W.mg_of X G a15) (PySem.W.mg_none_of X G z_repr)
  exact law_fn (L2.fun_mk l16 c16 k16) C_law_deck C_law_draw C_law_choose C_is_item C_is_rule C_compare_items C_rule_order C_is_order C_is_move C_do_move C_do_moves C_law_same CK_is_item CK_is_rule CK_compare_items CK_rule_order CK_is_order CK_is_move CK_do_move CK_do_moves C_neighbours (PySem.W.mg_none_of X G z_range) (PySem.W.mg_none_of X G z_max) (PySem.W.mg_none_of X G z_min) (PySem.W.mg_none_of X G z_len) (PySem.W.mg_none_of X G z_list) (v := .ref a) e0 (.of_eq rfl) rfl (law_end hS ht)
end K08
open PySem PySem.W PyProof.Rows
set_option maxHeartbeats 0 in
theorem PySem.Challenge.cw_handsorted_k08_arguments_by_name_holds : PySem.Challenge.rw_handsorted_k08_arguments_by_name.Holds := by
  w_on; o_law; k_head; (case hw => w_witness2)
  k_fill
  refine O.walk_law (l := PySem.Challenge.rw_handsorted_k08_arguments_by_name) (n := 63) rfl (by decide) rfl (fun w h Y => PySem.W.kIn_of Y) ?F
  case F =>
    intro w mg fa h KX G hmg s base H a ns hl hb e0 hS
    refine' K08.all_mk KX G hmg ?a0 ?l0 ?c0 ?k0 ?a1 ?l1 ?c1 ?k1 ?a2 ?l2 ?c2 ?k2 ?a3 ?l3 ?c3 ?k3 ?a4 ?l4 ?c4 ?k4 ?a5 ?l5 ?c5 ?k5 ?a6 ?l6 ?c6 ?k6 ?a7 ?l7 ?c7 ?k7 ?a8 ?l8 ?c8 ?k8 ?a9 ?l9 ?c9 ?k9 ?a10 ?l10 ?c10 ?k10 ?a11 ?l11 ?c11 ?k11 ?a12 ?l12 ?c12 ?k12 ?a13 ?l13 ?c13 ?k13 ?a14 ?l14 ?c14 ?k14 ?a15 ?l15 ?c15 ?k15 ?a16 ?l16 ?c16 ?k16 ?eA ?eB ?eL ?eR ?eS ?eX ?eT ?eK ?eI ?eJ ?eF ?eC ?eP ?eN0 ?eG1 ?eG2 ?eG3 ?eH1 ?eH2 ?eH3 ?eM ?anb ?lnb ?cnb ?knb ?z_isinstance ?z_int ?z_bool ?z_tuple ?z_len ?z_all ?z_abs ?z_set ?z_sorted ?z_list ?z_repr ?z_range ?z_max ?z_min ?z_LAST_ID ?z_LIMIT ?i_int_NoneType ?i_int_bool ?i_int_int ?i_int_str ?i_int_tuple ?i_int_list ?i_int_dict ?i_bool_NoneType ?i_bool_bool ?i_bool_int ?i_bool_str ?i_bool_tuple ?i_bool_list ?i_bool_dict ?i_tuple_NoneType ?i_tuple_bool ?i_tuple_int ?i_tuple_str ?i_tuple_tuple ?i_tuple_list ?i_tuple_dict ?i_list_NoneType ?i_list_bool ?i_list_int ?i_list_str ?i_list_tuple ?i_list_list ?i_list_dict ns (K08.law_true ns hl hb) s base H a e0 hS
    (case a0 => k_is)
    (case l0 => k_is)
    (case c0 => k_is)
    (case k0 => k_is)
    (case a1 => k_is)
    (case l1 => k_is)
    (case c1 => k_is)
    (case k1 => k_is)
    (case a2 => k_is)
    (case l2 => k_is)
    (case c2 => k_is)
    (case k2 => k_is)
    (case a3 => k_is)
    (case l3 => k_is)
    (case c3 => k_is)
    (case k3 => k_is)
    (case a4 => k_is)
    (case l4 => k_is)
    (case c4 => k_is)
    (case k4 => k_is)
    (case a5 => k_is)
    (case l5 => k_is)
    (case c5 => k_is)
    (case k5 => k_is)
    (case a6 => k_is)
    (case l6 => k_is)
    (case c6 => k_is)
    (case k6 => k_is)
    (case a7 => k_is)
    (case l7 => k_is)
    (case c7 => k_is)
    (case k7 => k_is)
    (case a8 => k_is)
    (case l8 => k_is)
    (case c8 => k_is)
    (case k8 => k_is)
    (case a9 => k_is)
    (case l9 => k_is)
    (case c9 => k_is)
    (case k9 => k_is)
    (case a10 => k_is)
    (case l10 => k_is)
    (case c10 => k_is)
    (case k10 => k_is)
    (case a11 => k_is)
    (case l11 => k_is)
    (case c11 => k_is)
    (case k11 => k_is)
    (case a12 => k_is)
    (case l12 => k_is)
    (case c12 => k_is)
    (case k12 => k_is)
    (case a13 => k_is)
    (case l13 => k_is)
    (case c13 => k_is)
    (case k13 => k_is)
    (case a14 => k_is)
    (case l14 => k_is)
    (case c14 => k_is)
    (case k14 => k_is)
    (case a15 => k_is)
    (case l15 => k_is)
    (case c15 => k_is)
    (case k15 => k_is)
    (case a16 => k_is)
    (case l16 => k_is)
    (case c16 => k_is)
    (case k16 => k_is)
    (case eA => k_is)
    (case eB => k_is)
    (case eL => k_is)
    (case eR => rfl)
    (case eS => k_is)
    (case eX => k_is)
    (case eT => k_is)
    (case eK => k_is)
    (case eI => k_is)
    (case eJ => k_is)
    (case eF => k_is)
    (case eC => k_is)
    (case eP => k_is)
    (case eN0 => k_is)
    (case eG1 => k_is)
    (case eG2 => k_is)
    (case eG3 => k_is)
    (case eH1 => k_is)
    (case eH2 => k_is)
    (case eH3 => k_is)
    (case eM => kts_exm)
    (case anb => k_is)
    (case lnb => k_is)
    (case cnb => k_is)
    (case knb => k_is)
    (case z_isinstance => k_is)
    (case z_int => k_is)
    (case z_bool => k_is)
    (case z_tuple => k_is)
    (case z_len => k_is)
    (case z_all => k_is)
    (case z_abs => k_is)
    (case z_set => k_is)
    (case z_sorted => k_is)
    (case z_list => k_is)
    (case z_repr => k_is)
    (case z_range => k_is)
    (case z_max => k_is)
    (case z_min => k_is)
    (case z_LAST_ID => k_is)
    (case z_LIMIT => k_is)
    (case i_int_NoneType => kit_is)
    (case i_int_bool => kit_is)
    (case i_int_int => kit_is)
    (case i_int_str => kit_is)
    (case i_int_tuple => kit_is)
    (case i_int_list => kit_is)
    (case i_int_dict => kit_is)
    (case i_bool_NoneType => kit_is)
    (case i_bool_bool => kit_is)
    (case i_bool_int => kit_is)
    (case i_bool_str => kit_is)
    (case i_bool_tuple => kit_is)
    (case i_bool_list => kit_is)
    (case i_bool_dict => kit_is)
    (case i_tuple_NoneType => kit_is)
    (case i_tuple_bool => kit_is)
    (case i_tuple_int => kit_is)
    (case i_tuple_str => kit_is)
    (case i_tuple_tuple => kit_is)
    (case i_tuple_list => kit_is)
    (case i_tuple_dict => kit_is)
    (case i_list_NoneType => kit_is)
    (case i_list_bool => kit_is)
    (case i_list_int => kit_is)
    (case i_list_str => kit_is)
    (case i_list_tuple => kit_is)
    (case i_list_list => kit_is)
    (case i_list_dict => kit_is)

