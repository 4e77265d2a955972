import PyProof.Rows.All
import Wide.All
import OpenK.AllK
import Wide.FinOn
import KE.KStateDown
import Lean
import HandS.ForMost
import HandS.ForExc
import HandS.IsInst
import HandS.Zip
import HandS.SortKw
import HandS.TupLe
import HandS.TupAny
import HandS.TupMul
import HandS.Flow
import HandS.Style
import HandS.Wide
import HandS.Deep
import HandS.Conv
import HandS.FStr
import HandS.StrMore
import HandS.Property
import HandS.OwnEq
import HandS.TupSets
import HandS.DictTup
import HandS.EndBits
import HandS.Defaults
import HandS.HeadHook2
import HandS.HeadEnd
import HandS.Head2
import KE.KTupSum
import KE.SortData
import KE.GoesEnum
import HandS.Small
import HandS.SetFor
import HandS.Strs
import PyProof.StrLawsRepr
import HandS.ExcField
import HandS.ExcIs
import HandS.ExcInit
import KE.KExcIs
import KE.KExcInit
import PyProof.ExcBaseAll.LookupError
import KE.KFmtOwn
import HandS.Text
import HandS.Steps
import PyProof.StrOps2
import PySem.Challenge.RW_poolcounts_k36_texts_of_counts
set_option Elab.async false
set_option linter.all false
set_option autoImplicit false
set_option maxRecDepth 100000
set_option maxHeartbeats 4000000
/-! Pc, part A: data by value, the heap's part that stands for it, what a step keeps. -/
namespace Pc
open PySem PySem.Spec PyProof.Rows L2

inductive D where
  | non | bl (b : Bool) | int (i : Int) | str (x : Str)
  | tup (xs : List D) | lst (xs : List D)
  | dct (kvs : List (Key × D))
  | ins (c : Nat) (fs : List (Str × D))
  | obj (h : Nat)
  | ext (v : V)
  | exn (a : Addr) (d : Option Addr) (c : Nat) (fs : List (Str × D))

/-- a mutable object of the store -/
inductive Ob where
  | lst (xs : List D)
  | dct (kvs : List (Key × D))
  | ins (c : Nat) (fs : List (Str × D))
abbrev Store := List Ob

/-- the written part, the classes by their numbers -/
structure Gc where
  K : PySem.W.Frag
  cl : Nat → Addr

/-- heap, addresses that are nobody's frozen data, handles -/
structure Wd where
  H : Hp
  N : List Addr
  m : List Addr

mutual
inductive Rep (g : Gc) (w : Wd) : V → D → Prop
  | non : Rep g w .non .non
  | bl (b : Bool) : Rep g w (.bl b) (.bl b)
  | int (i : Int) : Rep g w (.int i) (.int i)
  | str (x : Str) : Rep g w (.str x) (.str x)
  | tup {a : Addr} {vs : List V} {ds : List D} : SqT g.K w.H a vs → RepL g w vs ds → Rep g w (.ref a) (.tup ds)
  | lst {a : Addr} {vs : List V} {ds : List D} : Rd w.H a (.lst vs) → a ∉ w.N → RepL g w vs ds → Rep g w (.ref a) (.lst ds)
  | lstK {a : Addr} {vs : List V} {ds : List D} : (∀ H, SqL g.K H a vs) → RepL g w vs ds → Rep g w (.ref a) (.lst ds)
  | dct {a : Addr} {kvs : List (Key × V)} {ks : List (Key × D)} : w.H a = some (.dK kvs) → a ∉ w.N → RepK g w kvs ks → Rep g w (.ref a) (.dct ks)
  | ins {a dx : Addr} {c : Nat} {fs : List (Str × V)} {ds : List (Str × D)} : w.H a = some (.ins (g.cl c) dx fs) → a ∉ w.N → RepF g w fs ds → Rep g w (.ref a) (.ins c ds)
  | obj {a : Addr} {h : Nat} : w.m[h]? = some a → Rep g w (.ref a) (.obj h)
  | ext (v : V) : Rep g w v (.ext v)
  | exn {a : Addr} {d : Option Addr} {c : Nat} {fvs : List (Str × V)} {fs : List (Str × D)} : (∀ x, d = some x → w.H x = some (.xd fvs) ∧ x ∉ w.N) → RepF g w fvs fs → Rep g w (.ref a) (.exn a d c fs)
inductive RepL (g : Gc) (w : Wd) : List V → List D → Prop
  | nil : RepL g w [] []
  | cons {v : V} {d : D} {vs : List V} {ds : List D} : Rep g w v d → RepL g w vs ds → RepL g w (v :: vs) (d :: ds)
inductive RepK (g : Gc) (w : Wd) : List (Key × V) → List (Key × D) → Prop
  | nil : RepK g w [] []
  | cons {k : Key} {v : V} {d : D} {vs : List (Key × V)} {ds : List (Key × D)} : Rep g w v d → RepK g w vs ds → RepK g w ((k, v) :: vs) ((k, d) :: ds)
inductive RepF (g : Gc) (w : Wd) : List (Str × V) → List (Str × D) → Prop
  | nil : RepF g w [] []
  | cons {k : Str} {v : V} {d : D} {vs : List (Str × V)} {ds : List (Str × D)} : Rep g w v d → RepF g w vs ds → RepF g w ((k, v) :: vs) ((k, d) :: ds)
end

/-- frozen data stays -/
structure Mono (w w' : Wd) : Prop where
  mp : ∀ (i : Nat) (a : Addr), w.m[i]? = some a → w'.m[i]? = some a
  keep : ∀ a o, w.H a = some o → a ∉ w.N → w'.H a = some o
  tup : ∀ a xs, w.H a = some (.tup xs) → w'.H a = some (.tup xs)
  frz : ∀ a o u, w.H a = some (.frz o u) → w'.H a = some (.frz o u)
  new : ∀ a ∈ w'.N, a ∈ w.N ∨ w.H a = none
theorem Mono.refl (w : Wd) : Mono w w := ⟨fun _ _ h => h, fun _ _ h _ => h, fun _ _ h => h, fun _ _ _ h => h, fun _ h => .inl h⟩
theorem Mono.trans {a b c : Wd} (x : Mono a b) (y : Mono b c) : Mono a c := by
  refine ⟨fun i p h => y.mp i p (x.mp i p h), fun p o h n => ?_, fun p o h => y.tup p o (x.tup p o h), fun p o u h => y.frz p o u (x.frz p o u h), fun p h => ?_⟩
  · refine y.keep p o (x.keep p o h n) fun hn => ?_
    rcases x.new p hn with q | q
    · exact n q
    · rw [q] at h; cases h
  · rcases y.new p h with q | q
    · exact x.new p q
    · cases e : a.H p with
      | none => exact .inr rfl
      | some o =>
        by_cases hn : p ∈ a.N
        · exact .inl hn
        · rw [x.keep p o e hn] at q; cases q

theorem Mono.rdL {w w' : Wd} (k : Mono w w') {a : Addr} {vs : List V} (h : Rd w.H a (.lst vs)) (n : a ∉ w.N) : Rd w'.H a (.lst vs) := by
  rcases h with h | ⟨o, h⟩
  · exact .inl (k.keep a _ h n)
  · exact .inr ⟨o, k.frz a _ _ h⟩
theorem Mono.sqT {K : PySem.W.Frag} {w w' : Wd} (k : Mono w w') {a : Addr} {vs : List V} (h : SqT K w.H a vs) : SqT K w'.H a vs := by
  rcases h with (h | ⟨o, h⟩) | h
  · exact .inl (.inl (k.tup a _ h))
  · exact .inl (.inr ⟨o, k.frz a _ _ h⟩)
  · exact .inr h
theorem Rd.some {H : Hp} {a : Addr} {u : HO} (h : Rd H a u) : ∃ o, H a = some o := by
  rcases h with h | ⟨o, h⟩
  · exact ⟨_, h⟩
  · exact ⟨_, h⟩
theorem Mono.out {w w' : Wd} (k : Mono w w') {a : Addr} {o : HO} (h : w.H a = some o) (n : a ∉ w.N) : a ∉ w'.N := fun q => by
  rcases k.new a q with z | z
  · exact n z
  · rw [z] at h; cases h

mutual
theorem Rep.mono {g : Gc} {w w' : Wd} (k : Mono w w') : ∀ {v : V} {d : D}, Rep g w v d → Rep g w' v d
  | _, _, .non => .non
  | _, _, .bl b => .bl b
  | _, _, .int i => .int i
  | _, _, .str x => .str x
  | _, _, .tup h r => .tup (k.sqT h) (RepL.mono k r)
  | _, _, .lst h n r => .lst (k.rdL h n) (let ⟨_, e⟩ := Rd.some h; k.out e n) (RepL.mono k r)
  | _, _, .lstK h r => .lstK h (RepL.mono k r)
  | _, _, .dct h n r => .dct (k.keep _ _ h n) (k.out h n) (RepK.mono k r)
  | _, _, .ins h n r => .ins (k.keep _ _ h n) (k.out h n) (RepF.mono k r)
  | _, _, .obj e => .obj (k.mp _ _ e)
  | _, _, .ext v => .ext v
  | _, _, .exn h r => .exn (fun x e => ⟨k.keep _ _ (h x e).1 (h x e).2, k.out (h x e).1 (h x e).2⟩) (RepF.mono k r)
theorem RepL.mono {g : Gc} {w w' : Wd} (k : Mono w w') : ∀ {v : List V} {d : List D}, RepL g w v d → RepL g w' v d
  | _, _, .nil => .nil
  | _, _, .cons r t => .cons (Rep.mono k r) (RepL.mono k t)
theorem RepK.mono {g : Gc} {w w' : Wd} (k : Mono w w') : ∀ {v : List (Key × V)} {d : List (Key × D)}, RepK g w v d → RepK g w' v d
  | _, _, .nil => .nil
  | _, _, .cons r t => .cons (Rep.mono k r) (RepK.mono k t)
theorem RepF.mono {g : Gc} {w w' : Wd} (k : Mono w w') : ∀ {v : List (Str × V)} {d : List (Str × D)}, RepF g w v d → RepF g w' v d
  | _, _, .nil => .nil
  | _, _, .cons r t => .cons (Rep.mono k r) (RepF.mono k t)
end

section
variable {g : Gc} {w : Wd}
theorem RepL.length : ∀ {vs : List V} {ds : List D}, RepL g w vs ds → vs.length = ds.length
  | _, _, .nil => rfl
  | _, _, .cons _ t => congrArg (· + 1) (RepL.length t)
theorem RepL.append : ∀ {vs us : List V} {ds es : List D}, RepL g w vs ds → RepL g w us es → RepL g w (vs ++ us) (ds ++ es)
  | _, _, _, _, .nil, s => s
  | _, _, _, _, .cons r t, s => .cons r (RepL.append t s)
theorem RepL.get : ∀ {vs : List V} {ds : List D} {i : Nat} {d : D}, RepL g w vs ds → ds[i]? = some d → ∃ v, vs[i]? = some v ∧ Rep g w v d
  | _, _, _, _, .nil, h => by simp at h
  | _, _, 0, _, .cons r _, h => by simp at h; subst h; exact ⟨_, rfl, r⟩
  | _, _, i + 1, _, .cons _ t, h => by
    obtain ⟨v, a, b⟩ := RepL.get t (i := i) (by simpa using h)
    exact ⟨v, by simpa using a, b⟩
theorem RepL.get' : ∀ {vs : List V} {ds : List D} {i : Nat} {v : V}, RepL g w vs ds → vs[i]? = some v → ∃ d, ds[i]? = some d ∧ Rep g w v d
  | _, _, _, _, .nil, h => by simp at h
  | _, _, 0, _, .cons r _, h => by simp at h; subst h; exact ⟨_, rfl, r⟩
  | _, _, i + 1, _, .cons _ t, h => by
    obtain ⟨v, a, b⟩ := RepL.get' t (i := i) (by simpa using h)
    exact ⟨v, by simpa using a, b⟩
theorem RepL.set {v : V} {d : D} (r : Rep g w v d) : ∀ {vs : List V} {ds : List D} (i : Nat), RepL g w vs ds → RepL g w (vs.set i v) (ds.set i d)
  | _, _, _, .nil => .nil
  | _, _, 0, .cons _ t => .cons r t
  | _, _, i + 1, .cons q t => .cons q (RepL.set r i t)
theorem RepL.take : ∀ {vs : List V} {ds : List D} (n : Nat), RepL g w vs ds → RepL g w (vs.take n) (ds.take n)
  | _, _, 0, _ => .nil
  | _, _, _ + 1, .nil => .nil
  | _, _, n + 1, .cons r t => .cons r (RepL.take n t)
theorem RepL.drop : ∀ {vs : List V} {ds : List D} (n : Nat), RepL g w vs ds → RepL g w (vs.drop n) (ds.drop n)
  | _, _, 0, r => r
  | _, _, _ + 1, .nil => .nil
  | _, _, n + 1, .cons _ t => RepL.drop n t
theorem RepL.eraseIdx : ∀ {vs : List V} {ds : List D} (n : Nat), RepL g w vs ds → RepL g w (vs.eraseIdx n) (ds.eraseIdx n)
  | _, _, _, .nil => .nil
  | _, _, 0, .cons _ t => t
  | _, _, n + 1, .cons r t => .cons r (RepL.eraseIdx n t)
theorem RepL.dropLast : ∀ {vs : List V} {ds : List D}, RepL g w vs ds → RepL g w vs.dropLast ds.dropLast
  | _, _, .nil => .nil
  | _, _, .cons _ .nil => .nil
  | _, _, .cons r (.cons q t) => .cons r (RepL.dropLast (.cons q t))
theorem RepL.reverse {vs : List V} {ds : List D} (h : RepL g w vs ds) : RepL g w vs.reverse ds.reverse := by
  induction vs generalizing ds with
  | nil => cases h; exact .nil
  | cons v vs ih =>
    cases h with
    | cons r t =>
      rw [List.reverse_cons, List.reverse_cons]
      exact (ih t).append (.cons r .nil)
theorem RepL.ints : ∀ (ns : List Int), RepL g w (ns.map V.int) (ns.map D.int)
  | [] => .nil
  | n :: ns => .cons (.int n) (RepL.ints ns)
theorem RepL.bls : ∀ (ns : List Bool), RepL g w (ns.map V.bl) (ns.map D.bl)
  | [] => .nil
  | n :: ns => .cons (.bl n) (RepL.bls ns)
theorem RepL.int_inv : ∀ {vs : List V} {ns : List Int}, RepL g w vs (ns.map D.int) → vs = ns.map V.int
  | _, [], .nil => rfl
  | _, n :: ns, .cons r t => by cases r; rw [RepL.int_inv t]; rfl
theorem RepL.bl_inv : ∀ {vs : List V} {ns : List Bool}, RepL g w vs (ns.map D.bl) → vs = ns.map V.bl
  | _, [], .nil => rfl
  | _, n :: ns, .cons r t => by cases r; rw [RepL.bl_inv t]; rfl
theorem RepL.str_inv : ∀ {vs : List V} {ns : List Str}, RepL g w vs (ns.map D.str) → vs = ns.map V.str
  | _, [], .nil => rfl
  | _, n :: ns, .cons r t => by cases r; rw [RepL.str_inv t]; rfl
end

/-! ### the store -/
def ObR (g : Gc) (w : Wd) (a : Addr) : Ob → Prop
  | .lst xs => ∃ vs, w.H a = some (.lst vs) ∧ RepL g w vs xs
  | .dct kvs => ∃ ks, w.H a = some (.dK ks) ∧ RepK g w ks kvs
  | .ins c fs => ∃ dx vs, w.H a = some (.ins (g.cl c) dx vs) ∧ RepF g w vs fs

structure SR (g : Gc) (w : Wd) (S : Store) : Prop where
  len : w.m.length = S.length
  nd : w.m.Nodup
  sub : ∀ a ∈ w.m, a ∈ w.N
  here : ∀ a ∈ w.N, ∃ o, w.H a = some o
  at_ : ∀ (i : Nat) ob, S[i]? = some ob → ∃ a, w.m[i]? = some a ∧ ObR g w a ob

/-- what a step of an expression, a call, keeps -/
structure Keep (w w' : Wd) : Prop extends Mono w w' where
  kp : ∀ a o, w.H a = some o → a ∉ w.m → w'.H a = some o
  sub : ∀ a ∈ w.N, a ∈ w'.N
  newm : ∀ a ∈ w'.m, a ∈ w.m ∨ w.H a = none
theorem Keep.refl (w : Wd) : Keep w w := ⟨Mono.refl w, fun _ _ h _ => h, fun _ h => h, fun _ h => .inl h⟩
theorem Keep.trans {a b c : Wd} (x : Keep a b) (y : Keep b c) : Keep a c := by
  refine ⟨x.toMono.trans y.toMono, fun p o h n => ?_, fun p h => y.sub p (x.sub p h), fun p h => ?_⟩
  · refine y.kp p o (x.kp p o h n) fun hn => ?_
    rcases x.newm p hn with q | q
    · exact n q
    · rw [q] at h; cases h
  · rcases y.newm p h with q | q
    · exact x.newm p q
    · cases e : a.H p with
      | none => exact .inr rfl
      | some o =>
        by_cases hn : p ∈ a.m
        · exact .inl hn
        · rw [x.kp p o e hn] at q; cases q
end Pc

set_option Elab.async false
set_option linter.all false
set_option autoImplicit false
set_option maxRecDepth 100000
set_option maxHeartbeats 4000000
/-! Pc, part B: the monad, slots, what is wanted behind a step. -/
namespace Pc
open PySem PySem.Spec PyProof.Rows L2

inductive R (α : Type) where
  | ok (a : α) (S : Store)
  | ex (c : Nat) (fs : List (Str × D)) (S : Store)
  | bad
def M (α : Type) := Store → R α
def M.bind {α β : Type} (x : M α) (f : α → M β) : M β := fun S => match x S with
  | .ok a S' => f a S'
  | .ex c fs S' => .ex c fs S'
  | .bad => .bad
instance : Monad M where
  pure a := fun S => .ok a S
  bind := M.bind
def fail {α : Type} : M α := fun _ => .bad
def ofO {α : Type} : Option α → M α
  | some a => pure a
  | none => fail

inductive Sl where
  | no | val (d : D) | own (xs : List D) | owd (kvs : List (Key × D))
abbrev Ev := List Sl
def Sl.isOwn : Sl → Bool
  | .own _ => true
  | .owd _ => true
  | _ => false
def ownAt (env : Ev) (i : Nat) : Prop := ∃ s, env[i]? = some s ∧ s.isOwn = true

/-- the slots; N0: what was nobody's frozen data at the def's entry -/
structure ER (g : Gc) (N0 : List Addr) (w : Wd) (env : Ev) (σ : L2.St) : Prop where
  len : σ.length = env.length
  val : ∀ (i : Nat) d, env[i]? = some (.val d) → ∃ v, σ[i]? = some (some v) ∧ Rep g w v d
  own : ∀ (i : Nat) xs, env[i]? = some (.own xs) → ∃ a vs, σ[i]? = some (some (.ref a)) ∧ w.H a = some (.lst vs) ∧ a ∈ w.N ∧ a ∉ w.m ∧ a ∉ N0 ∧ RepL g w vs xs
  owd : ∀ (i : Nat) xs, env[i]? = some (.owd xs) → ∃ a vs, σ[i]? = some (some (.ref a)) ∧ w.H a = some (.dK vs) ∧ a ∈ w.N ∧ a ∉ w.m ∧ a ∉ N0 ∧ RepK g w vs xs
  ap : ∀ (i j : Nat), i ≠ j → ownAt env i → ownAt env j → σ[i]? ≠ σ[j]?

theorem ER.keep {g : Gc} {N0 : List Addr} {w w' : Wd} {env : Ev} {σ : L2.St} (e : ER g N0 w env σ) (k : Keep w w') : ER g N0 w' env σ := by
  refine ⟨e.len, fun i d h => ?_, fun i xs h => ?_, fun i xs h => ?_, e.ap⟩
  · obtain ⟨v, a, b⟩ := e.val i d h
    exact ⟨v, a, b.mono k.toMono⟩
  · obtain ⟨a, vs, h1, h2, h3, h4, h5, h6⟩ := e.own i xs h
    refine ⟨a, vs, h1, k.kp a _ h2 h4, k.sub a h3, fun q => ?_, h5, h6.mono k.toMono⟩
    rcases k.newm a q with z | z
    · exact h4 z
    · rw [z] at h2; cases h2
  · obtain ⟨a, vs, h1, h2, h3, h4, h5, h6⟩ := e.owd i xs h
    refine ⟨a, vs, h1, k.kp a _ h2 h4, k.sub a h3, fun q => ?_, h5, h6.mono k.toMono⟩
    rcases k.newm a q with z | z
    · exact h4 z
    · rw [z] at h2; cases h2

/-- an exception: its class, its own dict with its fields -/
def ExR (g : Gc) (w : Wd) (cls : Value) (dd : Option Addr) (c : Nat) (fs : List (Str × D)) : Prop :=
  cls = .ref (g.cl c) ∧ ∃ fvs : List (Str × V), (∀ x, dd = some x → w.H x = some (.xd fvs) ∧ x ∉ w.N) ∧ (dd = none → fvs = []) ∧ RepF g w fvs fs

/-- what is wanted behind a step that began at w: rel w w' y a ties the value y to its meaning a -/
def Pst (g : Gc) (Wx : WX) (σ : L2.St) {α β : Type} (rel : Wd → Wd → β → α → Prop) (w : Wd) (r : R α) (Q : β → Hp → Prop) : Prop :=
  match r with
  | .ok a S' => ∀ w' y, Keep w w' → SR g w' S' → rel w w' y a → Q y w'.H
  | .ex c fs S' => ∀ w' cls dd, Keep w w' → SR g w' S' → ExR g w' cls dd c fs → Wx cls dd σ w'.H
  | .bad => False

def tr (g : Gc) (N0 : List Addr) (Wx : WX) {α β : Type} (rel : Wd → Wd → β → α → Prop) (f : Ev → M α) : L2.St → Hp → (β → Hp → Prop) → Prop := fun σ H Q =>
  ∃ w env S, w.H = H ∧ ER g N0 w env σ ∧ SR g w S ∧ Pst g Wx σ rel w (f env S) Q

section
variable {g : Gc} {N0 : List Addr} {Wx : WX} {σ : L2.St} {α β γ δ : Type} {rel : Wd → Wd → β → α → Prop} {w : Wd} {Q Q' : β → Hp → Prop}
theorem tr_intro {f : Ev → M α} {env : Ev} {S : Store} (e : ER g N0 w env σ) (s : SR g w S) (h : Pst g Wx σ rel w (f env S) Q) : tr g N0 Wx rel f σ w.H Q := ⟨w, env, S, rfl, e, s, h⟩
theorem pst_imp {r : R α} (h : Pst g Wx σ rel w r Q) (q : ∀ y H, Q y H → Q' y H) : Pst g Wx σ rel w r Q' := by
  cases r with
  | ok a S => exact fun w' y k s r => q _ _ (h w' y k s r)
  | ex c fs S => exact h
  | bad => exact h
/-- the wish may know more of the end -/
theorem pst_and {r : R α} (h : Pst g Wx σ rel w r Q) : Pst g Wx σ rel w r fun y H => Q y H ∧ ∃ w' a S', r = .ok a S' ∧ w'.H = H ∧ Keep w w' ∧ SR g w' S' ∧ rel w w' y a := by
  cases r with
  | ok a S => exact fun w' y k s r => ⟨h w' y k s r, w', a, S, rfl, rfl, k, s, r⟩
  | ex c fs S => exact h
  | bad => exact h
theorem pst_rebase {w1 : Wd} {r : R α} (hr : ∀ w' y a, rel w1 w' y a → rel w w' y a) (k : Keep w w1) (h : Pst g Wx σ rel w r Q) : Pst g Wx σ rel w1 r Q := by
  cases r with
  | ok a S => exact fun w' y k' s r => h w' y (k.trans k') s (hr _ _ _ r)
  | ex c fs S => exact fun w' cls dd k' s e => h w' cls dd (k.trans k') s e
  | bad => exact h
/-- two steps in a row -/
theorem pst_bind {relA : Wd → Wd → δ → γ → Prop} {x : M γ} {k : γ → M α} {S : Store} (hr : ∀ w1 w' y a, Keep w w1 → rel w1 w' y a → rel w w' y a) (h : Pst g Wx σ rel w ((x >>= k) S) Q) :
    Pst g Wx σ relA w (x S) fun y H1 => ∃ w1 a S1, w1.H = H1 ∧ Keep w w1 ∧ SR g w1 S1 ∧ relA w w1 y a ∧ Pst g Wx σ rel w1 (k a S1) Q := by
  have e : (x >>= k) S = M.bind x k S := rfl
  rw [e] at h
  unfold M.bind at h
  cases q : x S with
  | ok a S1 =>
    rw [q] at h
    intro w1 y kp s r
    exact ⟨w1, a, S1, rfl, kp, s, r, pst_rebase (fun w' y a z => hr w1 w' y a kp z) kp h⟩
  | ex c fs S1 => rw [q] at h; exact h
  | bad => rw [q] at h; exact h
end

abbrev rl (g : Gc) : Wd → Wd → V → D → Prop := fun _ w v d => Rep g w v d
abbrev rlL (g : Gc) : Wd → Wd → List V → List D → Prop := fun _ w v d => RepL g w v d
abbrev rlB : Wd → Wd → Bool → Bool → Prop := fun _ _ a b => a = b
/-- a list (a dict) that may be a slot's own -/
def RepB (g : Gc) (w : Wd) (v : V) (d : D) : Prop := Rep g w v d ∨ (∃ a vs ds, v = .ref a ∧ d = .lst ds ∧ w.H a = some (.lst vs) ∧ a ∉ w.m ∧ RepL g w vs ds) ∨
  ∃ a vs ds, v = .ref a ∧ d = .dct ds ∧ w.H a = some (.dK vs) ∧ a ∉ w.m ∧ RepK g w vs ds
abbrev rlW (g : Gc) : Wd → Wd → V → D → Prop := fun _ w v d => RepB g w v d
/-- a new list, nobody's yet -/
def NewL (g : Gc) (w w' : Wd) (v : V) (xs : List D) : Prop := ∃ p vs, v = .ref p ∧ w'.H p = some (.lst vs) ∧ p ∈ w'.N ∧ p ∉ w'.m ∧ p ∉ w.N ∧ RepL g w' vs xs

/-! ### worlds that follow -/
/-- a new object that is frozen -/
theorem keep_new {w : Wd} {p : Addr} {o : HO} (h : w.H p = none) : Keep w ⟨upd w.H p o, w.N, w.m⟩ := by
  have st : ∀ (a : Addr) (u : HO), w.H a = some u → upd w.H p o a = some u := fun a u e => by
    rw [upd_ne (ne_of_none e h)]; exact e
  exact ⟨⟨fun _ _ e => e, fun a u e _ => st a u e, fun a u e => st a _ e, fun a u z e => st a _ e, fun a e => .inl e⟩, fun a u e _ => st a u e, fun _ e => e, fun a e => .inl e⟩
/-- .. that is nobody's -/
theorem keep_newN {w : Wd} {p : Addr} {o : HO} (h : w.H p = none) : Keep w ⟨upd w.H p o, p :: w.N, w.m⟩ := by
  have st : ∀ (a : Addr) (u : HO), w.H a = some u → upd w.H p o a = some u := fun a u e => by
    rw [upd_ne (ne_of_none e h)]; exact e
  refine ⟨⟨fun _ _ e => e, fun a u e _ => st a u e, fun a u e => st a _ e, fun a u z e => st a _ e, fun a e => ?_⟩, fun a u e _ => st a u e, fun _ e => List.mem_cons_of_mem _ e, fun a e => .inl e⟩
  rcases List.mem_cons.mp e with rfl | e
  · exact .inr h
  · exact .inl e
/-- .. with a handle -/
theorem keep_newM {w : Wd} {p : Addr} {o : HO} (h : w.H p = none) : Keep w ⟨upd w.H p o, p :: w.N, w.m ++ [p]⟩ := by
  have st : ∀ (a : Addr) (u : HO), w.H a = some u → upd w.H p o a = some u := fun a u e => by
    rw [upd_ne (ne_of_none e h)]; exact e
  refine ⟨⟨fun i a e => ?_, fun a u e _ => st a u e, fun a u e => st a _ e, fun a u z e => st a _ e, fun a e => ?_⟩, fun a u e _ => st a u e, fun _ e => List.mem_cons_of_mem _ e, fun a e => ?_⟩
  · have hi : i < w.m.length := (List.getElem?_eq_some_iff.mp e).1
    show (w.m ++ [p])[i]? = some a
    rw [List.getElem?_append_left hi]; exact e
  · rcases List.mem_cons.mp e with rfl | e
    · exact .inr h
    · exact .inl e
  · rcases List.mem_append.mp e with e | e
    · exact .inl e
    · rw [List.mem_singleton.mp e]; exact .inr h
/-- an own list becomes a handle's -/
theorem keep_toM {w : Wd} {p : Addr} {w0 : Wd} (k : Keep w0 w) (h : w0.H p = none) (hp : p ∈ w.N) : Keep w0 ⟨w.H, w.N, w.m ++ [p]⟩ := by
  refine ⟨⟨fun i a e => ?_, k.keep, k.tup, k.frz, k.new⟩, k.kp, k.sub, fun a e => ?_⟩
  · have e2 := k.mp i a e
    have hi : i < w.m.length := (List.getElem?_eq_some_iff.mp e2).1
    show (w.m ++ [p])[i]? = some a
    rw [List.getElem?_append_left hi]; exact e2
  · rcases List.mem_append.mp e with e | e
    · exact k.newm a e
    · rw [List.mem_singleton.mp e]; exact .inr h
/-- fewer that are nobody's -/
theorem mono_less {w : Wd} {N' : List Addr} (h : ∀ a ∈ N', a ∈ w.N) : Mono w ⟨w.H, N', w.m⟩ := ⟨fun _ _ e => e, fun _ _ e _ => e, fun _ _ e => e, fun _ _ _ e => e, fun a e => .inl (h a e)⟩
theorem keep_less {w0 w : Wd} {N' : List Addr} (k : Keep w0 w) (h : ∀ a ∈ N', a ∈ w.N) (h0 : ∀ a ∈ w0.N, a ∈ N') : Keep w0 ⟨w.H, N', w.m⟩ :=
  ⟨k.toMono.trans (mono_less h), k.kp, h0, k.newm⟩
section
variable {g : Gc} {w : Wd} {S : Store}
theorem SR.mono_at {w' : Wd} (s : SR g w S) (k : Mono w w') (hm : w'.m = w.m) (hN : ∀ a ∈ w.m, a ∈ w'.N) (hh : ∀ a ∈ w'.N, ∃ o, w'.H a = some o) (hk : ∀ a ∈ w.m, w'.H a = w.H a) : SR g w' S := by
  refine ⟨by rw [hm]; exact s.len, by rw [hm]; exact s.nd, by rw [hm]; exact hN, hh, fun i ob e => ?_⟩
  obtain ⟨a, ha, r⟩ := s.at_ i ob e
  refine ⟨a, by rw [hm]; exact ha, ?_⟩
  have hk' := hk a (List.mem_of_getElem? ha)
  cases ob with
  | lst xs => obtain ⟨vs, e1, e2⟩ := r; exact ⟨vs, by rw [hk']; exact e1, e2.mono k⟩
  | dct xs => obtain ⟨vs, e1, e2⟩ := r; exact ⟨vs, by rw [hk']; exact e1, e2.mono k⟩
  | ins c fs => obtain ⟨dx, vs, e1, e2⟩ := r; exact ⟨dx, vs, by rw [hk']; exact e1, e2.mono k⟩
theorem SR.notnone (s : SR g w S) {a : Addr} (h : a ∈ w.N) (q : w.H a = none) : False := by
  obtain ⟨o, e⟩ := s.here a h
  rw [q] at e; cases e
theorem SR.new (s : SR g w S) {p : Addr} {o : HO} (h : w.H p = none) : SR g ⟨upd w.H p o, w.N, w.m⟩ S := by
  refine s.mono_at (keep_new h).toMono rfl s.sub (fun a ha => ?_) fun a ha => ?_
  · obtain ⟨u, e⟩ := s.here a ha
    exact ⟨u, by show upd w.H p o a = _; rw [upd_ne (ne_of_none e h)]; exact e⟩
  · obtain ⟨u, e⟩ := s.here a (s.sub a ha)
    show upd w.H p o a = _
    rw [upd_ne (ne_of_none e h)]
theorem SR.newN (s : SR g w S) {p : Addr} {o : HO} (h : w.H p = none) : SR g ⟨upd w.H p o, p :: w.N, w.m⟩ S := by
  refine s.mono_at (keep_newN h).toMono rfl (fun a ha => List.mem_cons_of_mem _ (s.sub a ha)) (fun a ha => ?_) fun a ha => ?_
  · rcases List.mem_cons.mp ha with rfl | ha
    · exact ⟨o, upd_same⟩
    · obtain ⟨u, e⟩ := s.here a ha
      exact ⟨u, by show upd w.H p o a = _; rw [upd_ne (ne_of_none e h)]; exact e⟩
  · obtain ⟨u, e⟩ := s.here a (s.sub a ha)
    show upd w.H p o a = _
    rw [upd_ne (ne_of_none e h)]
/-- what is nobody's, and no handle's, is changed -/
theorem mono_own {a : Addr} {o u : HO} (h : w.H a = some u) (nt : ∀ xs, u ≠ .tup xs) (nf : ∀ ob z, u ≠ .frz ob z) (ha : a ∈ w.N) : Mono w ⟨upd w.H a o, w.N, w.m⟩ := by
  refine ⟨fun _ _ e => e, fun b z e n => ?_, fun b z e => ?_, fun b z y e => ?_, fun b e => .inl e⟩
  · show upd w.H a o b = _
    rw [upd_ne (fun (q : b = a) => n (by rw [q]; exact ha))]; exact e
  · show upd w.H a o b = _
    rw [upd_ne (fun q => by subst q; rw [h] at e; exact nt z (Option.some.inj e))]; exact e
  · show upd w.H a o b = _
    rw [upd_ne (fun q => by subst q; rw [h] at e; exact nf z y (Option.some.inj e))]; exact e
theorem SR.own (s : SR g w S) {a : Addr} {o u : HO} (h : w.H a = some u) (nt : ∀ xs, u ≠ .tup xs) (nf : ∀ ob z, u ≠ .frz ob z) (ha : a ∈ w.N) (hm : a ∉ w.m) : SR g ⟨upd w.H a o, w.N, w.m⟩ S := by
  refine s.mono_at (mono_own h nt nf ha) rfl s.sub (fun b hb => ?_) fun b hb => ?_
  · by_cases q : b = a
    · subst q; exact ⟨o, upd_same⟩
    · obtain ⟨z, e⟩ := s.here b hb
      exact ⟨z, by show upd w.H a o b = _; rw [upd_ne q]; exact e⟩
  · show upd w.H a o b = _
    rw [upd_ne (fun (q : b = a) => hm (by rw [← q]; exact hb))]
theorem SR.less (s : SR g w S) {N' : List Addr} (h : ∀ a ∈ N', a ∈ w.N) (h0 : ∀ a ∈ w.m, a ∈ N') : SR g ⟨w.H, N', w.m⟩ S :=
  s.mono_at (mono_less h) rfl h0 (fun a ha => s.here a (h a ha)) fun _ _ => rfl
end
end Pc

set_option Elab.async false
set_option linter.all false
set_option autoImplicit false
set_option maxRecDepth 100000
set_option maxHeartbeats 4000000
/-! Pc, part C: expressions. -/
namespace Pc
open PySem PySem.Spec PyProof.Rows L2

theorem PE.imp {X : Cx} {e : Expr} {t t' : TE} (h : PE X e t) (i : ∀ σ H Q, t' σ H Q → t σ H Q) : PE X e t' := ⟨fun pins s σ H Q I q => h.run pins s σ H Q I (i σ H Q q)⟩
theorem PT.imp {X : Cx} {e : Expr} {t t' : TT} (h : PT X e t) (i : ∀ σ H Q, t' σ H Q → t σ H Q) : PT X e t' := ⟨fun pins s σ H Q I q => h.run pins s σ H Q I (i σ H Q q)⟩
theorem PW.imp {X : Cx} {e : Expr} {t t' : TT} (h : PW X e t) (i : ∀ σ H Q, t' σ H Q → t σ H Q) : PW X e t' := ⟨fun wh pins s σ H Q I q => h.run wh pins s σ H Q I (i σ H Q q)⟩
theorem PA.imp {X : Cx} {e : List Expr} {t t' : TA} (h : PA X e t) (i : ∀ σ H Q, t' σ H Q → t σ H Q) : PA X e t' := ⟨fun pos pins s σ H Q I q => h.run pos pins s σ H Q I (i σ H Q q)⟩
theorem PS.imp {X : Cx} {e : Stmt} {t t' : TS} (h : PS X e t) (i : ∀ E σ H, t' E σ H → t E σ H) : PS X e t' := ⟨fun pins s σ H D I q => h.run pins s σ H D I (i D σ H q)⟩
theorem PSs.imp {X : Cx} {e : List Stmt} {t t' : TS} (h : PSs X e t) (i : ∀ E σ H, t' E σ H → t E σ H) : PSs X e t' := ⟨fun pins s σ H D I q => h.run pins s σ H D I (i D σ H q)⟩

inductive RepLB (g : Gc) (w : Wd) : List V → List D → Prop
  | nil : RepLB g w [] []
  | cons {v : V} {d : D} {vs : List V} {ds : List D} : RepB g w v d → RepLB g w vs ds → RepLB g w (v :: vs) (d :: ds)
abbrev rlLW (g : Gc) : Wd → Wd → List V → List D → Prop := fun _ w v d => RepLB g w v d
section
variable {g : Gc} {w w' : Wd}
theorem RepB.keep {v : V} {d : D} (k : Keep w w') (h : RepB g w v d) : RepB g w' v d := by
  rcases h with h | ⟨a, vs, ds, e1, e2, h1, h2, h3⟩ | ⟨a, vs, ds, e1, e2, h1, h2, h3⟩
  · exact .inl (h.mono k.toMono)
  · refine .inr (.inl ⟨a, vs, ds, e1, e2, k.kp a _ h1 h2, fun q => ?_, h3.mono k.toMono⟩)
    rcases k.newm a q with z | z
    · exact h2 z
    · rw [z] at h1; cases h1
  · refine .inr (.inr ⟨a, vs, ds, e1, e2, k.kp a _ h1 h2, fun q => ?_, h3.mono k.toMono⟩)
    rcases k.newm a q with z | z
    · exact h2 z
    · rw [z] at h1; cases h1
theorem RepLB.keep (k : Keep w w') : ∀ {vs : List V} {ds : List D}, RepLB g w vs ds → RepLB g w' vs ds
  | _, _, .nil => .nil
  | _, _, .cons r t => .cons (r.keep k) (RepLB.keep k t)
theorem RepLB.length : ∀ {vs : List V} {ds : List D}, RepLB g w vs ds → vs.length = ds.length
  | _, _, .nil => rfl
  | _, _, .cons _ t => congrArg (· + 1) (RepLB.length t)
/-- what stands there now: frozen, a slot's own, a handle's -/
def RepV (g : Gc) (w : Wd) (v : V) (d : D) : Prop := Rep g w v d ∨ (∃ a vs ds, v = .ref a ∧ d = .lst ds ∧ w.H a = some (.lst vs) ∧ RepL g w vs ds) ∨
  ∃ a vs ds, v = .ref a ∧ d = .dct ds ∧ w.H a = some (.dK vs) ∧ RepK g w vs ds
def derefO (h : Nat) : Option Ob → D
  | some (.lst xs) => .lst xs
  | some (.dct kvs) => .dct kvs
  | _ => .obj h
def deref (S : Store) : D → D
  | .obj h => derefO h S[h]?
  | d => d
theorem RepB.view {S : Store} {v : V} {d : D} (sr : SR g w S) (h : RepB g w v d) : RepV g w v (deref S d) := by
  rcases h with h | ⟨a, vs, ds, rfl, rfl, h1, h2, h3⟩ | ⟨a, vs, ds, rfl, rfl, h1, h2, h3⟩
  · cases d with
    | obj k =>
      cases h with
      | obj e =>
        show RepV g w _ (derefO k S[k]?)
        cases es : S[k]? with
        | none => exact .inl (.obj e)
        | some ob =>
          obtain ⟨q, e0, o0⟩ := sr.at_ k ob es
          rw [e] at e0
          cases e0
          cases ob with
          | lst xs => obtain ⟨vs, h1, h2⟩ := o0; exact .inr (.inl ⟨_, vs, xs, rfl, rfl, h1, h2⟩)
          | dct xs => obtain ⟨vs, h1, h2⟩ := o0; exact .inr (.inr ⟨_, vs, xs, rfl, rfl, h1, h2⟩)
          | ins c fs => exact .inl (.obj e)
    | _ => exact .inl h
  · exact .inr (.inl ⟨a, vs, ds, rfl, rfl, h1, h3⟩)
  · exact .inr (.inr ⟨a, vs, ds, rfl, rfl, h1, h3⟩)
theorem RepV.int {v : V} {i : Int} (h : RepV g w v (.int i)) : v = .int i := by
  rcases h with h | ⟨a, vs, ds, e1, e2, _⟩ | ⟨a, vs, ds, e1, e2, _⟩
  · cases h; rfl
  · cases e2
  · cases e2
theorem RepV.bl {v : V} {i : Bool} (h : RepV g w v (.bl i)) : v = .bl i := by
  rcases h with h | ⟨a, vs, ds, e1, e2, _⟩ | ⟨a, vs, ds, e1, e2, _⟩
  · cases h; rfl
  · cases e2
  · cases e2
theorem RepV.str {v : V} {i : Str} (h : RepV g w v (.str i)) : v = .str i := by
  rcases h with h | ⟨a, vs, ds, e1, e2, _⟩ | ⟨a, vs, ds, e1, e2, _⟩
  · cases h; rfl
  · cases e2
  · cases e2
theorem RepV.non {v : V} (h : RepV g w v .non) : v = .non := by
  rcases h with h | ⟨a, vs, ds, e1, e2, _⟩ | ⟨a, vs, ds, e1, e2, _⟩
  · cases h; rfl
  · cases e2
  · cases e2
theorem RepV.tup {v : V} {ds : List D} (h : RepV g w v (.tup ds)) : ∃ a vs, v = .ref a ∧ SqT g.K w.H a vs ∧ RepL g w vs ds := by
  rcases h with h | ⟨a, vs, ds, e1, e2, _⟩ | ⟨a, vs, ds, e1, e2, _⟩
  · cases h with
    | tup a b => exact ⟨_, _, rfl, a, b⟩
  · cases e2
  · cases e2
theorem RepV.lst {v : V} {ds : List D} (h : RepV g w v (.lst ds)) : ∃ a vs, v = .ref a ∧ SqL g.K w.H a vs ∧ RepL g w vs ds := by
  rcases h with h | ⟨a, vs, ds, e1, e2, e3, e5⟩ | ⟨a, vs, ds, e1, e2, _⟩
  · cases h with
    | lst a n b => exact ⟨_, _, rfl, .inl a, b⟩
    | lstK a b => exact ⟨_, _, rfl, a _, b⟩
  · cases e2; exact ⟨a, vs, e1, .inl (.inl e3), e5⟩
  · cases e2
theorem RepV.dct {v : V} {ds : List (Key × D)} (h : RepV g w v (.dct ds)) : ∃ a vs, v = .ref a ∧ w.H a = some (.dK vs) ∧ RepK g w vs ds := by
  rcases h with h | ⟨a, vs, ds, e1, e2, e3, e5⟩ | ⟨a, vs, ds, e1, e2, e3, e5⟩
  · cases h with
    | dct a n b => exact ⟨_, _, rfl, a, b⟩
  · cases e2
  · cases e2; exact ⟨a, vs, e1, e3, e5⟩
end

/-- the context of a body (or a block) that runs -/
structure Ok (g : Gc) (b : Bool) (X : Cx) (k : Nat) : Prop where
  K : X.K = g.K
  calm : X.calm = true
  nd : X.N.Nodup
  room : Room k X.A
  gd : b = true → X.A.guards = some []

section
variable {g : Gc} {N0 : List Addr} {Wx : WX} {X : Cx}
abbrev DE (g : Gc) (N0 : List Addr) (Wx : WX) (X : Cx) (e : Expr) (f : Ev → M D) : Prop := PE X e (tr g N0 Wx (rl g) f)
abbrev DW (g : Gc) (N0 : List Addr) (Wx : WX) (X : Cx) (e : Expr) (f : Ev → M D) : Prop := PE X e (tr g N0 Wx (rlW g) f)
abbrev DL (g : Gc) (N0 : List Addr) (Wx : WX) (X : Cx) (e : Expr) (f : Ev → M (List D)) : Prop := PE X e (tr g N0 Wx (NewL g) f)
abbrev DA (g : Gc) (N0 : List Addr) (Wx : WX) (X : Cx) (e : List Expr) (f : Ev → M (List D)) : Prop := PA X e (tr g N0 Wx (rlL g) f)
abbrev DB (g : Gc) (N0 : List Addr) (Wx : WX) (X : Cx) (e : List Expr) (f : Ev → M (List D)) : Prop := PA X e (tr g N0 Wx (rlLW g) f)
abbrev DT (g : Gc) (N0 : List Addr) (Wx : WX) (X : Cx) (e : Expr) (f : Ev → M Bool) : Prop := PT X e (tr g N0 Wx rlB f)

/-! ### names, constants -/
def rd (i : Nat) : Ev → M D := fun env => match env[i]? with
  | some (.val d) => pure d
  | _ => fail
def rdB (i : Nat) : Ev → M D := fun env => match env[i]? with
  | some (.val d) => pure d
  | some (.own xs) => pure (.lst xs)
  | some (.owd xs) => pure (.dct xs)
  | _ => fail
theorem de_var {i : Nat} {x : Str} {pos : Pos} (h : PE X (.Name x pos) (tVar i)) : DE g N0 Wx X (.Name x pos) (rd i) := by
  refine PE.imp h fun σ H Q ⟨w, env, S, e, er, sr, q⟩ => ?_
  subst e
  unfold rd at q
  cases hd : env[i]? with
  | none => rw [hd] at q; exact q.elim
  | some sl =>
    rw [hd] at q
    cases sl with
    | val d =>
      obtain ⟨v, e1, r⟩ := er.val i d hd
      exact ⟨v, e1, q w v (Keep.refl w) sr r⟩
    | _ => exact q.elim
theorem dw_var {i : Nat} {x : Str} {pos : Pos} (h : PE X (.Name x pos) (tVar i)) : DW g N0 Wx X (.Name x pos) (rdB i) := by
  refine PE.imp h fun σ H Q ⟨w, env, S, e, er, sr, q⟩ => ?_
  subst e
  unfold rdB at q
  cases hd : env[i]? with
  | none => rw [hd] at q; exact q.elim
  | some sl =>
    rw [hd] at q
    cases sl with
    | val d =>
      obtain ⟨v, e1, r⟩ := er.val i d hd
      exact ⟨v, e1, q w v (Keep.refl w) sr (.inl r)⟩
    | own d =>
      obtain ⟨a, vs, e1, e2, e3, e4, e5, r⟩ := er.own i d hd
      exact ⟨_, e1, q w _ (Keep.refl w) sr (.inr (.inl ⟨a, vs, d, rfl, rfl, e2, e4, r⟩))⟩
    | owd d =>
      obtain ⟨a, vs, e1, e2, e3, e4, e5, r⟩ := er.owd i d hd
      exact ⟨_, e1, q w _ (Keep.refl w) sr (.inr (.inr ⟨a, vs, d, rfl, rfl, e2, e4, r⟩))⟩
    | no => exact q.elim
theorem dw_of {e : Expr} {f : Ev → M D} (h : DE g N0 Wx X e f) : DW g N0 Wx X e f := by
  refine PE.imp h fun σ H Q ⟨w, env, S, e, er, sr, q⟩ => ⟨w, env, S, e, er, sr, ?_⟩
  generalize f env S = r at q
  cases r with
  | ok a S' => exact fun w' y k s r => q w' y k s (.inl r)
  | ex c fs S' => exact q
  | bad => exact q
/-- what always gives one value -/
theorem de_con {e : Expr} {v : V} {d : D} (h : PE X e (tC v)) (r : ∀ w, Rep g w v d) : DE g N0 Wx X e (fun _ => pure d) := by
  refine PE.imp h fun σ H Q ⟨w, env, S, e, er, sr, q⟩ => ?_
  subst e
  exact q w v (Keep.refl w) sr (r w)

/-! ### operators -/
/-- an operation by values: sem tells its value where it is told -/
def OpS (g : Gc) (X : Cx) (f : Value → Value → Sem Value) (sem : D → D → Option D) : Prop :=
  ∃ r : R2, OpR X f r ∧ ∀ (w : Wd) (S : Store) (x y : V) (a b d : D) (Q : VK), sem a b = some d → SR g w S → RepV g w x a → RepV g w y b →
    (∀ w' v, Keep w w' → SR g w' S → Rep g w' v d → Q v w'.H) → r x y w.H Q
/-- an operation at the store -/
def op2 (sem : D → D → Option D) (x y : D) : M D := fun S => ofO (sem (deref S x) (deref S y)) S
def orS (s t : D → D → Option D) : D → D → Option D := fun a b => match s a b with
  | some d => some d
  | none => t a b
theorem OpS.or {f : Value → Value → Sem Value} {s t : D → D → Option D} (h : OpS g X f s) (h' : OpS g X f t) : OpS g X f (orS s t) := by
  obtain ⟨r, hr, q⟩ := h
  obtain ⟨r', hr', q'⟩ := h'
  refine ⟨_, hr.or hr', fun w S x y a b d Q e sr ra rb k => ?_⟩
  unfold orS at e
  split at e
  · rename_i d' e'
    cases e
    exact .inl (q w S x y a b _ Q e' sr ra rb k)
  · exact .inr (q' w S x y a b d Q e sr ra rb k)
section
variable {a b : Expr} {fa fb : Ev → M D} {pos : Pos}
/-- two operands, one after another -/
theorem two {σ : L2.St} {H : Hp} {β α : Type} {Q : β → Hp → Prop} {rel : Wd → Wd → β → α → Prop} {k : D → D → M α} {R : V → V → Hp → Prop} (hr : ∀ w w1 w' y a, Keep w w1 → rel w1 w' y a → rel w w' y a) (h : tr g N0 Wx rel (fun env => do let x ← fa env; let y ← fb env; k x y) σ H Q)
    (c : ∀ w S x y a b, SR g w S → RepB g w x a → RepB g w y b → Pst g Wx σ rel w (k a b S) Q → R x y w.H) : tr g N0 Wx (rlW g) fa σ H fun x H1 => tr g N0 Wx (rlW g) fb σ H1 fun y H2 => R x y H2 := by
  obtain ⟨w, env, S, e, er, sr, q⟩ := h
  subst e
  refine tr_intro er sr (pst_imp (pst_bind (relA := rlW g) (fun w1 w' y a => hr w w1 w' y a) q) fun x H1 ⟨w1, da, S1, e1, k1, s1, r1, q1⟩ => ?_)
  subst e1
  refine tr_intro (er.keep k1) s1 (pst_imp (pst_bind (relA := rlW g) (fun w1' w' y a => hr w1 w1' w' y a) q1) fun y H2 ⟨w2, db, S2, e2, k2, s2, r2, q2⟩ => ?_)
  subst e2
  exact c w2 S2 x y da db s2 (r1.keep k2) r2 q2
theorem de_bin {op : Operator} {sem : D → D → Option D} (ha : DW g N0 Wx X a fa) (hb : DW g N0 Wx X b fb) (ho : OpS g X (binaryOp op) sem) :
    DE g N0 Wx X (.BinOp a op b pos) (fun env => do let x ← fa env; let y ← fb env; op2 sem x y) := by
  obtain ⟨r, hr, q⟩ := ho
  refine PE.imp (pe_op hr ha hb) fun σ H Q h => ?_
  refine two (R := fun x y H2 => r x y H2 Q) (fun _ _ _ _ _ _ z => z) h fun w S x y a b sr ra rb p => ?_
  unfold op2 at p
  cases e : sem (deref S a) (deref S b) with
  | none => rw [e] at p; exact p.elim
  | some d => rw [e] at p; exact q w S x y _ _ d Q e sr (ra.view sr) (rb.view sr) fun w' v k s r => p w' v k s r
theorem de_cmp {op : CmpOp} {sem : D → D → Option D} (ha : DW g N0 Wx X a fa) (hb : DW g N0 Wx X b fb) (ho : OpS g X (compareOp op) sem) (hm : behindInMarks op b = false) :
    DE g N0 Wx X (.Compare a [op] [b] pos) (fun env => do let x ← fa env; let y ← fb env; op2 sem x y) := by
  obtain ⟨r, hr, q⟩ := ho
  refine PE.imp (pe_cmpR hr ha hb hm) fun σ H Q h => ?_
  refine two (R := fun x y H2 => r x y H2 Q) (fun _ _ _ _ _ _ z => z) h fun w S x y a b sr ra rb p => ?_
  unfold op2 at p
  cases e : sem (deref S a) (deref S b) with
  | none => rw [e] at p; exact p.elim
  | some d => rw [e] at p; exact q w S x y _ _ d Q e sr (ra.view sr) (rb.view sr) fun w' v k s r => p w' v k s r
def asB : D → M Bool
  | .bl b => pure b
  | _ => fail
theorem dt_cmp {op : CmpOp} {sem : D → D → Option D} (ha : DW g N0 Wx X a fa) (hb : DW g N0 Wx X b fb) (ho : OpS g X (compareOp op) sem) (hm : behindInMarks op b = false) :
    DT g N0 Wx X (.Compare a [op] [b] pos) (fun env => do let x ← fa env; let y ← fb env; let z ← op2 sem x y; asB z) := by
  obtain ⟨r, hr, q⟩ := ho
  refine PT.imp (pt_cmpR hr ha hb hm) fun σ H Q h => ?_
  refine two (R := fun x y H2 => r x y H2 fun x H' => ∃ k, x = .bl k ∧ Q k H') (k := fun x y => do let z ← op2 sem x y; asB z) (fun _ _ _ _ _ _ z => z) h fun w S x y a b sr ra rb p => ?_
  have p' : Pst g Wx σ rlB w ((op2 sem a b >>= asB) S) Q := p
  have ee : (op2 sem a b >>= asB) S = M.bind (op2 sem a b) asB S := rfl
  rw [ee] at p'
  unfold M.bind op2 at p'
  cases e : sem (deref S a) (deref S b) with
  | none => rw [e] at p'; exact p'.elim
  | some d =>
    rw [e] at p'
    refine q w S x y _ _ d _ e sr (ra.view sr) (rb.view sr) fun w' v k s r => ?_
    cases d with
    | bl z => cases r; exact ⟨z, rfl, p' w' z k s rfl⟩
    | _ => exact p'.elim
end
end
end Pc

set_option Elab.async false
set_option linter.all false
set_option autoImplicit false
set_option maxRecDepth 100000
set_option maxHeartbeats 4000000
/-! Pc, part D: data that is compared, shown; operators by values. -/
namespace Pc
open PySem PySem.Spec PyProof.Rows L2

def keyP : Key → PyData
  | .inl i => .int i
  | .inr x => .str x
mutual
def D.toP : D → PyData
  | .non => .none
  | .bl b => .bool b
  | .int i => .int i
  | .str x => .str x
  | .tup xs => .tuple (toPL xs)
  | .lst xs => .list (toPL xs)
  | .dct kvs => .dict (toPK kvs)
  | .ins _ _ => .none
  | .obj _ => .none
  | .ext _ => .none
  | .exn _ _ _ _ => .none
def toPL : List D → List PyData
  | [] => []
  | x :: xs => D.toP x :: toPL xs
def toPK : List (Key × D) → List (PyData × PyData)
  | [] => []
  | (k, x) :: xs => (keyP k, D.toP x) :: toPK xs
end
/-- plain data of depth at most n -/
def okS (x : Str) : Bool := PyData.strOk x
mutual
def okd : Nat → D → Bool
  | _, .non => true
  | _, .bl _ => true
  | _, .int _ => true
  | _, .str x => okS x
  | n + 1, .tup xs => okdL n xs
  | n + 1, .lst xs => okdL n xs
  | _, _ => false
def okdL : Nat → List D → Bool
  | _, [] => true
  | n, x :: xs => okd n x && okdL n xs
end
mutual
def eqd : D → D → Bool
  | .non, .non => true
  | .bl a, .bl b => a == b
  | .bl a, .int j => (if a then 1 else 0) == j
  | .int i, .bl b => i == (if b then 1 else 0)
  | .int i, .int j => i == j
  | .str x, .str y => x == y
  | .lst xs, .lst ys => eqdL xs ys
  | .tup xs, .tup ys => eqdL xs ys
  | _, _ => false
def eqdL : List D → List D → Bool
  | [], [] => true
  | x :: xs, y :: ys => eqd x y && eqdL xs ys
  | _, _ => false
end
mutual
theorem okd_lay : ∀ (n : Nat) (d : D), okd n d = true → d.toP.canLay0 = true ∧ d.toP.depth ≤ n
  | _, .non, _ => ⟨by simp [D.toP, PyData.canLay0], by simp [D.toP, PyData.depth]⟩
  | _, .bl _, _ => ⟨by simp [D.toP, PyData.canLay0], by simp [D.toP, PyData.depth]⟩
  | _, .int _, _ => ⟨by simp [D.toP, PyData.canLay0], by simp [D.toP, PyData.depth]⟩
  | _, .str x, h => ⟨by simpa [D.toP, PyData.canLay0, okd, okS] using h, by simp [D.toP, PyData.depth]⟩
  | 0, .tup _, h => by simp [okd] at h
  | 0, .lst _, h => by simp [okd] at h
  | n + 1, .tup xs, h => by
    obtain ⟨a, b⟩ := okdL_lay n xs (by simpa [okd] using h)
    exact ⟨by simpa [D.toP, PyData.canLay0] using a, by simp only [D.toP, PyData.depth]; omega⟩
  | n + 1, .lst xs, h => by
    obtain ⟨a, b⟩ := okdL_lay n xs (by simpa [okd] using h)
    exact ⟨by simpa [D.toP, PyData.canLay0] using a, by simp only [D.toP, PyData.depth]; omega⟩
  | _, .dct _, h => by simp [okd] at h
  | _, .ins _ _, h => by simp [okd] at h
  | _, .obj _, h => by simp [okd] at h
  | _, .ext _, h => by simp [okd] at h
  | _, .exn _ _ _ _, h => by simp [okd] at h
theorem okdL_lay : ∀ (n : Nat) (d : List D), okdL n d = true → PyData.canLayAll0 (toPL d) = true ∧ PyData.depthAll (toPL d) ≤ n
  | _, [], _ => ⟨by simp [toPL, PyData.canLayAll0], by simp [toPL, PyData.depthAll]⟩
  | n, x :: xs, h => by
    simp only [okdL, Bool.and_eq_true] at h
    obtain ⟨a, b⟩ := okd_lay n x h.1
    obtain ⟨c, d⟩ := okdL_lay n xs h.2
    exact ⟨by simp [toPL, PyData.canLayAll0, a, c], by simp only [toPL, PyData.depthAll]; omega⟩
end
theorem okd_shaped {n : Nat} {d : D} (h : okd n d = true) (hn : n ≤ 64) : SeqAt.shaped d.toP = true := by
  obtain ⟨a, b⟩ := okd_lay n d h
  unfold SeqAt.shaped
  rw [a, Bool.true_and]
  exact decide_eq_true (by omega)
mutual
theorem eqd_ok : ∀ (n m : Nat) (a b : D), okd n a = true → okd m b = true → PyData.eqv a.toP b.toP = eqd a b
  | _, _, .non, b, _, h => by cases b <;> simp_all [D.toP, PyData.eqv, eqd, okd]
  | _, _, .bl _, b, _, h => by cases b <;> simp_all [D.toP, PyData.eqv, eqd, okd]
  | _, _, .int _, b, _, h => by cases b <;> simp_all [D.toP, PyData.eqv, eqd, okd]
  | _, _, .str _, b, _, h => by cases b <;> simp_all [D.toP, PyData.eqv, eqd, okd]
  | n + 1, m, .tup xs, b, g, h => by
    cases b with
    | tup ys =>
      cases m with
      | zero => simp [okd] at h
      | succ m => simpa [D.toP, PyData.eqv, eqd] using eqdL_ok n m xs ys (by simpa [okd] using g) (by simpa [okd] using h)
    | _ => simp_all [D.toP, PyData.eqv, eqd, okd]
  | n + 1, m, .lst xs, b, g, h => by
    cases b with
    | lst ys =>
      cases m with
      | zero => simp [okd] at h
      | succ m => simpa [D.toP, PyData.eqv, eqd] using eqdL_ok n m xs ys (by simpa [okd] using g) (by simpa [okd] using h)
    | _ => simp_all [D.toP, PyData.eqv, eqd, okd]
  | 0, _, .tup _, _, g, _ => by simp [okd] at g
  | 0, _, .lst _, _, g, _ => by simp [okd] at g
  | _, _, .dct _, _, g, _ => by simp [okd] at g
  | _, _, .ins _ _, _, g, _ => by simp [okd] at g
  | _, _, .obj _, _, g, _ => by simp [okd] at g
  | _, _, .ext _, _, g, _ => by simp [okd] at g
  | _, _, .exn _ _ _ _, _, g, _ => by simp [okd] at g
theorem eqdL_ok : ∀ (n m : Nat) (a b : List D), okdL n a = true → okdL m b = true → PyData.eqvAll (toPL a) (toPL b) = eqdL a b
  | _, _, [], [], _, _ => by simp [toPL, PyData.eqvAll, eqdL]
  | _, _, [], _ :: _, _, _ => by simp [toPL, PyData.eqvAll, eqdL]
  | _, _, _ :: _, [], _, _ => by simp [toPL, PyData.eqvAll, eqdL]
  | n, m, x :: xs, y :: ys, g, h => by
    simp only [okdL, Bool.and_eq_true] at g h
    simp only [toPL, PyData.eqvAll, eqdL]
    rw [eqd_ok n m x y g.1 h.1, eqdL_ok n m xs ys g.2 h.2]
end
mutual
theorem Rep.dp {g : Gc} {w : Wd} : ∀ {n : Nat} {v : V} {d : D}, Rep g w v d → okd n d = true → Dp g.K w.H v d.toP
  | _, _, _, .non, _ => by simp only [D.toP]; exact .non
  | _, _, _, .bl b, _ => by simp only [D.toP]; exact .bl b
  | _, _, _, .int b, _ => by simp only [D.toP]; exact .int b
  | _, _, _, .str b, _ => by simp only [D.toP]; exact .str b
  | 0, _, _, .tup h r, o => by simp [okd] at o
  | 0, _, _, .lst h k r, o => by simp [okd] at o
  | 0, _, _, .lstK h r, o => by simp [okd] at o
  | n + 1, _, _, .tup h r, o => by
    simp only [D.toP]
    exact .tup h (RepL.dp r (by simpa [okd] using o))
  | n + 1, _, _, .lst h k r, o => by
    simp only [D.toP]
    exact .lst (.inl h) (RepL.dp r (by simpa [okd] using o))
  | n + 1, _, _, .lstK h r, o => by
    simp only [D.toP]
    exact .lst (h _) (RepL.dp r (by simpa [okd] using o))
  | _, _, _, .dct _ _ _, o => by simp [okd] at o
  | _, _, _, .ins _ _ _, o => by simp [okd] at o
  | _, _, _, .obj _, o => by simp [okd] at o
  | _, _, _, .ext _, o => by simp [okd] at o
  | _, _, _, .exn _ _, o => by simp [okd] at o
theorem RepL.dp {g : Gc} {w : Wd} : ∀ {n : Nat} {v : List V} {d : List D}, RepL g w v d → okdL n d = true → DpAll g.K w.H v (toPL d)
  | _, _, _, .nil, _ => by simp only [toPL]; exact .nil
  | n, _, _, .cons r t, o => by
    simp only [okdL, Bool.and_eq_true] at o
    simp only [toPL]
    exact .cons (Rep.dp r o.1) (RepL.dp t o.2)
end
theorem RepV.dp {g : Gc} {w : Wd} {n : Nat} {v : V} {d : D} (r : RepV g w v d) (o : okd n d = true) : Dp g.K w.H v d.toP := by
  rcases r with r | ⟨a, vs, ds, rfl, rfl, h1, h3⟩ | ⟨a, vs, ds, rfl, rfl, h1, h3⟩
  · exact r.dp o
  · cases n with
    | zero => simp [okd] at o
    | succ n =>
      simp only [D.toP]
      exact .lst (.inl (.inl h1)) (h3.dp (by simpa [okd] using o))
  · simp [okd] at o

/-! ### semantics of the operators -/
def oki (i : Int) : Bool := decide (-(2 ^ 64) < i) && decide (i < 2 ^ 64)
def addD : D → D → Option D
  | .int i, .int j => some (.int (i + j))
  | .str x, .str y => if x.length + y.length ≤ sizeLine then some (.str (x ++ y)) else none
  | .tup x, .tup y => if x.length + y.length ≤ sizeLine then some (.tup (x ++ y)) else none
  | _, _ => none
def subD : D → D → Option D
  | .int i, .int j => some (.int (i - j))
  | _, _ => none
def mulD : D → D → Option D
  | .int i, .int j => if oki i || oki j then some (.int (i * j)) else none
  | _, _ => none
def fdivD : D → D → Option D
  | .int i, .int j => if 0 < j ∧ j.natAbs.log2 < 9000 then some (.int (i / j)) else none
  | _, _ => none
def modD : D → D → Option D
  | .int i, .int j => if 0 < j then some (.int (i % j)) else none
  | _, _ => none
def powD : D → D → Option D
  | .int i, .int j => if 0 ≤ j ∧ j ≤ 1000000 ∧ i.natAbs < 2 ^ 64 then some (.int (i ^ j.toNat)) else none
  | _, _ => none
def eqD (a b : D) : Option D := match a, b with
  | .str x, .str y => some (.bl (decide (x = y)))
  | a, b => if okd 60 a && okd 60 b then some (.bl (eqd a b)) else none
def neD (a b : D) : Option D := match a, b with
  | .str x, .str y => some (.bl (!decide (x = y)))
  | a, b => if okd 60 a && okd 60 b then some (.bl (!eqd a b)) else none
def ltD : D → D → Option D
  | .int i, .int j => some (.bl (decide (i < j)))
  | _, _ => none
def leD : D → D → Option D
  | .int i, .int j => some (.bl (decide (i ≤ j)))
  | _, _ => none
def gtD : D → D → Option D
  | .int i, .int j => some (.bl (decide (j < i)))
  | _, _ => none
def geD : D → D → Option D
  | .int i, .int j => some (.bl (decide (j ≤ i)))
  | _, _ => none
def D.isNon : D → Bool
  | .non => true
  | _ => false
def isD (a b : D) : Option D := match b with
  | .non => (match a with
    | .ext _ => none
    | a => some (.bl a.isNon))
  | .bl y => (match a with
    | .bl x => some (.bl (x == y))
    | _ => none)
  | _ => none
def isntD (a b : D) : Option D := match b with
  | .non => (match a with
    | .ext _ => none
    | a => some (.bl (!a.isNon)))
  | .bl y => (match a with
    | .bl x => some (.bl (!(x == y)))
    | _ => none)
  | _ => none
def inD (a : D) : D → Option D
  | .tup xs => if okd 60 a && okdL 60 xs then some (.bl (xs.any fun y => eqd y a)) else none
  | .lst xs => if okd 60 a && okdL 60 xs then some (.bl (xs.any fun y => eqd y a)) else none
  | _ => none
def ninD (a : D) : D → Option D
  | .tup xs => if okd 60 a && okdL 60 xs then some (.bl (!xs.any fun y => eqd y a)) else none
  | .lst xs => if okd 60 a && okdL 60 xs then some (.bl (!xs.any fun y => eqd y a)) else none
  | _ => none

section
variable {g : Gc} {X : Cx} {k : Nat}
/-- ints to ints -/
theorem ops_int {f : Value → Value → Sem Value} {C : Int → Int → Prop} {z : Int → Int → V} {sem : D → D → Option D} (h : OpR X f (rI C z))
    (hs : ∀ a b d, sem a b = some d → ∃ i j, a = .int i ∧ b = .int j ∧ C i j ∧ ∀ w, Rep g w (z i j) d) : OpS g X f sem := by
  refine ⟨_, h, fun w S x y a b d Q e sr ra rb q => ?_⟩
  obtain ⟨i, j, rfl, rfl, c, r⟩ := hs a b d e
  exact ⟨i, j, ra.int, rb.int, c, q w _ (Keep.refl w) sr (r w)⟩
theorem ops_int0 {f : Value → Value → Sem Value} {z : Int → Int → V} {sem : D → D → Option D} (h : OpR X f (rI0 z))
    (hs : ∀ a b d, sem a b = some d → ∃ i j, a = .int i ∧ b = .int j ∧ ∀ w, Rep g w (z i j) d) : OpS g X f sem := by
  refine ⟨_, h, fun w S x y a b d Q e sr ra rb q => ?_⟩
  obtain ⟨i, j, rfl, rfl, r⟩ := hs a b d e
  exact ⟨i, j, ra.int, rb.int, q w _ (Keep.refl w) sr (r w)⟩
theorem ops_sub : OpS g X (binaryOp .Sub) subD := ops_int0 op_sub fun a b d e => by
  unfold subD at e
  split at e <;> cases e
  exact ⟨_, _, rfl, rfl, fun w => .int _⟩
theorem ops_mul : OpS g X (binaryOp .Mult) mulD := ops_int op_mul fun a b d e => by
  unfold mulD at e
  split at e
  · split at e
    · rename_i i j h
      cases e
      refine ⟨i, j, rfl, rfl, ?_, fun w => .int _⟩
      simp only [oki, Bool.or_eq_true, Bool.and_eq_true, decide_eq_true_eq] at h
      exact h
    · cases e
  · cases e
theorem ops_fdiv : OpS g X (binaryOp .FloorDiv) fdivD := ops_int op_fdivW fun a b d e => by
  unfold fdivD at e
  split at e
  · split at e
    · rename_i i j h
      cases e
      exact ⟨i, j, rfl, rfl, h, fun w => .int _⟩
    · cases e
  · cases e
theorem ops_mod : OpS g X (binaryOp .Mod) modD := ops_int op_mod fun a b d e => by
  unfold modD at e
  split at e
  · split at e
    · rename_i i j h
      cases e
      exact ⟨i, j, rfl, rfl, h, fun w => .int _⟩
    · cases e
  · cases e
theorem ops_pow : OpS g X (binaryOp .Pow) powD := ops_int op_pow fun a b d e => by
  unfold powD at e
  split at e
  · split at e
    · rename_i i j h
      cases e
      exact ⟨i, j, rfl, rfl, h, fun w => .int _⟩
    · cases e
  · cases e
theorem ops_lt : OpS g X (compareOp .Lt) ltD := ops_int0 op_lt fun a b d e => by
  unfold ltD at e
  split at e <;> cases e
  exact ⟨_, _, rfl, rfl, fun w => .bl _⟩
theorem ops_le : OpS g X (compareOp .LtE) leD := ops_int0 op_le fun a b d e => by
  unfold leD at e
  split at e <;> cases e
  exact ⟨_, _, rfl, rfl, fun w => .bl _⟩
theorem ops_gt : OpS g X (compareOp .Gt) gtD := ops_int0 op_gt fun a b d e => by
  unfold gtD at e
  split at e <;> cases e
  exact ⟨_, _, rfl, rfl, fun w => .bl _⟩
theorem ops_ge : OpS g X (compareOp .GtE) geD := ops_int0 op_ge fun a b d e => by
  unfold geD at e
  split at e <;> cases e
  exact ⟨_, _, rfl, rfl, fun w => .bl _⟩
theorem rep_newT {w : Wd} {p : Addr} {vs : List V} {ds : List D} (h : w.H p = none) (r : RepL g w vs ds) : Rep g ⟨upd w.H p (.tup vs), w.N, w.m⟩ (.ref p) (.tup ds) :=
  .tup (.inl (.inl upd_same)) (r.mono (keep_new h).toMono)
theorem rep_newL {w : Wd} {S : Store} {p : Addr} {vs : List V} {ds : List D} (sr : SR g w S) (h : w.H p = none) (r : RepL g w vs ds) : Rep g ⟨upd w.H p (.lst vs), w.N, w.m⟩ (.ref p) (.lst ds) :=
  .lst (.inl upd_same) (fun q => sr.notnone q h) (r.mono (keep_new h).toMono)
theorem ops_add (hK : X.K = g.K) : OpS g X (binaryOp .Add) addD := by
  refine ⟨_, OpR.or op_add (OpR.or op_add_str op_catA), fun w S x y a b d Q e sr ra rb q => ?_⟩
  unfold addD at e
  split at e
  · rename_i i j
    cases e
    exact .inl ⟨i, j, ra.int, rb.int, q w _ (Keep.refl w) sr (.int _)⟩
  · split at e
    · rename_i i j h
      cases e
      exact .inr (.inl ⟨i, j, ra.str, rb.str, h, q w _ (Keep.refl w) sr (.str _)⟩)
    · cases e
  · split at e
    · rename_i xs ys h
      cases e
      obtain ⟨a, vs, rfl, h1, h2⟩ := ra.tup
      obtain ⟨b, us, rfl, h3, h4⟩ := rb.tup
      refine .inr (.inr ⟨a, b, vs, us, rfl, rfl, by rw [hK]; exact h1, by rw [hK]; exact h3, by rw [h2.length, h4.length]; exact h, ?_⟩)
      refine ⟨fun e => ?_, fun _ e => ?_, fun _ _ p hp => ?_⟩
      · subst e
        cases h2
        exact q w _ (Keep.refl w) sr (.tup h3 (by simpa using h4))
      · subst e
        cases h4
        exact q w _ (Keep.refl w) sr (.tup h1 (by simpa using h2))
      · exact q _ _ (keep_new hp) (sr.new hp) (rep_newT hp (h2.append h4))
    · cases e
  · cases e
theorem Rd.sqL {K : PySem.W.Frag} {H : Hp} {a : Addr} {vs : List V} (h : Rd H a (.lst vs)) : SqL K H a vs := .inl h
theorem ops_eq (hK : X.K = g.K) (hu : X.A.units + 64 < cLine) : OpS g X (compareOp .Eq) eqD := by
  refine ⟨_, OpR.or op_eq (op_eqD hu), fun w S x y a b d Q e sr ra rb q => ?_⟩
  unfold eqD at e
  split at e
  · rename_i x' y'
    cases e
    refine .inl ?_
    rw [ra.str, rb.str]
    refine ⟨rfl, ?_⟩
    have h : decide (V.str x' = V.str y') = decide (x' = y') := by simp
    rw [h]
    exact q w _ (Keep.refl w) sr (.bl _)
  refine .inr ?_
  split at e
  · rename_i h
    cases e
    rw [Bool.and_eq_true] at h
    refine ⟨a.toP, b.toP, by rw [hK]; exact ra.dp h.1, by rw [hK]; exact rb.dp h.2, okd_shaped h.1 (by decide), okd_shaped h.2 (by decide), ?_⟩
    rw [eqd_ok 60 60 a b h.1 h.2]
    exact q w _ (Keep.refl w) sr (.bl _)
  · cases e
theorem ops_ne (hK : X.K = g.K) (hu : X.A.units + 64 < cLine) : OpS g X (compareOp .NotEq) neD := by
  refine ⟨_, OpR.or op_ne (op_neD hu), fun w S x y a b d Q e sr ra rb q => ?_⟩
  unfold neD at e
  split at e
  · rename_i x' y'
    cases e
    refine .inl ?_
    rw [ra.str, rb.str]
    refine ⟨rfl, ?_⟩
    have h : decide (V.str x' = V.str y') = decide (x' = y') := by simp
    rw [h]
    exact q w _ (Keep.refl w) sr (.bl _)
  refine .inr ?_
  split at e
  · rename_i h
    cases e
    rw [Bool.and_eq_true] at h
    refine ⟨a.toP, b.toP, by rw [hK]; exact ra.dp h.1, by rw [hK]; exact rb.dp h.2, okd_shaped h.1 (by decide), okd_shaped h.2 (by decide), ?_⟩
    rw [eqd_ok 60 60 a b h.1 h.2]
    exact q w _ (Keep.refl w) sr (.bl _)
  · cases e
theorem RepV.isNon {w : Wd} {x : V} {a : D} (r : RepV g w x a) (h : ∀ v, a ≠ .ext v) : decide (x = .non) = a.isNon := by
  rcases r with r | ⟨a, vs, ds, rfl, rfl, _⟩ | ⟨a, vs, ds, rfl, rfl, _⟩
  · cases r <;> first | rfl | exact absurd rfl (h _)
  · rfl
  · rfl
theorem ops_is : OpS g X (compareOp .Is) isD := by
  refine ⟨_, OpR.or op_isN op_isBl, fun w S x y a b d Q e sr ra rb q => ?_⟩
  cases b with
  | non =>
    have h : ∀ v, a ≠ .ext v := fun v z => by subst z; cases e
    have e2 : d = .bl a.isNon := by cases a <;> first | exact absurd rfl (h _) | (cases e; rfl)
    subst e2
    exact .inl ⟨rb.non, by rw [ra.isNon h]; exact q w _ (Keep.refl w) sr (.bl _)⟩
  | bl j =>
    cases a with
    | bl i =>
      cases e
      exact .inr ⟨i, j, ra.bl, rb.bl, by rw [← Bool.beq_eq_decide_eq]; exact q w _ (Keep.refl w) sr (.bl _)⟩
    | _ => cases e
  | _ => cases e
theorem ops_isnt : OpS g X (compareOp .IsNot) isntD := by
  refine ⟨_, OpR.or op_notN op_notBl, fun w S x y a b d Q e sr ra rb q => ?_⟩
  cases b with
  | non =>
    have h : ∀ v, a ≠ .ext v := fun v z => by subst z; cases e
    have e2 : d = .bl (!a.isNon) := by cases a <;> first | exact absurd rfl (h _) | (cases e; rfl)
    subst e2
    exact .inl ⟨rb.non, by rw [ra.isNon h]; exact q w _ (Keep.refl w) sr (.bl _)⟩
  | bl j =>
    cases a with
    | bl i =>
      cases e
      exact .inr ⟨i, j, ra.bl, rb.bl, by rw [← Bool.beq_eq_decide_eq]; exact q w _ (Keep.refl w) sr (.bl _)⟩
    | _ => cases e
  | _ => cases e
theorem shaped_L {n : Nat} {xs : List D} (h : okdL n xs = true) (hn : n ≤ 60) : SeqAt.shaped (.list (toPL xs)) = true := by
  obtain ⟨a, b⟩ := okdL_lay n xs h
  unfold SeqAt.shaped
  simp only [PyData.canLay0, PyData.depth, a, Bool.true_and]
  exact decide_eq_true (by omega)
theorem any_eqd (n m : Nat) (a : D) (h : okd n a = true) : ∀ xs : List D, okdL m xs = true → ((toPL xs).any fun z => PyData.eqv z a.toP) = xs.any fun y => eqd y a
  | [], _ => rfl
  | x :: xs, o => by
    simp only [okdL, Bool.and_eq_true] at o
    simp only [toPL, List.any_cons]
    rw [eqd_ok m n x a o.1 h, any_eqd n m a h xs o.2]
def rInT (K : PySem.W.Frag) (neg : Bool) : R2 := fun x y H Q => ∃ d ds, Dp K H x d ∧ Dp K H y (.tuple ds) ∧ SeqAt.shaped d = true ∧ SeqAt.shaped (.tuple ds) = true ∧ Q (.bl (if neg then !ds.any fun z => PyData.eqv z d else ds.any fun z => PyData.eqv z d)) H
theorem op_inT (hu : X.A.units + 65 < cLine) : OpR X (compareOp .In) (rInT X.K false) := by
  intro pins s σ H x y v u Q I rx ry h
  obtain ⟨d, ds, hd, he, sd, se, q⟩ := h
  obtain ⟨as, r1⟩ := Dp.reads I d x v hd rx
  obtain ⟨bs, r2⟩ := Dp.reads I (.tuple ds) y u he ry
  exact SeqAt.in_tuple_reads r2 r1 (SeqAt.canLay_of_shaped se) (SeqAt.canLay_of_shaped sd) (room_in_shaped sd hu) ⟨.bl _, H, I, rfl, q⟩
theorem op_ninT (hu : X.A.units + 65 < cLine) : OpR X (compareOp .NotIn) (rInT X.K true) := by
  intro pins s σ H x y v u Q I rx ry h
  obtain ⟨d, ds, hd, he, sd, se, q⟩ := h
  obtain ⟨as, r1⟩ := Dp.reads I d x v hd rx
  obtain ⟨bs, r2⟩ := Dp.reads I (.tuple ds) y u he ry
  exact SeqAt.notIn_tuple_reads r2 r1 (SeqAt.canLay_of_shaped se) (SeqAt.canLay_of_shaped sd) (room_in_shaped sd hu) ⟨.bl _, H, I, rfl, q⟩
theorem shaped_T {n : Nat} {xs : List D} (h : okdL n xs = true) (hn : n ≤ 60) : SeqAt.shaped (.tuple (toPL xs)) = true := shaped_L h hn
theorem ops_in (hK : X.K = g.K) (hu : X.A.units + 65 < cLine) : OpS g X (compareOp .In) inD := by
  refine ⟨_, OpR.or (op_inT hu) (op_inD hu), fun w S x y a b d Q e sr ra rb q => ?_⟩
  unfold inD at e
  split at e
  · split at e
    · rename_i xs h
      cases e
      rw [Bool.and_eq_true] at h
      obtain ⟨p, vs, rfl, h1, h2⟩ := rb.tup
      refine .inl ⟨a.toP, toPL xs, by rw [hK]; exact ra.dp h.1, by rw [hK]; exact .tup h1 (h2.dp h.2), okd_shaped h.1 (by decide), shaped_T h.2 (by decide), ?_⟩
      rw [any_eqd 60 60 a h.1 xs h.2]
      exact q w _ (Keep.refl w) sr (.bl _)
    · cases e
  · split at e
    · rename_i xs h
      cases e
      rw [Bool.and_eq_true] at h
      obtain ⟨p, vs, rfl, h1, h2⟩ := rb.lst
      refine .inr ⟨a.toP, toPL xs, by rw [hK]; exact ra.dp h.1, by rw [hK]; exact .lst h1 (h2.dp h.2), okd_shaped h.1 (by decide), shaped_L h.2 (by decide), ?_⟩
      rw [any_eqd 60 60 a h.1 xs h.2]
      exact q w _ (Keep.refl w) sr (.bl _)
    · cases e
  · cases e
theorem ops_nin (hK : X.K = g.K) (hu : X.A.units + 65 < cLine) : OpS g X (compareOp .NotIn) ninD := by
  refine ⟨_, OpR.or (op_ninT hu) (op_notInD hu), fun w S x y a b d Q e sr ra rb q => ?_⟩
  unfold ninD at e
  split at e
  · split at e
    · rename_i xs h
      cases e
      rw [Bool.and_eq_true] at h
      obtain ⟨p, vs, rfl, h1, h2⟩ := rb.tup
      refine .inl ⟨a.toP, toPL xs, by rw [hK]; exact ra.dp h.1, by rw [hK]; exact .tup h1 (h2.dp h.2), okd_shaped h.1 (by decide), shaped_T h.2 (by decide), ?_⟩
      rw [any_eqd 60 60 a h.1 xs h.2]
      exact q w _ (Keep.refl w) sr (.bl _)
    · cases e
  · split at e
    · rename_i xs h
      cases e
      rw [Bool.and_eq_true] at h
      obtain ⟨p, vs, rfl, h1, h2⟩ := rb.lst
      refine .inr ⟨a.toP, toPL xs, by rw [hK]; exact ra.dp h.1, by rw [hK]; exact .lst h1 (h2.dp h.2), okd_shaped h.1 (by decide), shaped_L h.2 (by decide), ?_⟩
      rw [any_eqd 60 60 a h.1 xs h.2]
      exact q w _ (Keep.refl w) sr (.bl _)
    · cases e
  · cases e
end
end Pc

set_option Elab.async false
set_option linter.all false
set_option autoImplicit false
set_option maxRecDepth 100000
set_option maxHeartbeats 4000000
/-! Pc, part E: arguments, displays, subscripts, boolean expressions, built-in calls. -/
namespace Pc
open PySem PySem.Spec PyProof.Rows L2

def notStar : Expr → Bool
  | .Starred _ _ => false
  | _ => true
theorem star_cons {e : Expr} {es : List Expr} {env : Env} (h : notStar e = true) : starEach (e :: es) env = (false, eval e env) :: starEach es env := by
  cases e <;> first | rfl | cases h
theorem star_any {pos : Pos} {env : Env} : ∀ {es : List Expr}, es.all notStar = true → (backTo pos (starEach es env)).any (·.1) = false
  | [], _ => rfl
  | e :: es, h => by
    simp only [List.all_cons, Bool.and_eq_true] at h
    rw [star_cons h.1]
    have q := star_any (pos := pos) (env := env) h.2
    simpa [backTo] using q
def noSlice : Expr → Bool
  | .Slice _ _ _ _ => false
  | _ => true
theorem plain_ix {b : Expr} (h : noSlice b = true) : PlainIx b := fun o i => by
  cases b <;> first | rfl | cases h

section
variable {g : Gc} {N0 : List Addr} {Wx : WX} {X : Cx}
/-! ### argument lists -/
def consM (f : Ev → M D) (r : Ev → M (List D)) : Ev → M (List D) := fun env => do let x ← f env; let xs ← r env; pure (x :: xs)
theorem da_nil : DA g N0 Wx X [] (fun _ => pure []) := by
  refine PA.imp pa_nil fun σ H Q ⟨w, env, S, e, er, sr, q⟩ => ?_
  subst e
  exact q w [] (Keep.refl w) sr .nil
theorem db_nil : DB g N0 Wx X [] (fun _ => pure []) := by
  refine PA.imp pa_nil fun σ H Q ⟨w, env, S, e, er, sr, q⟩ => ?_
  subst e
  exact q w [] (Keep.refl w) sr .nil
theorem da_cons {e : Expr} {es : List Expr} {f : Ev → M D} {r : Ev → M (List D)} (hs : notStar e = true) (h : DE g N0 Wx X e f) (t : DA g N0 Wx X es r) : DA g N0 Wx X (e :: es) (consM f r) := by
  refine PA.imp (pa_cons h t (star_cons hs)) fun σ H Q ⟨w, env, S, e, er, sr, q⟩ => ?_
  subst e
  refine tr_intro er sr (pst_imp (pst_bind (relA := rl g) (fun _ _ _ _ _ z => z) q) fun x H1 ⟨w1, da, S1, e1, k1, s1, r1, q1⟩ => ?_)
  subst e1
  refine tr_intro (er.keep k1) s1 (pst_imp (pst_bind (relA := rlL g) (fun _ _ _ _ _ z => z) q1) fun y H2 ⟨w2, db, S2, e2, k2, s2, r2, q2⟩ => ?_)
  subst e2
  exact q2 w2 (x :: y) (Keep.refl w2) s2 (.cons (r1.mono k2.toMono) r2)
theorem db_cons {e : Expr} {es : List Expr} {f : Ev → M D} {r : Ev → M (List D)} (hs : notStar e = true) (h : DW g N0 Wx X e f) (t : DB g N0 Wx X es r) : DB g N0 Wx X (e :: es) (consM f r) := by
  refine PA.imp (pa_cons h t (star_cons hs)) fun σ H Q ⟨w, env, S, e, er, sr, q⟩ => ?_
  subst e
  refine tr_intro er sr (pst_imp (pst_bind (relA := rlW g) (fun _ _ _ _ _ z => z) q) fun x H1 ⟨w1, da, S1, e1, k1, s1, r1, q1⟩ => ?_)
  subst e1
  refine tr_intro (er.keep k1) s1 (pst_imp (pst_bind (relA := rlLW g) (fun _ _ _ _ _ z => z) q1) fun y H2 ⟨w2, db, S2, e2, k2, s2, r2, q2⟩ => ?_)
  subst e2
  exact q2 w2 (x :: y) (Keep.refl w2) s2 (.cons (r1.keep k2) r2)

/-! ### displays -/
def mkTup (xs : List D) : M D := if xs.length ≤ sizeLine then pure (.tup xs) else fail
def mkLst (xs : List D) : M (List D) := if xs.length ≤ sizeLine then pure xs else fail
theorem de_tup {es : List Expr} {f : Ev → M (List D)} {j : Nat} {pos : Pos} (h : DA g N0 Wx X es f) : DE g N0 Wx X (.Tuple es j pos) (fun env => do let xs ← f env; mkTup xs) := by
  refine PE.imp (pe_tup h) fun σ H Q ⟨w, env, S, e, er, sr, q⟩ => ?_
  subst e
  refine tr_intro er sr (pst_imp (pst_bind (relA := rlL g) (fun _ _ _ _ _ z => z) q) fun x H1 ⟨w1, ds, S1, e1, k1, s1, r1, q1⟩ => ?_)
  subst e1
  unfold mkTup at q1
  by_cases hl : ds.length ≤ sizeLine
  · rw [if_pos hl] at q1
    exact ⟨by rw [r1.length]; exact hl, fun p hp => q1 ⟨upd w1.H p (.tup x), w1.N, w1.m⟩ _ (keep_new hp) (s1.new hp) (rep_newT hp r1)⟩
  · rw [if_neg hl] at q1; exact q1.elim
theorem new_l {w : Wd} {S : Store} {p : Addr} {vs : List V} {ds : List D} (sr : SR g w S) (h : w.H p = none) (r : RepL g w vs ds) : NewL g w ⟨upd w.H p (.lst vs), p :: w.N, w.m⟩ (.ref p) ds :=
  ⟨p, vs, rfl, upd_same, List.mem_cons_self, fun q => sr.notnone (sr.sub p q) h, fun q => sr.notnone q h, r.mono (keep_newN h).toMono⟩
theorem NewL.base {w w1 w' : Wd} {v : V} {xs : List D} (k : Keep w w1) (h : NewL g w1 w' v xs) : NewL g w w' v xs := by
  obtain ⟨p, vs, h1, h2, h3, h4, h5, h6⟩ := h
  exact ⟨p, vs, h1, h2, h3, h4, fun q => h5 (k.sub p q), h6⟩
theorem dl_list {es : List Expr} {f : Ev → M (List D)} {pos : Pos} (h : DA g N0 Wx X es f) : DL g N0 Wx X (.List es pos) (fun env => do let xs ← f env; mkLst xs) := by
  refine PE.imp (pe_lst h) fun σ H Q ⟨w, env, S, e, er, sr, q⟩ => ?_
  subst e
  refine tr_intro er sr (pst_imp (pst_bind (relA := rlL g) (fun _ _ _ _ k z => z.base k) q) fun x H1 ⟨w1, ds, S1, e1, k1, s1, r1, q1⟩ => ?_)
  subst e1
  unfold mkLst at q1
  by_cases hl : ds.length ≤ sizeLine
  · rw [if_pos hl] at q1
    exact ⟨by rw [r1.length]; exact hl, fun p hp => q1 ⟨upd w1.H p (.lst x), p :: w1.N, w1.m⟩ _ (keep_newN hp) (s1.newN hp) (new_l s1 hp r1)⟩
  · rw [if_neg hl] at q1; exact q1.elim
/-- a new list is frozen -/
theorem NewL.frozen {w w' : Wd} {S : Store} {v : V} {xs : List D} (k : Keep w w') (s : SR g w' S) (h : NewL g w w' v xs) : ∃ w'', w''.H = w'.H ∧ Keep w w'' ∧ SR g w'' S ∧ Rep g w'' v (.lst xs) := by
  obtain ⟨p, vs, rfl, h2, h3, h4, h5, h6⟩ := h
  have sub : ∀ a ∈ w'.N.filter (fun a => decide (a ≠ p)), a ∈ w'.N := fun a ha => (List.mem_filter.mp ha).1
  have out : p ∉ w'.N.filter (fun a => decide (a ≠ p)) := fun ha => by
    have := (List.mem_filter.mp ha).2
    exact absurd rfl (of_decide_eq_true this)
  have inn : ∀ a, a ≠ p → a ∈ w'.N → a ∈ w'.N.filter (fun a => decide (a ≠ p)) := fun a n ha => List.mem_filter.mpr ⟨ha, decide_eq_true n⟩
  refine ⟨⟨w'.H, w'.N.filter (fun a => decide (a ≠ p)), w'.m⟩, rfl, keep_less k sub fun a ha => inn a (fun e => h5 (by rw [← e]; exact ha)) (k.sub a ha), s.less sub fun a ha => inn a (fun e => h4 (by rw [← e]; exact ha)) (s.sub a ha), ?_⟩
  exact .lst (.inl h2) out (h6.mono (mono_less sub))
theorem de_frz {e : Expr} {f : Ev → M (List D)} (h : DL g N0 Wx X e f) : DE g N0 Wx X e (fun env => do let xs ← f env; pure (.lst xs)) := by
  refine PE.imp h fun σ H Q ⟨w, env, S, e, er, sr, q⟩ => ?_
  subst e
  refine tr_intro er sr ?_
  have q' : Pst g Wx σ (rl g) w (((f env) >>= fun xs => pure (.lst xs)) S) Q := q
  have e : ((f env) >>= fun xs => (pure (.lst xs) : M D)) S = M.bind (f env) (fun xs => pure (.lst xs)) S := rfl
  rw [e] at q'
  unfold M.bind at q'
  cases hr : f env S with
  | ok xs S1 =>
    rw [hr] at q'
    intro w' y k s n
    obtain ⟨w'', e1, k1, s1, r1⟩ := n.frozen k s
    rw [← e1]
    exact q' w'' y k1 s1 r1
  | ex c fs S1 => rw [hr] at q'; exact q'
  | bad => rw [hr] at q'; exact q'
/-- a new list gets a handle -/
def newOb (ob : Ob) : M D := fun S => .ok (.obj S.length) (S ++ [ob])
theorem SR.push {w : Wd} {S : Store} {p : Addr} {ob : Ob} (s : SR g w S) (hp : p ∈ w.N) (hm : p ∉ w.m) (h : ObR g w p ob) : SR g ⟨w.H, w.N, w.m ++ [p]⟩ (S ++ [ob]) := by
  have mo : Mono w ⟨w.H, w.N, w.m ++ [p]⟩ := ⟨fun i a e => by
    have hi : i < w.m.length := (List.getElem?_eq_some_iff.mp e).1
    show (w.m ++ [p])[i]? = some a
    rw [List.getElem?_append_left hi]; exact e, fun _ _ e _ => e, fun _ _ e => e, fun _ _ _ e => e, fun a e => .inl e⟩
  have obm : ∀ a o, ObR g w a o → ObR g ⟨w.H, w.N, w.m ++ [p]⟩ a o := fun a o r => by
    cases o with
    | lst xs => obtain ⟨vs, e1, e2⟩ := r; exact ⟨vs, e1, e2.mono mo⟩
    | dct xs => obtain ⟨vs, e1, e2⟩ := r; exact ⟨vs, e1, e2.mono mo⟩
    | ins c fs => obtain ⟨dx, vs, e1, e2⟩ := r; exact ⟨dx, vs, e1, e2.mono mo⟩
  refine ⟨by simp [s.len], ?_, fun a ha => ?_, s.here, fun i o e => ?_⟩
  · show (w.m ++ [p]).Nodup
    refine List.nodup_append.mpr ⟨s.nd, by simp, fun a ha b hb => ?_⟩
    rw [List.mem_singleton.mp hb]
    exact fun z => hm (by rw [← z]; exact ha)
  · rcases List.mem_append.mp ha with ha | ha
    · exact s.sub a ha
    · rw [List.mem_singleton.mp ha]; exact hp
  · by_cases hi : i < S.length
    · rw [List.getElem?_append_left hi] at e
      obtain ⟨a, h1, h2⟩ := s.at_ i o e
      exact ⟨a, mo.mp i a h1, obm a o h2⟩
    · rw [List.getElem?_append_right (by omega)] at e
      have hz : i - S.length = 0 := by
        have := (List.getElem?_eq_some_iff.mp e).1
        simp at this; omega
      rw [hz] at e
      cases e
      refine ⟨p, ?_, obm p _ h⟩
      show (w.m ++ [p])[i]? = some p
      have hl := s.len
      rw [List.getElem?_append_right (by omega), show i - w.m.length = 0 by omega]
      rfl
theorem de_mut {e : Expr} {f : Ev → M (List D)} (h : DL g N0 Wx X e f) : DE g N0 Wx X e (fun env => do let xs ← f env; newOb (.lst xs)) := by
  refine PE.imp h fun σ H Q ⟨w, env, S, e, er, sr, q⟩ => ?_
  subst e
  refine tr_intro er sr ?_
  have q' : Pst g Wx σ (rl g) w (((f env) >>= fun xs => newOb (.lst xs)) S) Q := q
  have e : ((f env) >>= fun xs => newOb (.lst xs)) S = M.bind (f env) (fun xs => newOb (.lst xs)) S := rfl
  rw [e] at q'
  unfold M.bind at q'
  cases hr : f env S with
  | ok xs S1 =>
    rw [hr] at q'
    intro w' y k s n
    obtain ⟨p, vs, rfl, h2, h3, h4, h5, h6⟩ := n
    have hn : w.H p = none := by
      rcases k.new p h3 with z | z
      · exact absurd z h5
      · exact z
    refine q' ⟨w'.H, w'.N, w'.m ++ [p]⟩ _ (keep_toM k hn h3) (s.push h3 h4 ⟨vs, h2, h6⟩) (.obj ?_)
    show (w'.m ++ [p])[S1.length]? = some p
    have hl := s.len
    rw [List.getElem?_append_right (by omega), show S1.length - w'.m.length = 0 by omega]
    rfl
  | ex c fs S1 => rw [hr] at q'; exact q'
  | bad => rw [hr] at q'; exact q'

/-! ### subscripts -/
def valD (kvs : List (Key × D)) (k : Key) : Option D := (kvs.find? fun p => decide (p.1 = k)).map (·.2)
def keyD : D → Option Key
  | .int i => some (.inl i)
  | .str x => some (.inr x)
  | _ => none
def getD (a i : D) : Option D := match a with
  | .tup xs => (match i with
    | .int j => atI xs j
    | _ => none)
  | .lst xs => (match i with
    | .int j => atI xs j
    | _ => none)
  | .str x => (match i with
    | .int j => if x.length ≤ sizeLine then (atI x.cps.toList j).map fun c => D.str ⟨#[c]⟩ else none
    | _ => none)
  | .dct kvs => (keyD i).bind (valD kvs)
  | _ => none
def getM (a i : D) : M D := fun S => ofO (getD (deref S a) i) S
theorem atI_rep {w : Wd} {vs : List V} {ds : List D} {i : Int} {d : D} (r : RepL g w vs ds) (h : atI ds i = some d) : ∃ v, atI vs i = some v ∧ Rep g w v d := by
  unfold atI at h ⊢
  rw [r.length]
  cases e : ixN ds.length i with
  | none => rw [e] at h; cases h
  | some j =>
    rw [e] at h
    exact r.get h
theorem valV_rep {w : Wd} : ∀ {vs : List (Key × V)} {ds : List (Key × D)} {k : Key} {d : D}, RepK g w vs ds → valD ds k = some d → ∃ v, valV vs k = some v ∧ Rep g w v d
  | _, _, _, _, .nil, h => by cases h
  | _, _, k, d, .cons (k := k') (v := v) (d := d') r t, h => by
    unfold valD at h
    rw [List.find?_cons] at h
    by_cases e : k' = k
    · subst e
      simp at h
      subst h
      exact ⟨v, by simp [valV], r⟩
    · simp [e] at h
      obtain ⟨z, h1, h2⟩ := valV_rep (k := k) t (d := d) (by unfold valD; simpa using h)
      refine ⟨z, ?_, h2⟩
      simp [valV, e] at h1 ⊢
      exact h1
end
end Pc

set_option Elab.async false
set_option linter.all false
set_option autoImplicit false
set_option maxRecDepth 100000
set_option maxHeartbeats 4000000
/-! Pc, part F: subscripts, slices, boolean expressions, built-in calls. -/
namespace Pc
open PySem PySem.Spec PyProof.Rows L2
section
variable {g : Gc} {N0 : List Addr} {Wx : WX} {X : Cx} {a b c : Expr} {fa fb fc : Ev → M D} {pos : Pos}
def rIxD : R2 := fun x y H Q => ∃ p v, x = .ref p ∧ DGet H p y (some v) ∧ Q v H
theorem ix_dict (hu : X.A.units + 1 < cLine) : IxR X rIxD := by
  intro value slice pins s σ H x y v u Q I rx ry h hs
  obtain ⟨p, z, rfl, gq, q⟩ := h
  cases rx
  exact tail_any (dict_typeIs I gq) PySem.F.slot_dict_getitem.lookup (d_getItem hu I gq ry fun w' s3 I3 rw' => ⟨z, H, I3, rw', q⟩) hs
theorem pst_pure {w : Wd} {σ : L2.St} {S : Store} {d : D} {Q : VK} {v : V} (sr : SR g w S) (q : Pst g Wx σ (rl g) w ((pure d : M D) S) Q) (r : Rep g w v d) : Q v w.H := q w v (Keep.refl w) sr r
theorem keyD_V {w : Wd} {y : V} {b : D} {k : Key} (r : RepV g w y b) (h : keyD b = some k) : y = kV k := by
  cases b with
  | int i => cases h; exact r.int
  | str x => cases h; exact r.str
  | _ => cases h
theorem get_ok {w : Wd} {x y : V} {a b d : D} {Q : VK} (hK : X.K = g.K) (ra : RepV g w x a) (rb : RepV g w y b) (e : getD a b = some d) (q : ∀ v, Rep g w v d → Q v w.H) : rIx X.K x y w.H Q ∨ rIxD x y w.H Q := by
  cases a with
  | tup xs =>
    cases b with
    | int j =>
      obtain ⟨p, vs, rfl, h1, h2⟩ := ra.tup
      obtain ⟨v, e1, r1⟩ := atI_rep h2 e
      exact .inl (.inr (.inl ⟨p, vs, j, v, rfl, rb.int, by rw [hK]; exact h1, e1, q v r1⟩))
    | _ => cases e
  | lst xs =>
    cases b with
    | int j =>
      obtain ⟨p, vs, rfl, h1, h2⟩ := ra.lst
      obtain ⟨v, e1, r1⟩ := atI_rep h2 e
      exact .inl (.inl ⟨p, vs, j, v, rfl, rb.int, by rw [hK]; exact h1, e1, q v r1⟩)
    | _ => cases e
  | str z =>
    cases b with
    | int j =>
      unfold getD at e
      by_cases hl : z.length ≤ sizeLine
      · simp only [hl, if_true] at e
        cases e2 : atI z.cps.toList j with
        | none => rw [e2] at e; cases e
        | some c => rw [e2] at e; cases e; exact .inl (.inr (.inr ⟨z, j, c, ra.str, rb.int, hl, e2, q _ (.str _)⟩))
      · simp only [hl, if_false] at e; cases e
    | _ => cases e
  | dct kvs =>
    obtain ⟨p, vs, rfl, h1, h2⟩ := ra.dct
    have e0 : (keyD b).bind (valD kvs) = some d := e
    cases ek : keyD b with
    | none => rw [ek] at e0; cases e0
    | some kk =>
      rw [ek] at e0
      obtain ⟨v, e1, r1⟩ := valV_rep h2 (show valD kvs kk = some d from e0)
      refine .inr ⟨p, v, rfl, ?_, q v r1⟩
      rw [keyD_V rb ek, ← e1]
      exact DGet.k h1
  | _ => cases e
theorem RepB.int_of {w : Wd} {S : Store} {y : V} {b : D} (sr : SR g w S) (rb : RepB g w y b) : ∀ a d, getD a b = some d → RepV g w y b := fun a d e => by
  cases b with
  | obj h => cases a <;> cases e
  | _ => exact rb.view sr
theorem de_sub (hK : X.K = g.K) (hu : X.A.units + 1 < cLine) (hs : noSlice b = true) (ha : DW g N0 Wx X a fa) (hb : DW g N0 Wx X b fb) : DE g N0 Wx X (.Subscript a b pos) (fun env => do let x ← fa env; let y ← fb env; getM x y) := by
  refine PE.imp (pe_ix (ix_seq.or (ix_dict hu)) ha hb (plain_ix hs)) fun σ H Q h => ?_
  refine two (R := fun x y H2 => (rIx X.K x y H2 Q ∨ rIxD x y H2 Q)) (fun _ _ _ _ _ _ z => z) h fun w S x y a b sr ra rb p => ?_
  unfold getM at p
  cases e : getD (deref S a) b with
  | none => rw [e] at p; exact p.elim
  | some d =>
    rw [e] at p
    exact get_ok hK (ra.view sr) (rb.int_of sr _ _ e) e fun v r => p w v (Keep.refl w) sr r

/-! ### slices -/
def cutD (xs : List D) (lo hi : Option Int) : List D := (xs.drop (HT.sIx xs.length 0 lo)).take (HT.sIx xs.length xs.length hi - HT.sIx xs.length 0 lo)
theorem cut_rep {w : Wd} {vs : List V} {ds : List D} {lo hi : Option Int} (r : RepL g w vs ds) : RepL g w (cutV vs lo hi) (cutD ds lo hi) := by
  unfold cutV cutD
  rw [r.length]
  exact (r.drop _).take _
abbrev rlO : Wd → Wd → Option Int → Option Int → Prop := fun _ _ a b => a = b
abbrev DO (g : Gc) (N0 : List Addr) (Wx : WX) (X : Cx) (e : Option Expr) (f : Ev → M (Option Int)) : Prop := PO X e (tr g N0 Wx rlO f)
theorem PO.imp {X : Cx} {e : Option Expr} {t t' : TO} (h : PO X e t) (i : ∀ σ H Q, t' σ H Q → t σ H Q) : PO X e t' := ⟨fun pins s σ H Q I q => h.run pins s σ H Q I (i σ H Q q)⟩
def asI : D → M Int
  | .int i => pure i
  | _ => fail
theorem do_none : DO g N0 Wx X none (fun _ => pure none) := by
  refine PO.imp po_none fun σ H Q ⟨w, env, S, e, er, sr, q⟩ => ?_
  subst e
  exact q w none (Keep.refl w) sr rfl
theorem do_some (h : DE g N0 Wx X a fa) : DO g N0 Wx X (some a) (fun env => do let x ← fa env; let i ← asI x; pure (some i)) := by
  refine PO.imp (po_some h) fun σ H Q ⟨w, env, S, e, er, sr, q⟩ => ?_
  subst e
  refine tr_intro er sr (pst_imp (pst_bind (relA := rl g) (fun _ _ _ _ _ z => z) q) fun x H1 ⟨w1, d, S1, e1, k1, s1, r1, q1⟩ => ?_)
  subst e1
  cases d with
  | int i =>
    cases r1
    exact ⟨i, rfl, q1 w1 (some i) (Keep.refl w1) s1 rfl⟩
  | _ => exact q1.elim
variable {lo hi : Option Expr} {fl fh : Ev → M (Option Int)} {p2 : Pos}
def sliceD (x : D) (l h : Option Int) : Option D := match x with
  | .tup xs => some (.tup (cutD xs l h))
  | .lst xs => some (.lst (cutD xs l h))
  | .str z => if z.length ≤ sizeLine then some (.str (cutS z l h)) else none
  | _ => none
def sliceM (x : D) (l h : Option Int) : M D := fun S => ofO (sliceD (deref S x) l h) S
theorem three {σ : L2.St} {H : Hp} {β α : Type} {Q : β → Hp → Prop} {rel : Wd → Wd → β → α → Prop} {k : D → Option Int → Option Int → M α} {R : V → Option Int → Option Int → Hp → Prop} (hr : ∀ w w1 w' y a, Keep w w1 → rel w1 w' y a → rel w w' y a)
    (h : tr g N0 Wx rel (fun env => do let x ← fa env; let y ← fl env; let z ← fh env; k x y z) σ H Q)
    (c : ∀ w S x a y z, SR g w S → RepB g w x a → Pst g Wx σ rel w (k a y z S) Q → R x y z w.H) : tr g N0 Wx (rlW g) fa σ H fun x H1 => tr g N0 Wx rlO fl σ H1 fun y H2 => tr g N0 Wx rlO fh σ H2 fun z H3 => R x y z H3 := by
  obtain ⟨w, env, S, e, er, sr, q⟩ := h
  subst e
  refine tr_intro er sr (pst_imp (pst_bind (relA := rlW g) (fun w1 w' y a => hr w w1 w' y a) q) fun x H1 ⟨w1, da, S1, e1, k1, s1, r1, q1⟩ => ?_)
  subst e1
  refine tr_intro (er.keep k1) s1 (pst_imp (pst_bind (relA := rlO) (fun w1' w' y a => hr w1 w1' w' y a) q1) fun y H2 ⟨w2, db, S2, e2, k2, s2, r2, q2⟩ => ?_)
  subst e2
  refine tr_intro ((er.keep k1).keep k2) s2 (pst_imp (pst_bind (relA := rlO) (fun w1' w' y a => hr w2 w1' w' y a) q2) fun z H3 ⟨w3, dc, S3, e3, k3, s3, r3, q3⟩ => ?_)
  subst e3
  cases r2
  cases r3
  exact c w3 S3 x da y z s3 ((r1.keep k2).keep k3) q3
theorem de_slice (hK : X.K = g.K) (ha : DW g N0 Wx X a fa) (hl : DO g N0 Wx X lo fl) (hh : DO g N0 Wx X hi fh) :
    DE g N0 Wx X (.Subscript a (.Slice lo hi none p2) pos) (fun env => do let x ← fa env; let y ← fl env; let z ← fh env; sliceM x y z) := by
  refine PE.imp (pe_slice (sl_tupA.or (sl_list.or sl_str)) ha hl hh) fun σ H Q h => ?_
  refine three (R := fun x y z H2 => (rSlA X.K x y z H2 Q ∨ rSlL X.K x y z H2 Q ∨ rSlS x y z H2 Q)) (fun _ _ _ _ _ _ z => z) h fun w S x a y z sr ra p => ?_
  unfold sliceM at p
  have rv := ra.view sr
  generalize deref S a = a' at p rv
  cases e : sliceD a' y z with
  | none => rw [e] at p; exact p.elim
  | some d =>
    rw [e] at p
    cases a' with
    | tup xs =>
      cases e
      obtain ⟨q, vs, rfl, h1, h2⟩ := rv.tup
      refine .inl ⟨q, vs, rfl, by rw [hK]; exact h1, fun hw => ?_, fun _ r hr => ?_⟩
      · refine p w _ (Keep.refl w) sr (.tup h1 ?_)
        have e : cutD xs y z = xs := by
          unfold cutD
          rw [← h2.length, hw.1, hw.2, List.drop_zero, Nat.sub_zero, h2.length]
          exact List.take_length
        rw [e]
        exact h2
      · exact p _ _ (keep_new hr) (sr.new hr) (rep_newT hr (cut_rep h2))
    | lst xs =>
      cases e
      obtain ⟨q, vs, rfl, h1, h2⟩ := rv.lst
      exact .inr (.inl ⟨q, vs, rfl, by rw [hK]; exact h1, fun r hr => p ⟨upd w.H r _, w.N, w.m⟩ _ (keep_new hr) (sr.new hr) (rep_newL sr hr (cut_rep h2))⟩)
    | str t =>
      unfold sliceD at e
      by_cases hl : t.length ≤ sizeLine
      · simp only [hl, if_true] at e
        cases e
        exact .inr (.inr ⟨t, rv.str, hl, p w _ (Keep.refl w) sr (.str _)⟩)
      · simp only [hl, if_false] at e; cases e
    | _ => cases e

/-! ### and, or, not, if -/
theorem dt_not {f : Ev → M Bool} (h : DT g N0 Wx X a f) : DT g N0 Wx X (.UnaryOp .Not a pos) (fun env => do let x ← f env; pure (!x)) := by
  refine PT.imp (pt_not h) fun σ H Q ⟨w, env, S, e, er, sr, q⟩ => ?_
  subst e
  refine tr_intro er sr (pst_imp (pst_bind (relA := rlB) (fun _ _ _ _ _ z => z) q) fun x H1 ⟨w1, d, S1, e1, k1, s1, r1, q1⟩ => ?_)
  subst e1
  cases r1
  exact q1 w1 _ (Keep.refl w1) s1 rfl
theorem de_not (h : DE g N0 Wx X a fa) : DE g N0 Wx X (.UnaryOp .Not a pos) (fun env => do let x ← fa env; let z ← asB x; pure (.bl (!z))) := by
  refine PE.imp (pe_not h) fun σ H Q ⟨w, env, S, e, er, sr, q⟩ => ?_
  subst e
  refine tr_intro er sr (pst_imp (pst_bind (relA := rl g) (fun _ _ _ _ _ z => z) q) fun x H1 ⟨w1, d, S1, e1, k1, s1, r1, q1⟩ => ?_)
  subst e1
  cases d with
  | bl z => cases r1; exact ⟨z, rfl, pst_pure s1 q1 (.bl _)⟩
  | _ => exact q1.elim
abbrev DWt (g : Gc) (N0 : List Addr) (Wx : WX) (X : Cx) (e : Expr) (f : Ev → M Bool) : Prop := PW X e (tr g N0 Wx rlB f)
theorem dt_of_w {e : Expr} {f : Ev → M Bool} (h : DWt g N0 Wx X e f) : DT g N0 Wx X e f := PW.pt h
section
variable {f r : Ev → M Bool} {rest : List Expr}
theorem dw_and1 (h : DT g N0 Wx X a f) : DWt g N0 Wx X (.BoolOp .And [a] pos) f := pw_and1 h
theorem dw_or1 (h : DT g N0 Wx X a f) : DWt g N0 Wx X (.BoolOp .Or [a] pos) f := pw_or1 h
def andM (f r : Ev → M Bool) : Ev → M Bool := fun env => do
  let x ← f env
  if x then r env else pure false
def orM (f r : Ev → M Bool) : Ev → M Bool := fun env => do
  let x ← f env
  if x then pure true else r env
theorem dw_and (h : DT g N0 Wx X a f) (t : DWt g N0 Wx X (.BoolOp .And (b :: rest) pos) r) : DWt g N0 Wx X (.BoolOp .And (a :: b :: rest) pos) (andM f r) := by
  refine PW.imp (pw_and h t) fun σ H Q ⟨w, env, S, e, er, sr, q⟩ => ?_
  subst e
  refine tr_intro er sr (pst_imp (pst_bind (relA := rlB) (fun _ _ _ _ _ z => z) q) fun x H1 ⟨w1, d, S1, e1, k1, s1, r1, q1⟩ => ?_)
  subst e1
  cases r1
  cases x with
  | true => rw [if_pos rfl]; exact tr_intro (er.keep k1) s1 q1
  | false => rw [if_neg Bool.false_ne_true]; exact q1 w1 _ (Keep.refl w1) s1 rfl
theorem dw_or (h : DT g N0 Wx X a f) (t : DWt g N0 Wx X (.BoolOp .Or (b :: rest) pos) r) : DWt g N0 Wx X (.BoolOp .Or (a :: b :: rest) pos) (orM f r) := by
  refine PW.imp (pw_or h t) fun σ H Q ⟨w, env, S, e, er, sr, q⟩ => ?_
  subst e
  refine tr_intro er sr (pst_imp (pst_bind (relA := rlB) (fun _ _ _ _ _ z => z) q) fun x H1 ⟨w1, d, S1, e1, k1, s1, r1, q1⟩ => ?_)
  subst e1
  cases r1
  cases x with
  | true => rw [if_pos rfl]; exact q1 w1 _ (Keep.refl w1) s1 rfl
  | false => rw [if_neg Bool.false_ne_true]; exact tr_intro (er.keep k1) s1 q1
end
/-- a bool's value as a test -/
def plainT : Expr → Bool
  | .Call _ _ _ _ => true
  | .Name _ _ => true
  | .Subscript _ _ _ => true
  | .Attribute _ _ _ => true
  | _ => false
theorem dt_val {e : Expr} {f : Ev → M D} (hp : plainT e = true) (h : DE g N0 Wx X e f) : DT g N0 Wx X e (fun env => do let x ← f env; asB x) := by
  refine PT.imp (pt_val h (fun wh => by cases e <;> first | rfl | cases hp)) fun σ H Q ⟨w, env, S, e, er, sr, q⟩ => ?_
  subst e
  refine tr_intro er sr (pst_imp (pst_bind (relA := rl g) (fun _ _ _ _ _ z => z) q) fun x H1 ⟨w1, d, S1, e1, k1, s1, r1, q1⟩ => ?_)
  subst e1
  cases d with
  | bl z => cases r1; exact ⟨z, rfl, q1 w1 _ (Keep.refl w1) s1 rfl⟩
  | _ => exact q1.elim
section
variable {rest : List Expr}
theorem de_one {op : BoolOp} (h : DE g N0 Wx X a fa) : DE g N0 Wx X (.BoolOp op [a] pos) fa := pe_one h
def andV (f r : Ev → M D) : Ev → M D := fun env => do
  let x ← f env
  let z ← asB x
  if z then r env else pure (.bl false)
def orV (f r : Ev → M D) : Ev → M D := fun env => do
  let x ← f env
  let z ← asB x
  if z then pure (.bl true) else r env
theorem de_and (h : DE g N0 Wx X a fa) (t : DE g N0 Wx X (.BoolOp .And (b :: rest) pos) fb) : DE g N0 Wx X (.BoolOp .And (a :: b :: rest) pos) (andV fa fb) := by
  refine PE.imp (pe_and h t) fun σ H Q ⟨w, env, S, e, er, sr, q⟩ => ?_
  subst e
  refine tr_intro er sr (pst_imp (pst_bind (relA := rl g) (fun _ _ _ _ _ z => z) q) fun x H1 ⟨w1, d, S1, e1, k1, s1, r1, q1⟩ => ?_)
  subst e1
  cases d with
  | bl z =>
    cases r1
    refine ⟨z, rfl, ?_⟩
    cases z with
    | true => rw [if_pos rfl]; exact tr_intro (er.keep k1) s1 q1
    | false => rw [if_neg Bool.false_ne_true]; exact pst_pure s1 q1 (.bl _)
  | _ => exact q1.elim
theorem de_or (h : DE g N0 Wx X a fa) (t : DE g N0 Wx X (.BoolOp .Or (b :: rest) pos) fb) : DE g N0 Wx X (.BoolOp .Or (a :: b :: rest) pos) (orV fa fb) := by
  refine PE.imp (pe_or h t) fun σ H Q ⟨w, env, S, e, er, sr, q⟩ => ?_
  subst e
  refine tr_intro er sr (pst_imp (pst_bind (relA := rl g) (fun _ _ _ _ _ z => z) q) fun x H1 ⟨w1, d, S1, e1, k1, s1, r1, q1⟩ => ?_)
  subst e1
  cases d with
  | bl z =>
    cases r1
    refine ⟨z, rfl, ?_⟩
    cases z with
    | true => rw [if_pos rfl]; exact pst_pure s1 q1 (.bl _)
    | false => rw [if_neg Bool.false_ne_true]; exact tr_intro (er.keep k1) s1 q1
  | _ => exact q1.elim
end
def ifM {α : Type} (t : Ev → M Bool) (f r : Ev → M α) : Ev → M α := fun env => do
  let x ← t env
  if x then f env else r env
theorem de_if {t : Ev → M Bool} (hc : DT g N0 Wx X c t) (ha : DE g N0 Wx X a fa) (hb : DE g N0 Wx X b fb) : DE g N0 Wx X (.IfExp c a b pos) (ifM t fa fb) := by
  refine PE.imp (pe_ifExp hc ha hb) fun σ H Q ⟨w, env, S, e, er, sr, q⟩ => ?_
  subst e
  refine tr_intro er sr (pst_imp (pst_bind (relA := rlB) (fun _ _ _ _ _ z => z) q) fun x H1 ⟨w1, d, S1, e1, k1, s1, r1, q1⟩ => ?_)
  subst e1
  cases r1
  cases x with
  | true => rw [if_pos rfl]; exact tr_intro (er.keep k1) s1 q1
  | false => rw [if_neg Bool.false_ne_true]; exact tr_intro (er.keep k1) s1 q1
/-- a < b < c -/
def chainM (s1 s2 : D → D → Option D) (fa fb fc : Ev → M D) : Ev → M D := fun env => do
  let x ← fa env
  let y ← fb env
  let z ← op2 s1 x y
  let k ← asB z
  if k then do
    let u ← fc env
    op2 s2 y u
  else pure (.bl false)
theorem tr_chain {op op' : CmpOp} {s1 s2 : D → D → Option D} {r1 r2 : R2} {σ : L2.St} {H : Hp} {Q : VK}
    (h1 : ∀ (w : Wd) (S : Store) (x y : V) (a b d : D) (Q : VK), s1 a b = some d → SR g w S → RepV g w x a → RepV g w y b → (∀ w' v, Keep w w' → SR g w' S → Rep g w' v d → Q v w'.H) → r1 x y w.H Q)
    (h2 : ∀ (w : Wd) (S : Store) (x y : V) (a b d : D) (Q : VK), s2 a b = some d → SR g w S → RepV g w x a → RepV g w y b → (∀ w' v, Keep w w' → SR g w' S → Rep g w' v d → Q v w'.H) → r2 x y w.H Q)
    (h : tr g N0 Wx (rl g) (chainM s1 s2 fa fb fc) σ H Q) : tChain r1 r2 (tr g N0 Wx (rlW g) fa) (tr g N0 Wx (rlW g) fb) (tr g N0 Wx (rlW g) fc) σ H Q := by
  obtain ⟨w, env, S, e, er, sr, q⟩ := h
  subst e
  unfold tChain
  refine tr_intro er sr (pst_imp (pst_bind (relA := rlW g) (fun _ _ _ _ _ z => z) q) fun x H1 ⟨w1, da, S1, e1, k1, s1', r1', q1⟩ => ?_)
  subst e1
  refine tr_intro (er.keep k1) s1' (pst_imp (pst_bind (relA := rlW g) (fun _ _ _ _ _ z => z) q1) fun y H2 ⟨w2, db, S2, e2, k2, s2', r2', q2⟩ => ?_)
  subst e2
  have q2' := pst_bind (relA := rl g) (x := op2 s1 da db) (fun _ _ _ _ _ z => z) q2
  unfold op2 at q2'
  cases es : s1 (deref S2 da) (deref S2 db) with
  | none => rw [es] at q2'; exact q2'.elim
  | some d =>
    rw [es] at q2'
    refine h1 w2 S2 x y _ _ d _ es s2' ((r1'.keep k2).view s2') (r2'.view s2') fun w3 v k3 s3 r3 => ?_
    obtain ⟨w3', d3, S3, e3, k3', s3', r3', q3⟩ := q2' w3 v k3 s3 r3
    rw [← e3]
    cases d3 with
    | bl z =>
      cases r3'
      refine ⟨z, rfl, ?_⟩
      cases z with
      | false => rw [if_neg Bool.false_ne_true]; exact q3 w3' _ (Keep.refl w3') s3' (.bl _)
      | true =>
        rw [if_pos rfl]
        refine tr_intro (((er.keep k1).keep k2).keep k3') s3' (pst_imp (pst_bind (relA := rlW g) (fun _ _ _ _ _ z => z) q3) fun u H4 ⟨w4, dc, S4, e4, k4, s4, r4, q4⟩ => ?_)
        subst e4
        cases es2 : s2 (deref S4 db) (deref S4 dc) with
        | none => rw [es2] at q4; exact q4.elim
        | some d2 =>
          rw [es2] at q4
          exact h2 w4 S4 y u _ _ d2 Q es2 s4 (((r2'.keep k3').keep k4).view s4) (r4.view s4) fun w5 v k5 s5 r5 => q4 w5 v k5 s5 r5
    | _ => exact q3.elim
theorem de_chain {op op' : CmpOp} {s1 s2 : D → D → Option D} (o1 : OpS g X (compareOp op) s1) (o2 : OpS g X (compareOp op') s2) (ha : DW g N0 Wx X a fa) (hb : DW g N0 Wx X b fb) (hc : DW g N0 Wx X c fc) (hm : lastMarks [op, op'] [b, c] = false) :
    DE g N0 Wx X (.Compare a [op, op'] [b, c] pos) (chainM s1 s2 fa fb fc) := by
  obtain ⟨r1, hr1, q1⟩ := o1
  obtain ⟨r2, hr2, q2⟩ := o2
  exact PE.imp (pe_chain hr1 hr2 ha hb hc hm) fun σ H Q h => tr_chain (op := op) (op' := op') q1 q2 h
theorem dt_chain {op op' : CmpOp} {s1 s2 : D → D → Option D} (o1 : OpS g X (compareOp op) s1) (o2 : OpS g X (compareOp op') s2) (ha : DW g N0 Wx X a fa) (hb : DW g N0 Wx X b fb) (hc : DW g N0 Wx X c fc) (hm : lastMarks [op, op'] [b, c] = false) :
    DT g N0 Wx X (.Compare a [op, op'] [b, c] pos) (fun env => do let x ← chainM s1 s2 fa fb fc env; asB x) := by
  obtain ⟨r1, hr1, q1⟩ := o1
  obtain ⟨r2, hr2, q2⟩ := o2
  refine PT.imp (pt_chain hr1 hr2 ha hb hc hm) fun σ H Q h => ?_
  refine tr_chain (op := op) (op' := op') q1 q2 ?_
  obtain ⟨w, env, S, e, er, sr, q⟩ := h
  subst e
  refine tr_intro er sr (pst_imp (pst_bind (relA := rl g) (fun _ _ _ _ _ z => z) q) fun x H1 ⟨w1, d, S1, e1, k1, s1, r1, q1⟩ => ?_)
  subst e1
  cases d with
  | bl z => cases r1; exact ⟨z, rfl, q1 w1 _ (Keep.refl w1) s1 rfl⟩
  | _ => exact q1.elim
end
end Pc

set_option Elab.async false
set_option linter.all false
set_option autoImplicit false
set_option maxRecDepth 100000
set_option maxHeartbeats 4000000
/-! Pc, part G: built-in functions by values. -/
namespace Pc
open PySem PySem.Spec PyProof.Rows L2
inductive RepLV (g : Gc) (w : Wd) : List V → List D → Prop
  | nil : RepLV g w [] []
  | cons {v : V} {d : D} {vs : List V} {ds : List D} : RepV g w v d → RepLV g w vs ds → RepLV g w (v :: vs) (d :: ds)
section
variable {g : Gc} {N0 : List Addr} {Wx : WX} {X : Cx} {pos p : Pos} {e : Expr} {es : List Expr}
theorem RepLB.view {w : Wd} {S : Store} (sr : SR g w S) : ∀ {vs : List V} {ds : List D}, RepLB g w vs ds → RepLV g w vs (ds.map (deref S))
  | _, _, .nil => .nil
  | _, _, .cons r t => .cons (r.view sr) (RepLB.view sr t)
theorem RepLV.one {w : Wd} {vs : List V} {d : D} (h : RepLV g w vs [d]) : ∃ v, vs = [v] ∧ RepV g w v d := by
  cases h with
  | cons r t => cases t; exact ⟨_, rfl, r⟩
theorem RepLV.two {w : Wd} {vs : List V} {d e : D} (h : RepLV g w vs [d, e]) : ∃ v u, vs = [v, u] ∧ RepV g w v d ∧ RepV g w u e := by
  cases h with
  | cons r t =>
    obtain ⟨u, rfl, r2⟩ := t.one
    exact ⟨_, _, rfl, r, r2⟩
/-- a call of a built-in by values -/
def CallS (g : Gc) (X : Cx) (f : Value) (sem : List D → Option D) : Prop :=
  ∃ r : List V → Hp → VK → Prop, CallR X f r ∧ ∀ (w : Wd) (S : Store) (vs : List V) (ds : List D) (d : D) (Q : VK), sem ds = some d → SR g w S → RepLV g w vs ds →
    (∀ w' v, Keep w w' → SR g w' S → Rep g w' v d → Q v w'.H) → r vs w.H Q
/-- .. that gives a new list -/
def CallN (g : Gc) (X : Cx) (f : Value) (sem : List D → Option (List D)) : Prop :=
  ∃ r : List V → Hp → VK → Prop, CallR X f r ∧ ∀ (w : Wd) (S : Store) (vs : List V) (ds xs : List D) (Q : VK), sem ds = some xs → SR g w S → RepLV g w vs ds →
    (∀ w' v, Keep w w' → SR g w' S → NewL g w w' v xs → Q v w'.H) → r vs w.H Q
theorem CallR.or {f : Value} {r r' : List V → Hp → VK → Prop} (h : CallR X f r) (h' : CallR X f r') : CallR X f (fun x H Q => r x H Q ∨ r' x H Q) := by
  intro pins s σ H xs us Q I rv q
  rcases q with q | q
  · exact h pins s σ H xs us Q I rv q
  · exact h' pins s σ H xs us Q I rv q
def orC {α : Type} (s t : List D → Option α) : List D → Option α := fun a => match s a with
  | some d => some d
  | none => t a
theorem CallS.or {f : Value} {s t : List D → Option D} (h : CallS g X f s) (h' : CallS g X f t) : CallS g X f (orC s t) := by
  obtain ⟨r, hr, q⟩ := h
  obtain ⟨r', hr', q'⟩ := h'
  refine ⟨_, CallR.or hr hr', fun w S vs ds d Q e sr ra k => ?_⟩
  unfold orC at e
  cases e1 : s ds with
  | some d' => rw [e1] at e; cases e; exact .inl (q w S vs ds _ Q e1 sr ra k)
  | none => rw [e1] at e; exact .inr (q' w S vs ds d Q e sr ra k)
theorem CallN.or {f : Value} {s t : List D → Option (List D)} (h : CallN g X f s) (h' : CallN g X f t) : CallN g X f (orC s t) := by
  obtain ⟨r, hr, q⟩ := h
  obtain ⟨r', hr', q'⟩ := h'
  refine ⟨_, CallR.or hr hr', fun w S vs ds d Q e sr ra k => ?_⟩
  unfold orC at e
  cases e1 : s ds with
  | some d' => rw [e1] at e; cases e; exact .inl (q w S vs ds _ Q e1 sr ra k)
  | none => rw [e1] at e; exact .inr (q' w S vs ds d Q e sr ra k)
def opN {α : Type} (sem : List D → Option α) (xs : List D) : M α := fun S => ofO (sem (xs.map (deref S))) S
/-- a built-in function or type by its name -/
structure Blt (X : Cx) (x : Str) (f : Value) : Prop where
  gl : Gl X x
  mg : X.mg x = none
  bt : bootBuiltins x = some f
  nn : x ≠ "__name__"
  nd : (x == ("__debug__" : Str)) = false
section
variable {x : Str} {f : Ev → M (List D)}
theorem pe_blt {fv : Value} {t : TA} {r : List V → Hp → VK → Prop} (hf : (∃ id, fv = .builtin id) ∨ ∃ T, fv = .type T) (B : Blt X x fv) (hc : CallR X fv r) (hs : (e :: es).all notStar = true) (ha : PA X (e :: es) t) : PE X (.Call (.Name x p) (e :: es) [] pos) (tCB r t) := by
  simp only [List.all_cons, Bool.and_eq_true] at hs
  rcases hf with ⟨id, rfl⟩ | ⟨T, rfl⟩
  · exact pe_callB hc B.gl B.mg B.bt ha B.nn B.nd (star_cons hs.1) (star_any hs.2)
  · exact pe_callTy hc B.gl B.mg B.bt ha B.nn B.nd (star_cons hs.1) (star_any hs.2)
theorem de_blt {fv : Value} {sem : List D → Option D} (hf : (∃ id, fv = .builtin id) ∨ ∃ T, fv = .type T) (B : Blt X x fv) (hc : CallS g X fv sem) (hs : (e :: es).all notStar = true) (ha : DB g N0 Wx X (e :: es) f) :
    DE g N0 Wx X (.Call (.Name x p) (e :: es) [] pos) (fun env => do let ds ← f env; opN sem ds) := by
  obtain ⟨r, hr, q⟩ := hc
  refine PE.imp (pe_blt hf B hr hs ha) fun σ H Q ⟨w, env, S, ee, er, sr, h⟩ => ?_
  subst ee
  refine tr_intro er sr (pst_imp (pst_bind (relA := rlLW g) (fun _ _ _ _ _ z => z) h) fun vs H1 ⟨w1, ds, S1, e1, k1, s1, r1, q1⟩ => ?_)
  subst e1
  unfold opN at q1
  cases eo : sem (ds.map (deref S1)) with
  | none => rw [eo] at q1; exact q1.elim
  | some d => rw [eo] at q1; exact q w1 S1 vs _ d Q eo s1 (r1.view s1) fun w' v k s r => q1 w' v k s r
theorem dl_blt {fv : Value} {sem : List D → Option (List D)} (hf : (∃ id, fv = .builtin id) ∨ ∃ T, fv = .type T) (B : Blt X x fv) (hc : CallN g X fv sem) (hs : (e :: es).all notStar = true) (ha : DB g N0 Wx X (e :: es) f) :
    DL g N0 Wx X (.Call (.Name x p) (e :: es) [] pos) (fun env => do let ds ← f env; opN sem ds) := by
  obtain ⟨r, hr, q⟩ := hc
  refine PE.imp (pe_blt hf B hr hs ha) fun σ H Q ⟨w, env, S, ee, er, sr, h⟩ => ?_
  subst ee
  refine tr_intro er sr (pst_imp (pst_bind (relA := rlLW g) (fun _ _ _ _ k z => z.base k) h) fun vs H1 ⟨w1, ds, S1, e1, k1, s1, r1, q1⟩ => ?_)
  subst e1
  unfold opN at q1
  cases eo : sem (ds.map (deref S1)) with
  | none => rw [eo] at q1; exact q1.elim
  | some d => rw [eo] at q1; exact q w1 S1 vs _ d Q eo s1 (r1.view s1) fun w' v k s r => q1 w' v k s r
end
/-! ### semantics -/
def intsOf : List D → Option (List Int)
  | [] => some []
  | .int i :: r => (intsOf r).map (i :: ·)
  | _ :: _ => none
def blsOf : List D → Option (List Bool)
  | [] => some []
  | .bl i :: r => (blsOf r).map (i :: ·)
  | _ :: _ => none
theorem intsOf_eq : ∀ {ds : List D} {ns : List Int}, intsOf ds = some ns → ds = ns.map D.int
  | [], _, h => by cases h; rfl
  | .int i :: r, ns, h => by
    unfold intsOf at h
    cases e : intsOf r with
    | none => rw [e] at h; cases h
    | some ms => rw [e] at h; cases h; rw [intsOf_eq e]; rfl
  | .non :: _, _, h => by cases h
  | .bl _ :: _, _, h => by cases h
  | .str _ :: _, _, h => by cases h
  | .tup _ :: _, _, h => by cases h
  | .lst _ :: _, _, h => by cases h
  | .dct _ :: _, _, h => by cases h
  | .ins _ _ :: _, _, h => by cases h
  | .obj _ :: _, _, h => by cases h
  | .ext _ :: _, _, h => by cases h
  | .exn _ _ _ _ :: _, _, h => by cases h
theorem intsOf_map : ∀ (ns : List Int), intsOf (ns.map D.int) = some ns
  | [] => rfl
  | n :: ns => by simp [intsOf, intsOf_map ns]
theorem blsOf_eq : ∀ {ds : List D} {ns : List Bool}, blsOf ds = some ns → ds = ns.map D.bl
  | [], _, h => by cases h; rfl
  | .bl i :: r, ns, h => by
    unfold blsOf at h
    cases e : blsOf r with
    | none => rw [e] at h; cases h
    | some ms => rw [e] at h; cases h; rw [blsOf_eq e]; rfl
  | .non :: _, _, h => by cases h
  | .int _ :: _, _, h => by cases h
  | .str _ :: _, _, h => by cases h
  | .tup _ :: _, _, h => by cases h
  | .lst _ :: _, _, h => by cases h
  | .dct _ :: _, _, h => by cases h
  | .ins _ _ :: _, _, h => by cases h
  | .obj _ :: _, _, h => by cases h
  | .ext _ :: _, _, h => by cases h
  | .exn _ _ _ _ :: _, _, h => by cases h
theorem blsOf_map : ∀ (ns : List Bool), blsOf (ns.map D.bl) = some ns
  | [] => rfl
  | n :: ns => by simp [blsOf, blsOf_map ns]
def lenS : List D → Option D
  | [.str x] => if x.length ≤ sizeLine then some (.int x.length) else none
  | [.tup xs] => some (.int xs.length)
  | [.lst xs] => some (.int xs.length)
  | _ => none
theorem cs_len (hK : X.K = g.K) : CallS g X (.builtin "len") lenS := by
  refine ⟨_, call_len, fun w S vs ds d Q e sr ra q => ?_⟩
  unfold lenS at e
  split at e
  · split at e
    · rename_i x h
      cases e
      obtain ⟨v, rfl, r⟩ := ra.one
      rw [r.str]
      exact ⟨_, x.length, rfl, ⟨h, rfl⟩, q w _ (Keep.refl w) sr (.int _)⟩
    · cases e
  · cases e
    obtain ⟨v, rfl, r⟩ := ra.one
    obtain ⟨a, us, rfl, h1, h2⟩ := r.tup
    exact ⟨_, us.length, rfl, .inr ⟨us, by rw [hK]; exact h1, rfl⟩, by rw [h2.length]; exact q w _ (Keep.refl w) sr (.int _)⟩
  · cases e
    obtain ⟨v, rfl, r⟩ := ra.one
    obtain ⟨a, us, rfl, h1, h2⟩ := r.lst
    exact ⟨_, us.length, rfl, .inl ⟨us, by rw [hK]; exact h1, rfl⟩, by rw [h2.length]; exact q w _ (Keep.refl w) sr (.int _)⟩
  · cases e
def sumS : List D → Option D
  | [.lst xs] => (intsOf xs).map fun ns => .int ns.sum
  | [.tup xs] => (intsOf xs).map fun ns => .int ns.sum
  | _ => none
theorem call_sumT (hc : X.calm = true) : CallR X (.builtin "sum") (fun vs H Q => ∃ (a : Addr) (ns : List Int), vs = [V.ref a] ∧ SqT X.K H a (ns.map V.int) ∧ Q (.int ns.sum) H) := by
  intro pins s σ H vs us Q I r h
  obtain ⟨a, ns, rfl, hs, q⟩ := h
  obtain ⟨its, rv, hl, _⟩ := I.tuple hs
  rw [Vals.ref1 r]
  have hi := rv.ints
  obtain ⟨xs, ex⟩ := hi.allInts.items
  have hn : numsOf (intItems xs).toList = ns := by rw [← ex]; exact hi.numsOf
  rw [nums_intItems] at hn
  rw [ex] at hl
  obtain ⟨o, h1, h2, n, h3⟩ := hl
  refine PySem.W.ktm_sumG (I.ok.hd hc) ⟨o, h1, h2, n, h3⟩ fun h' tk t' hk => ⟨.int _, H, I.kept hk, ⟨_, rfl⟩, ?_⟩
  rw [preSum_eq, List.take_of_length_le (by simp), hn]
  exact q
theorem cs_sum (hK : X.K = g.K) (hc : X.calm = true) : CallS g X (.builtin "sum") sumS := by
  refine ⟨_, CallR.or (cr_sum hc) (call_sumT hc), fun w S vs ds d Q e sr ra q => ?_⟩
  unfold sumS at e
  split at e
  · rename_i xs
    obtain ⟨v, rfl, r⟩ := ra.one
    obtain ⟨a, us, rfl, h1, h2⟩ := r.lst
    cases ei : intsOf xs with
    | none => rw [ei] at e; cases e
    | some ns =>
      rw [ei] at e
      cases e
      have hx := intsOf_eq ei
      subst hx
      rw [h2.int_inv] at h1
      exact .inl ⟨a, ns, rfl, by rw [hK]; exact h1, q w _ (Keep.refl w) sr (.int _)⟩
  · rename_i xs
    obtain ⟨v, rfl, r⟩ := ra.one
    obtain ⟨a, us, rfl, h1, h2⟩ := r.tup
    cases ei : intsOf xs with
    | none => rw [ei] at e; cases e
    | some ns =>
      rw [ei] at e
      cases e
      have hx := intsOf_eq ei
      subst hx
      rw [h2.int_inv] at h1
      exact .inr ⟨a, ns, rfl, by rw [hK]; exact h1, q w _ (Keep.refl w) sr (.int _)⟩
  · cases e
def allS : List D → Option D
  | [.lst xs] => (blsOf xs).map fun ns => .bl (ns.all id)
  | _ => none
def anyS : List D → Option D
  | [.lst xs] => (blsOf xs).map fun ns => .bl (ns.any id)
  | _ => none
theorem cs_all (hK : X.K = g.K) (hc : X.calm = true) : CallS g X (.builtin "all") allS := by
  refine ⟨_, cr_all hc, fun w S vs ds d Q e sr ra q => ?_⟩
  unfold allS at e
  split at e
  · rename_i xs
    obtain ⟨v, rfl, r⟩ := ra.one
    obtain ⟨a, us, rfl, h1, h2⟩ := r.lst
    cases ei : blsOf xs with
    | none => rw [ei] at e; cases e
    | some ns =>
      rw [ei] at e
      cases e
      have hx := blsOf_eq ei
      subst hx
      rw [h2.bl_inv] at h1
      exact ⟨a, ns, rfl, by rw [hK]; exact h1, q w _ (Keep.refl w) sr (.bl _)⟩
  · cases e
theorem cs_any (hK : X.K = g.K) (hc : X.calm = true) : CallS g X (.builtin "any") anyS := by
  refine ⟨_, cr_any hc, fun w S vs ds d Q e sr ra q => ?_⟩
  unfold anyS at e
  split at e
  · rename_i xs
    obtain ⟨v, rfl, r⟩ := ra.one
    obtain ⟨a, us, rfl, h1, h2⟩ := r.lst
    cases ei : blsOf xs with
    | none => rw [ei] at e; cases e
    | some ns =>
      rw [ei] at e
      cases e
      have hx := blsOf_eq ei
      subst hx
      rw [h2.bl_inv] at h1
      exact ⟨a, ns, rfl, by rw [hK]; exact h1, q w _ (Keep.refl w) sr (.bl _)⟩
  · cases e
def maxL : List Int → Option Int
  | [] => none
  | x :: xs => some (xs.foldl max x)
def minL : List Int → Option Int
  | [] => none
  | x :: xs => some (xs.foldl min x)
theorem foldl_max_le : ∀ (xs : List Int) (x y : Int), y ≤ x → y ≤ xs.foldl max x
  | [], _, _, h => h
  | z :: xs, x, y, h => by simp only [List.foldl_cons]; exact foldl_max_le xs _ _ (by omega)
theorem foldl_max_ge : ∀ (xs : List Int) (x : Int), ∀ y ∈ xs, y ≤ xs.foldl max x
  | z :: xs, x, y, h => by
    simp only [List.foldl_cons]
    rcases List.mem_cons.mp h with rfl | h
    · exact foldl_max_le xs _ _ (by omega)
    · exact foldl_max_ge xs _ y h
theorem foldl_max_mem : ∀ (xs : List Int) (x : Int), xs.foldl max x = x ∨ xs.foldl max x ∈ xs
  | [], _ => .inl rfl
  | z :: xs, x => by
    simp only [List.foldl_cons]
    rcases foldl_max_mem xs (max x z) with h | h
    · rw [h]
      rcases Int.le_total x z with q | q
      · exact .inr (by rw [Int.max_eq_right q]; exact List.mem_cons_self)
      · exact .inl (Int.max_eq_left q)
    · exact .inr (List.mem_cons_of_mem _ h)
theorem foldl_min_le : ∀ (xs : List Int) (x y : Int), x ≤ y → xs.foldl min x ≤ y
  | [], _, _, h => h
  | z :: xs, x, y, h => by simp only [List.foldl_cons]; exact foldl_min_le xs _ _ (by omega)
theorem foldl_min_ge : ∀ (xs : List Int) (x : Int), ∀ y ∈ xs, xs.foldl min x ≤ y
  | z :: xs, x, y, h => by
    simp only [List.foldl_cons]
    rcases List.mem_cons.mp h with rfl | h
    · exact foldl_min_le xs _ _ (by omega)
    · exact foldl_min_ge xs _ y h
theorem foldl_min_mem : ∀ (xs : List Int) (x : Int), xs.foldl min x = x ∨ xs.foldl min x ∈ xs
  | [], _ => .inl rfl
  | z :: xs, x => by
    simp only [List.foldl_cons]
    rcases foldl_min_mem xs (min x z) with h | h
    · rw [h]
      rcases Int.le_total x z with q | q
      · exact .inl (Int.min_eq_left q)
      · exact .inr (by rw [Int.min_eq_right q]; exact List.mem_cons_self)
    · exact .inr (List.mem_cons_of_mem _ h)
theorem maxL_spec {ns : List Int} {m : Int} (h : maxL ns = some m) : m ∈ ns ∧ ∀ y ∈ ns, y ≤ m := by
  cases ns with
  | nil => cases h
  | cons x xs =>
    cases h
    refine ⟨?_, fun y hy => ?_⟩
    · rcases foldl_max_mem xs x with q | q
      · rw [q]; exact List.mem_cons_self
      · exact List.mem_cons_of_mem _ q
    · rcases List.mem_cons.mp hy with rfl | hy
      · exact foldl_max_le xs _ _ (Int.le_refl _)
      · exact foldl_max_ge xs x y hy
theorem minL_spec {ns : List Int} {m : Int} (h : minL ns = some m) : m ∈ ns ∧ ∀ y ∈ ns, m ≤ y := by
  cases ns with
  | nil => cases h
  | cons x xs =>
    cases h
    refine ⟨?_, fun y hy => ?_⟩
    · rcases foldl_min_mem xs x with q | q
      · rw [q]; exact List.mem_cons_self
      · exact List.mem_cons_of_mem _ q
    · rcases List.mem_cons.mp hy with rfl | hy
      · exact foldl_min_le xs _ _ (Int.le_refl _)
      · exact foldl_min_ge xs x y hy
def maxS : List D → Option D
  | [.int i, .int j] => some (.int (if j > i then j else i))
  | [.lst xs] => ((intsOf xs).bind maxL).map .int
  | _ => none
def minS : List D → Option D
  | [.int i, .int j] => some (.int (if j < i then j else i))
  | [.lst xs] => ((intsOf xs).bind minL).map .int
  | _ => none
theorem cs_max (hK : X.K = g.K) (hc : X.calm = true) : CallS g X (.builtin "max") maxS := by
  refine ⟨_, CallR.or (call_max2 hc) (cr_max hc), fun w S vs ds d Q e sr ra q => ?_⟩
  unfold maxS at e
  split at e
  · rename_i i j
    cases e
    obtain ⟨v, u, rfl, r1, r2⟩ := ra.two
    exact .inl ⟨i, j, by rw [r1.int, r2.int], q w _ (Keep.refl w) sr (.int _)⟩
  · rename_i xs
    obtain ⟨v, rfl, r⟩ := ra.one
    obtain ⟨a, us, rfl, h1, h2⟩ := r.lst
    cases ei : intsOf xs with
    | none => rw [ei] at e; cases e
    | some ns =>
      rw [ei] at e
      cases em : maxL ns with
      | none => simp only [Option.bind_some, em] at e; cases e
      | some m =>
        simp only [Option.bind_some, em, Option.map_some] at e
        cases e
        have hx := intsOf_eq ei
        subst hx
        rw [h2.int_inv] at h1
        obtain ⟨s1, s2⟩ := maxL_spec em
        refine .inr ⟨a, ns, rfl, by rw [hK]; exact h1, List.length_pos_of_mem s1, fun m' h3 h4 => ?_⟩
        have : m' = m := Int.le_antisymm (s2 m' h3) (h4 m s1)
        subst this
        exact q w _ (Keep.refl w) sr (.int _)
  · cases e
theorem cs_min (hK : X.K = g.K) (hc : X.calm = true) : CallS g X (.builtin "min") minS := by
  refine ⟨_, CallR.or (call_min2 hc) (cr_min hc), fun w S vs ds d Q e sr ra q => ?_⟩
  unfold minS at e
  split at e
  · rename_i i j
    cases e
    obtain ⟨v, u, rfl, r1, r2⟩ := ra.two
    exact .inl ⟨i, j, by rw [r1.int, r2.int], q w _ (Keep.refl w) sr (.int _)⟩
  · rename_i xs
    obtain ⟨v, rfl, r⟩ := ra.one
    obtain ⟨a, us, rfl, h1, h2⟩ := r.lst
    cases ei : intsOf xs with
    | none => rw [ei] at e; cases e
    | some ns =>
      rw [ei] at e
      cases em : minL ns with
      | none => simp only [Option.bind_some, em] at e; cases e
      | some m =>
        simp only [Option.bind_some, em, Option.map_some] at e
        cases e
        have hx := intsOf_eq ei
        subst hx
        rw [h2.int_inv] at h1
        obtain ⟨s1, s2⟩ := minL_spec em
        refine .inr ⟨a, ns, rfl, by rw [hK]; exact h1, List.length_pos_of_mem s1, fun m' h3 h4 => ?_⟩
        have : m' = m := Int.le_antisymm (h4 m s1) (s2 m' h3)
        subst this
        exact q w _ (Keep.refl w) sr (.int _)
  · cases e
def absS : List D → Option D
  | [.int i] => some (.int (if i < 0 then -i else i))
  | _ => none
theorem cs_abs : CallS g X (.builtin "abs") absS := by
  refine ⟨_, call_abs, fun w S vs ds d Q e sr ra q => ?_⟩
  unfold absS at e
  split at e
  · rename_i i
    cases e
    obtain ⟨v, rfl, r⟩ := ra.one
    exact ⟨i, by rw [r.int], q w _ (Keep.refl w) sr (.int _)⟩
  · cases e
def intS : List D → Option D
  | [.int i] => some (.int i)
  | [.bl k] => some (.int (if k then 1 else 0))
  | _ => none
theorem cs_int : CallS g X (.type "int") intS := by
  refine ⟨_, call_int1, fun w S vs ds d Q e sr ra q => ?_⟩
  unfold intS at e
  split at e
  · rename_i i
    cases e
    obtain ⟨v, rfl, r⟩ := ra.one
    exact .inl ⟨i, by rw [r.int], q w _ (Keep.refl w) sr (.int _)⟩
  · rename_i i
    cases e
    obtain ⟨v, rfl, r⟩ := ra.one
    exact .inr ⟨i, by rw [r.bl], q w _ (Keep.refl w) sr (.int _)⟩
  · cases e
def tupS : List D → Option D
  | [.lst xs] => some (.tup xs)
  | [.tup xs] => some (.tup xs)
  | _ => none
theorem cs_tuple (hK : X.K = g.K) : CallS g X (.type "tuple") tupS := by
  refine ⟨_, call_tuple_of, fun w S vs ds d Q e sr ra q => ?_⟩
  unfold tupS at e
  split at e
  · cases e
    obtain ⟨v, rfl, r⟩ := ra.one
    obtain ⟨a, us, rfl, h1, h2⟩ := r.lst
    exact ⟨a, us, rfl, .inl ⟨by rw [hK]; exact h1, fun l hl => q ⟨upd w.H l _, w.N, w.m⟩ _ (keep_new hl) (sr.new hl) (rep_newT hl h2)⟩⟩
  · cases e
    obtain ⟨v, rfl, r⟩ := ra.one
    obtain ⟨a, us, rfl, h1, h2⟩ := r.tup
    exact ⟨a, us, rfl, .inr ⟨by rw [hK]; exact h1, q w _ (Keep.refl w) sr (.tup h1 h2)⟩⟩
  · cases e
def lstS : List D → Option (List D)
  | [.lst xs] => some xs
  | [.tup xs] => some xs
  | _ => none
theorem cn_list (hK : X.K = g.K) : CallN g X (.type "list") lstS := by
  refine ⟨_, call_list_of, fun w S vs ds d Q e sr ra q => ?_⟩
  unfold lstS at e
  split at e
  · cases e
    obtain ⟨v, rfl, r⟩ := ra.one
    obtain ⟨a, us, rfl, h1, h2⟩ := r.lst
    exact ⟨a, us, rfl, .inl (by rw [hK]; exact h1), fun l hl => q ⟨upd w.H l _, l :: w.N, w.m⟩ _ (keep_newN hl) (sr.newN hl) (new_l sr hl h2)⟩
  · cases e
    obtain ⟨v, rfl, r⟩ := ra.one
    obtain ⟨a, us, rfl, h1, h2⟩ := r.tup
    exact ⟨a, us, rfl, .inr (by rw [hK]; exact h1), fun l hl => q ⟨upd w.H l _, l :: w.N, w.m⟩ _ (keep_newN hl) (sr.newN hl) (new_l sr hl h2)⟩
  · cases e
def strS : List D → Option D
  | [.int i] => if i.natAbs.log2 < 1920 then some (.str (toString i)) else none
  | _ => none
theorem cs_str : CallS g X (.type "str") strS := by
  refine ⟨_, call_str_int, fun w S vs ds d Q e sr ra q => ?_⟩
  unfold strS at e
  split at e
  · split at e
    · rename_i i h
      cases e
      obtain ⟨v, rfl, r⟩ := ra.one
      exact ⟨i, by rw [r.int], h, q w _ (Keep.refl w) sr (.str _)⟩
    · cases e
  · cases e
mutual
theorem noDict : ∀ d : PyData, d.canLay0 = true → d.hasDict = false
  | .none, _ => by simp [PyData.hasDict]
  | .bool _, _ => by simp [PyData.hasDict]
  | .int _, _ => by simp [PyData.hasDict]
  | .str _, _ => by simp [PyData.hasDict]
  | .list xs, h => by simp only [PyData.hasDict]; exact noDicts xs (by simpa [PyData.canLay0] using h)
  | .tuple xs, h => by simp only [PyData.hasDict]; exact noDicts xs (by simpa [PyData.canLay0] using h)
  | .dict _, h => by simp [PyData.canLay0] at h
theorem noDicts : ∀ d : List PyData, PyData.canLayAll0 d = true → PyData.hasDictAll d = false
  | [], _ => by simp [PyData.hasDictAll]
  | x :: xs, h => by
    simp only [PyData.canLayAll0, Bool.and_eq_true] at h
    simp only [PyData.hasDictAll, noDict x h.1, noDicts xs h.2, Bool.or_self]
end
/-- repr -/
def repOk (d : D) : Bool := okd 60 d && d.toP.showable && decide (d.toP.shown.length ≤ sizeLine)
def reprS : List D → Option D
  | [d] => if repOk d then some (.str d.toP.shown) else none
  | _ => none
theorem shown_int (i : Int) : (PyData.int i).shown = toString i := by simp only [PyData.shown]
theorem cs_repr (hK : X.K = g.K) (hg : X.A.guards = some []) (hu : X.A.units + 64 < cLine) : CallS g X (.builtin "repr") reprS := by
  refine ⟨fun vs H Q => ∃ v d, vs = [v] ∧ repOk d = true ∧ Dp X.K H v d.toP ∧ Q (.str d.toP.shown) H, ?_, fun w S vs ds d Q e sr ra q => ?_⟩
  · intro pins s σ H vs us Q I r h
    obtain ⟨v, d, rfl, ho, hd, q⟩ := h
    obtain ⟨u, rfl, ru⟩ := vals1 r
    unfold repOk at ho
    simp only [Bool.and_eq_true, decide_eq_true_eq] at ho
    obtain ⟨⟨o1, o2⟩, o3⟩ := ho
    have dep := (okd_lay 60 d o1).2
    have lay := (okd_lay 60 d o1).1
    obtain ⟨as, rd⟩ := Dp.reads I d.toP v u hd ru
    cases hd' : d.toP with
    | none => rw [hd'] at rd q; cases rd; exact PySem.P.repr_of_none ⟨.str _, H, I.tok _, ⟨_, rfl⟩, by simpa [PyData.shown] using q⟩
    | bool b => rw [hd'] at rd q; cases rd; exact PySem.P.repr_of_bool ⟨.str _, H, I.tok _, ⟨_, rfl⟩, by cases b <;> simpa [PyData.shown] using q⟩
    | int i =>
      rw [hd'] at rd q o2
      cases rd
      exact PySem.P.repr_of_int (by simpa [PyData.showable] using o2) ⟨.str _, H, I.tok _, ⟨_, rfl⟩, by simpa [PyData.shown] using q⟩
    | str x =>
      rw [hd'] at rd q o3
      cases rd
      exact PySem.P.repr_of_str ⟨.str _, H, I.tok _, ⟨_, rfl⟩, by simpa [PyData.shown] using q⟩ (by simpa [PyData.shown] using o3)
    | list xs =>
      rw [hd'] at rd q o2 o3 dep lay
      have nd : (PyData.list xs).hasDict = false := noDict _ lay
      cases rd with
      | list h1 h2 h3 h4 => exact repr_of_reads' (.list h1 h2 h3 h4) o2 (fun z => by rw [nd] at z; cases z) hg (by omega) (fun _ _ e => e) (fun h' u tk hk => ⟨.str _, H, I.kept hk, ⟨_, rfl⟩, q⟩) o3
    | tuple xs =>
      rw [hd'] at rd q o2 o3 dep lay
      have nd : (PyData.tuple xs).hasDict = false := noDict _ lay
      cases rd with
      | tuple h1 h2 h3 h4 => exact repr_of_reads' (.tuple h1 h2 h3 h4) o2 (fun z => by rw [nd] at z; cases z) hg (by omega) (fun _ _ e => e) (fun h' u tk hk => ⟨.str _, H, I.kept hk, ⟨_, rfl⟩, q⟩) o3
    | dict kvs => rw [hd'] at lay; simp [PyData.canLay0] at lay
  · unfold reprS at e
    split at e
    · split at e
      · rename_i d h
        cases e
        obtain ⟨v, rfl, r⟩ := ra.one
        refine ⟨v, d, rfl, h, ?_, q w _ (Keep.refl w) sr (.str _)⟩
        unfold repOk at h
        simp only [Bool.and_eq_true] at h
        rw [hK]
        exact r.dp h.1.1
      · cases e
    · cases e
end
end Pc

set_option Elab.async false
set_option linter.all false
set_option autoImplicit false
set_option maxRecDepth 100000
set_option maxHeartbeats 4000000
/-! Pc, part H: targets, what is walked, list comprehensions. -/
namespace Pc
open PySem PySem.Spec PyProof.Rows L2
section
variable {g : Gc} {N0 : List Addr} {Wx : WX} {X : Cx}
/-! ### slots that are set -/
theorem ownAt_set {env : Ev} {i j : Nat} {d : D} (h : ownAt (env.set i (.val d)) j) : ownAt env j ∧ j ≠ i := by
  obtain ⟨s, e, o⟩ := h
  by_cases q : i = j
  · subst q
    by_cases hl : i < env.length
    · rw [List.getElem?_set_self hl] at e; cases e; cases o
    · rw [List.getElem?_eq_none (by simpa using hl)] at e; cases e
  · rw [List.getElem?_set_ne q] at e
    exact ⟨⟨s, e, o⟩, fun z => q z.symm⟩
theorem ER.set_val {w : Wd} {env : Ev} {σ : L2.St} {i : Nat} {v : V} {d : D} (e : ER g N0 w env σ) (r : Rep g w v d) : ER g N0 w (env.set i (.val d)) (σ.set i (some v)) := by
  have hl := e.len
  have ne : ∀ (j : Nat) (s : Sl), (env.set i (.val d))[j]? = some s → (j = i ∧ s = .val d) ∨ (i ≠ j ∧ env[j]? = some s) := fun j s h => by
    by_cases q : i = j
    · subst q
      by_cases hi : i < env.length
      · rw [List.getElem?_set_self hi] at h; cases h; exact .inl ⟨rfl, rfl⟩
      · rw [List.getElem?_eq_none (by simpa using hi)] at h; cases h
    · rw [List.getElem?_set_ne q] at h; exact .inr ⟨q, h⟩
  refine ⟨by simpa using hl, fun j d' h => ?_, fun j xs h => ?_, fun j xs h => ?_, fun j k hjk h1 h2 => ?_⟩
  · rcases ne j _ h with ⟨rfl, z⟩ | ⟨q, z⟩
    · cases z
      have hi : j < σ.length := by
        rw [hl]
        have := (List.getElem?_eq_some_iff.mp h).1
        simpa using this
      exact ⟨v, List.getElem?_set_self hi, r⟩
    · obtain ⟨v', h1, h2⟩ := e.val j d' z
      exact ⟨v', by rw [List.getElem?_set_ne q]; exact h1, h2⟩
  · rcases ne j _ h with ⟨rfl, z⟩ | ⟨q, z⟩
    · cases z
    · obtain ⟨a, vs, h1, h2⟩ := e.own j xs z
      exact ⟨a, vs, by rw [List.getElem?_set_ne q]; exact h1, h2⟩
  · rcases ne j _ h with ⟨rfl, z⟩ | ⟨q, z⟩
    · cases z
    · obtain ⟨a, vs, h1, h2⟩ := e.owd j xs z
      exact ⟨a, vs, by rw [List.getElem?_set_ne q]; exact h1, h2⟩
  · obtain ⟨o1, n1⟩ := ownAt_set h1
    obtain ⟨o2, n2⟩ := ownAt_set h2
    rw [List.getElem?_set_ne (Ne.symm n1), List.getElem?_set_ne (Ne.symm n2)]
    exact e.ap j k hjk o1 o2
theorem ER.set_no {w : Wd} {env : Ev} {σ : L2.St} {i : Nat} {z : Option V} (e : ER g N0 w env σ) : ER g N0 w (env.set i .no) (σ.set i z) := by
  have hl := e.len
  have ne : ∀ (j : Nat) (s : Sl), (env.set i .no)[j]? = some s → (j = i ∧ s = .no) ∨ (i ≠ j ∧ env[j]? = some s) := fun j s h => by
    by_cases q : i = j
    · subst q
      by_cases hi : i < env.length
      · rw [List.getElem?_set_self hi] at h; cases h; exact .inl ⟨rfl, rfl⟩
      · rw [List.getElem?_eq_none (by simpa using hi)] at h; cases h
    · rw [List.getElem?_set_ne q] at h; exact .inr ⟨q, h⟩
  have no : ∀ j, ownAt (env.set i .no) j → ownAt env j ∧ i ≠ j := fun j ⟨s, h, o⟩ => by
    rcases ne j s h with ⟨_, z⟩ | ⟨q, z⟩
    · subst z; cases o
    · exact ⟨⟨s, z, o⟩, q⟩
  refine ⟨by simpa using hl, fun j d' h => ?_, fun j xs h => ?_, fun j xs h => ?_, fun j k hjk h1 h2 => ?_⟩
  · rcases ne j _ h with ⟨_, z⟩ | ⟨q, z⟩
    · cases z
    · obtain ⟨v', h1, h2⟩ := e.val j d' z
      exact ⟨v', by rw [List.getElem?_set_ne q]; exact h1, h2⟩
  · rcases ne j _ h with ⟨_, z⟩ | ⟨q, z⟩
    · cases z
    · obtain ⟨a, vs, h1, h2⟩ := e.own j xs z
      exact ⟨a, vs, by rw [List.getElem?_set_ne q]; exact h1, h2⟩
  · rcases ne j _ h with ⟨_, z⟩ | ⟨q, z⟩
    · cases z
    · obtain ⟨a, vs, h1, h2⟩ := e.owd j xs z
      exact ⟨a, vs, by rw [List.getElem?_set_ne q]; exact h1, h2⟩
  · obtain ⟨o1, n1⟩ := no j h1
    obtain ⟨o2, n2⟩ := no k h2
    rw [List.getElem?_set_ne n1, List.getElem?_set_ne n2]
    exact e.ap j k hjk o1 o2
def wipeE (env : Ev) : List Nat → Ev
  | [] => env
  | v :: vs => (wipeE env vs).set v .no
theorem ER.wipe {w : Wd} {env : Ev} {σ : L2.St} (e : ER g N0 w env σ) : ∀ vs : List Nat, ER g N0 w (wipeE env vs) (L2.wipe σ vs)
  | [] => e
  | _ :: vs => (ER.wipe e vs).set_no

/-! ### targets -/
/-- f: how the slots are set, where it goes; vs: which -/
def trG (g : Gc) (N0 : List Addr) (vs : List Nat) (f : D → Ev → Option Ev) : TG := fun v σ H Q =>
  ∃ w env S d env', w.H = H ∧ ER g N0 w env σ ∧ SR g w S ∧ Rep g w v d ∧ f d env = some env' ∧ ∀ σ', ER g N0 w env' σ' → (∀ i, i ∉ vs → σ'[i]? = σ[i]?) → σ'.length = σ.length → Q σ' H
abbrev DG (g : Gc) (N0 : List Addr) (X : Cx) (e : Expr) (vs : List Nat) (f : D → Ev → Option Ev) : Prop := PG X e (trG g N0 vs f)
theorem PG.imp {X : Cx} {e : Expr} {t t' : TG} (h : PG X e t) (i : ∀ v σ H Q, t' v σ H Q → t v σ H Q) : PG X e t' := ⟨fun pins s σ H v u Q I r q => h.run pins s σ H v u Q I r (i v σ H Q q)⟩
theorem PGs.imp {X : Cx} {e : List Expr} {t t' : TGs} (h : PGs X e t) (i : ∀ v σ H Q, t' v σ H Q → t v σ H Q) : PGs X e t' := ⟨fun pins s σ H v u Q I r q => h.run pins s σ H v u Q I r (i v σ H Q q)⟩
def setE (i : Nat) (d : D) (env : Ev) : Option Ev := some (env.set i (.val d))
theorem dg_name {i : Nat} {x : Str} {pos : Pos} (h : PG X (.Name x pos) (gName i)) : DG g N0 X (.Name x pos) [i] (setE i) := by
  refine PG.imp h fun v σ H Q ⟨w, env, S, d, env', e, er, sr, r, f, q⟩ => ?_
  cases f
  refine q _ (er.set_val r) (fun j hj => ?_) (by simp)
  exact List.getElem?_set_ne (fun z => hj (by simp [z]))
def trGs (g : Gc) (N0 : List Addr) (us : List Nat) (f : List D → Ev → Option Ev) : TGs := fun vs σ H Q =>
  ∃ w env S ds env', w.H = H ∧ ER g N0 w env σ ∧ SR g w S ∧ RepL g w vs ds ∧ f ds env = some env' ∧ ∀ σ', ER g N0 w env' σ' → (∀ i, i ∉ us → σ'[i]? = σ[i]?) → σ'.length = σ.length → Q σ' H
def nilG (ds : List D) (env : Ev) : Option Ev := match ds with
  | [] => some env
  | _ => none
def consG (f : D → Ev → Option Ev) (r : List D → Ev → Option Ev) (ds : List D) (env : Ev) : Option Ev := match ds with
  | d :: ds => (f d env).bind (r ds)
  | [] => none
theorem dgs_nil : PGs X [] (trGs g N0 [] nilG) := by
  refine PGs.imp pgs_nil fun vs σ H Q ⟨w, env, S, ds, env', e, er, sr, r, f, q⟩ => ?_
  cases r with
  | nil => cases f; exact ⟨rfl, q σ er (fun _ _ => rfl) rfl⟩
  | cons _ _ => cases f
theorem dgs_cons {e : Expr} {es : List Expr} {us ws : List Nat} {f : D → Ev → Option Ev} {r : List D → Ev → Option Ev} (h1 : DG g N0 X e us f) (h2 : PGs X es (trGs g N0 ws r))
    (hs : (assignEach (e :: es) X.env).map (·.2) = assign e X.env :: (assignEach es X.env).map (·.2)) : PGs X (e :: es) (trGs g N0 (us ++ ws) (consG f r)) := by
  refine PGs.imp (pgs_cons h1 h2 hs) fun vs σ H Q ⟨w, env, S, ds, env', ee, er, sr, rr, ff, q⟩ => ?_
  subst ee
  cases rr with
  | nil => cases ff
  | @cons v d vs' ds' r1 t1 =>
    cases e1 : f d env with
    | none => unfold consG at ff; simp only [e1] at ff; cases ff
    | some env1 =>
      unfold consG at ff
      simp only [e1, Option.bind_some] at ff
      refine ⟨v, vs', rfl, w, env, S, d, env1, rfl, er, sr, r1, e1, fun σ1 er1 same1 len1 => ?_⟩
      refine ⟨w, env1, S, ds', env', rfl, er1, sr, t1, ff, fun σ2 er2 same2 len2 => q σ2 er2 (fun i hi => ?_) (len2.trans len1)⟩
      rw [same2 i fun z => hi (List.mem_append_right _ z), same1 i fun z => hi (List.mem_append_left _ z)]
def tupG (n : Nat) (r : List D → Ev → Option Ev) (d : D) (env : Ev) : Option Ev := match d with
  | .tup ds => if ds.length = n then r ds env else none
  | _ => none
theorem dg_tup {es : List Expr} {k n : Nat} {us : List Nat} {r : List D → Ev → Option Ev} {pos : Pos} (hK : X.K = g.K) (hc : X.calm = true) (h : PGs X es (trGs g N0 us r))
    (hn : (assignEach es X.env).length = n) (hst : (assignEach es X.env).findIdx? (·.1) = none) : DG g N0 X (.Tuple es k pos) us (tupG n r) := by
  refine PG.imp (pg_tup hc h hn hst) fun v σ H Q ⟨w, env, S, d, env', ee, er, sr, rr, ff, q⟩ => ?_
  subst ee
  cases d with
  | tup ds =>
    cases rr with
    | tup h1 h2 =>
      unfold tupG at ff
      by_cases hl : ds.length = n
      · simp only [hl, if_true] at ff
        exact ⟨_, _, rfl, by rw [hK]; exact h1, by rw [h2.length]; exact hl, w, env, S, ds, env', rfl, er, sr, h2, ff, q⟩
      · simp only [hl, if_false] at ff; cases ff
  | _ => cases ff

/-! ### what is walked -/
structure ItOk (g : Gc) (Rl : Wd → Wd → Prop) (w0 : Wd) (J : It) (ds : List D) : Prop where
  len : ds.length ≤ sizeLine
  go : ∀ w (i : Nat), Rl w0 w → i < ds.length → J.go i w.H
  stop : ∀ w (i : Nat), Rl w0 w → i = ds.length → J.stop i w.H
  yld : ∀ w S (i : Nat) x H', Rl w0 w → SR g w S → i < ds.length → J.yld i w.H x H' → ∃ w' d, w'.H = H' ∧ Keep w w' ∧ SR g w' S ∧ ds[i]? = some d ∧ Rep g w' x d
abbrev rlI (g : Gc) (Rl : Wd → Wd → Prop) : Wd → Wd → It → List D → Prop := fun _ w J ds => ItOk g Rl w J ds
abbrev DI (g : Gc) (N0 : List Addr) (Wx : WX) (Rl : Wd → Wd → Prop) (X : Cx) (tg iter : Expr) (f : Ev → M (List D)) : Prop := PI X tg iter (tr g N0 Wx (rlI g Rl) f)
theorem PI.imp {X : Cx} {tg e : Expr} {t t' : TI} (h : PI X tg e t) (i : ∀ σ H Q, t' σ H Q → t σ H Q) : PI X tg e t' := ⟨fun pins s σ H Q I q => h.run pins s σ H Q I (i σ H Q q)⟩
/-- a list, a tuple, a text -/
def itemsD : D → Option (List D)
  | .tup xs => some xs
  | .lst xs => some xs
  | .str x => if x.cps.size ≤ sizeLine then some (x.cps.toList.map fun c => .str ⟨#[c]⟩) else none
  | _ => none
def itemsM (d : D) : M (List D) := ofO (itemsD d)
def iSeq (K : PySem.W.Frag) (tl : TE) : TI := fun σ H R => tl σ H fun x H1 => (∃ a xs, x = .ref a ∧ SqL K H1 a xs ∧ (xs.length ≤ sizeLine → R (Itl K a) H1)) ∨ (∃ a xs, x = .ref a ∧ SqT K H1 a xs ∧ (xs.length ≤ sizeLine → R (Itt K a) H1)) ∨ ∃ z, x = .str z ∧ R (Its z) H1
theorem pi_seq {tg l : Expr} {tl : TE} (hl : PE X l tl) : PI X tg l (iSeq X.K tl) := by
  refine ⟨fun pins s σ H R I h => ?_⟩
  refine thn (hl.run pins s σ H _ I h) fun v s1 ⟨x, H1, I1, r1, q1⟩ => ?_
  rcases q1 with ⟨a, xs, rfl, hq, q⟩ | ⟨a, xs, rfl, hq, q⟩ | ⟨z, rfl, q⟩
  · cases r1
    obtain ⟨its, rv, p, hz⟩ := I1.list hq
    exact wpAny_pyIter_list p.isList (pi_one (tk := s1.toks) I1 _ (turn_list a _) ⟨_, Heap.get?_push_size _ rfl, rfl, rfl⟩ (q hz))
  · cases r1
    obtain ⟨its, rv, p, hz⟩ := I1.tuple hq
    exact wpAny_pyIter_tuple (show s1.heap.IsTuple a its.toArray from p) (pi_one (tk := s1.toks) I1 _ (turn_tuple a _) ⟨_, Heap.get?_push_size _ rfl, rfl, rfl⟩ (q hz))
  · obtain ⟨t, rfl⟩ := r1
    cases ha : z.cps.all (· < 128)
    · exact wpAny_pyIter_wide ha (pi_one (tk := s1.toks) I1 _ (turn_str _ z t "str_iterator" (.inr rfl)) ⟨_, Heap.get?_push_size _ rfl, rfl, rfl⟩ q)
    · exact wpAny_pyIter_ascii ha (pi_one (tk := s1.toks) I1 _ (turn_str _ z t "str_ascii_iterator" (.inl rfl)) ⟨_, Heap.get?_push_size _ rfl, rfl, rfl⟩ q)
/-- a list that stands still -/
theorem it_list {Rl : Wd → Wd → Prop} {w : Wd} {K : PySem.W.Frag} {a : Addr} {vs : List V} {ds : List D} (r : RepL g w vs ds) (hz : vs.length ≤ sizeLine) (st : ∀ w', Rl w w' → SqL K w'.H a vs ∧ Mono w w') : ItOk g Rl w (Itl K a) ds := by
  refine ⟨by rw [← r.length]; exact hz, fun w' i k hi => ?_, fun w' i k hi => ?_, fun w' S i x H' k s hi y => ?_⟩
  · have hv : i < vs.length := by rw [r.length]; exact hi
    exact ⟨vs, vs[i], (st w' k).1, by simp [hv]⟩
  · exact ⟨vs, (st w' k).1, by rw [r.length]; omega⟩
  · obtain ⟨e, y⟩ := y
    subst e
    have hx := y vs (st w' k).1
    obtain ⟨d, h1, h2⟩ := r.get' hx
    exact ⟨w', d, rfl, Keep.refl _, s, h1, h2.mono (st w' k).2⟩
theorem it_tup {Rl : Wd → Wd → Prop} {w : Wd} {K : PySem.W.Frag} {a : Addr} {vs : List V} {ds : List D} (r : RepL g w vs ds) (hz : vs.length ≤ sizeLine) (h : SqT K w.H a vs) (st : ∀ w', Rl w w' → Mono w w') : ItOk g Rl w (Itt K a) ds := by
  refine ⟨by rw [← r.length]; exact hz, fun w' i k hi => ?_, fun w' i k hi => ?_, fun w' S i x H' k s hi y => ?_⟩
  · have hv : i < vs.length := by rw [r.length]; exact hi
    exact ⟨vs, vs[i], (st w' k).sqT h, by simp [hv]⟩
  · exact ⟨vs, (st w' k).sqT h, by rw [r.length]; omega⟩
  · obtain ⟨e, y⟩ := y
    subst e
    obtain ⟨d, h1, h2⟩ := r.get' (y vs ((st w' k).sqT h))
    exact ⟨w', d, rfl, Keep.refl _, s, h1, h2.mono (st w' k)⟩
theorem it_str {Rl : Wd → Wd → Prop} {w : Wd} {z : Str} (hz : z.cps.size ≤ sizeLine) : ItOk g Rl w (Its z) (z.cps.toList.map fun c => .str ⟨#[c]⟩) := by
  refine ⟨by simpa using hz, fun w' i k hi => by show i < z.cps.size; simpa using hi, fun w' i k hi => by show z.cps.size ≤ i; rw [hi]; simp, fun w' S i x H' k s hi y => ?_⟩
  obtain ⟨e, c, h1, h2⟩ := y
  subst e h2
  refine ⟨w', .str ⟨#[c]⟩, rfl, Keep.refl _, s, ?_, .str _⟩
  simp [h1]
theorem it_range {Rl : Wd → Wd → Prop} {w : Wd} {lo : Int} {n : Nat} (hz : n ≤ sizeLine) : ItOk g Rl w (Itr lo n) ((List.range n).map fun (i : Nat) => D.int (lo + (i : Int))) := by
  refine ⟨by simpa using hz, fun w' i k hi => by show i < n; simpa using hi, fun w' i k hi => by show n ≤ i; rw [hi]; simp, fun w' S i x H' k s hi y => ?_⟩
  obtain ⟨e, h2⟩ := y
  subst e h2
  refine ⟨w', .int (lo + i), rfl, Keep.refl _, s, ?_, .int _⟩
  have hi' : i < n := by simpa using hi
  simp [hi']
/-- for statements: the source is frozen -/
theorem di_for {tg e : Expr} {f : Ev → M D} (hK : X.K = g.K) (h : DE g N0 Wx X e f) : DI g N0 Wx Mono X tg e (fun env => do let x ← f env; itemsM x) := by
  refine PI.imp (pi_seq h) fun σ H R ⟨w, env, S, ee, er, sr, q⟩ => ?_
  subst ee
  refine tr_intro er sr (pst_imp (pst_bind (relA := rl g) (fun _ _ _ _ _ z => z) q) fun x H1 ⟨w1, d, S1, e1, k1, s1, r1, q1⟩ => ?_)
  subst e1
  unfold itemsM at q1
  cases d with
  | tup xs =>
    cases r1 with
    | tup h1 h2 => exact .inr (.inl ⟨_, _, rfl, by rw [hK]; exact h1, fun hz => q1 w1 _ (Keep.refl _) s1 (it_tup h2 hz (by rw [hK]; exact h1) fun _ z => z)⟩)
  | lst xs =>
    cases r1 with
    | lst h1 hn h2 => exact .inl ⟨_, _, rfl, .inl h1, fun hz => q1 w1 _ (Keep.refl _) s1 (it_list h2 hz fun w' k => ⟨.inl (k.rdL h1 hn), k⟩)⟩
    | lstK h1 h2 => exact .inl ⟨_, _, rfl, by rw [hK]; exact h1 _, fun hz => q1 w1 _ (Keep.refl _) s1 (it_list h2 hz fun w' k => ⟨by rw [hK]; exact h1 _, k⟩)⟩
  | str z =>
    cases r1
    by_cases hz : z.cps.size ≤ sizeLine
    · simp only [itemsD, hz, if_true] at q1
      exact .inr (.inr ⟨z, rfl, q1 w1 _ (Keep.refl _) s1 (it_str hz)⟩)
    · simp only [itemsD, hz, if_false] at q1; exact q1.elim
  | _ => exact q1.elim
/-- comprehensions: the source may be a slot's own -/
theorem di_comp {tg e : Expr} {f : Ev → M D} (hK : X.K = g.K) (h : DW g N0 Wx X e f) : DI g N0 Wx Keep X tg e (fun env => do let x ← f env; itemsM x) := by
  refine PI.imp (pi_seq h) fun σ H R ⟨w, env, S, ee, er, sr, q⟩ => ?_
  subst ee
  refine tr_intro er sr (pst_imp (pst_bind (relA := rlW g) (fun _ _ _ _ _ z => z) q) fun x H1 ⟨w1, d, S1, e1, k1, s1, r1, q1⟩ => ?_)
  subst e1
  unfold itemsM at q1
  cases d with
  | tup xs =>
    rcases r1 with r1 | ⟨_, _, _, _, z, _⟩ | ⟨_, _, _, _, z, _⟩
    · cases r1 with
      | tup h1 h2 => exact .inr (.inl ⟨_, _, rfl, by rw [hK]; exact h1, fun hz => q1 w1 _ (Keep.refl _) s1 (it_tup h2 hz (by rw [hK]; exact h1) fun _ z => z.toMono)⟩)
    · cases z
    · cases z
  | lst xs =>
    rcases r1 with r1 | ⟨a, vs, ds, rfl, z, h1, h2, h3⟩ | ⟨_, _, _, _, z, _⟩
    · cases r1 with
      | lst h1 hn h2 => exact .inl ⟨_, _, rfl, .inl h1, fun hz => q1 w1 _ (Keep.refl _) s1 (it_list h2 hz fun w' k => ⟨.inl (k.toMono.rdL h1 hn), k.toMono⟩)⟩
      | lstK h1 h2 => exact .inl ⟨_, _, rfl, by rw [hK]; exact h1 _, fun hz => q1 w1 _ (Keep.refl _) s1 (it_list h2 hz fun w' k => ⟨by rw [hK]; exact h1 _, k.toMono⟩)⟩
    · cases z
      exact .inl ⟨_, _, rfl, .inl (.inl h1), fun hz => q1 w1 _ (Keep.refl _) s1 (it_list h3 hz fun w' k => ⟨.inl (.inl (k.kp a _ h1 h2)), k.toMono⟩)⟩
    · cases z
  | str z =>
    rcases r1 with r1 | ⟨_, _, _, _, z, _⟩ | ⟨_, _, _, _, z, _⟩
    · cases r1
      by_cases hz : z.cps.size ≤ sizeLine
      · simp only [itemsD, hz, if_true] at q1
        exact .inr (.inr ⟨_, rfl, q1 w1 _ (Keep.refl _) s1 (it_str hz)⟩)
      · simp only [itemsD, hz, if_false] at q1; exact q1.elim
    · cases z
    · cases z
  | _ => exact q1.elim
def rng1 : List D → Option (List D)
  | [.int j] => if -(2 ^ 62) ≤ j ∧ j ≤ 16777216 then some ((List.range j.toNat).map fun (i : Nat) => D.int (0 + (i : Int))) else none
  | _ => none
def rng2 : List D → Option (List D)
  | [.int i, .int j] => if 0 ≤ i ∧ i ≤ 16777216 ∧ -(2 ^ 62) ≤ j ∧ j ≤ 16777216 then some ((List.range (j - i).toNat).map fun (k : Nat) => D.int (i + (k : Int))) else none
  | _ => none
theorem RepLB.one {w : Wd} {vs : List V} {d : D} (h : RepLB g w vs [d]) : ∃ v, vs = [v] ∧ RepB g w v d := by
  cases h with
  | cons r t => cases t; exact ⟨_, rfl, r⟩
theorem RepLB.two {w : Wd} {vs : List V} {d e : D} (h : RepLB g w vs [d, e]) : ∃ v u, vs = [v, u] ∧ RepB g w v d ∧ RepB g w u e := by
  cases h with
  | cons r t =>
    obtain ⟨u, rfl, r2⟩ := t.one
    exact ⟨_, _, rfl, r, r2⟩
theorem RepB.int {w : Wd} {v : V} {i : Int} (h : RepB g w v (.int i)) : v = .int i := by
  rcases h with h | ⟨a, vs, ds, e1, e2, _⟩ | ⟨a, vs, ds, e1, e2, _⟩
  · cases h; rfl
  · cases e2
  · cases e2
theorem di_rng1 {Rl : Wd → Wd → Prop} {tg a : Expr} {p pos : Pos} {f : Ev → M (List D)} (hg : Gl X "range") (hm : X.mg "range" = none) (hs : notStar a = true) (ha : DB g N0 Wx X [a] f) :
    DI g N0 Wx Rl X tg (.Call (.Name "range" p) [a] [] pos) (fun env => do let ds ← f env; ofO (rng1 ds)) := by
  refine PI.imp (pi_range1 hg hm ha (star_cons hs)) fun σ H R ⟨w, env, S, ee, er, sr, q⟩ => ?_
  subst ee
  refine tr_intro er sr (pst_imp (pst_bind (relA := rlLW g) (fun _ _ _ _ _ z => z) q) fun vs H1 ⟨w1, ds, S1, e1, k1, s1, r1, q1⟩ => ?_)
  subst e1
  cases eo : rng1 ds with
  | none => rw [eo] at q1; exact q1.elim
  | some xs =>
    rw [eo] at q1
    unfold rng1 at eo
    split at eo
    · split at eo
      · rename_i j h
        cases eo
        obtain ⟨v, rfl, r⟩ := r1.one
        exact ⟨j, by rw [r.int], h.1, by omega, q1 w1 _ (Keep.refl _) s1 (it_range (by rw [sizeLine_eq]; omega))⟩
      · cases eo
    · cases eo
theorem di_rng2 {Rl : Wd → Wd → Prop} {tg a b : Expr} {p pos : Pos} {f : Ev → M (List D)} (hg : Gl X "range") (hm : X.mg "range" = none) (hs : notStar a = true) (hs2 : notStar b = true) (ha : DB g N0 Wx X [a, b] f) :
    DI g N0 Wx Rl X tg (.Call (.Name "range" p) [a, b] [] pos) (fun env => do let ds ← f env; ofO (rng2 ds)) := by
  refine PI.imp (pi_range2 hg hm ha (by rw [star_cons hs, star_cons hs2]; rfl) (star_cons hs2)) fun σ H R ⟨w, env, S, ee, er, sr, q⟩ => ?_
  subst ee
  refine tr_intro er sr (pst_imp (pst_bind (relA := rlLW g) (fun _ _ _ _ _ z => z) q) fun vs H1 ⟨w1, ds, S1, e1, k1, s1, r1, q1⟩ => ?_)
  subst e1
  cases eo : rng2 ds with
  | none => rw [eo] at q1; exact q1.elim
  | some xs =>
    rw [eo] at q1
    unfold rng2 at eo
    split at eo
    · split at eo
      · rename_i i j h
        cases eo
        obtain ⟨v, u, rfl, r, r'⟩ := r1.two
        exact ⟨i, j, by rw [r.int, r'.int], by omega, q1 w1 _ (Keep.refl _) s1 (it_range (by rw [sizeLine_eq]; omega))⟩
      · cases eo
    · cases eo
end
end Pc

set_option Elab.async false
set_option linter.all false
set_option autoImplicit false
set_option maxRecDepth 100000
set_option maxHeartbeats 4000000
/-! Pc, part I: list comprehensions, enumerate, zip. -/
namespace Pc
open PySem PySem.Spec PyProof.Rows L2
def noEx {α : Type} (x : M α) : M α := fun S => match x S with
  | .ok a S' => .ok a S'
  | _ => .bad
def compM (fg : D → Ev → Option Ev) (fc : Ev → M Bool) (fe : Ev → M D) (base : Ev) : List D → M (List D)
  | [] => pure []
  | d :: ds => match fg d base with
    | none => fail
    | some env => do
      let b ← noEx (fc env)
      if b then do
        let y ← noEx (fe env)
        let ys ← compM fg fc fe base ds
        pure (y :: ys)
      else compM fg fc fe base ds
theorem wipe_in {σ : L2.St} {i : Nat} : ∀ {vs : List Nat}, i ∈ vs → i < σ.length → (L2.wipe σ vs)[i]? = some none
  | v :: vs, h, hl => by
    unfold L2.wipe
    by_cases e : v = i
    · subst e
      rw [List.getElem?_set_self (by rw [wipe_length]; exact hl)]
    · rw [List.getElem?_set_ne e]
      rcases List.mem_cons.mp h with q | q
      · exact absurd q.symm e
      · exact wipe_in q hl
theorem wipe_ext {σ τ : L2.St} {vs us : List Nat} (hl : τ.length = σ.length) (sub : ∀ i ∈ us, i ∈ vs) (h : ∀ i, i ∉ us → τ[i]? = (L2.wipe σ vs)[i]?) : L2.wipe τ vs = L2.wipe σ vs := by
  apply List.ext_getElem?
  intro i
  by_cases hi : i < σ.length
  · by_cases hv : i ∈ vs
    · rw [wipe_in hv (by rw [hl]; exact hi), wipe_in hv hi]
    · rw [wipe_out hv, h i fun z => hv (sub i z)]
  · rw [List.getElem?_eq_none (by rw [wipe_length, hl]; omega), List.getElem?_eq_none (by rw [wipe_length]; omega)]
section
variable {g : Gc} {N0 : List Addr} {Wx : WX} {X : Cx}
abbrev noW : WX := fun _ _ _ _ => False
theorem PTs.imp {X : Cx} {e : List Expr} {t t' : TT} (h : PTs X e t) (i : ∀ σ H Q, t' σ H Q → t σ H Q) : PTs X e t' := ⟨fun pins s σ H Q I q => h.run pins s σ H Q I (i σ H Q q)⟩
theorem dts_nil : PTs X [] (tr g N0 Wx rlB fun _ => pure true) := by
  refine PTs.imp pts_nil fun σ H Q ⟨w, env, S, e, er, sr, q⟩ => ?_
  subst e
  exact q w true (Keep.refl w) sr rfl
theorem dts_one {c : Expr} {f : Ev → M Bool} (h : DT g N0 Wx X c f) : PTs X [c] (tr g N0 Wx rlB f) := pts_one h
theorem bind_ok {α β : Type} {x : M α} {k : α → M β} {S S1 : Store} {a : α} (h : x S = .ok a S1) : (x >>= k) S = k a S1 := by
  show M.bind x k S = _
  unfold M.bind
  rw [h]
theorem bind_ex {α β : Type} {x : M α} {k : α → M β} {S S1 : Store} {c : Nat} {fs : List (Str × D)} (h : x S = .ex c fs S1) : (x >>= k) S = .ex c fs S1 := by
  show M.bind x k S = _
  unfold M.bind
  rw [h]
theorem bind_bad {α β : Type} {x : M α} {k : α → M β} {S : Store} (h : x S = .bad) : (x >>= k) S = .bad := by
  show M.bind x k S = _
  unfold M.bind
  rw [h]
/-- what is left of a comprehension -/
def leftM (fg : D → Ev → Option Ev) (fc : Ev → M Bool) (fe : Ev → M D) (base : Ev) (done ds : List D) : M (List D) := do
  let ys ← compM fg fc fe base ds
  pure (done ++ ys)
theorem bind_assoc {α β γ : Type} {x : M α} {k : α → M β} {l : β → M γ} {S : Store} : ((x >>= k) >>= l) S = (x >>= fun a => k a >>= l) S := by
  show M.bind (M.bind x k) l S = M.bind x (fun a => M.bind (k a) l) S
  unfold M.bind
  cases x S <;> rfl
theorem left_step {fg : D → Ev → Option Ev} {fc : Ev → M Bool} {fe : Ev → M D} {base : Ev} {done ds : List D} {d : D} {S : Store} : leftM fg fc fe base done (d :: ds) S = match fg d base with
    | none => .bad
    | some env => (match fc env S with
      | .ok true S1 => (match fe env S1 with
        | .ok y S2 => leftM fg fc fe base (done ++ [y]) ds S2
        | _ => .bad)
      | .ok false S1 => leftM fg fc fe base done ds S1
      | _ => .bad) := by
  unfold leftM
  cases e : fg d base with
  | none =>
    have : compM fg fc fe base (d :: ds) S = .bad := by simp only [compM, e]; rfl
    rw [bind_bad this]
  | some env =>
    cases ec : fc env S with
    | bad =>
      have : compM fg fc fe base (d :: ds) S = .bad := by
        simp only [compM, e]
        exact bind_bad (by simp only [noEx, ec])
      rw [bind_bad this]
      simp only [ec]
    | ex c fs S1 =>
      have : compM fg fc fe base (d :: ds) S = .bad := by
        simp only [compM, e]
        exact bind_bad (by simp only [noEx, ec])
      rw [bind_bad this]
      simp only [ec]
    | ok b S1 =>
      have hb : compM fg fc fe base (d :: ds) S = (if b then do
        let y ← noEx (fe env)
        let ys ← compM fg fc fe base ds
        pure (y :: ys)
      else compM fg fc fe base ds : M (List D)) S1 := by
        simp only [compM, e]
        exact bind_ok (by simp only [noEx, ec])
      cases b with
      | false =>
        have hb' : compM fg fc fe base (d :: ds) S = compM fg fc fe base ds S1 := hb
        simp only [ec]
        show M.bind _ _ S = M.bind _ _ S1
        unfold M.bind
        rw [hb']
      | true =>
        have hb' : compM fg fc fe base (d :: ds) S = (do
          let y ← noEx (fe env)
          let ys ← compM fg fc fe base ds
          pure (y :: ys) : M (List D)) S1 := hb
        cases ee : fe env S1 with
        | bad =>
          rw [bind_bad (hb'.trans (bind_bad (by simp only [noEx, ee])))]
          simp only [ec, ee]
        | ex c fs S2 =>
          rw [bind_bad (hb'.trans (bind_bad (by simp only [noEx, ee])))]
          simp only [ec, ee]
        | ok y S2 =>
          have h3 : compM fg fc fe base (d :: ds) S = (do
            let ys ← compM fg fc fe base ds
            pure (y :: ys) : M (List D)) S2 := hb'.trans (bind_ok (by simp only [noEx, ee]))
          simp only [ec, ee]
          show M.bind _ _ S = M.bind _ _ S2
          unfold M.bind
          rw [h3]
          cases hq : compM fg fc fe base ds S2 with
          | ok ys S3 =>
            rw [bind_ok hq]
            show R.ok (done ++ y :: ys) S3 = R.ok (done ++ [y] ++ ys) S3
            rw [List.append_assoc]; rfl
          | ex c fs S3 => rw [bind_ex hq]
          | bad => rw [bind_bad hq]
theorem left_nil {fg : D → Ev → Option Ev} {fc : Ev → M Bool} {fe : Ev → M D} {base : Ev} {done : List D} {S : Store} : leftM fg fc fe base done [] S = .ok done S := by
  show R.ok (done ++ []) S = _
  rw [List.append_nil]
theorem pst_okS {σ τ : L2.St} {W1 W2 : WX} {α β : Type} {rel : Wd → Wd → β → α → Prop} {w : Wd} {a : α} {S : Store} {Q : β → Hp → Prop} (h : Pst g W1 σ rel w (.ok a S) Q) : Pst g W2 τ rel w (.ok a S) Q := h
theorem tr_lc {us : List Nat} {own : List (Str × Nat)} {fi : Ev → M (List D)} {fg : D → Ev → Option Ev} {fc : Ev → M Bool} {fe : Ev → M D} (sub : ∀ i ∈ us, i ∈ own.map (·.2)) {σ : L2.St} {H : Hp} {Q : VK}
    (h : tr g N0 Wx (NewL g) (fun env => do let ds ← fi env; compM fg fc fe (wipeE env (own.map (·.2))) ds) σ H Q) : tLc (tr g N0 Wx (rlI g Keep) fi) (trG g N0 us fg) (tr g N0 noW rlB fc) (tr g N0 noW (rl g) fe) (own.map (·.2)) σ H Q := by
  obtain ⟨w, env, S, ee, er, sr, q⟩ := h
  subst ee
  refine tr_intro er sr (pst_imp (pst_bind (relA := rlI g Keep) (fun _ _ _ _ k z => z.base k) q) fun J H1 ⟨w1, ds, S1, e1, k1, s1, it, q1⟩ => ?_)
  subst e1
  intro D hD
  have er1 := er.keep k1
  refine ⟨fun i m H => i + m = ds.length ∧ ∃ w' S' acc done, w'.H = H ∧ Keep w1 w' ∧ SR g w' S' ∧ w'.H D = some (.lst acc) ∧ RepL g w' acc done ∧ done.length ≤ i ∧ D ∈ w'.N ∧ D ∉ w'.m ∧ Pst g Wx σ (NewL g) w1 (leftM fg fc fe (wipeE env (own.map (·.2))) done (ds.drop i) S') Q,
    ⟨ds.length, by omega, ⟨upd w1.H D (.lst []), D :: w1.N, w1.m⟩, S1, [], [], rfl, keep_newN hD, s1.newN hD, upd_same, .nil, Nat.le_refl _, List.mem_cons_self, fun z => s1.notnone (s1.sub D z) hD, ?_⟩, ?_⟩
  · have e : leftM fg fc fe (wipeE env (own.map (·.2))) [] (ds.drop 0) S1 = compM fg fc fe (wipeE env (own.map (·.2))) ds S1 := by
      show M.bind _ _ S1 = _
      unfold M.bind
      rw [List.drop_zero]
      cases compM fg fc fe (wipeE env (own.map (·.2))) ds S1 <;> rfl
    rw [e]
    exact q1
  · rintro i m H ⟨em, w', S', acc, done, rfl, k', s', hA, rA, hl, dN, dm, p⟩
    by_cases hi : i < ds.length
    · refine .inr ⟨it.go w' i k' hi, fun H' => ∃ w' S' acc done, w'.H = H' ∧ Keep w1 w' ∧ SR g w' S' ∧ w'.H D = some (.lst acc) ∧ RepL g w' acc done ∧ done.length ≤ i + 1 ∧ D ∈ w'.N ∧ D ∉ w'.m ∧ Pst g Wx σ (NewL g) w1 (leftM fg fc fe (wipeE env (own.map (·.2))) done (ds.drop (i + 1)) S') Q,
        fun H' z => ⟨m - 1, by omega, by omega, z⟩, fun x H' y => ?_⟩
      obtain ⟨w2, d, rfl, k2, s2, hd, rx⟩ := it.yld w' S' i x H' k' s' hi y
      have hdrop : ds.drop i = d :: ds.drop (i + 1) := by
        rw [List.drop_eq_getElem_cons hi]
        rw [List.getElem?_eq_getElem hi] at hd
        rw [Option.some.inj hd]
      rw [hdrop, left_step] at p
      cases eg : fg d (wipeE env (own.map (·.2))) with
      | none => rw [eg] at p; exact p.elim
      | some env1 =>
        rw [eg] at p
        refine ⟨w2, wipeE env (own.map (·.2)), S', d, env1, rfl, ((er1.keep k').keep k2).wipe _, s2, rx, eg, fun σ2 er2 same2 len2 => ⟨wipe_ext (us := us) (by rw [len2, wipe_length]) sub same2, ?_⟩⟩
        refine tr_intro er2 s2 ?_
        have hA2 : w2.H D = some (.lst acc) := k2.kp D _ hA dm
        have dm2 : D ∉ w2.m := fun z => by
          rcases k2.newm D z with z | z
          · exact dm z
          · rw [z] at hA; cases hA
        cases ec : fc env1 S' with
        | bad => simp only [ec] at p; exact p.elim
        | ex c fs S2 => simp only [ec] at p; exact p.elim
        | ok b S2 =>
          simp only [ec] at p
          intro w3 b' k3 s3 eb
          have eb' : b' = b := eb
          subst eb'
          have hA3 : w3.H D = some (.lst acc) := k3.kp D _ hA2 dm2
          have dm3 : D ∉ w3.m := fun z => by
            rcases k3.newm D z with z | z
            · exact dm2 z
            · rw [z] at hA2; cases hA2
          have rA3 := rA.mono (k2.trans k3).toMono
          have dN3 := k3.sub D (k2.sub D dN)
          cases b' with
          | false =>
            rw [if_neg Bool.false_ne_true]
            exact ⟨w3, S2, acc, done, rfl, (k'.trans k2).trans k3, s3, hA3, rA3, Nat.le_succ_of_le hl, dN3, dm3, p⟩
          | true =>
            rw [if_pos rfl]
            refine tr_intro (er2.keep k3) s3 ?_
            cases ef : fe env1 S2 with
            | bad => simp only [ef] at p; exact p.elim
            | ex c fs S3 => simp only [ef] at p; exact p.elim
            | ok y S3 =>
              simp only [ef] at p
              intro w4 v4 k4 s4 r4
              have hA4 : w4.H D = some (.lst acc) := k4.kp D _ hA3 dm3
              have dm4 : D ∉ w4.m := fun z => by
                rcases k4.newm D z with z | z
                · exact dm3 z
                · rw [z] at hA3; cases hA3
              have rA4 := rA3.mono k4.toMono
              have dN4 := k4.sub D dN3
              have dn1 : w1.H D = none := hD
              have K4 : Keep w1 w4 := ((k'.trans k2).trans k3).trans k4
              have hz := it.len
              refine ⟨acc, hA4, by rw [rA4.length]; omega, ⟨upd w4.H D (.lst (acc ++ [v4])), w4.N, w4.m⟩, S3, acc ++ [v4], done ++ [y], rfl, ?_, s4.own hA4 (fun _ z => by cases z) (fun _ _ z => by cases z) dN4 dm4, upd_same, ?_, by simp; omega, dN4, dm4, p⟩
              · have mo := mono_own (o := .lst (acc ++ [v4])) hA4 (fun _ z => by cases z) (fun _ _ z => by cases z) dN4
                refine ⟨K4.toMono.trans mo, fun a o e n => ?_, K4.sub, K4.newm⟩
                show upd w4.H D _ a = some o
                rw [upd_ne (ne_of_none e dn1)]
                exact K4.kp a o e n
              · have mo := mono_own (o := .lst (acc ++ [v4])) hA4 (fun _ z => by cases z) (fun _ _ z => by cases z) dN4
                exact (rA4.append (.cons r4 .nil)).mono mo
    · have e : ds.drop i = [] := List.drop_eq_nil_of_le (by omega)
      rw [e, left_nil] at p
      refine .inl ⟨it.stop w' i k' (by omega), p w' (.ref D) k' s' ⟨D, acc, rfl, hA, dN, dm, fun z => s1.notnone z hD, rA⟩⟩
theorem dl_comp {elt tg iter : Expr} {ifs : List Expr} {scope : Scope} {own : List (Str × Nat)} {us : List Nat} {pos : Pos} {fi : Ev → M (List D)} {fg : D → Ev → Option Ev} {fc : Ev → M Bool} {fe : Ev → M D}
    (hc : X.calm = true) (hN : X.N.Nodup) (hi : DI g N0 Wx Keep X tg iter fi) (ok : BlkOk X.N X.env.scope scope own)
    (hg : ∀ (s : Shared) (H : Hp) (C : Addr) (cl : List (Str × Addr)) (fp : List Addr), DG g N0 (X.blk s H scope (compEnvC scope cl C X.env) fp) tg us fg)
    (ht : ∀ (s : Shared) (H : Hp) (C : Addr) (cl : List (Str × Addr)) (fp : List Addr), PTs (X.blk s H scope (compEnvC scope cl C X.env) fp) ifs (tr g N0 noW rlB fc))
    (he : ∀ (s : Shared) (H : Hp) (C : Addr) (cl : List (Str × Addr)) (fp : List Addr), DE g N0 noW (X.blk s H scope (compEnvC scope cl C X.env) fp) elt fe)
    (sub : ∀ i ∈ us, i ∈ own.map (·.2)) (hs : ∀ x, foldedSetIterable iter X.env x = pure x) :
    DL g N0 Wx X (.ListComp elt [⟨tg, iter, ifs, 0⟩] scope pos) (fun env => do let ds ← fi env; compM fg fc fe (wipeE env (own.map (·.2))) ds) :=
  PE.imp (pe_lc hc hN hi ok hg ht he hs) fun σ H Q h => tr_lc sub h
end
end Pc

set_option Elab.async false
set_option linter.all false
set_option autoImplicit false
set_option maxRecDepth 100000
set_option maxHeartbeats 4000000
/-! Pc, part J: statements. -/
namespace Pc
open PySem PySem.Spec PyProof.Rows L2
/-- a def's own context: what passes, its stack, its frame -/
structure Po (X : Cx) : Prop where
  po : PassesOwn (model X.prog X.w) X.A X.env X.xe
  hs : X.stack = X.env :: X.outer
  hf : X.env.frame = some X.env.locals
inductive Out where
  | nx (e : Ev) | rt (d : D) | bk (e : Ev) | ct (e : Ev)
/-- the state between two statements; w0: at the def's entry -/
structure StR (g : Gc) (w0 w : Wd) (env : Ev) (S : Store) (σ : L2.St) : Prop where
  er : ER g w0.N w env σ
  sr : SR g w S
  kp : Keep w0 w
def PstS (g : Gc) (Wx : WX) (w0 w : Wd) (r : R Out) (E : Ends) : Prop :=
  match r with
  | .ok (.nx env') S' => ∀ w' σ', Mono w w' → StR g w0 w' env' S' σ' → E.nx σ' w'.H
  | .ok (.bk env') S' => ∀ w' σ', Mono w w' → StR g w0 w' env' S' σ' → E.bk σ' w'.H
  | .ok (.ct env') S' => ∀ w' σ', Mono w w' → StR g w0 w' env' S' σ' → E.ct σ' w'.H
  | .ok (.rt d) S' => ∀ w' v, Keep w0 w' → SR g w' S' → Rep g w' v d → E.rt v w'.H
  | .ex c fs S' => ∀ w' σ' cls dd, Mono w w' → Keep w0 w' → SR g w' S' → ExR g w' cls dd c fs → Wx cls dd σ' w'.H
  | .bad => False
def trS (g : Gc) (Wx : WX) (w0 : Wd) (f : Ev → M Out) : TS := fun E σ H => ∃ w env S, w.H = H ∧ StR g w0 w env S σ ∧ PstS g Wx w0 w (f env S) E
abbrev DS (g : Gc) (Wx : WX) (w0 : Wd) (X : Cx) (s : Stmt) (f : Ev → M Out) : Prop := PS X s (trS g Wx w0 f)
abbrev DSs (g : Gc) (Wx : WX) (w0 : Wd) (X : Cx) (s : List Stmt) (f : Ev → M Out) : Prop := PSs X s (trS g Wx w0 f)
section
variable {g : Gc} {Wx : WX} {w0 : Wd} {X : Cx}
theorem pstS_rebase {w w1 : Wd} {r : R Out} {E : Ends} (k : Mono w w1) (h : PstS g Wx w0 w r E) : PstS g Wx w0 w1 r E := by
  cases r with
  | ok o S =>
    cases o with
    | nx e => exact fun w' σ' k' s => h w' σ' (k.trans k') s
    | bk e => exact fun w' σ' k' s => h w' σ' (k.trans k') s
    | ct e => exact fun w' σ' k' s => h w' σ' (k.trans k') s
    | rt d => exact h
  | ex c fs S => exact fun w' σ' cls dd m k' s z => h w' σ' cls dd (k.trans m) k' s z
  | bad => exact h
theorem StR.step {w w' : Wd} {env : Ev} {S S' : Store} {σ : L2.St} (s : StR g w0 w env S σ) (k : Keep w w') (s' : SR g w' S') : StR g w0 w' env S' σ := ⟨s.er.keep k, s', s.kp.trans k⟩
/-- an expression inside a statement: its own wish about exceptions is the statement's -/
theorem pst_of {σ : L2.St} {α β : Type} {rel : Wd → Wd → β → α → Prop} {w : Wd} {env : Ev} {S : Store} {x : M α} {k : α → M Out} {E : Ends} {Q : β → Hp → Prop} (st : StR g w0 w env S σ) (h : PstS g Wx w0 w ((x >>= k) S) E)
    (q : ∀ w1 a S1 y, x S = .ok a S1 → Keep w w1 → SR g w1 S1 → rel w w1 y a → PstS g Wx w0 w1 (k a S1) E → Q y w1.H) : Pst g Wx σ rel w (x S) Q := by
  cases e : x S with
  | ok a S1 =>
    rw [bind_ok e] at h
    intro w1 y k1 s1 r1
    exact q w1 a S1 y e k1 s1 r1 (pstS_rebase k1.toMono h)
  | ex c fs S1 =>
    rw [bind_ex e] at h
    exact fun w' cls dd k s z => h w' σ cls dd k.toMono (st.kp.trans k) s z
  | bad => rw [bind_bad e] at h; exact h

/-! ### blocks -/
def seqM (f r : Ev → M Out) : Ev → M Out := fun env => do
  match ← f env with
  | .nx e => r e
  | o => pure o
theorem dss_nil : DSs g Wx w0 X [] (fun env => pure (.nx env)) := by
  refine PSs.imp pss_nil fun E σ H ⟨w, env, S, e, st, q⟩ => ?_
  subst e
  exact q w σ (Mono.refl w) st
theorem dss_cons {s : Stmt} {r : List Stmt} {f fr : Ev → M Out} (h : DS g Wx w0 X s f) (t : DSs g Wx w0 X r fr) : DSs g Wx w0 X (s :: r) (seqM f fr) := by
  refine PSs.imp (pss_cons h t) fun E σ H ⟨w, env, S, e, st, q⟩ => ?_
  subst e
  refine ⟨w, env, S, rfl, st, ?_⟩
  unfold seqM at q
  cases e : f env S with
  | ok o S1 =>
    rw [bind_ok e] at q
    cases o with
    | nx e1 => exact fun w' σ' k s' => ⟨w', e1, S1, rfl, s', pstS_rebase k q⟩
    | bk e1 => exact q
    | ct e1 => exact q
    | rt d => exact q
  | ex c fs S1 => rw [bind_ex e] at q; exact q
  | bad => rw [bind_bad e] at q; exact q
theorem dss_one {s : Stmt} {f : Ev → M Out} (h : DS g Wx w0 X s f) : DSs g Wx w0 X [s] f := pss_one h
theorem ds_pass {pos : Pos} : DS g Wx w0 X (.Pass pos) (fun env => pure (.nx env)) := by
  refine PS.imp ps_pass fun E σ H ⟨w, env, S, e, st, q⟩ => ?_
  subst e
  exact q w σ (Mono.refl w) st
theorem ds_break {pos : Pos} : DS g Wx w0 X (.Break pos) (fun env => pure (.bk env)) := by
  refine PS.imp ps_break fun E σ H ⟨w, env, S, e, st, q⟩ => ?_
  subst e
  exact q w σ (Mono.refl w) st
theorem ds_cont {pos : Pos} : DS g Wx w0 X (.Continue pos) (fun env => pure (.ct env)) := by
  refine PS.imp ps_continue fun E σ H ⟨w, env, S, e, st, q⟩ => ?_
  subst e
  exact q w σ (Mono.refl w) st
def notComp : Expr → Bool
  | .ListComp _ _ _ _ => false
  | .SetComp _ _ _ _ => false
  | .DictComp _ _ _ _ _ => false
  | _ => true
theorem swaps_no {e : Expr} {t : Option Expr} {l : Nat} {env : Env} (h : notComp e = true) : swapsWith e t l env = pure false := by
  cases e <;> first | rfl | cases h
theorem ds_expr {e : Expr} {f : Ev → M D} {pos : Pos} (hc : notComp e = true) (h : DE g w0.N Wx X e f) : DS g Wx w0 X (.Expr e pos) (fun env => do let _ ← f env; pure (.nx env)) := by
  refine PS.imp (ps_expr h (swaps_no hc)) fun E σ H ⟨w, env, S, ee, st, q⟩ => ?_
  subst ee
  refine tr_intro st.er st.sr (pst_of st q fun w1 a S1 y e k1 s1 r1 q1 => ?_)
  exact q1 w1 σ (Mono.refl w1) (st.step k1 s1)
theorem ds_if {c : Expr} {a b : List Stmt} {fc : Ev → M Bool} {fa fb : Ev → M Out} {pos : Pos} (hc : DT g w0.N Wx X c fc) (ha : DSs g Wx w0 X a fa) (hb : DSs g Wx w0 X b fb) : DS g Wx w0 X (.If c a b pos) (ifM fc fa fb) := by
  refine PS.imp (ps_if hc ha hb) fun E σ H ⟨w, env, S, ee, st, q⟩ => ?_
  subst ee
  refine tr_intro st.er st.sr (pst_of st q fun w1 x S1 y e k1 s1 r1 q1 => ?_)
  have ey : y = x := r1
  subst ey
  cases y with
  | true => rw [if_pos rfl]; exact ⟨w1, env, S1, rfl, st.step k1 s1, q1⟩
  | false => rw [if_neg Bool.false_ne_true]; exact ⟨w1, env, S1, rfl, st.step k1 s1, q1⟩
theorem ds_ret {e : Expr} {f : Ev → M D} {pos : Pos} (h : DE g w0.N Wx X e f) : DS g Wx w0 X (.Return (some e) pos) (fun env => do let d ← f env; pure (.rt d)) := by
  refine PS.imp (ps_ret h) fun E σ H ⟨w, env, S, ee, st, q⟩ => ?_
  subst ee
  refine tr_intro st.er st.sr (pst_of st q fun w1 x S1 y e k1 s1 r1 q1 => ?_)
  exact q1 w1 y (st.kp.trans k1) s1 r1
theorem ds_retN {pos : Pos} : DS g Wx w0 X (.Return none pos) (fun _ => pure (.rt .non)) := by
  refine PS.imp ps_retN fun E σ H ⟨w, env, S, ee, st, q⟩ => ?_
  subst ee
  exact q w .non st.kp st.sr .non
/-- return of a slot's own list -/
theorem ds_retOwn {i : Nat} {x : Str} {p pos : Pos} (h : PE X (.Name x p) (tVar i)) : DS g Wx w0 X (.Return (some (.Name x p)) pos) (fun env => do let d ← rdB i env; pure (.rt d)) := by
  refine PS.imp (ps_ret h) fun E σ H ⟨w, env, S, ee, st, q0⟩ => ?_
  subst ee
  have q : PstS g Wx w0 w ((rdB i env >>= fun d => pure (.rt d)) S) E := q0
  cases hd : env[i]? with
  | none =>
    have e : rdB i env S = .bad := by unfold rdB; rw [hd]; rfl
    rw [bind_bad e] at q; exact q.elim
  | some sl =>
    have drop : ∀ a vs xs, σ[i]? = some (some (.ref a)) → w.H a = some (.lst vs) → a ∈ w.N → a ∉ w.m → a ∉ w0.N → RepL g w vs xs → ∃ w', w'.H = w.H ∧ Keep w0 w' ∧ SR g w' S ∧ Rep g w' (.ref a) (.lst xs) := fun a vs xs _ h2 h3 h4 h5 h6 => by
      obtain ⟨w'', e1, k1, s1, r1⟩ := NewL.frozen (w := w0) (w' := w) (xs := xs) (v := .ref a) st.kp st.sr ⟨a, vs, rfl, h2, h3, h4, h5, h6⟩
      exact ⟨w'', e1, k1, s1, r1⟩
    cases sl with
    | no =>
      have e : rdB i env S = .bad := by unfold rdB; rw [hd]; rfl
      rw [bind_bad e] at q; exact q.elim
    | val d =>
      have e : rdB i env S = .ok d S := by unfold rdB; rw [hd]; rfl
      rw [bind_ok e] at q
      obtain ⟨v, h1, h2⟩ := st.er.val i d hd
      exact ⟨v, h1, q w v st.kp st.sr h2⟩
    | own xs =>
      have e : rdB i env S = .ok (.lst xs) S := by unfold rdB; rw [hd]; rfl
      rw [bind_ok e] at q
      obtain ⟨a, vs, h1, h2, h3, h4, h5, h6⟩ := st.er.own i xs hd
      obtain ⟨w', e1, k1, s1, r1⟩ := drop a vs xs h1 h2 h3 h4 h5 h6
      refine ⟨_, h1, ?_⟩
      rw [← e1]
      exact q w' _ k1 s1 r1
    | owd xs =>
      have e : rdB i env S = .ok (.dct xs) S := by unfold rdB; rw [hd]; rfl
      rw [bind_ok e] at q
      obtain ⟨a, vs, h1, h2, h3, h4, h5, h6⟩ := st.er.owd i xs hd
      have sub : ∀ b ∈ w.N.filter (fun b => decide (b ≠ a)), b ∈ w.N := fun b hb => (List.mem_filter.mp hb).1
      have out : a ∉ w.N.filter (fun b => decide (b ≠ a)) := fun hb => absurd rfl (of_decide_eq_true (List.mem_filter.mp hb).2)
      have inn : ∀ b, b ≠ a → b ∈ w.N → b ∈ w.N.filter (fun b => decide (b ≠ a)) := fun b n hb => List.mem_filter.mpr ⟨hb, decide_eq_true n⟩
      refine ⟨_, h1, ?_⟩
      exact q ⟨w.H, w.N.filter (fun b => decide (b ≠ a)), w.m⟩ _ (keep_less st.kp sub fun b hb => inn b (fun e => h5 (by rw [← e]; exact hb)) (st.kp.sub b hb)) (st.sr.less sub fun b hb => inn b (fun e => h4 (by rw [← e]; exact hb)) (st.sr.sub b hb)) (.dct h2 out (h6.mono (mono_less sub)))

/-! ### what a slot gets -/
def SlR (g : Gc) (w : Wd) (v : V) : Sl → Prop
  | .no => False
  | .val d => Rep g w v d
  | .own xs => ∃ a vs, v = .ref a ∧ w.H a = some (.lst vs) ∧ a ∈ w.N ∧ a ∉ w.m ∧ RepL g w vs xs
  | .owd xs => ∃ a vs, v = .ref a ∧ w.H a = some (.dK vs) ∧ a ∈ w.N ∧ a ∉ w.m ∧ RepK g w vs xs
abbrev rlX (g : Gc) : Wd → Wd → V → Sl → Prop := fun w w' v s => SlR g w' v s ∧ (s.isOwn = true → ∀ a, v = .ref a → a ∉ w.N)
abbrev DX (g : Gc) (N0 : List Addr) (Wx : WX) (X : Cx) (e : Expr) (f : Ev → M Sl) : Prop := PE X e (tr g N0 Wx (rlX g) f)
theorem ER.set_sl {N0 : List Addr} {w : Wd} {env : Ev} {σ : L2.St} {i : Nat} {v : V} {s : Sl} (e : ER g N0 w env σ) (r : SlR g w v s) (fr : s.isOwn = true → (∀ a, v = .ref a → a ∉ N0) ∧ ∀ j, ownAt env j → σ[j]? ≠ some (some v)) : ER g N0 w (env.set i s) (σ.set i (some v)) := by
  have hl := e.len
  have ne : ∀ (j : Nat) (t : Sl), (env.set i s)[j]? = some t → (j = i ∧ t = s ∧ i < env.length) ∨ (i ≠ j ∧ env[j]? = some t) := fun j t h => by
    by_cases q : i = j
    · subst q
      by_cases hi : i < env.length
      · rw [List.getElem?_set_self hi] at h; cases h; exact .inl ⟨rfl, rfl, hi⟩
      · rw [List.getElem?_eq_none (by simpa using hi)] at h; cases h
    · rw [List.getElem?_set_ne q] at h; exact .inr ⟨q, h⟩
  have at_ : i < env.length → (σ.set i (some v))[i]? = some (some v) := fun hi => List.getElem?_set_self (by rw [hl]; exact hi)
  refine ⟨by simpa using hl, fun j d' h => ?_, fun j xs h => ?_, fun j xs h => ?_, fun j k hjk h1 h2 => ?_⟩
  · rcases ne j _ h with ⟨rfl, z, hi⟩ | ⟨q, z⟩
    · subst z; exact ⟨v, at_ hi, r⟩
    · obtain ⟨v', h1, h2⟩ := e.val j d' z
      exact ⟨v', by rw [List.getElem?_set_ne q]; exact h1, h2⟩
  · rcases ne j _ h with ⟨rfl, z, hi⟩ | ⟨q, z⟩
    · subst z
      obtain ⟨a, vs, e1, h2, h3, h4, h5⟩ := r
      exact ⟨a, vs, by rw [at_ hi, e1], h2, h3, h4, (fr rfl).1 a e1, h5⟩
    · obtain ⟨a, vs, h1, h2⟩ := e.own j xs z
      exact ⟨a, vs, by rw [List.getElem?_set_ne q]; exact h1, h2⟩
  · rcases ne j _ h with ⟨rfl, z, hi⟩ | ⟨q, z⟩
    · subst z
      obtain ⟨a, vs, e1, h2, h3, h4, h5⟩ := r
      exact ⟨a, vs, by rw [at_ hi, e1], h2, h3, h4, (fr rfl).1 a e1, h5⟩
    · obtain ⟨a, vs, h1, h2⟩ := e.owd j xs z
      exact ⟨a, vs, by rw [List.getElem?_set_ne q]; exact h1, h2⟩
  · obtain ⟨s1, e1, o1⟩ := h1
    obtain ⟨s2, e2, o2⟩ := h2
    rcases ne j s1 e1 with ⟨rfl, z, hi⟩ | ⟨q, z⟩
    · subst z
      rcases ne k s2 e2 with ⟨rfl, _, _⟩ | ⟨q2, z2⟩
      · exact absurd rfl hjk
      · rw [at_ hi, List.getElem?_set_ne q2]
        exact fun z => (fr o1).2 k ⟨s2, z2, o2⟩ z.symm
    · rcases ne k s2 e2 with ⟨rfl, z2, hi⟩ | ⟨q2, z2⟩
      · subst z2
        rw [at_ hi, List.getElem?_set_ne q]
        exact (fr o2).2 j ⟨s1, z, o1⟩
      · rw [List.getElem?_set_ne q, List.getElem?_set_ne q2]
        exact e.ap j k hjk ⟨s1, z, o1⟩ ⟨s2, z2, o2⟩
/-- a slot's own address, of what stood there -/
theorem ER.own_in {N0 : List Addr} {w : Wd} {env : Ev} {σ : L2.St} {j : Nat} (e : ER g N0 w env σ) (h : ownAt env j) : ∃ a, σ[j]? = some (some (.ref a)) ∧ a ∈ w.N := by
  obtain ⟨s, h1, h2⟩ := h
  cases s with
  | own xs => obtain ⟨a, vs, q1, q2, q3, _⟩ := e.own j xs h1; exact ⟨a, q1, q3⟩
  | owd xs => obtain ⟨a, vs, q1, q2, q3, _⟩ := e.owd j xs h1; exact ⟨a, q1, q3⟩
  | _ => cases h2
theorem ER.set_new {N0 : List Addr} {w w1 : Wd} {env : Ev} {σ : L2.St} {i : Nat} {v : V} {s : Sl} (hN : ∀ a ∈ N0, a ∈ w.N) (e : ER g N0 w env σ) (k : Keep w w1) (r : rlX g w w1 v s) : ER g N0 w1 (env.set i s) (σ.set i (some v)) := by
  refine (e.keep k).set_sl r.1 fun o => ⟨fun a ea q => r.2 o a ea (hN a q), fun j oj q => ?_⟩
  obtain ⟨a, h1, h2⟩ := e.own_in oj
  rw [h1] at q
  cases q
  exact r.2 o a rfl h2
theorem dx_val {N0 : List Addr} {e : Expr} {f : Ev → M D} (h : DE g N0 Wx X e f) : DX g N0 Wx X e (fun env => do let d ← f env; pure (.val d)) := by
  refine PE.imp h fun σ H Q ⟨w, env, S, ee, er, sr, q⟩ => ?_
  subst ee
  refine tr_intro er sr (pst_imp (pst_bind (relA := rl g) (fun _ _ _ _ k z => ⟨z.1, fun o a ea q => z.2 o a ea (k.sub a q)⟩) q) fun x H1 ⟨w1, d, S1, e1, k1, s1, r1, q1⟩ => ?_)
  subst e1
  exact q1 w1 x (Keep.refl _) s1 ⟨r1, fun o => by cases o⟩
theorem dx_own {N0 : List Addr} {e : Expr} {f : Ev → M (List D)} (h : DL g N0 Wx X e f) : DX g N0 Wx X e (fun env => do let d ← f env; pure (.own d)) := by
  refine PE.imp h fun σ H Q ⟨w, env, S, ee, er, sr, q⟩ => ?_
  subst ee
  refine tr_intro er sr ?_
  cases e : f env S with
  | ok xs S1 =>
    have q' : Pst g Wx σ (rlX g) w ((f env >>= fun d => pure (.own d)) S) Q := q
    rw [bind_ok e] at q'
    intro w1 v k1 s1 n
    obtain ⟨p, vs, e1, h2, h3, h4, h5, h6⟩ := n
    exact q' w1 v k1 s1 ⟨⟨p, vs, e1, h2, h3, h4, h6⟩, fun _ a ea => by rw [e1] at ea; cases ea; exact h5⟩
  | ex c fs S1 =>
    have q' : Pst g Wx σ (rlX g) w ((f env >>= fun d => pure (.own d)) S) Q := q
    rw [bind_ex e] at q'
    exact q'
  | bad =>
    have q' : Pst g Wx σ (rlX g) w ((f env >>= fun d => pure (.own d)) S) Q := q
    rw [bind_bad e] at q'
    exact q'
def setM (i : Nat) (f : Ev → M Sl) : Ev → M Out := fun env => do
  let s ← f env
  pure (.nx (env.set i s))
theorem ds_set {i : Nat} {x : Str} {e : Expr} {f : Ev → M Sl} {pos pos' : Pos} (hN : X.N.Nodup) (hi : X.N[i]? = some x) (hx : Loc X.env.scope x) (hf : X.fn x = true) (hc : notComp e = true) (h : DX g w0.N Wx X e f) :
    DS g Wx w0 X (.Assign [.Name x pos'] e pos) (setM i f) := by
  refine PS.imp (ps_set hN hi hx h (swaps_no hc) (.inl hf)) fun E σ H ⟨w, env, S, ee, st, q⟩ => ?_
  subst ee
  refine tr_intro st.er st.sr (pst_of st q fun w1 s S1 y e k1 s1 r1 q1 => ?_)
  exact q1 w1 _ (Mono.refl w1) ⟨st.er.set_new st.kp.sub k1 r1, s1, st.kp.trans k1⟩

/-! ### for -/
def forM (fg : D → Ev → Option Ev) (body : Ev → M Out) : List D → Ev → M Out
  | [], env => pure (.nx env)
  | d :: ds, env => match fg d env with
    | none => fail
    | some env1 => do
      match ← body env1 with
      | .nx e => forM fg body ds e
      | .ct e => forM fg body ds e
      | .bk e => pure (.nx e)
      | .rt d => pure (.rt d)
theorem ds_for {tg iter : Expr} {body : List Stmt} {us : List Nat} {fi : Ev → M (List D)} {fg : D → Ev → Option Ev} {fb : Ev → M Out} {pos : Pos} (hp : Po X) (hc : X.calm = true)
    (hi : DI g w0.N Wx Mono X tg iter fi) (hg : DG g w0.N X tg us fg) (hb : DSs g Wx w0 X body fb) (hs : ∀ x, foldedSetIterable iter X.env x = pure x) :
    DS g Wx w0 X (.For tg iter body [] pos) (fun env => do let ds ← fi env; forM fg fb ds env) := by
  refine PS.imp (ps_for hp.po hc hi hg hb hs) fun E σ H ⟨w, env, S, ee, st, q⟩ => ?_
  subst ee
  refine tr_intro st.er st.sr (pst_of st q fun w1 ds S1 J e k1 s1 it q1 => ?_)
  refine ⟨fun i m σ H => i + m = ds.length ∧ ∃ w' env' S', w'.H = H ∧ Mono w1 w' ∧ StR g w0 w' env' S' σ ∧ PstS g Wx w0 w' (forM fg fb (ds.drop i) env' S') E, ⟨ds.length, by omega, w1, env, S1, rfl, Mono.refl _, st.step k1 s1, by rw [List.drop_zero]; exact q1⟩, ?_⟩
  rintro i m σ' H ⟨em, w', env', S', rfl, k', st', p⟩
  by_cases hi : i < ds.length
  · refine .inr ⟨it.go w' i k' hi, fun σ H => ∃ w' env' S', w'.H = H ∧ Mono w1 w' ∧ StR g w0 w' env' S' σ ∧ PstS g Wx w0 w' (forM fg fb (ds.drop (i + 1)) env' S') E, fun σ2 H2 z => ⟨m - 1, by omega, by omega, z⟩, fun x H' y => ?_⟩
    obtain ⟨w2, d, rfl, k2, s2, hd, rx⟩ := it.yld w' S' i x H' k' st'.sr hi y
    have hdrop : ds.drop i = d :: ds.drop (i + 1) := by
      rw [List.drop_eq_getElem_cons hi]
      rw [List.getElem?_eq_getElem hi] at hd
      rw [Option.some.inj hd]
    rw [hdrop] at p
    have p2 := pstS_rebase k2.toMono p
    cases eg : fg d env' with
    | none => simp only [forM, eg] at p2; exact p2.elim
    | some env1 =>
      refine ⟨w2, env', S', d, env1, rfl, st'.er.keep k2, s2, rx, eg, fun σ2 er2 same2 len2 => ?_⟩
      refine ⟨w2, env1, S', rfl, ⟨er2, s2, st'.kp.trans k2⟩, ?_⟩
      simp only [forM, eg] at p2
      have km := k'.trans k2.toMono
      cases eb : fb env1 S' with
      | ok o S3 =>
        rw [bind_ok eb] at p2
        cases o with
        | nx e3 => exact fun w3 σ3 k3 st3 => ⟨w3, e3, S3, rfl, km.trans k3, st3, pstS_rebase k3 p2⟩
        | ct e3 => exact fun w3 σ3 k3 st3 => ⟨w3, e3, S3, rfl, km.trans k3, st3, pstS_rebase k3 p2⟩
        | bk e3 => exact p2
        | rt d3 => exact p2
      | ex c fs S3 => rw [bind_ex eb] at p2; exact p2
      | bad => rw [bind_bad eb] at p2; exact p2
  · have e : ds.drop i = [] := List.drop_eq_nil_of_le (by omega)
    rw [e] at p
    exact .inl ⟨it.stop w' i k' (by omega), p w' σ' (Mono.refl _) st'⟩

/-! ### while -/
def whileM (c : Ev → M Bool) (body : Ev → M Out) : Nat → Ev → M Out
  | 0, _ => fail
  | n + 1, env => do
    let b ← c env
    if b then do
      match ← body env with
      | .nx e => whileM c body n e
      | .ct e => whileM c body n e
      | .bk e => pure (.nx e)
      | .rt d => pure (.rt d)
    else pure (.nx env)
theorem ds_while {c : Expr} {body : List Stmt} {fc : Ev → M Bool} {fb : Ev → M Out} {pos : Pos} {fuel : Ev → Store → Nat} (hp : Po X) (hc : DT g w0.N Wx X c fc) (hb : DSs g Wx w0 X body fb) :
    DS g Wx w0 X (.While c body [] pos) (fun env S => whileM fc fb (fuel env S) env S) := by
  refine PS.imp (ps_while hp.po hc hb) fun E σ H ⟨w, env, S, ee, st, q⟩ => ?_
  subst ee
  refine ⟨fun m σ H => ∃ w' env' S', w'.H = H ∧ StR g w0 w' env' S' σ ∧ PstS g Wx w0 w' (whileM fc fb m env' S') E, ⟨fuel env S, w, env, S, rfl, st, q⟩, ?_⟩
  rintro m σ' H ⟨w', env', S', rfl, st', p⟩
  cases m with
  | zero => exact p.elim
  | succ n =>
    simp only [whileM] at p
    refine tr_intro st'.er st'.sr (pst_of st' p fun w1 b S1 y e k1 s1 r1 q1 => ?_)
    have ey : y = b := r1
    subst ey
    have st1 := st'.step k1 s1
    cases y with
    | false =>
      rw [if_neg Bool.false_ne_true]
      exact q1 w1 σ' (Mono.refl _) st1
    | true =>
      rw [if_pos rfl]
      refine ⟨fun σ H => ∃ w' env' S', w'.H = H ∧ StR g w0 w' env' S' σ ∧ PstS g Wx w0 w' (whileM fc fb n env' S') E, fun σ2 H2 z => ⟨n, Nat.lt_succ_self _, z⟩, w1, env', S1, rfl, st1, ?_⟩
      have q2 : PstS g Wx w0 w1 ((fb env' >>= fun o => match o with
        | .nx e => whileM fc fb n e
        | .ct e => whileM fc fb n e
        | .bk e => pure (.nx e)
        | .rt d => pure (.rt d)) S1) E := q1
      cases eb : fb env' S1 with
      | ok o S3 =>
        rw [bind_ok eb] at q2
        cases o with
        | nx e3 => exact fun w3 σ3 k3 st3 => ⟨w3, e3, S3, rfl, st3, pstS_rebase k3 q2⟩
        | ct e3 => exact fun w3 σ3 k3 st3 => ⟨w3, e3, S3, rfl, st3, pstS_rebase k3 q2⟩
        | bk e3 => exact q2
        | rt d3 => exact q2
      | ex c fs S3 => rw [bind_ex eb] at q2; exact q2
      | bad => rw [bind_bad eb] at q2; exact q2
end
end Pc

set_option Elab.async false
set_option linter.all false
set_option autoImplicit false
set_option maxRecDepth 100000
set_option maxHeartbeats 4000000
/-! Pc, part K: defs and their calls. -/
namespace Pc
open PySem PySem.Spec PyProof.Rows L2
/-- a def's promise, by its meaning -/
def spOf (g : Gc) (n : Nat) (sem : List D → M D) : Sp := fun vs H Q E => ∃ w ds S, w.H = H ∧ ds.length = n ∧ RepL g w vs ds ∧ SR g w S ∧ match sem ds S with
  | .ok d S' => ∀ w' v, Keep w w' → SR g w' S' → Rep g w' v d → Q v w'.H
  | .ex c fs S' => ∀ w' cls dd, Keep w w' → SR g w' S' → ExR g w' cls dd c fs → E cls dd w'.H
  | .bad => False
structure FnG (g : Gc) (P : Program) (w : World) (mg : Str → Option Value) (base : Heap) (b : Bool) (k : Nat) (f : Addr) (fd : FuncData) (ps : List Str) (sem : List D → M D) : Prop where
  run : ∀ (A : Around) (outer : List Env) (s : Shared) (H : Hp) (args : Args) (us : List Value) (vs : List V) (Q : VK) (E : XK), Room k A → (b = true → A.guards = some []) → Env0 P w g.K mg base A outer s H → BindsTo s fd args (ps.zip us) → Vals vs us →
    spOf g ps.length sem vs H Q E → codeAny (model P w) A (.call (.ref f) args) (CR (L2.CX P w) outer P w H s Q E) s
section
variable {g : Gc} {b : Bool} {P : Program} {w : World} {mg : Str → Option Value} {base : Heap} {k : Nat} {f : Addr} {fd : FuncData} {ps : List Str} {sem : List D → M D}
theorem FnG.mono {j : Nat} (F : FnG g P w mg base b j f fd ps sem) (h : j ≤ k) : FnG g P w mg base b k f fd ps sem := ⟨fun A outer s H args us vs Q E hr => F.run A outer s H args us vs Q E (hr.mono h)⟩
theorem FnG.eq {sem' : List D → M D} (F : FnG g P w mg base b k f fd ps sem) (h : sem' = sem) : FnG g P w mg base b k f fd ps sem' := by rw [h]; exact F
def callE (N : Nat) (ds : List D) : Ev := ds.map .val ++ List.replicate (N - ds.length) .no
def bodyM (N : Nat) (f : Ev → M Out) (ds : List D) : M D := do
  match ← f (callE N ds) with
  | .nx _ => pure .non
  | .rt d => pure d
  | _ => fail
theorem er_start {w : Wd} {N : List Str} {N0 : List Addr} {vs : List V} {ds : List D} (r : RepL g w vs ds) : ER g N0 w (callE N.length ds) (L2.start N vs) := by
  have hl := r.length
  have shape : ∀ (i : Nat) s, (callE N.length ds)[i]? = some s → (∃ d, ds[i]? = some d ∧ s = .val d) ∨ s = .no := fun i s h => by
    unfold callE at h
    by_cases hi : i < ds.length
    · rw [List.getElem?_append_left (by simpa using hi), List.getElem?_map] at h
      cases e : ds[i]? with
      | none => rw [e] at h; cases h
      | some d => rw [e] at h; cases h; exact .inl ⟨d, rfl, rfl⟩
    · rw [List.getElem?_append_right (by simpa using hi), List.getElem?_replicate] at h
      split at h
      · cases h; exact .inr rfl
      · cases h
  have no : ∀ i, ¬ ownAt (callE N.length ds) i := fun i ⟨s, h, o⟩ => by
    rcases shape i s h with ⟨d, _, z⟩ | z
    · subst z; cases o
    · subst z; cases o
  refine ⟨?_, fun i d h => ?_, fun i xs h => ?_, fun i xs h => ?_, fun i j _ h => absurd h (no i)⟩
  · unfold L2.start callE
    simp [hl]
  · rcases shape i _ h with ⟨d', h1, z⟩ | z
    · cases z
      obtain ⟨v, e1, e2⟩ := r.get h1
      refine ⟨v, ?_, e2⟩
      have hv : i < vs.length := (List.getElem?_eq_some_iff.mp e1).1
      unfold L2.start
      rw [List.getElem?_append_left (by simpa using hv), List.getElem?_map, e1]
      rfl
    · cases z
  · exact absurd ⟨_, h, rfl⟩ (no i)
  · exact absurd ⟨_, h, rfl⟩ (no i)
/-- THE RULE for a def -/
theorem fnG_of {name qual : Str} {params : Arguments} {body : List Stmt} {scope : Scope} {dV kV doc pm cdv ct oc : Value} {an od : Option Addr} {osl : Array (Option Value)} {N : List Str} {fb : Ev → M Out}
    (lk : g.K.lookup f = some ⟨oc, od, .func (PySem.W.fnOf name qual params body scope dV kV doc pm an cdv ct), osl⟩) (hcd : PySem.W.codeIn g.K cdv qual = true) (S : FnScope N ps scope)
    (hbody : ∀ (X : Cx) (Wx : WX) (w0 : Wd), X.prog = P → X.w = w → X.mg = mg → X.base = base → X.env.scope = scope → X.N = N → (∀ x, X.fn x = true) → Ok g b X k → Takes X Wx → Po X → DSs g Wx w0 X body fb) :
    FnG g P w mg base b (k + 1) f (PySem.W.fnOf name qual params body scope dV kV doc pm an cdv ct) ps (bodyM N.length fb) := by
  refine ⟨fun A outer s H args us vs Q E hr hg e0 hb r hsp => ?_⟩
  obtain ⟨w0, ds, St, rfl, hl, rp, sr, q⟩ := hsp
  have hlv : vs.length = ps.length := by rw [rp.length]; exact hl
  have KX : g.K.In s.heap := e0.mod.kin.keeps fun b o e => (e0.bs b o e).1
  have lim : s.heap.NoLimit := e0.mod.nolimit.keeps fun b o e => (e0.bs b o e).1
  have hkind : ∀ y ∈ ps.zip us, scope.names.lookup y.1 = some .local ∨ (scope.names.lookup y.1 = some .cell ∧ ((cellsFrom (s.heap.objs.size + 1) scope.names []).lookup y.1).isSome = true) := fun ⟨n, v⟩ hy =>
    (S.par n (List.of_mem_zip hy).1).elim .inl fun z => .inr ⟨z, PySem.W.cellsFrom_some _ _ _ (.inl z)⟩
  refine codeAny_call_function hr.depth (KX _ _ lk) rfl S.co S.gen rfl (PySem.W.codeRec_of KX hcd) (hb _ _ _ _ ?_)
  refine wpAny_newFunctionEnv_cells S.kind hkind fun env he s1 x => ?_
  subst he
  refine ⟨lim.keeps x.toInCall.keep, codeAny_func ?_⟩
  have I : Inv (cxOf (L2.CX P w) P w g.K mg base N qual scope f cdv A outer s w0.H E) [] (L2.start N vs) w0.H s1 := inv_start S hr.hd e0 hlv r x
  have ok : Ok g b (cxOf (L2.CX P w) P w g.K mg base N qual scope f cdv A outer s w0.H E) k := ⟨rfl, rfl, S.nd, hr.deeper _, hg⟩
  have B := hbody (cxOf (L2.CX P w) P w g.K mg base N qual scope f cdv A outer s w0.H E) (fun cls d _ H => E cls d H) w0 rfl rfl rfl rfl rfl rfl (fun _ => rfl) ok (takes_of rfl rfl rfl rfl) ⟨passes_of rfl, rfl, rfl⟩
  have st : StR g w0 w0 (callE N.length ds) St (L2.start N vs) := ⟨er_start rp, sr, Keep.refl _⟩
  have hq : trS g (fun cls d _ H => E cls d H) w0 fb { nx := fun _ H' => Q .non H', rt := Q } (L2.start N vs) w0.H := by
    refine ⟨w0, callE N.length ds, St, rfl, st, ?_⟩
    unfold bodyM at q
    cases e : fb (callE N.length ds) St with
    | ok o S1 =>
      rw [bind_ok e] at q
      cases o with
      | nx e1 => exact fun w' σ' _ st' => q w' .non st'.kp st'.sr .non
      | rt d => exact q
      | bk e1 => exact q.elim
      | ct e1 => exact q.elim
    | ex c fs S1 => rw [bind_ex e] at q; exact fun w' _ cls dd _ k' s' z => q w' cls dd k' s' z
    | bad => rw [bind_bad e] at q; exact q
  refine wpAny_mono (B.run [] s1 (L2.start N vs) w0.H _ I hq) (fun fl s' hs => ?_) fun e s' hs => hs
  cases fl with
  | ret u =>
    obtain ⟨v, σ', H', J, rv, q'⟩ := hs
    exact ⟨v, H', J.os, J.bare, J.base, J.hok, rv, q'⟩
  | next =>
    obtain ⟨σ', H', J, q'⟩ := hs
    exact ⟨.non, H', J.os, J.bare, J.base, J.hok, rfl, q'⟩
  | brk =>
    obtain ⟨_, _, _, q'⟩ := hs
    exact q'.elim
  | cont =>
    obtain ⟨_, _, _, q'⟩ := hs
    exact q'.elim
end
/-! ### calls -/
section
variable {g : Gc} {b : Bool} {N0 : List Addr} {Wx : WX} {X : Cx} {k : Nat} {f : Addr} {fd : FuncData} {ps : List Str} {sem : List D → M D}
theorem runG {pins : List (Addr × Obj)} {σ : L2.St} {H : Hp} {s : Shared} {Q : VK} {us : List Value} {vs : List V} (F : FnG g X.prog X.w X.mg X.base b k f fd ps sem) (ok : Ok g b X k) (hb : Binds X.K fd ps []) (tk : Takes X Wx)
    (I : Inv X pins σ H s) (r : Vals vs us) (h : spOf g ps.length sem vs H Q fun cls d H' => Wx cls d σ H') : wpAny (model X.prog X.w) X.A (call (.ref f) us) (EP X pins σ Q) X.xe s := by
  have hl : us.length = ps.length := by
    obtain ⟨w, ds, S, _, h1, h2, _⟩ := h
    rw [← r.length, h2.length]; exact h1
  have bt := hb s us I.kIn (by simpa using hl)
  rw [List.append_nil] at bt
  have e0 := I.env0
  rw [ok.K] at e0
  refine wpAny_call (codeAny_mono (F.run X.A X.stack s H ⟨us, []⟩ us vs Q _ ok.room ok.gd e0 bt r h) fun rr s' hq => ?_)
  cases rr with
  | error e => exact tk e s' (XE.of_call I (fun _ _ _ z => z) hq)
  | ok fl =>
    cases fl with
    | ret u => exact I.after hq
    | next => exact hq.elim
    | brk => exact hq.elim
    | cont => exact hq.elim
/-- the meaning of a call, for what follows it -/
theorem sp_of_pst {σ : L2.St} {w : Wd} {vs : List V} {ds : List D} {S : Store} {Q : VK} {n : Nat} (hn : ds.length = n) (r : RepL g w vs ds) (sr : SR g w S) (q : Pst g Wx σ (rl g) w (sem ds S) Q) : spOf g n sem vs w.H Q fun cls d H' => Wx cls d σ H' := by
  refine ⟨w, ds, S, rfl, hn, r, sr, ?_⟩
  cases e : sem ds S with
  | ok d S' => rw [e] at q; exact q
  | ex c fs S' => rw [e] at q; exact q
  | bad => rw [e] at q; exact q
/-- a def of the module, by its name -/
structure Fnm (g : Gc) (b : Bool) (X : Cx) (k : Nat) (x : Str) (n : Nat) (sem : List D → M D) : Prop where
  ex : ∃ (f : Addr) (fd : FuncData) (ps : List Str), ps.length = n ∧ FnG g X.prog X.w X.mg X.base b k f fd ps sem ∧ X.mg x = some (.ref f) ∧ PySem.W.keepIn X.K (.ref f) = true ∧ Binds X.K fd ps []
  nd : (x == ("__debug__" : Str)) = false
def callN (n : Nat) (sem : List D → M D) (ds : List D) : M D := if ds.length = n then sem ds else fail
theorem de_call {x : Str} {e : Expr} {es : List Expr} {p pos : Pos} {n : Nat} {fa : Ev → M (List D)} (F : Fnm g b X k x n sem) (ok : Ok g b X k) (hg : Gl X x) (tk : Takes X Wx) (hs : (e :: es).all notStar = true) (ha : DA g N0 Wx X (e :: es) fa) :
    DE g N0 Wx X (.Call (.Name x p) (e :: es) [] pos) (fun env => do let ds ← fa env; callN n sem ds) := by
  obtain ⟨f, fd, ps, hn, G, hm, hk, hb⟩ := F.ex
  simp only [List.all_cons, Bool.and_eq_true] at hs
  refine ⟨fun pins s σ H Q I ⟨w, env, S, ee, er, sr, q⟩ => ?_⟩
  subst ee
  refine wpAny_Call_Name_kw (ld_glob I hg hm ?_ F.nd)
  refine PySem.W.callWith_K (h₀ := X.base) I.ok.mod.kin hk (thn (ha.run pos pins s σ w.H _ I (tr_intro er sr (pst_bind (relA := rlL g) (fun _ _ _ _ _ z => z) q))) fun us s1 ⟨vs, H1, I1, r, w1, ds, S1, e1, k1, s1', r1, q1⟩ => ⟨I1.kIn, ?_⟩) (star_cons hs.1) (star_any hs.2)
  subst e1
  unfold callN at q1
  by_cases hl : ds.length = n
  · rw [if_pos hl] at q1
    exact runG G ok hb tk I1 r (sp_of_pst (hl.trans hn.symm) r1 s1' q1)
  · rw [if_neg hl] at q1; exact q1.elim
theorem de_call0 {x : Str} {p pos : Pos} {n : Nat} (F : Fnm g b X k x n sem) (ok : Ok g b X k) (hg : Gl X x) (tk : Takes X Wx) : DE g N0 Wx X (.Call (.Name x p) [] [] pos) (fun _ => callN n sem []) := by
  obtain ⟨f, fd, ps, hn, G, hm, hk, hb⟩ := F.ex
  refine ⟨fun pins s σ H Q I ⟨w, env, S, ee, er, sr, q⟩ => ?_⟩
  subst ee
  refine wpAny_Call_Name_kw (ld_glob I hg hm ?_ F.nd)
  unfold callN at q
  by_cases hl : ([] : List D).length = n
  · rw [if_pos hl] at q
    exact PySem.W.callWith_K0 I.kIn hk (runG (us := []) (vs := []) G ok hb tk I .nil (sp_of_pst (hl.trans hn.symm) .nil sr q))
  · rw [if_neg hl] at q; exact q.elim
end
end Pc

set_option Elab.async false
set_option linter.all false
set_option autoImplicit false
set_option maxRecDepth 100000
set_option maxHeartbeats 4000000
/-! Pc, part L: lists and dicts that are changed; several targets. -/
namespace Pc
open PySem PySem.Spec PyProof.Rows L2
section
variable {g : Gc} {Wx : WX} {w0 : Wd} {X : Cx}
/-- an object that may be written, no tuple, no locked one -/
def Wr (u : HO) : Prop := (∀ xs, u ≠ .tup xs) ∧ ∀ ob z, u ≠ .frz ob z
theorem wr_lst {xs : List V} : Wr (.lst xs) := ⟨fun _ z => (by cases z), fun _ _ z => (by cases z)⟩
theorem wr_dK {xs : List (Key × V)} : Wr (.dK xs) := ⟨fun _ z => (by cases z), fun _ _ z => (by cases z)⟩
theorem wr_ins {C dx : Addr} {xs : List (Str × V)} : Wr (.ins C dx xs) := ⟨fun _ z => (by cases z), fun _ _ z => (by cases z)⟩
theorem keep_hnd {w : Wd} {a : Addr} {u o : HO} (h : w.H a = some u) (wr : Wr u) (hm : a ∈ w.m) (hN : a ∈ w.N) : Keep w ⟨upd w.H a o, w.N, w.m⟩ := by
  refine ⟨mono_own h wr.1 wr.2 hN, fun b z e n => ?_, fun _ z => z, fun _ z => .inl z⟩
  show upd w.H a o b = some z
  rw [upd_ne (fun (q : b = a) => n (by rw [q]; exact hm))]; exact e
theorem ObR.mono {w w' : Wd} {b : Addr} {ob : Ob} (k : Mono w w') (e : w'.H b = w.H b) (r : ObR g w b ob) : ObR g w' b ob := by
  cases ob with
  | lst xs => obtain ⟨vs, e1, e2⟩ := r; exact ⟨vs, by rw [e]; exact e1, e2.mono k⟩
  | dct xs => obtain ⟨vs, e1, e2⟩ := r; exact ⟨vs, by rw [e]; exact e1, e2.mono k⟩
  | ins c fs => obtain ⟨dx, vs, e1, e2⟩ := r; exact ⟨dx, vs, by rw [e]; exact e1, e2.mono k⟩
theorem SR.hnd {w : Wd} {S : Store} {h : Nat} {a : Addr} {u o : HO} {ob : Ob} (s : SR g w S) (hu : w.H a = some u) (wr : Wr u) (hm : w.m[h]? = some a) (r : ObR g ⟨upd w.H a o, w.N, w.m⟩ a ob) : SR g ⟨upd w.H a o, w.N, w.m⟩ (S.set h ob) := by
  have ham := List.mem_of_getElem? hm
  have mo := mono_own (o := o) hu wr.1 wr.2 (s.sub a ham)
  refine ⟨by simpa using s.len, s.nd, s.sub, fun b hb => ?_, fun i ob' e => ?_⟩
  · by_cases q : b = a
    · subst q; exact ⟨o, upd_same⟩
    · obtain ⟨z, e⟩ := s.here b hb
      exact ⟨z, by show upd w.H a o b = _; rw [upd_ne q]; exact e⟩
  · by_cases q : h = i
    · subst q
      by_cases hl : h < S.length
      · rw [List.getElem?_set_self hl] at e; cases e; exact ⟨a, hm, r⟩
      · rw [List.getElem?_eq_none (by simpa using hl)] at e; cases e
    · rw [List.getElem?_set_ne q] at e
      obtain ⟨b, e1, e2⟩ := s.at_ i ob' e
      refine ⟨b, e1, e2.mono mo ?_⟩
      show upd w.H a o b = w.H b
      refine upd_ne fun z => q ?_
      subst z
      obtain ⟨l1, g1⟩ := List.getElem?_eq_some_iff.mp hm
      obtain ⟨l2, g2⟩ := List.getElem?_eq_some_iff.mp e1
      exact (List.getElem_inj s.nd).mp (g1.trans g2.symm)
/-- a slot's own object is changed -/
theorem StR.own_upd {w : Wd} {env : Ev} {S : Store} {σ : L2.St} {i : Nat} {a : Addr} {u o : HO} {s : Sl} (st : StR g w0 w env S σ) (oi : ownAt env i) (hv : σ[i]? = some (some (.ref a))) (hu : w.H a = some u) (wr : Wr u) (hN : a ∈ w.N) (hm : a ∉ w.m) (h0 : a ∉ w0.N)
    (r : SlR g ⟨upd w.H a o, w.N, w.m⟩ (.ref a) s) : Mono w ⟨upd w.H a o, w.N, w.m⟩ ∧ StR g w0 ⟨upd w.H a o, w.N, w.m⟩ (env.set i s) S σ := by
  have mo := mono_own (o := o) hu wr.1 wr.2 hN
  refine ⟨mo, ?_, st.sr.own hu wr.1 wr.2 hN hm, ?_⟩
  · have e0 : ER g w0.N ⟨upd w.H a o, w.N, w.m⟩ (env.set i .no) (σ.set i none) := by
      have er := st.er
      have ne : ∀ (j : Nat) (t : Sl), (env.set i .no)[j]? = some t → t.isOwn = true ∨ (∃ d, t = .val d) → i ≠ j ∧ env[j]? = some t := fun j t h ht => by
        by_cases q : i = j
        · subst q
          by_cases hi : i < env.length
          · rw [List.getElem?_set_self hi] at h; cases h
            rcases ht with z | ⟨d, z⟩ <;> cases z
          · rw [List.getElem?_eq_none (by simpa using hi)] at h; cases h
        · rw [List.getElem?_set_ne q] at h; exact ⟨q, h⟩
      refine ⟨by simpa using er.len, fun j d h => ?_, fun j xs h => ?_, fun j xs h => ?_, fun j k hjk h1 h2 => ?_⟩
      · obtain ⟨q, z⟩ := ne j _ h (.inr ⟨d, rfl⟩)
        obtain ⟨v, h1, h2⟩ := er.val j d z
        exact ⟨v, by rw [List.getElem?_set_ne q]; exact h1, h2.mono mo⟩
      · obtain ⟨q, z⟩ := ne j _ h (.inl rfl)
        obtain ⟨b, vs, h1, h2, h3, h4, h5, h6⟩ := er.own j xs z
        refine ⟨b, vs, by rw [List.getElem?_set_ne q]; exact h1, ?_, h3, h4, h5, h6.mono mo⟩
        show upd w.H a o b = _
        rw [upd_ne fun (z2 : b = a) => er.ap i j q oi ⟨_, z, rfl⟩ (by rw [hv, h1, z2])]
        exact h2
      · obtain ⟨q, z⟩ := ne j _ h (.inl rfl)
        obtain ⟨b, vs, h1, h2, h3, h4, h5, h6⟩ := er.owd j xs z
        refine ⟨b, vs, by rw [List.getElem?_set_ne q]; exact h1, ?_, h3, h4, h5, h6.mono mo⟩
        show upd w.H a o b = _
        rw [upd_ne fun (z2 : b = a) => er.ap i j q oi ⟨_, z, rfl⟩ (by rw [hv, h1, z2])]
        exact h2
      · obtain ⟨s1, e1, o1⟩ := h1
        obtain ⟨s2, e2, o2⟩ := h2
        obtain ⟨q1, z1⟩ := ne j _ e1 (.inl o1)
        obtain ⟨q2, z2⟩ := ne k _ e2 (.inl o2)
        rw [List.getElem?_set_ne q1, List.getElem?_set_ne q2]
        exact er.ap j k hjk ⟨s1, z1, o1⟩ ⟨s2, z2, o2⟩
    have e1 := e0.set_sl (i := i) r fun _ => ⟨fun b eb => by cases eb; exact h0, fun j oj q => ?_⟩
    · have es : (env.set i .no).set i s = env.set i s := by rw [List.set_set]
      have eσ : (σ.set i none).set i (some (V.ref a)) = σ := by
        rw [List.set_set]
        apply List.ext_getElem?
        intro j
        by_cases q : i = j
        · subst q
          rw [List.getElem?_set_self (List.getElem?_eq_some_iff.mp hv).1, hv]
        · rw [List.getElem?_set_ne q]
      rw [es, eσ] at e1
      exact e1
    · have hij : i ≠ j := fun z => by
        subst z
        obtain ⟨t, h1, h2⟩ := oj
        by_cases hi : i < env.length
        · rw [List.getElem?_set_self hi] at h1; cases h1; cases h2
        · rw [List.getElem?_eq_none (by simpa using hi)] at h1; cases h1
      rw [List.getElem?_set_ne hij] at q
      obtain ⟨t, h1, h2⟩ := oj
      rw [List.getElem?_set_ne hij] at h1
      exact st.er.ap i j hij oi ⟨t, h1, h2⟩ (by rw [hv, q])
  · refine ⟨st.kp.toMono.trans mo, fun b z e n => ?_, st.kp.sub, st.kp.newm⟩
    show upd w.H a o b = some z
    rw [upd_ne fun (q : b = a) => ?_]
    · exact st.kp.kp b z e n
    · subst q
      rcases st.kp.new b hN with q | q
      · exact h0 q
      · rw [q] at e; cases e

/-! ### x.append(e), x.extend(e), x.pop(), x.pop(i) : what changes a list -/
def baseOk : Expr → Bool
  | .Call (.Name _ _) [] [] _ => false
  | _ => true
theorem base_ok {o : Expr} {a : Str} {env : Env} {w : Sem Value} (h : baseOk o = true) : attributeBase o a env w = w := by
  cases o with
  | Call f as ks p =>
    cases as with
    | nil =>
      cases ks with
      | nil => cases f <;> first | rfl | cases h
      | cons _ _ => cases f <;> rfl
    | cons _ _ => cases f <;> rfl
  | _ => rfl
theorem few_ok {es : List Expr} {cpos : Pos} {env : Env} (h : es.all notStar = true) (hl : es.length < 30) : ((backTo cpos (starEach es env)).all (fun x => !x.1) && (backToKw cpos (keywordEach [] env)).all (fun x => x.1.isSome)
      && decide (es.length + ([] : List Keyword).length + (if ([] : List Keyword).isEmpty then 0 else 1) < 30)) = true := by
  have h1 : (backTo cpos (starEach es env)).all (fun x => !x.1) = true := by
    have q := star_any (pos := cpos) (env := env) h
    rw [List.all_eq_true]
    intro x hx
    cases e : x.1 with
    | false => rfl
    | true =>
      have : (backTo cpos (starEach es env)).any (·.1) = true := List.any_eq_true.mpr ⟨x, hx, e⟩
      rw [q] at this; cases this
  rw [h1, Bool.true_and]
  have h2 : (backToKw cpos (keywordEach [] env)).all (fun x => x.1.isSome) = true := rfl
  rw [h2, Bool.true_and]
  exact decide_eq_true (by simpa using hl)
/-- a method that changes a list: what it gives, the list behind it -/
abbrev Chg := List D → List D → Option (D × List D)
def ChgR (g : Gc) (r : V → List V → Hp → VK → Prop) (sem : Chg) : Prop :=
  ∀ (w : Wd) (l : Addr) (vs : List V) (xs : List D) (us : List V) (ds : List D) (d : D) (ys : List D) (Q : VK), sem xs ds = some (d, ys) → w.H l = some (.lst vs) → RepL g w vs xs → RepL g w us ds →
    (∀ v vs', Rep g w v d → RepL g w vs' ys → Q v (upd w.H l (.lst vs'))) → r (.ref l) us w.H Q
def appC : Chg := fun xs ds => match ds with
  | [d] => if xs.length < sizeLine then some (.non, xs ++ [d]) else none
  | _ => none
theorem RepL.one {w : Wd} {vs : List V} {d : D} (h : RepL g w vs [d]) : ∃ v, vs = [v] ∧ Rep g w v d := by
  cases h with
  | cons r t => cases t; exact ⟨_, rfl, r⟩
theorem ch_app : ChgR g rAppend appC := fun w l vs xs us ds d ys Q e hl r ra q => by
  unfold appC at e
  split at e
  · split at e
    · rename_i y h
      cases e
      obtain ⟨v, rfl, rv⟩ := ra.one
      exact ⟨l, vs, v, rfl, rfl, hl, by rw [r.length]; exact h, q .non _ .non (r.append (.cons rv .nil))⟩
    · cases e
  · cases e
def extC : Chg := fun xs ds => match ds with
  | [.lst zs] => if xs.length + zs.length ≤ sizeLine then some (.non, xs ++ zs) else none
  | _ => none
/-- the argument is a frozen list that stands by itself -/
theorem ch_ext : ∀ (w : Wd) (l : Addr) (vs : List V) (xs : List D) (us : List V) (ds : List D) (d : D) (ys : List D) (Q : VK), extC xs ds = some (d, ys) → w.H l = some (.lst vs) → RepL g w vs xs → (∃ b zs zd, us = [.ref b] ∧ ds = [.lst zd] ∧ w.H b = some (.lst zs) ∧ RepL g w zs zd) →
    (∀ v vs', Rep g w v d → RepL g w vs' ys → Q v (upd w.H l (.lst vs'))) → rExtend (.ref l) us w.H Q := fun w l vs xs us ds d ys Q e hl r ra q => by
  obtain ⟨b, zs, zd, rfl, rfl, hb, rb⟩ := ra
  unfold extC at e
  by_cases h : xs.length + zd.length ≤ sizeLine
  · simp only [h, if_true] at e
    cases e
    exact ⟨l, b, vs, zs, rfl, rfl, hl, hb, by rw [r.length, rb.length]; exact h, q .non _ .non (r.append rb)⟩
  · simp only [h, if_false] at e
    cases e
def popC : Chg := fun xs ds => match ds with
  | [] => (xs[xs.length - 1]?).map fun d => (d, xs.dropLast)
  | _ => none
theorem ch_pop : ChgR g rPop popC := fun w l vs xs us ds d ys Q e hl r ra q => by
  cases ds with
  | nil =>
    cases ra
    unfold popC at e
    cases ex : xs[xs.length - 1]? with
    | none => simp only [ex] at e; cases e
    | some y =>
      simp only [ex, Option.map_some] at e
      cases e
      obtain ⟨v, e1, e2⟩ := r.get ex
      exact ⟨l, vs, v, rfl, rfl, hl, by rw [r.length]; exact e1, q v _ e2 r.dropLast⟩
  | cons _ _ => cases e
def popAtC : Chg := fun xs ds => match ds with
  | [.int i] => if 0 ≤ i ∧ i < xs.length ∧ i < 2 ^ 63 then (xs[i.toNat]?).map fun d => (d, xs.eraseIdx i.toNat) else none
  | _ => none
theorem ch_popAt : ChgR g rPopAt popAtC := fun w l vs xs us ds d ys Q e hl r ra q => by
  unfold popAtC at e
  split at e
  · split at e
    · rename_i i h
      cases ex : xs[i.toNat]? with
      | none => simp only [ex] at e; cases e
      | some y =>
        simp only [ex, Option.map_some] at e
        cases e
        obtain ⟨u, rfl, ru⟩ := ra.one
        cases ru
        obtain ⟨v, e1, e2⟩ := r.get ex
        have hs : seqIndex? i vs.length = some i.toNat := seqIndex_of h.1 (by rw [r.length]; exact h.2.1)
        exact ⟨l, vs, i, i.toNat, v, rfl, rfl, hl, by omega, h.2.2, hs, e1, q v _ e2 (r.eraseIdx _)⟩
    · cases e
  · cases e
/-- a list method by its name -/
structure Mth (X : Cx) (name : Str) (id : String) (r : V → List V → Hp → VK → Prop) : Prop where
  slot : Slot "list" name id
  ty : typeOf (.builtin id) = pure (.type "method_descriptor")
  mt : MtR X id r
/-- the store's list behind a handle is changed -/
def chgO (h : Nat) (sem : Chg) (ds : List D) : M D := fun S => match S[h]? with
  | some (.lst xs) => (match sem xs ds with
    | some (d, ys) => .ok d (S.set h (.lst ys))
    | none => .bad)
  | _ => .bad
def chgH (sem : Chg) (o : D) (ds : List D) : M D := match o with
  | .obj h => chgO h sem ds
  | _ => fail
theorem hnd_step {w : Wd} {S : Store} {h : Nat} {a : Addr} {vs vs' : List V} {xs ys : List D} (s : SR g w S) (hm : w.m[h]? = some a) (hu : w.H a = some (.lst vs)) (r : RepL g w vs' ys) :
    Keep w ⟨upd w.H a (.lst vs'), w.N, w.m⟩ ∧ SR g ⟨upd w.H a (.lst vs'), w.N, w.m⟩ (S.set h (.lst ys)) := by
  have ham := List.mem_of_getElem? hm
  have k := keep_hnd (o := .lst vs') hu wr_lst ham (s.sub a ham)
  exact ⟨k, s.hnd hu wr_lst hm ⟨vs', upd_same, r.mono k.toMono⟩⟩
section
variable {N0 : List Addr} {o e : Expr} {es : List Expr} {fo : Ev → M D} {fa : Ev → M (List D)} {name : Str} {id : String} {r : V → List V → Hp → VK → Prop} {sem : Chg} {apos cpos : Pos}
theorem rep_obj {w : Wd} {v : V} {h : Nat} (r : Rep g w v (.obj h)) : ∃ a, v = .ref a ∧ w.m[h]? = some a := by
  cases r with
  | obj e => exact ⟨_, rfl, e⟩
/-- it is a list, now -/
def isL (x : D) : M Unit := fun S => match x with
  | .obj h => (match S[h]? with
    | some (.lst _) => .ok () S
    | _ => .bad)
  | _ => .bad
theorem isL_ok {x : D} {S S' : Store} {u : Unit} (h : isL x S = .ok u S') : S' = S ∧ ∃ k xs, x = .obj k ∧ S[k]? = some (.lst xs) := by
  cases x with
  | obj k =>
    unfold isL at h
    cases e : S[k]? with
    | none => simp only [e] at h; cases h
    | some ob =>
      cases ob with
      | lst xs => simp only [e] at h; cases h; exact ⟨rfl, k, xs, rfl, e⟩
      | dct _ => simp only [e] at h; cases h
      | ins _ _ => simp only [e] at h; cases h
  | _ => cases h
theorem chgO_ok {h : Nat} {ds : List D} {S S' : Store} {d : D} (q : chgO h sem ds S = .ok d S') : ∃ xs ys, S[h]? = some (.lst xs) ∧ sem xs ds = some (d, ys) ∧ S' = S.set h (.lst ys) := by
  unfold chgO at q
  cases e : S[h]? with
  | none => simp only [e] at q; cases q
  | some ob =>
    cases ob with
    | lst xs =>
      simp only [e] at q
      cases e2 : sem xs ds with
      | none => simp only [e2] at q; cases q
      | some p => simp only [e2] at q; cases q; exact ⟨xs, p.2, rfl, e2, rfl⟩
    | dct _ => simp only [e] at q; cases q
    | ins _ _ => simp only [e] at q; cases q
theorem chgO_cases (h : Nat) (ds : List D) (S : Store) : chgO h sem ds S = .bad ∨ ∃ d S', chgO h sem ds S = .ok d S' := by
  cases e : chgO h sem ds S with
  | ok d S' => exact .inr ⟨d, S', rfl⟩
  | bad => exact .inl rfl
  | ex c fs S' =>
    unfold chgO at e
    split at e
    · split at e <;> cases e
    · cases e
/-- the change itself, at a handle -/
theorem chg_at {σ : L2.St} {w : Wd} {S : Store} {h : Nat} {us : List V} {ds : List D} {a : Addr} {Q : VK} (hc : ChgR g r sem) (sr : SR g w S) (hm : w.m[h]? = some a) (ra : RepL g w us ds) (q : Pst g Wx σ (rl g) w (chgO h sem ds S) Q) : r (.ref a) us w.H Q := by
  rcases chgO_cases (sem := sem) h ds S with e | ⟨d, S', e⟩
  · rw [e] at q; exact q.elim
  · rw [e] at q
    obtain ⟨xs, ys, e1, e2, rfl⟩ := chgO_ok e
    obtain ⟨b, e3, vs, e4, e5⟩ := sr.at_ h _ e1
    rw [hm] at e3
    cases e3
    refine hc w a vs xs us ds d ys Q e2 e4 e5 ra fun v vs' rv rl' => ?_
    obtain ⟨k, s⟩ := hnd_step (xs := xs) sr hm e4 rl'
    exact q ⟨upd w.H a (.lst vs'), w.N, w.m⟩ v k s (rv.mono k.toMono)
/-- o.m(e, ..), o a handle's list -/
theorem de_chg (hK : X.K = g.K) (Mt : Mth X name id r) (hc : ChgR g r sem) (hb : baseOk o = true) (hl : (apos.endLine == cpos.line) = true) (hs : (e :: es).all notStar = true) (hn : (e :: es).length < 30) (ho : DE g N0 Wx X o fo) (ha : DA g N0 Wx X (e :: es) fa) :
    DE g N0 Wx X (.Call (.Attribute o name apos) (e :: es) [] cpos) (fun env => do let x ← fo env; let _ ← isL x; let ds ← fa env; chgH sem x ds) := by
  have hs' := hs
  simp only [List.all_cons, Bool.and_eq_true] at hs'
  refine PE.imp (pe_bm PySem.F.plainAttrs_list Mt.slot Mt.ty Mt.mt ho ha (base_ok hb) (few_ok hs hn) hl (star_cons hs'.1) (star_any hs'.2)) fun σ H Q ⟨w, env, S, ee, er, sr, q⟩ => ?_
  subst ee
  refine tr_intro er sr (pst_imp (pst_bind (relA := rl g) (fun _ _ _ _ _ z => z) q) fun x H1 ⟨w1, d, S1, e1, k1, s1, r1, q1⟩ => ?_)
  subst e1
  cases ei : isL d S1 with
  | bad => rw [bind_bad ei] at q1; exact q1.elim
  | ex c fs S2 =>
    exfalso
    unfold isL at ei
    split at ei
    · split at ei <;> cases ei
    · cases ei
  | ok u S2 =>
    rw [bind_ok ei] at q1
    obtain ⟨rfl, k, xs, rfl, ek⟩ := isL_ok ei
    obtain ⟨a, rfl, hm⟩ := rep_obj r1
    obtain ⟨b, e3, vs, e4, e5⟩ := s1.at_ k _ ek
    rw [hm] at e3
    cases e3
    refine ⟨.inl ⟨rfl, vs, .inl (.inl e4)⟩, tr_intro (er.keep k1) s1 (pst_imp (pst_bind (relA := rlL g) (fun _ _ _ _ _ z => z) q1) fun us H2 ⟨w2, ds, S3, e2, k2, s2, r2, q2⟩ => ?_)⟩
    subst e2
    exact chg_at hc s2 (k2.mp k a hm) r2 q2
/-- o.m() -/
theorem de_chg0 (hK : X.K = g.K) (Mt : Mth X name id r) (hc : ChgR g r sem) (hb : baseOk o = true) (hl : (apos.endLine == cpos.line) = true) (ho : DE g N0 Wx X o fo) :
    DE g N0 Wx X (.Call (.Attribute o name apos) [] [] cpos) (fun env => do let x ← fo env; let _ ← isL x; chgH sem x []) := by
  refine PE.imp (pe_bm0 PySem.F.plainAttrs_list Mt.slot Mt.ty Mt.mt ho (base_ok hb) hl) fun σ H Q ⟨w, env, S, ee, er, sr, q⟩ => ?_
  subst ee
  refine tr_intro er sr (pst_imp (pst_bind (relA := rl g) (fun _ _ _ _ _ z => z) q) fun x H1 ⟨w1, d, S1, e1, k1, s1, r1, q1⟩ => ?_)
  subst e1
  cases ei : isL d S1 with
  | bad => rw [bind_bad ei] at q1; exact q1.elim
  | ex c fs S2 =>
    exfalso
    unfold isL at ei
    split at ei
    · split at ei <;> cases ei
    · cases ei
  | ok u S2 =>
    rw [bind_ok ei] at q1
    obtain ⟨rfl, k, xs, rfl, ek⟩ := isL_ok ei
    obtain ⟨a, rfl, hm⟩ := rep_obj r1
    obtain ⟨b, e3, vs, e4, e5⟩ := s1.at_ k _ ek
    rw [hm] at e3
    cases e3
    exact ⟨.inl ⟨rfl, vs, .inl (.inl e4)⟩, chg_at hc s1 hm .nil q1⟩
/-- x.m(e, ..) as a statement, x a slot: its own list, or a handle -/
def chgS (i : Nat) (sem : Chg) (fa : Ev → M (List D)) : Ev → M Out := fun env => match env[i]? with
  | some (.own xs) => do
    let ds ← fa env
    match sem xs ds with
    | some (_, ys) => pure (.nx (env.set i (.own ys)))
    | none => fail
  | _ => do
    let x ← rd i env
    let _ ← isL x
    let ds ← fa env
    let _ ← chgH sem x ds
    pure (.nx env)
theorem StR.chg {w : Wd} {env : Ev} {S : Store} {σ : L2.St} {i : Nat} {a : Addr} {vs vs' : List V} {xs ys : List D} (st : StR g w0 w env S σ) (oi : env[i]? = some (.own xs)) (hv : σ[i]? = some (some (.ref a))) (hu : w.H a = some (.lst vs)) (hN : a ∈ w.N) (hm : a ∉ w.m) (h0 : a ∉ w0.N) (r : RepL g w vs' ys) :
    Mono w ⟨upd w.H a (.lst vs'), w.N, w.m⟩ ∧ StR g w0 ⟨upd w.H a (.lst vs'), w.N, w.m⟩ (env.set i (.own ys)) S σ :=
  st.own_upd ⟨_, oi, rfl⟩ hv hu wr_lst hN hm h0 ⟨a, vs', rfl, upd_same, hN, hm, r.mono (mono_own hu wr_lst.1 wr_lst.2 hN)⟩
theorem ds_chg {i : Nat} {x : Str} {p pos : Pos} (hK : X.K = g.K) (hv : PE X (.Name x p) (tVar i)) (Mt : Mth X name id r) (hc : ChgR g r sem) (hl : (apos.endLine == cpos.line) = true) (hs : (e :: es).all notStar = true) (hn : (e :: es).length < 30) (ha : DA g w0.N Wx X (e :: es) fa) :
    DS g Wx w0 X (.Expr (.Call (.Attribute (.Name x p) name apos) (e :: es) [] cpos) pos) (chgS i sem fa) := by
  have hs' := hs
  simp only [List.all_cons, Bool.and_eq_true] at hs'
  refine PS.imp (ps_expr (pe_bm PySem.F.plainAttrs_list Mt.slot Mt.ty Mt.mt hv ha (base_ok rfl) (few_ok hs hn) hl (star_cons hs'.1) (star_any hs'.2)) (swaps_no rfl)) fun E σ H ⟨w, env, S, ee, st, q⟩ => ?_
  subst ee
  by_cases ho : ∃ xs, env[i]? = some (.own xs)
  · obtain ⟨xs, ho⟩ := ho
    have q0 : PstS g Wx w0 w ((fa env >>= fun ds => match sem xs ds with
      | some (_, ys) => pure (.nx (env.set i (.own ys)))
      | none => fail) S) E := by
      unfold chgS at q
      simp only [ho] at q
      exact q
    obtain ⟨a, vs, h1, h2, h3, h4, h5, h6⟩ := st.er.own i xs ho
    refine ⟨_, h1, .inl ⟨rfl, vs, .inl (.inl h2)⟩, tr_intro st.er st.sr (pst_of st q0 fun w1 ds S1 us e k1 s1 r1 q1 => ?_)⟩
    have st1 := st.step k1 s1
    obtain ⟨a', vs1, g1, g2, g3, g4, g5, g6⟩ := st1.er.own i xs ho
    rw [h1] at g1
    cases g1
    cases es : sem xs ds with
    | none => simp only [es] at q1; exact q1.elim
    | some pr =>
      obtain ⟨d, ys⟩ := pr
      simp only [es] at q1
      refine hc w1 a vs1 xs us ds d ys _ es g2 g6 r1 fun v vs' rv rl' => ?_
      obtain ⟨mo, st2⟩ := st1.chg ho h1 g2 g3 g4 g5 rl'
      exact q1 ⟨upd w1.H a (.lst vs'), w1.N, w1.m⟩ σ mo st2
  · have q0 : PstS g Wx w0 w ((rd i env >>= fun x => isL x >>= fun _ => fa env >>= fun ds => chgH sem x ds >>= fun _ => pure (.nx env)) S) E := by
      have e : chgS i sem fa env = (rd i env >>= fun x => isL x >>= fun _ => fa env >>= fun ds => chgH sem x ds >>= fun _ => pure (.nx env)) := by
        unfold chgS
        split
        · rename_i xs hh; exact absurd ⟨xs, hh⟩ ho
        · rfl
      rw [e] at q
      exact q
    cases hd : env[i]? with
    | none =>
      have e1 : rd i env S = .bad := by unfold rd; rw [hd]; rfl
      rw [bind_bad e1] at q0; exact q0.elim
    | some sl =>
      cases sl with
      | val d =>
        have e1 : rd i env S = .ok d S := by unfold rd; rw [hd]; rfl
        rw [bind_ok e1] at q0
        obtain ⟨v, h1, h2⟩ := st.er.val i d hd
        cases ei : isL d S with
        | bad => rw [bind_bad ei] at q0; exact q0.elim
        | ex c fs S2 =>
          exfalso
          unfold isL at ei
          split at ei
          · split at ei <;> cases ei
          · cases ei
        | ok u S2 =>
          rw [bind_ok ei] at q0
          obtain ⟨rfl, k, xs, rfl, ek⟩ := isL_ok ei
          obtain ⟨a, rfl, hm⟩ := rep_obj h2
          obtain ⟨b, e3, vs, e4, e5⟩ := st.sr.at_ k _ ek
          rw [hm] at e3
          cases e3
          refine ⟨_, h1, .inl ⟨rfl, vs, .inl (.inl e4)⟩, tr_intro st.er st.sr (pst_of st q0 fun w1 ds S1 us e k1 s1 r1 q1 => ?_)⟩
          have st1 := st.step k1 s1
          refine chg_at (Wx := Wx) (σ := σ) (S := S1) (h := k) hc s1 (k1.mp k a hm) r1 ?_
          refine pst_of (x := chgH sem (.obj k) ds) (k := fun _ => pure (.nx env)) st1 q1 fun w2 d2 S2' y e k2 s2 r2 q2 => ?_
          exact q2 w2 σ (Mono.refl _) (st1.step k2 s2)
      | _ =>
        have e1 : rd i env S = .bad := by unfold rd; rw [hd]; rfl
        rw [bind_bad e1] at q0; exact q0.elim
end
end
end Pc

set_option Elab.async false
set_option linter.all false
set_option autoImplicit false
set_option maxRecDepth 100000
set_option maxHeartbeats 4000000
/-! Pc, part M: more assignments, operators that give new lists, sorted. -/
namespace Pc
open PySem PySem.Spec PyProof.Rows L2
section
variable {g : Gc} {Wx : WX} {w0 : Wd} {X : Cx} {N0 : List Addr}
/-! ### several slots at once -/
inductive SlRs (g : Gc) (w w' : Wd) : List V → List Sl → Prop
  | nil : SlRs g w w' [] []
  | cons {v : V} {s : Sl} {vs : List V} {ss : List Sl} : rlX g w w' v s → (s.isOwn = true → ∀ (j : Nat) t, ss[j]? = some t → t.isOwn = true → vs[j]? ≠ some v) → SlRs g w w' vs ss → SlRs g w w' (v :: vs) (s :: ss)
theorem SlR.keep {w w' : Wd} {v : V} {s : Sl} (k : Keep w w') (h : SlR g w v s) : SlR g w' v s := by
  cases s with
  | no => exact h
  | val d => exact Rep.mono k.toMono h
  | own xs =>
    obtain ⟨a, vs, e, h1, h2, h3, h4⟩ := h
    refine ⟨a, vs, e, k.kp a _ h1 h3, k.sub a h2, fun q => ?_, h4.mono k.toMono⟩
    rcases k.newm a q with z | z
    · exact h3 z
    · rw [z] at h1; cases h1
  | owd xs =>
    obtain ⟨a, vs, e, h1, h2, h3, h4⟩ := h
    refine ⟨a, vs, e, k.kp a _ h1 h3, k.sub a h2, fun q => ?_, h4.mono k.toMono⟩
    rcases k.newm a q with z | z
    · exact h3 z
    · rw [z] at h1; cases h1
theorem SlR.in_N {w : Wd} {v : V} {s : Sl} (h : SlR g w v s) (o : s.isOwn = true) : ∃ a, v = .ref a ∧ a ∈ w.N := by
  cases s with
  | own xs => obtain ⟨a, vs, e, h1, h2, h3, h4⟩ := h; exact ⟨a, e, h2⟩
  | owd xs => obtain ⟨a, vs, e, h1, h2, h3, h4⟩ := h; exact ⟨a, e, h2⟩
  | _ => cases o
theorem SlRs.keep {w w1 w2 : Wd} (k : Keep w1 w2) : ∀ {vs : List V} {ss : List Sl}, SlRs g w w1 vs ss → SlRs g w w2 vs ss
  | _, _, .nil => .nil
  | _, _, .cons r d t => .cons ⟨r.1.keep k, r.2⟩ d (SlRs.keep k t)
theorem SlRs.base {w w1 w2 : Wd} (k : Keep w w1) : ∀ {vs : List V} {ss : List Sl}, SlRs g w1 w2 vs ss → SlRs g w w2 vs ss
  | _, _, .nil => .nil
  | _, _, .cons r d t => .cons ⟨r.1, fun o a e q => r.2 o a e (k.sub a q)⟩ d (SlRs.base k t)
theorem SlRs.get {w w' : Wd} : ∀ {vs : List V} {ss : List Sl} {j : Nat} {t : Sl}, SlRs g w w' vs ss → ss[j]? = some t → ∃ v, vs[j]? = some v ∧ rlX g w w' v t
  | _, _, _, _, .nil, h => by simp at h
  | _, _, 0, _, .cons r _ _, h => by simp at h; subst h; exact ⟨_, rfl, r⟩
  | _, _, j + 1, _, .cons _ _ t, h => by
    obtain ⟨v, a, b⟩ := SlRs.get t (j := j) (by simpa using h)
    exact ⟨v, by simpa using a, b⟩
abbrev rlXL (g : Gc) : Wd → Wd → List V → List Sl → Prop := fun w w' vs ss => SlRs g w w' vs ss
abbrev DXs (g : Gc) (N0 : List Addr) (Wx : WX) (X : Cx) (es : List Expr) (f : Ev → M (List Sl)) : Prop := PA X es (tr g N0 Wx (rlXL g) f)
theorem dxs_nil : DXs g N0 Wx X [] (fun _ => pure []) := by
  refine PA.imp pa_nil fun σ H Q ⟨w, env, S, e, er, sr, q⟩ => ?_
  subst e
  exact q w [] (Keep.refl w) sr .nil
def consX (f : Ev → M Sl) (r : Ev → M (List Sl)) : Ev → M (List Sl) := fun env => do let x ← f env; let xs ← r env; pure (x :: xs)
theorem dxs_cons {e : Expr} {es : List Expr} {f : Ev → M Sl} {r : Ev → M (List Sl)} (hs : notStar e = true) (h : DX g N0 Wx X e f) (t : DXs g N0 Wx X es r) : DXs g N0 Wx X (e :: es) (consX f r) := by
  refine PA.imp (pa_cons h t (star_cons hs)) fun σ H Q ⟨w, env, S, e, er, sr, q⟩ => ?_
  subst e
  refine tr_intro er sr ?_
  have q' : Pst g Wx σ (rlXL g) w ((f env >>= fun x => r env >>= fun xs => pure (x :: xs)) S) Q := q
  cases e : f env S with
  | bad => rw [bind_bad e] at q'; exact q'
  | ex c fs S1 => rw [bind_ex e] at q'; exact q'
  | ok s S1 =>
    rw [bind_ok e] at q'
    intro w1 y k1 s1 r1
    refine tr_intro (er.keep k1) s1 ?_
    cases e2 : r env S1 with
    | bad => rw [bind_bad e2] at q'; exact q'
    | ex c fs S2 => rw [bind_ex e2] at q'; exact fun w' cls dd k s z => q' w' cls dd (k1.trans k) s z
    | ok ss S2 =>
      rw [bind_ok e2] at q'
      intro w2 ys k2 s2 r2
      refine q' w2 (y :: ys) (k1.trans k2) s2 (.cons ⟨r1.1.keep k2, r1.2⟩ (fun o j t hj ho z => ?_) (SlRs.base k1 r2))
      obtain ⟨v, h1, h2⟩ := SlRs.get r2 hj
      rw [h1] at z
      cases z
      obtain ⟨a, ea, ha⟩ := r1.1.in_N o
      exact h2.2 ho a ea ha
/-- slots i, j, .. get what comes -/
def setsE : List Nat → List Sl → Ev → Option Ev
  | [], [], env => some env
  | i :: is, s :: ss, env => setsE is ss (env.set i s)
  | _, _, _ => none
def setsV : List Nat → List V → L2.St → L2.St
  | i :: is, v :: vs, σ => setsV is vs (σ.set i (some v))
  | _, _, σ => σ
/-- what the slots set so far hold is not what comes -/
theorem ER.sets {w w1 : Wd} : ∀ {is : List Nat} {vs : List V} {ss : List Sl} {env env' : Ev} {σ : L2.St}, ER g N0 w1 env σ → SlRs g w w1 vs ss → (∀ a ∈ N0, a ∈ w.N) →
    (∀ j, ownAt env j → ∀ (k : Nat) t v, ss[k]? = some t → t.isOwn = true → vs[k]? = some v → σ[j]? ≠ some (some v)) → setsE is ss env = some env' → ER g N0 w1 env' (setsV is vs σ)
  | [], _, _, env, env', σ, er, .nil, hN, fr, h => by cases h; exact er
  | [], _, _, env, env', σ, er, .cons _ _ _, hN, fr, h => by cases h
  | i :: is, _, _, env, env', σ, er, .nil, hN, fr, h => by cases h
  | i :: is, v :: vs, s :: ss, env, env', σ, er, .cons r d t, hN, fr, h => by
    have er2 : ER g N0 w1 (env.set i s) (σ.set i (some v)) := er.set_sl r.1 fun o => ⟨fun a ea q => r.2 o a ea (hN a q), fun j oj => fr j oj 0 s v rfl o rfl⟩
    refine ER.sets (is := is) (vs := vs) (ss := ss) er2 t hN (fun j oj k t' v' hk ho hv => ?_) (show setsE is ss (env.set i s) = some env' from h)
    obtain ⟨u, e1, o1⟩ := oj
    by_cases q : i = j
    · subst q
      by_cases hi : i < env.length
      · rw [List.getElem?_set_self hi] at e1
        cases e1
        rw [List.getElem?_set_self (by rw [er.len]; exact hi)]
        intro z
        cases z
        exact d o1 k t' hk ho hv
      · rw [List.getElem?_eq_none (by simpa using hi)] at e1; cases e1
    · rw [List.getElem?_set_ne q] at e1
      rw [List.getElem?_set_ne q]
      exact fr j ⟨u, e1, o1⟩ (k + 1) t' v' (by simpa using hk) ho (by simpa using hv)
theorem ER.sets_new {w w1 : Wd} {is : List Nat} {vs : List V} {ss : List Sl} {env env' : Ev} {σ : L2.St} (er : ER g N0 w env σ) (k : Keep w w1) (r : SlRs g w w1 vs ss) (hN : ∀ a ∈ N0, a ∈ w.N) (h : setsE is ss env = some env') : ER g N0 w1 env' (setsV is vs σ) := by
  refine ER.sets (er.keep k) r hN (fun j oj i t v hi ho hv z => ?_) h
  obtain ⟨a, h1, h2⟩ := er.own_in oj
  rw [h1] at z
  cases z
  obtain ⟨u, h3, h4⟩ := r.get hi
  rw [h3] at hv
  cases hv
  exact h4.2 ho a rfl h2
def parM (is : List Nat) (f : Ev → M (List Sl)) : Ev → M Out := fun env => do
  let ss ← f env
  match setsE is ss env with
  | some env' => pure (.nx env')
  | none => fail
theorem par_fin {E : Ends} {w w1 : Wd} {env : Ev} {S S1 : Store} {σ : L2.St} {is : List Nat} {ss : List Sl} {vs : List V} (st : StR g w0 w env S σ) (k1 : Keep w w1) (s1 : SR g w1 S1) (r1 : SlRs g w w1 vs ss)
    (q : PstS g Wx w0 w1 ((match setsE is ss env with | some env' => pure (.nx env') | none => fail : M Out) S1) E) : ∀ w2, Keep w1 w2 → SR g w2 S1 → E.nx (setsV is vs σ) w2.H := fun w2 k2 s2 => by
  cases e : setsE is ss env with
  | none => rw [e] at q; exact q.elim
  | some env' =>
    rw [e] at q
    exact q w2 _ k2.toMono ⟨ER.sets_new st.er (k1.trans k2) (r1.keep k2) st.kp.sub e, s2, (st.kp.trans k1).trans k2⟩
theorem setsE_len : ∀ {is : List Nat} {ss : List Sl} {env env' : Ev}, setsE is ss env = some env' → ss.length = is.length
  | [], [], _, _, _ => rfl
  | [], _ :: _, _, _, h => by cases h
  | _ :: _, [], _, _, h => by cases h
  | _ :: is, _ :: ss, _, _, h => by simp [setsE_len (is := is) (ss := ss) h]
theorem SlRs.length {w w' : Wd} : ∀ {vs : List V} {ss : List Sl}, SlRs g w w' vs ss → vs.length = ss.length
  | _, _, .nil => rfl
  | _, _, .cons _ _ t => congrArg (· + 1) (SlRs.length t)
theorem par_len {E : Ends} {w1 : Wd} {env : Ev} {S1 : Store} {is : List Nat} {ss : List Sl} (q : PstS g Wx w0 w1 ((match setsE is ss env with | some env' => pure (.nx env') | none => fail : M Out) S1) E) : ss.length = is.length := by
  cases e : setsE is ss env with
  | none => rw [e] at q; exact q.elim
  | some env' => exact setsE_len e
/-- a, b = x, y with plain local names -/
theorem ds_par2 {i j : Nat} {x y : Str} {a b : Expr} {f : Ev → M (List Sl)} {px py pt pos : Pos} {kt k2 pt2} (hc : X.calm = true) (hN : X.N.Nodup) (hi : X.N[i]? = some x) (hj : X.N[j]? = some y) (hij : i ≠ j)
    (hx : X.env.scope.names.lookup x = some .local) (hy : X.env.scope.names.lookup y = some .local) (hca : notComp a = true) (ha : DXs g w0.N Wx X [a, b] f)
    (hw : swappedStores [.Tuple [.Name x px, .Name y py] kt pt] (.Tuple [a, b] k2 pt2) X.env = pure (some [x, y])) :
    DS g Wx w0 X (.Assign [.Tuple [.Name x px, .Name y py] kt pt] (.Tuple [a, b] k2 pt2) pos) (parM [i, j] f) := by
  refine PS.imp (ps_par hc hN hi hj hij hx hy ha hw rfl) fun E σ H ⟨w, env, S, ee, st, q⟩ => ?_
  subst ee
  refine tr_intro st.er st.sr (pst_of st q fun w1 ss S1 vs e k1 s1 r1 q1 => ?_)
  have hl := par_len q1
  rw [← SlRs.length r1] at hl
  obtain ⟨v, u, rfl⟩ : ∃ v u, vs = [v, u] := by
    match vs, hl with
    | [v, u], _ => exact ⟨v, u, rfl⟩
  exact ⟨v, u, rfl, par_fin st k1 s1 r1 q1 w1 (Keep.refl _) s1⟩
theorem ds_par3 {i j l : Nat} {x y z : Str} {a b c : Expr} {f : Ev → M (List Sl)} {px py pz pt pos : Pos} {kt k2 pt2} (hc : X.calm = true) (hN : X.N.Nodup) (hi : X.N[i]? = some x) (hj : X.N[j]? = some y) (hl' : X.N[l]? = some z) (hij : i ≠ j) (hil : i ≠ l) (hjl : j ≠ l)
    (hx : X.env.scope.names.lookup x = some .local) (hy : X.env.scope.names.lookup y = some .local) (hz : X.env.scope.names.lookup z = some .local) (ha : DXs g w0.N Wx X [a, b, c] f)
    (hw : swappedStores [.Tuple [.Name x px, .Name y py, .Name z pz] kt pt] (.Tuple [a, b, c] k2 pt2) X.env = pure (some [x, y, z])) :
    DS g Wx w0 X (.Assign [.Tuple [.Name x px, .Name y py, .Name z pz] kt pt] (.Tuple [a, b, c] k2 pt2) pos) (parM [i, j, l] f) := by
  refine PS.imp (ps_par3 hc hN hi hj hl' hij hil hjl hx hy hz ha hw rfl) fun E σ H ⟨w, env, S, ee, st, q⟩ => ?_
  subst ee
  refine tr_intro st.er st.sr (pst_of st q fun w1 ss S1 vs e k1 s1 r1 q1 => ?_)
  have hl := par_len q1
  rw [← SlRs.length r1] at hl
  obtain ⟨v, u, t, rfl⟩ : ∃ v u t, vs = [v, u, t] := by
    match vs, hl with
    | [v, u, t], _ => exact ⟨v, u, t, rfl⟩
  exact ⟨v, u, t, rfl, par_fin st k1 s1 r1 q1 w1 (Keep.refl _) s1⟩
/-- names, one after another -/
def gNames : List Nat → TGs := fun is vs σ H Q => vs.length = is.length ∧ Q (setsV is vs σ) H
theorem pgs_names {X : Cx} : ∀ {xs : List (Str × Pos)} {is : List Nat}, (∀ p ∈ (xs.zip is), PG X (.Name p.1.1 p.1.2) (gName p.2)) → xs.length = is.length → PGs X (xs.map fun p => Expr.Name p.1 p.2) (gNames is)
  | [], [], _, _ => PGs.imp pgs_nil fun vs σ H Q ⟨h1, h2⟩ => by
    have e : vs = [] := List.eq_nil_of_length_eq_zero h1
    subst e
    exact ⟨rfl, h2⟩
  | x :: xs, i :: is, h, hl => by
    refine PGs.imp (pgs_cons (h (x, i) (by simp)) (pgs_names (xs := xs) (is := is) (fun p hp => h p (by simp [hp])) (by simpa using hl)) rfl) fun vs σ H Q ⟨h1, h2⟩ => ?_
    cases vs with
    | nil => cases h1
    | cons v vs => exact ⟨v, vs, rfl, by simpa using h1, h2⟩
  | [], _ :: _, _, hl => by cases hl
  | _ :: _, [], _, hl => by cases hl
/-- a, b, .. = x, y, .. by a tuple that is dropped -/
theorem ds_parT {xs : List (Str × Pos)} {is : List Nat} {es : List Expr} {f : Ev → M (List Sl)} {pt pos : Pos} {kt k2 pt2} (hc : X.calm = true) (hg : ∀ p ∈ (xs.zip is), PG X (.Name p.1.1 p.1.2) (gName p.2)) (hl : xs.length = is.length) (hz : is.length ≤ 100) (ha : DXs g w0.N Wx X es f)
    (hn : (assignEach (xs.map fun p => Expr.Name p.1 p.2) X.env).length = is.length) (hst : (assignEach (xs.map fun p => Expr.Name p.1 p.2) X.env).findIdx? (·.1) = none)
    (hw : swappedStores [.Tuple (xs.map fun p => Expr.Name p.1 p.2) kt pt] (.Tuple es k2 pt2) X.env = pure none) :
    DS g Wx w0 X (.Assign [.Tuple (xs.map fun p => Expr.Name p.1 p.2) kt pt] (.Tuple es k2 pt2) pos) (parM is f) := by
  refine PS.imp (ps_asg (pe_tup ha) (pg_tup hc (pgs_names hg hl) hn hst) rfl hw rfl) fun E σ H ⟨w, env, S, ee, st, q⟩ => ?_
  subst ee
  refine tr_intro st.er st.sr (pst_of st q fun w1 ss S1 vs e k1 s1 r1 q1 => ?_)
  have hl := par_len q1
  rw [← SlRs.length r1] at hl
  refine ⟨by rw [sizeLine_eq]; omega, fun p hp => ⟨p, vs, rfl, .inl (.inl upd_same), hl, hl, ?_⟩⟩
  exact par_fin st k1 s1 r1 q1 ⟨upd w1.H p (.tup vs), w1.N, w1.m⟩ (keep_new hp) (s1.new hp)
end
end Pc

set_option Elab.async false
set_option linter.all false
set_option autoImplicit false
set_option maxRecDepth 100000
set_option maxHeartbeats 4000000
/-! Pc, part N: stores at a place, moves, sorted, reversed slices, -x, xs * n. -/
namespace Pc
open PySem PySem.Spec PyProof.Rows L2
section
variable {g : Gc} {Wx : WX} {w0 : Wd} {X : Cx} {N0 : List Addr}
/-! ### x[i] = e -/
def putI (xs : List D) (j d : D) : Option (List D) := match j with
  | .int k => (ixN xs.length k).map fun n => xs.set n d
  | _ => none
def ownX (i : Nat) (env : Ev) : Option (List D) := match env[i]? with
  | some (.own xs) => some xs
  | _ => none
theorem ownX_eq {i : Nat} {env : Ev} {xs : List D} (h : ownX i env = some xs) : env[i]? = some (.own xs) := by
  unfold ownX at h
  split at h
  · cases h; assumption
  · cases h
def setO (i : Nat) (env : Ev) : Option (List D) → M Out
  | some ys => pure (.nx (env.set i (.own ys)))
  | none => fail
def subOM (i : Nat) (fi fe : Ev → M D) : Ev → M Out := fun env => do
  let d ← fe env
  let xs ← ofO (ownX i env)
  let j ← fi env
  setO i env (putI xs j d)
theorem asg_sub {o ie : Expr} {env : Env} {pos : Pos} (h : noSlice ie = true) : ∀ v, assign (.Subscript o ie pos) env v = (do
      let ov ← holding [v] (eval o env)
      let iv ← holding [v, ov] (eval ie env)
      standAt pos
      holding [v, ov, iv] (setItem ov iv v)
      release [v, ov, iv] []) := fun v => by cases ie <;> first | rfl | cases h
theorem sole_sub {o ie e : Expr} {p : Pos} {l : Nat} {env : Env} (h : notComp e = true) : swapsWithSole [.Subscript o ie p] e l env = pure false := by
  unfold swapsWithSole
  exact swaps_no h
theorem stores_sub {o ie e : Expr} {p : Pos} {env : Env} : swappedStores [.Subscript o ie p] e env = pure none := by cases e <;> rfl
theorem putI_ok {w : Wd} {vs : List V} {xs ys : List D} {v : V} {j d : D} (r : RepL g w vs xs) (rv : Rep g w v d) (h : putI xs j d = some ys) : ∃ k n, j = .int k ∧ ixN vs.length k = some n ∧ RepL g w (vs.set n v) ys := by
  unfold putI at h
  cases j with
  | int k =>
    simp only at h
    cases e : ixN xs.length k with
    | none => rw [e] at h; cases h
    | some n =>
      rw [e] at h
      cases h
      exact ⟨k, n, rfl, by rw [r.length]; exact e, RepL.set rv n r⟩
  | _ => cases h
theorem ofO_bind {α β : Type} {o : Option α} {k : α → M β} {S : Store} : (ofO o >>= k) S = match o with
    | some a => k a S
    | none => .bad := by cases o <;> rfl
theorem ds_subO {i : Nat} {x : Str} {p p1 pos : Pos} {ie e : Expr} {fi fe : Ev → M D} (hv : PE X (.Name x p) (tVar i)) (hs : noSlice ie = true) (hc : notComp e = true) (he : DE g w0.N Wx X e fe) (hi : DE g w0.N Wx X ie fi) :
    DS g Wx w0 X (.Assign [.Subscript (.Name x p) ie p1] e pos) (subOM i fi fe) := by
  refine PS.imp (ps_asg he (pg_sub hv hi set_list (asg_sub hs)) (sole_sub hc) stores_sub rfl) fun E σ H ⟨w, env, S, ee, st, q⟩ => ?_
  subst ee
  refine tr_intro st.er st.sr (pst_of st q fun w1 d S1 v e k1 s1 r1 q1 => ?_)
  have st1 := st.step k1 s1
  rw [ofO_bind] at q1
  cases eo : ownX i env with
  | none => rw [eo] at q1; exact q1.elim
  | some xs =>
    rw [eo] at q1
    simp only at q1
    have ho := ownX_eq eo
    obtain ⟨a, vs, h1, h2, h3, h4, h5, h6⟩ := st1.er.own i xs ho
    refine ⟨_, h1, tr_intro st1.er st1.sr (pst_of st1 q1 fun w2 j S2 jv e2 k2 s2 r2 q2 => ?_)⟩
    have st2 := st1.step k2 s2
    obtain ⟨a', vs', g1, g2, g3, g4, g5, g6⟩ := st2.er.own i xs ho
    rw [h1] at g1
    cases g1
    cases ep : putI xs j d with
    | none => rw [ep] at q2; exact q2.elim
    | some ys =>
      rw [ep] at q2
      obtain ⟨k, n, rfl, hn, rn⟩ := putI_ok g6 (r1.mono k2.toMono) ep
      cases r2
      refine ⟨a, vs', k, n, rfl, rfl, g2, hn, ?_⟩
      obtain ⟨mo, st3⟩ := st2.chg ho h1 g2 g3 g4 g5 rn
      exact q2 ⟨upd w2.H a (.lst (vs'.set n v)), w2.N, w2.m⟩ σ mo st3
/-- the list behind a handle -/
def putH (x j d : D) : M Unit := fun S => match x with
  | .obj h => (match S[h]? with
    | some (.lst xs) => (match putI xs j d with
      | some ys => .ok () (S.set h (.lst ys))
      | none => .bad)
    | _ => .bad)
  | _ => .bad
theorem putH_ok {x j d : D} {S : Store} : putH x j d S = .bad ∨ ∃ h xs ys, x = .obj h ∧ S[h]? = some (.lst xs) ∧ putI xs j d = some ys ∧ putH x j d S = .ok () (S.set h (.lst ys)) := by
  cases x with
  | obj h =>
    simp only [putH]
    cases e : S[h]? with
    | none => exact .inl rfl
    | some ob =>
      cases ob with
      | lst xs =>
        simp only
        cases e2 : putI xs j d with
        | none => exact .inl rfl
        | some ys => exact .inr ⟨h, xs, ys, rfl, e, e2, rfl⟩
      | dct _ => exact .inl rfl
      | ins _ _ => exact .inl rfl
  | _ => exact .inl rfl
def subHM (fo fi fe : Ev → M D) : Ev → M Out := fun env => do
  let d ← fe env
  let x ← fo env
  let j ← fi env
  let _ ← putH x j d
  pure (.nx env)
theorem ds_subH {p1 pos : Pos} {o ie e : Expr} {fo fi fe : Ev → M D} (hs : noSlice ie = true) (hc : notComp e = true) (he : DE g w0.N Wx X e fe) (ho : DE g w0.N Wx X o fo) (hi : DE g w0.N Wx X ie fi) :
    DS g Wx w0 X (.Assign [.Subscript o ie p1] e pos) (subHM fo fi fe) := by
  refine PS.imp (ps_asg he (pg_sub ho hi set_list (asg_sub hs)) (sole_sub hc) stores_sub rfl) fun E σ H ⟨w, env, S, ee, st, q⟩ => ?_
  subst ee
  refine tr_intro st.er st.sr (pst_of st q fun w1 d S1 v e k1 s1 r1 q1 => ?_)
  have st1 := st.step k1 s1
  refine tr_intro st1.er st1.sr (pst_of st1 q1 fun w2 x S2 xv e2 k2 s2 r2 q2 => ?_)
  have st2 := st1.step k2 s2
  refine tr_intro st2.er st2.sr (pst_of st2 q2 fun w3 j S3 jv e3 k3 s3 r3 q3 => ?_)
  have st3 := st2.step k3 s3
  rcases putH_ok (x := x) (j := j) (d := d) (S := S3) with e | ⟨h, xs, ys, rfl, hx, hp, e⟩
  · rw [bind_bad e] at q3; exact q3.elim
  · rw [bind_ok e] at q3
    obtain ⟨a, rfl, hm⟩ := rep_obj (r2.mono k3.toMono)
    obtain ⟨b, f3, vs, f4, f5⟩ := s3.at_ h _ hx
    rw [hm] at f3
    cases f3
    obtain ⟨k, n, rfl, hn, rn⟩ := putI_ok f5 (r1.mono (k2.trans k3).toMono) hp
    cases r3
    obtain ⟨kk, ss⟩ := hnd_step (xs := xs) s3 hm f4 rn
    exact ⟨a, vs, k, n, rfl, rfl, f4, hn, q3 ⟨upd w3.H a (.lst (vs.set n v)), w3.N, w3.m⟩ σ kk.toMono (st3.step kk ss)⟩

/-! ### a slot's own list is frozen, is moved -/
def frzE (i : Nat) (env : Ev) : Ev := match env[i]? with
  | some (.own xs) => env.set i (.val (.lst xs))
  | some (.owd xs) => env.set i (.val (.dct xs))
  | _ => env
theorem filter_ne {N : List Addr} {a : Addr} : (∀ b ∈ N.filter (fun b => decide (b ≠ a)), b ∈ N) ∧ a ∉ N.filter (fun b => decide (b ≠ a)) ∧ ∀ b, b ≠ a → b ∈ N → b ∈ N.filter (fun b => decide (b ≠ a)) :=
  ⟨fun b hb => (List.mem_filter.mp hb).1, fun hb => absurd rfl (of_decide_eq_true (List.mem_filter.mp hb).2), fun b n hb => List.mem_filter.mpr ⟨hb, decide_eq_true n⟩⟩
/-- the other slots, where a slot's address is nobody's no more -/
theorem ER.less {w : Wd} {env : Ev} {σ : L2.St} {i : Nat} {a : Addr} (e : ER g N0 w env σ) (oi : ownAt env i) (hv : σ[i]? = some (some (.ref a))) : ER g N0 ⟨w.H, w.N.filter (fun b => decide (b ≠ a)), w.m⟩ (env.set i .no) σ := by
  obtain ⟨sub, out, inn⟩ := filter_ne (N := w.N) (a := a)
  have mo := mono_less (w := w) sub
  have hl : i < env.length := by
    obtain ⟨s, h, _⟩ := oi
    exact (List.getElem?_eq_some_iff.mp h).1
  have ne : ∀ (j : Nat) (s : Sl), (env.set i .no)[j]? = some s → s ≠ .no → i ≠ j ∧ env[j]? = some s := fun j s h hs => by
    by_cases q : i = j
    · subst q
      rw [List.getElem?_set_self hl] at h; cases h; exact absurd rfl hs
    · rw [List.getElem?_set_ne q] at h; exact ⟨q, h⟩
  have dif : ∀ j b, i ≠ j → ownAt env j → σ[j]? = some (some (.ref b)) → b ≠ a := fun j b hj oj hb z => by
    subst z
    exact e.ap i j hj oi oj (by rw [hv, hb])
  refine ⟨by simpa using e.len, fun j d h => ?_, fun j xs h => ?_, fun j xs h => ?_, fun j k hjk h1 h2 => ?_⟩
  · obtain ⟨_, z⟩ := ne j _ h (fun q => by cases q)
    obtain ⟨v, h1, h2⟩ := e.val j d z
    exact ⟨v, h1, h2.mono mo⟩
  · obtain ⟨q, z⟩ := ne j _ h (fun q => by cases q)
    obtain ⟨b, vs, h1, h2, h3, h4, h5, h6⟩ := e.own j xs z
    exact ⟨b, vs, h1, h2, inn b (dif j b q ⟨_, z, rfl⟩ h1) h3, h4, h5, h6.mono mo⟩
  · obtain ⟨q, z⟩ := ne j _ h (fun q => by cases q)
    obtain ⟨b, vs, h1, h2, h3, h4, h5, h6⟩ := e.owd j xs z
    exact ⟨b, vs, h1, h2, inn b (dif j b q ⟨_, z, rfl⟩ h1) h3, h4, h5, h6.mono mo⟩
  · obtain ⟨s1, e1, o1⟩ := h1
    obtain ⟨s2, e2, o2⟩ := h2
    obtain ⟨_, z1⟩ := ne j _ e1 (fun q => by subst q; cases o1)
    obtain ⟨_, z2⟩ := ne k _ e2 (fun q => by subst q; cases o2)
    exact e.ap j k hjk ⟨s1, z1, o1⟩ ⟨s2, z2, o2⟩
theorem set_same {σ : L2.St} {i : Nat} {v : Option V} (h : σ[i]? = some v) : σ.set i v = σ := by
  apply List.ext_getElem?
  intro j
  by_cases q : i = j
  · subst q
    rw [List.getElem?_set_self ((List.getElem?_eq_some_iff.mp h).1), h]
  · rw [List.getElem?_set_ne q]
theorem StR.frz {w : Wd} {env : Ev} {S : Store} {σ : L2.St} (st : StR g w0 w env S σ) (i : Nat) : ∃ w', w'.H = w.H ∧ Mono w w' ∧ StR g w0 w' (frzE i env) S σ := by
  unfold frzE
  cases hd : env[i]? with
  | none => exact ⟨w, rfl, Mono.refl w, st⟩
  | some sl =>
    cases sl with
    | no => exact ⟨w, rfl, Mono.refl w, st⟩
    | val d => exact ⟨w, rfl, Mono.refl w, st⟩
    | own xs =>
      obtain ⟨a, vs, h1, h2, h3, h4, h5, h6⟩ := st.er.own i xs hd
      obtain ⟨sub, out, inn⟩ := filter_ne (N := w.N) (a := a)
      have mo := mono_less (w := w) sub
      refine ⟨⟨w.H, w.N.filter (fun b => decide (b ≠ a)), w.m⟩, rfl, mo, ?_, st.sr.less sub fun b hb => inn b (fun e => h4 (by rw [← e]; exact hb)) (st.sr.sub b hb), keep_less st.kp sub fun b hb => inn b (fun e => h5 (by rw [← e]; exact hb)) (st.kp.sub b hb)⟩
      have e := (st.er.less ⟨_, hd, rfl⟩ h1).set_val (i := i) (v := .ref a) (d := .lst xs) (.lst (.inl h2) out (h6.mono mo))
      rw [List.set_set, set_same h1] at e
      exact e
    | owd xs =>
      obtain ⟨a, vs, h1, h2, h3, h4, h5, h6⟩ := st.er.owd i xs hd
      obtain ⟨sub, out, inn⟩ := filter_ne (N := w.N) (a := a)
      have mo := mono_less (w := w) sub
      refine ⟨⟨w.H, w.N.filter (fun b => decide (b ≠ a)), w.m⟩, rfl, mo, ?_, st.sr.less sub fun b hb => inn b (fun e => h4 (by rw [← e]; exact hb)) (st.sr.sub b hb), keep_less st.kp sub fun b hb => inn b (fun e => h5 (by rw [← e]; exact hb)) (st.kp.sub b hb)⟩
      have e := (st.er.less ⟨_, hd, rfl⟩ h1).set_val (i := i) (v := .ref a) (d := .dct xs) (.dct h2 out (h6.mono mo))
      rw [List.set_set, set_same h1] at e
      exact e
theorem ds_frz {s : Stmt} {f : Ev → M Out} (i : Nat) (h : DS g Wx w0 X s f) : DS g Wx w0 X s (fun env => f (frzE i env)) := by
  refine PS.imp h fun E σ H ⟨w, env, S, ee, st, q⟩ => ?_
  obtain ⟨w', e, k, st'⟩ := st.frz i
  exact ⟨w', frzE i env, S, by rw [e, ee], st', pstS_rebase k q⟩
/-- y = x: the own list of x is y's -/
def mvM (i j : Nat) : Ev → M Out := fun env => match ownX i env with
  | some xs => pure (.nx ((env.set i .no).set j (.own xs)))
  | none => fail
theorem ds_mv {i j : Nat} {x y : Str} {p p1 pos : Pos} (hN : X.N.Nodup) (hv : PE X (.Name x p) (tVar i)) (hj : X.N[j]? = some y) (hy : Loc X.env.scope y) (hf : X.fn y = true) : DS g Wx w0 X (.Assign [.Name y p1] (.Name x p) pos) (mvM i j) := by
  refine PS.imp (ps_set hN hj hy hv (swaps_no rfl) (.inl hf)) fun E σ H ⟨w, env, S, ee, st, q⟩ => ?_
  subst ee
  unfold mvM at q
  cases eo : ownX i env with
  | none => rw [eo] at q; exact q.elim
  | some xs =>
    rw [eo] at q
    have hd := ownX_eq eo
    obtain ⟨a, vs, h1, h2, h3, h4, h5, h6⟩ := st.er.own i xs hd
    refine ⟨_, h1, q w _ (Mono.refl w) ⟨?_, st.sr, st.kp⟩⟩
    have e1 := st.er.set_no (i := i) (z := some (.ref a))
    rw [set_same h1] at e1
    refine e1.set_sl ⟨a, vs, rfl, h2, h3, h4, h6⟩ fun _ => ⟨fun b eb => by cases eb; exact h5, fun k ok z => ?_⟩
    obtain ⟨s, es, os⟩ := ok
    by_cases q2 : i = k
    · subst q2
      rw [List.getElem?_set_self ((List.getElem?_eq_some_iff.mp hd).1)] at es
      cases es
      cases os
    · rw [List.getElem?_set_ne q2] at es
      exact st.er.ap i k q2 ⟨_, hd, rfl⟩ ⟨s, es, os⟩ (by rw [h1, z])
/-! ### a, b = e -/
def notTup : Expr → Bool
  | .Tuple _ _ _ => false
  | _ => true
theorem stores_tup {ts : List Expr} {k : Nat} {p : Pos} {e : Expr} {env : Env} (h : notTup e = true) : swappedStores [.Tuple ts k p] e env = pure none := by cases e <;> first | rfl | cases h
theorem sole_tup {ts : List Expr} {k : Nat} {p : Pos} {e : Expr} {l : Nat} {env : Env} : swapsWithSole [.Tuple ts k p] e l env = pure false := by
  unfold swapsWithSole
  cases e <;> rfl
def unpM (fg : D → Ev → Option Ev) (f : Ev → M D) : Ev → M Out := fun env => do
  let d ← f env
  let e ← ofO (fg d env)
  pure (.nx e)
theorem ds_unp {ts : List Expr} {k : Nat} {p pos : Pos} {e : Expr} {us : List Nat} {fg : D → Ev → Option Ev} {f : Ev → M D} (hn : notTup e = true) (he : DE g w0.N Wx X e f) (hg : DG g w0.N X (.Tuple ts k p) us fg) : DS g Wx w0 X (.Assign [.Tuple ts k p] e pos) (unpM fg f) := by
  refine PS.imp (ps_asg he hg sole_tup (stores_tup hn) rfl) fun E σ H ⟨w, env, S, ee, st, q⟩ => ?_
  subst ee
  refine tr_intro st.er st.sr (pst_of st q fun w1 d S1 v e k1 s1 r1 q1 => ?_)
  have st1 := st.step k1 s1
  rw [ofO_bind] at q1
  cases eo : fg d env with
  | none => rw [eo] at q1; exact q1.elim
  | some env' =>
    rw [eo] at q1
    exact ⟨w1, env, S1, d, env', rfl, st1.er, s1, r1, eo, fun σ' er' _ _ => q1 w1 σ' (Mono.refl _) ⟨er', s1, st1.kp⟩⟩
/-- x = [.. for ..], x a plain local -/
theorem ds_setC {i : Nat} {y : Str} {py pos spos : Pos} {elt tg iter : Expr} {ifs : List Expr} {scope : Scope} {f : Ev → M Sl} (h : PS X (.Assign [.Name y py] (.ListComp elt [⟨tg, iter, ifs, 0⟩] scope pos) spos) (tAsg (tr g w0.N Wx (rlX g) f) (gName i))) :
    DS g Wx w0 X (.Assign [.Name y py] (.ListComp elt [⟨tg, iter, ifs, 0⟩] scope pos) spos) (setM i f) := by
  refine PS.imp h fun E σ H ⟨w, env, S, ee, st, q⟩ => ?_
  subst ee
  refine tr_intro st.er st.sr (pst_of st q fun w1 s S1 y e k1 s1 r1 q1 => ?_)
  exact q1 w1 _ (Mono.refl w1) ⟨st.er.set_new st.kp.sub k1 r1, s1, st.kp.trans k1⟩
/-! ### -x -/
def negD : D → Option D
  | .int i => some (.int (-i))
  | _ => none
theorem de_neg {a : Expr} {fa : Ev → M D} {pos : Pos} (h : DE g N0 Wx X a fa) : DE g N0 Wx X (.UnaryOp .USub a pos) (fun env => do let x ← fa env; ofO (negD x)) := by
  refine PE.imp (pe_un un_neg h) fun σ H Q ⟨w, env, S, e, er, sr, q⟩ => ?_
  subst e
  refine tr_intro er sr (pst_imp (pst_bind (relA := rl g) (fun _ _ _ _ _ z => z) q) fun x H1 ⟨w1, d, S1, e1, k1, s1, r1, q1⟩ => ?_)
  subst e1
  cases d with
  | int z => cases r1; exact ⟨z, rfl, q1 w1 _ (Keep.refl _) s1 (.int _)⟩
  | _ => exact q1.elim
/-! ### [..] * n -/
def repD (xs : List D) : D → Option (List D)
  | .int k => if k < 2 ^ 63 ∧ -(2 ^ 63) ≤ k ∧ xs.length * k.toNat ≤ sizeLine then some (List.replicate k.toNat xs).flatten else none
  | _ => none
theorem RepL.rep {w : Wd} {vs : List V} {ds : List D} (h : RepL g w vs ds) : ∀ n : Nat, RepL g w (List.replicate n vs).flatten (List.replicate n ds).flatten
  | 0 => .nil
  | n + 1 => by
    rw [List.replicate_succ, List.replicate_succ, List.flatten_cons, List.flatten_cons]
    exact h.append (RepL.rep h n)
theorem dl_rep {a b : Expr} {fa : Ev → M (List D)} {fb : Ev → M D} {pos : Pos} (ha : DL g N0 Wx X a fa) (hb : DE g N0 Wx X b fb) : DL g N0 Wx X (.BinOp a .Mult b pos) (fun env => do let xs ← fa env; let y ← fb env; ofO (repD xs y)) := by
  refine PE.imp (pe_op op_rep ha hb) fun σ H Q ⟨w, env, S, e, er, sr, q⟩ => ?_
  subst e
  refine tr_intro er sr ?_
  have q' : Pst g Wx σ (NewL g) w ((fa env >>= fun xs => fb env >>= fun y => ofO (repD xs y)) S) Q := q
  cases e : fa env S with
  | bad => rw [bind_bad e] at q'; exact q'
  | ex c fs S1 => rw [bind_ex e] at q'; exact q'
  | ok xs S1 =>
    rw [bind_ok e] at q'
    intro w1 v k1 s1 n1
    refine tr_intro (er.keep k1) s1 ?_
    cases e2 : fb env S1 with
    | bad => rw [bind_bad e2] at q'; exact q'
    | ex c fs S2 => rw [bind_ex e2] at q'; exact fun w' cls dd k s z => q' w' cls dd (k1.trans k) s z
    | ok y S2 =>
      rw [bind_ok e2] at q'
      intro w2 u k2 s2 r2
      obtain ⟨p, vs, rfl, h2, h3, h4, h5, h6⟩ := n1
      have h2' := k2.kp p _ h2 h4
      cases eo : repD xs y with
      | none => rw [eo] at q'; exact q'.elim
      | some ys =>
        rw [eo] at q'
        unfold repD at eo
        split at eo
        · split at eo
          · rename_i k hk
            cases eo
            cases r2
            refine ⟨p, k, vs, rfl, rfl, h2', hk.2.1, hk.1, by rw [h6.length]; exact hk.2.2, fun l hl => ?_⟩
            exact q' ⟨upd w2.H l _, l :: w2.N, w2.m⟩ _ ((k1.trans k2).trans (keep_newN hl)) (s2.newN hl) ((new_l s2 hl ((h6.mono k2.toMono).rep k.toNat)).base (k1.trans k2))
          · cases eo
        · cases eo
end
end Pc

set_option Elab.async false
set_option linter.all false
set_option autoImplicit false
set_option maxRecDepth 100000
set_option maxHeartbeats 4000000
/-! Pc, part O: sorted, reversed slices. -/
namespace Pc
open PySem PySem.Spec PyProof.Rows L2
section
variable {prog : Program} {w : World} {A : Around} {E : Value → Shared → Prop} {s : Shared}
theorem slice_back {sl : Addr} {vs : Value} {n : Nat} {Q : Int × Int × Nat → Shared → Prop} (hs : s.heap.IsSliceOf sl .none .none vs) (ps : IsPart vs (some (-1)))
    (h : Q ((n : Int) - 1, -1, n) s) : wpAny (model prog w) A (Builtin.Slice.sliceApplied (.ref sl) (pure (n : Int))) Q E s := by
  obtain ⟨os, hos, hcs, hds⟩ := id hs
  unfold Builtin.Slice.sliceApplied Builtin.Slice.sliceFields
  refine wpAny_bind (wpAny_bind (wpAny_field hos hds (x := .none) rfl (wpAny_bind (wpAny_field hos hds (x := .none) rfl (wpAny_bind (wpAny_field hos hds (x := vs) rfl (wpAny_pure ?_)))))))
  refine wpAny_bind (HT.slicePart_ ps ?_)
  show wpAny _ _ (if ((-1 : Int) == 0) = true then _ else _) _ _ s
  rw [if_neg (by decide)]
  refine wpAny_bind (HT.slicePart_ .none (wpAny_bind (HT.slicePart_ .none (wpAny_bind (wpAny_pure ?_)))))
  have e : Builtin.Slice.slicePlaces ((n : Int) - 1) (-1) (-1) = n := by
    unfold Builtin.Slice.slicePlaces
    have h1 : ¬ ((-1 : Int) > 0) := by decide
    simp only [h1, if_false]
    by_cases hn : (n : Int) - 1 > -1
    · simp only [hn, if_true]
      rw [show (-(-1) : Int) = 1 by decide, Int.ediv_one]
      omega
    · simp only [hn, if_false]
      omega
  show wpAny _ _ (pure ((n : Int) - 1, (-1 : Int), Builtin.Slice.slicePlaces ((n : Int) - 1) (-1) (-1))) _ _ s
  rw [e]
  exact wpAny_pure h
theorem fm_congr {α β : Type} {f g : α → Option β} : ∀ {l : List α}, (∀ x ∈ l, f x = g x) → l.filterMap f = l.filterMap g
  | [], _ => rfl
  | x :: l, h => by
    rw [List.filterMap_cons, List.filterMap_cons, h x List.mem_cons_self, fm_congr (l := l) fun y hy => h y (List.mem_cons_of_mem _ hy)]
theorem pick_back (xs : Array Value) : ((List.range xs.size).filterMap fun (m : Nat) => xs[((xs.size : Int) - 1 + (m : Int) * -1).toNat]?).toArray = xs.toList.reverse.toArray := by
  have e : (List.range xs.size).filterMap (fun (m : Nat) => xs[((xs.size : Int) - 1 + (m : Int) * -1).toNat]?) = ((List.range xs.size).map fun k => xs.size - 1 - k).filterMap (xs[·]?) := by
    rw [List.filterMap_map]
    refine fm_congr fun m hm => ?_
    have := List.mem_range.mp hm
    have : ((xs.size : Int) - 1 + (m : Int) * -1).toNat = xs.size - 1 - m := by omega
    simp only [Function.comp]
    rw [this]
  rw [e, PySem.W.krv_range, List.filterMap_reverse, PySem.W.krv_all]
theorem getItem_tuple_back {t sl : Addr} {items : Array Value} {vs : Value} {Q : Value → Shared → Prop} (ht : IsTup s.heap t items) (hs : s.heap.IsSliceOf sl .none .none vs) (ps : IsPart vs (some (-1)))
    (h : Q (.ref s.heap.objs.size) { s with heap := s.heap.push { cls := .type "tuple", data := .seq items.toList.reverse.toArray } })
    (hsz : items.size ≤ sizeLine) : wpAny (model prog w) A (getItem (.ref t) (.ref sl)) Q E s := by
  have htake : sizeOk (.seq items.toList.reverse.toArray) := by
    show items.toList.reverse.toArray.size ≤ sizeLine
    simpa using hsz
  obtain ⟨os, hos, hcs, hds⟩ := id hs
  have hTs : s.TypeIs (.ref sl) "slice" := ⟨os, hos, hcs⟩
  unfold getItem
  try with_reducible refine wpAny_holding ?_
  first | refine wpAny_bind (wpAny_pure ?_) | skip
  refine wpAny_bind (wpAny_sequenceKey ht.typeIs (by decide) ?_)
  refine wpAny_bind (wpAny_callSpecial?_slot (name := Str.ofString "__getitem__") ht.typeIs PyProof.Rows.slot_tuple_getitem
    (wpAny_call_entry PyProof.Rows.slot_tuple_getitem ht.typeIs entry_tuple_getitem ?_ (args_tuple_getitem _ _)))
  show wpAny _ _ (Builtin.Tuple.tupleItemsOf (.ref t) >>= _) _ _ s
  refine wpAny_bind (tupleItemsOf_ ht ?_)
  refine wpAny_bind (wpAny_typeOf hTs ?_)
  rw [if_pos (by decide)]
  refine wpAny_bind (slice_back hs ps ?_)
  have hno : ¬ ((((items.size : Int) - 1) == 0 && (-1 : Int) == 1 && items.size == items.size) = true) := by
    intro q
    rw [Bool.and_eq_true, Bool.and_eq_true] at q
    exact absurd q.1.2 (by decide)
  show wpAny _ _ (if (((items.size : Int) - 1) == 0 && (-1 : Int) == 1 && items.size == items.size) = true then _ else _) _ _ s
  rw [if_neg hno, pick_back]
  first
    | exact wpAny_bind (m := Builtin.Tuple.tupleExact _) (wpAny_newObj_type (wpAny_pure ⟨_, rfl, wpAny_pure h⟩) htake)
    | exact wpAny_bind (m := Builtin.Tuple.tupleExact _) (wpAny_newObj_type (wpAny_bind (wpAny_pure (wpAny_pure ⟨_, rfl, wpAny_pure h⟩))) htake)
    | exact wpAny_bind (wpAny_bind (m := Builtin.Tuple.tupleExact _) (wpAny_newObj_type (wpAny_pure (wpAny_pure ⟨_, rfl, wpAny_pure h⟩)) htake))
    | exact wpAny_bind (wpAny_bind (m := Builtin.Tuple.tupleExact _) (wpAny_newObj_type (wpAny_pure ⟨_, rfl, wpAny_pure h⟩) htake))
end
section
variable {g : Gc} {Wx : WX} {w0 : Wd} {X : Cx} {N0 : List Addr}
def tRevT (K : PySem.W.Frag) (te : TE) : TE := fun σ H Q => te σ H fun x H1 => ∃ a xs, x = .ref a ∧ SqT K H1 a xs ∧ ∀ p, H1 p = none → Q (.ref p) (upd H1 p (.tup xs.reverse))
theorem pe_revT {e : Expr} {te : TE} {k : Nat} {p1 p2 p3 pos : Pos} (he : PE X e te) : PE X (.Subscript e (.Slice none none (some (.UnaryOp .USub (.Constant (.int 1) k p1) p2)) p3) pos) (tRevT X.K te) := by
  refine ⟨fun pins s σ H Q I h => ?_⟩
  refine Subscript_ (thn (he.run pins s σ H _ I h) fun v s1 ⟨x, H1, I1, r1, q1⟩ => ?_)
  obtain ⟨a, xs, ex, hx, q⟩ := q1
  subst ex
  cases r1
  have hst : PO X (some (.UnaryOp .USub (.Constant (.int 1) k p1) p2)) (tPart (tUn (rU fun i => .int (-i)) (tC (.int 1)))) := po_some (pe_un un_neg pe_int)
  refine wpAny_Slice (thn (po_none.run pins s1 σ H1 (fun o H2 => o = none ∧ H2 = H1) I1 ⟨rfl, rfl⟩) fun vl s2 ⟨l, H2, I2, pl, el, e2⟩ => ?_)
  subst el e2
  refine thn (po_none.run pins s2 σ H2 (fun o H3 => o = none ∧ H3 = H2) I2 ⟨rfl, rfl⟩) fun vu s3 ⟨u, H3, I3, pu, eu, e3⟩ => ?_
  subst eu e3
  refine thn (hst.run pins s3 σ H3 (fun o H4 => o = some (-1) ∧ H4 = H3) I3 ⟨1, rfl, -1, rfl, rfl, rfl⟩) fun vs s4 ⟨o, H4, I4, ps, eo, e4⟩ => ?_
  subst eo e4
  cases pl
  cases pu
  have I5 : Inv X pins σ H4 { s4 with heap := s4.heap.push { cls := .type "slice", data := .fields #[.none, .none, vs] } } := I4.kept (t' := s4.toks) fun b ob q => Heap.get?_push_of_some _ q
  obtain ⟨its, r, ht, hz⟩ := I5.tuple hx
  have hlen := r.length
  show wpAny (model X.prog X.w) X.A (subscriptTail e (.Slice none none (some (.UnaryOp .USub (.Constant (.int 1) k p1) p2)) p3) (.ref a) (.ref s4.heap.objs.size)) (EP X pins σ Q) X.xe { s4 with heap := s4.heap.push { cls := .type "slice", data := .fields #[.none, .none, vs] } }
  refine tail_any (ops := [.ref a, .ref s4.heap.objs.size]) ht.typeIs (PyProof.Rows.slot_tuple_getitem.lookup) ?_ (by with_unfolding_all rfl)
  refine getItem_tuple_back ht (Heap.IsSliceOf.new _ .none .none vs) ps ?_ (by rw [List.size_toArray]; omega)
  refine ⟨.ref _, _, I5.laid (t' := s4.toks) (o := .tup xs.reverse) (fun b ob q => Heap.get?_push_of_some _ q) (Nat.le_refl _) ?_, rfl, q _ (I5.hok.fresh (Nat.le_refl _))⟩
  exact ⟨by rw [List.length_reverse]; exact hz, _, r.reverse, IsTup.new _ _⟩
theorem PE.or {e : Expr} {t u : TE} (h : PE X e t) (h' : PE X e u) : PE X e (fun σ H Q => t σ H Q ∨ u σ H Q) := ⟨fun pins s σ H Q I q => by
  rcases q with q | q
  · exact h.run pins s σ H Q I q
  · exact h'.run pins s σ H Q I q⟩
def revD : D → Option D
  | .tup xs => some (.tup xs.reverse)
  | .lst xs => some (.lst xs.reverse)
  | _ => none
def revM (x : D) : M D := fun S => ofO (revD (deref S x)) S
theorem de_revT {a : Expr} {fa : Ev → M D} {k : Nat} {p1 p2 p3 pos : Pos} (hK : X.K = g.K) (ha : DW g N0 Wx X a fa) : DE g N0 Wx X (.Subscript a (.Slice none none (some (.UnaryOp .USub (.Constant (.int 1) k p1) p2)) p3) pos) (fun env => do
    let x ← fa env
    let d ← revM x
    match d with
    | .tup xs => pure (.tup xs)
    | _ => fail) := by
  refine PE.imp (pe_revT ha) fun σ H Q ⟨w, env, S, e, er, sr, q⟩ => ?_
  subst e
  refine tr_intro er sr (pst_imp (pst_bind (relA := rlW g) (fun _ _ _ _ _ z => z) q) fun x H1 ⟨w1, d, S1, e1, k1, s1, r1, q1⟩ => ?_)
  subst e1
  have rv := r1.view s1
  cases eo : revD (deref S1 d) with
  | none =>
    have eb : revM d S1 = .bad := by unfold revM; rw [eo]; rfl
    rw [bind_bad eb] at q1
    exact q1.elim
  | some y =>
    have eb : revM d S1 = .ok y S1 := by unfold revM; rw [eo]; rfl
    rw [bind_ok eb] at q1
    generalize deref S1 d = d' at eo rv
    unfold revD at eo
    split at eo
    · cases eo
      obtain ⟨l, vs, rfl, h1, h2⟩ := rv.tup
      exact ⟨l, vs, rfl, by rw [hK]; exact h1, fun p hp => q1 ⟨upd w1.H p _, w1.N, w1.m⟩ _ (keep_new hp) (s1.new hp) (rep_newT hp h2.reverse)⟩
    · cases eo
      exact q1.elim
    · cases eo
theorem dl_revL {a : Expr} {fa : Ev → M D} {k : Nat} {p1 p2 p3 pos : Pos} (hK : X.K = g.K) (ha : DW g N0 Wx X a fa) : DL g N0 Wx X (.Subscript a (.Slice none none (some (.UnaryOp .USub (.Constant (.int 1) k p1) p2)) p3) pos) (fun env => do
    let x ← fa env
    let d ← revM x
    match d with
    | .lst xs => pure xs
    | _ => fail) := by
  refine PE.imp (pe_revL ha) fun σ H Q ⟨w, env, S, e, er, sr, q⟩ => ?_
  subst e
  refine tr_intro er sr (pst_imp (pst_bind (relA := rlW g) (fun _ _ _ _ k z => z.base k) q) fun x H1 ⟨w1, d, S1, e1, k1, s1, r1, q1⟩ => ?_)
  subst e1
  have rv := r1.view s1
  cases eo : revD (deref S1 d) with
  | none =>
    have eb : revM d S1 = .bad := by unfold revM; rw [eo]; rfl
    rw [bind_bad eb] at q1
    exact q1.elim
  | some y =>
    have eb : revM d S1 = .ok y S1 := by unfold revM; rw [eo]; rfl
    rw [bind_ok eb] at q1
    generalize deref S1 d = d' at eo rv
    unfold revD at eo
    split at eo
    · cases eo
      exact q1.elim
    · cases eo
      obtain ⟨l, vs, rfl, h1, h2⟩ := rv.lst
      exact ⟨l, vs, rfl, by rw [hK]; exact h1, fun p hp => q1 ⟨upd w1.H p _, p :: w1.N, w1.m⟩ _ (keep_newN hp) (s1.newN hp) (new_l s1 hp h2.reverse)⟩
    · cases eo
/-! ### sorted -/
def alD (a b : D) : Bool := PySem.W.alike a.toP b.toP
def isTupC : D → Bool
  | .tup (_ :: _) => true
  | _ => false
def isFlat : D → Bool
  | .int _ => true
  | .str _ => true
  | .bl _ => true
  | .lst _ => true
  | _ => false
def sortOk (xs : List D) : Bool := okdL 30 xs && xs.all (fun a => xs.all (alD a)) && (xs.all isTupC || xs.all isFlat) && decide (xs.length ≤ sizeLine)
def sortD (xs : List D) : List D := xs.mergeSort (PySem.W.dataLe false D.toP)
def sortS : List D → Option (List D)
  | [.lst xs] => if sortOk xs then some (sortD xs) else none
  | [.tup xs] => none
  | _ => none
theorem okdL_mem : ∀ {n : Nat} {xs : List D} {x : D}, okdL n xs = true → x ∈ xs → okd n x = true
  | _, _ :: _, _, h, hx => by
    simp only [okdL, Bool.and_eq_true] at h
    rcases List.mem_cons.mp hx with rfl | hx
    · exact h.1
    · exact okdL_mem h.2 hx
theorem each_of {w : Wd} {R : Value → D → Prop} : ∀ {vs : List V} {ds : List D} {us : List Value}, RepL g w vs ds → Vals vs us → (∀ v u d, Rep g w v d → RelV v u → d ∈ ds → R u d) → PySem.W.EachIs R us ds
  | _, _, _, .nil, .nil, _ => .nil
  | _, _, _, .cons r t, .cons a b, h => .cons (h _ _ _ r a List.mem_cons_self) (each_of t b fun v u d r' a' m => h v u d r' a' (List.mem_cons_of_mem _ m))
theorem of_each {w : Wd} : ∀ {ds : List D} {us : List Value}, PySem.W.EachIs (fun u d => ∃ v, RelV v u ∧ Rep g w v d) us ds → ∃ vs, Vals vs us ∧ RepL g w vs ds
  | _, _, .nil => ⟨[], .nil, .nil⟩
  | _, _, .cons ⟨v, a, r⟩ t => by
    obtain ⟨vs, b, s⟩ := of_each t
    exact ⟨v :: vs, .cons a b, .cons r s⟩
theorem cn_sorted (hK : X.K = g.K) (hu : X.A.units + 64 < cLine) : CallN g X (.builtin "sorted") sortS := by
  refine ⟨fun vs H Q => ∃ (w : Wd) (a : Addr) (us : List V) (xs : List D), w.H = H ∧ vs = [V.ref a] ∧ SqL X.K H a us ∧ RepL g w us xs ∧ sortOk xs = true ∧ ∀ us' p, RepL g w us' (sortD xs) → H p = none → Q (.ref p) (upd H p (.lst us')), ?_, fun w S vs ds xs Q e sr ra q => ?_⟩
  · intro pins s σ H vs us Q I r h
    obtain ⟨w, a, ws, xs, rfl, rfl, hs, rl, ok, q⟩ := h
    unfold sortOk at ok
    simp only [Bool.and_eq_true, decide_eq_true_eq] at ok
    obtain ⟨⟨⟨o1, o2⟩, o3⟩, o4⟩ := ok
    obtain ⟨its, rv, hl, _⟩ := I.list hs
    rw [Vals.ref1 r]
    have dep : ∀ b, b ∈ xs → b.toP.depth ≤ 30 := fun b hb => (okd_lay 30 b (okdL_mem o1 hb)).2
    refine PySem.W.sorted_data (R := fun u d => ∃ v, RelV v u ∧ Rep g w v d) (bs := xs) (enc := D.toP) hl.isList (each_of rl rv fun v u d r a _ => ⟨v, a, r⟩) (each_of rl rv fun v u d r a m => Dp.reads I d.toP v u (by rw [hK]; exact r.dp (okdL_mem o1 m)) a) ?_ ?_ o4 (fun b hb => by have := dep b hb; omega) fun out ho eo => ?_
    · intro d hd d' hd'
      obtain ⟨b, hb, rfl⟩ := List.mem_map.mp hd
      obtain ⟨b', hb', rfl⟩ := List.mem_map.mp hd'
      exact List.all_eq_true.mp (List.all_eq_true.mp o2 b hb) b' hb'
    · rw [Bool.or_eq_true] at o3
      rcases o3 with o3 | o3
      · refine .inl fun d hd => ?_
        obtain ⟨b, hb, rfl⟩ := List.mem_map.mp hd
        have := List.all_eq_true.mp o3 b hb
        unfold isTupC at this
        split at this
        · exact ⟨_, _, by simp only [D.toP, toPL]; exact rfl⟩
        · cases this
      · refine .inr fun d hd => ?_
        obtain ⟨b, hb, rfl⟩ := List.mem_map.mp hd
        have := List.all_eq_true.mp o3 b hb
        unfold isFlat at this
        split at this
        · simp [D.toP]
        · simp [D.toP]
        · simp [D.toP]
        · simp [D.toP]
        · cases this
    · obtain ⟨us', rv', rl'⟩ := of_each eo
      obtain ⟨ep, he'⟩ := PyProof.Rows.sortedAll_at s.heap its out.toArray
      have hlen : us'.length ≤ sizeLine := by rw [rv'.length, ho]; exact o4
      exact ⟨.ref _, upd w.H (s.heap.objs.size + 1) (.lst us'), I.laid (t' := s.toks) (fun _ _ => PyProof.Rows.sortedAll_old) (Nat.le_succ _) ⟨hlen, out, ep, rv', he'⟩, rfl, q us' _ rl' (I.hok.fresh (Nat.le_succ _))⟩
  · unfold sortS at e
    split at e
    · split at e
      · rename_i zs hz
        cases e
        obtain ⟨v, rfl, r⟩ := ra.one
        obtain ⟨a, us, rfl, h1, h2⟩ := r.lst
        exact ⟨w, a, us, zs, rfl, rfl, by rw [hK]; exact h1, h2, hz, fun us' p r' hp => q ⟨upd w.H p _, p :: w.N, w.m⟩ _ (keep_newN hp) (sr.newN hp) (new_l sr hp r')⟩
      · cases e
    · cases e
    · cases e
end
end Pc

set_option Elab.async false
set_option linter.all false
set_option autoImplicit false
set_option maxRecDepth 100000
set_option maxHeartbeats 4000000
/-! Pc, part P: the context of a body, checked by computing. -/
namespace Pc
open PySem PySem.Spec PyProof.Rows L2
structure Ge where
  P : Program
  w : World
  mg : Str → Option Value
  base : Heap
  gr : Bool
structure Cn (g : Gc) (G : Ge) (k : Nat) (N : List Str) (sc : Scope) (X : Cx) : Prop where
  hP : X.prog = G.P
  hw : X.w = G.w
  hm : X.mg = G.mg
  hb : X.base = G.base
  hs : X.env.scope = sc
  hN : X.N = N
  ok : Ok g G.gr X k
def kindB (sc : Scope) (x : Str) (ks : List NameKind) : Bool := match sc.names.lookup x with
  | some q => ks.any fun z => decide (z = q)
  | none => false
def visB (N : List Str) (sc : Scope) (x : Str) (i : Nat) : Bool := decide (N[i]? = some x) && kindB sc x [.local, .cell, .free] && !(x == ("__debug__" : Str)) && !(x == ("__classdict__" : Str))
def locB (N : List Str) (sc : Scope) (x : Str) (i : Nat) : Bool := decide (N[i]? = some x) && kindB sc x [.local, .cell]
def plocB (N : List Str) (sc : Scope) (x : Str) (i : Nat) : Bool := decide (N[i]? = some x) && kindB sc x [.local]
def glB (sc : Scope) (x : Str) : Bool := kindB sc x [.globalImplicit] && !(x == ("__debug__" : Str))
theorem kindB_eq {sc : Scope} {x : Str} {ks : List NameKind} (h : kindB sc x ks = true) : ∃ q ∈ ks, sc.names.lookup x = some q := by
  unfold kindB at h
  cases e : sc.names.lookup x with
  | none => rw [e] at h; cases h
  | some q =>
    rw [e] at h
    obtain ⟨z, hz, h2⟩ := List.any_eq_true.mp h
    have := of_decide_eq_true h2
    subst this
    exact ⟨z, hz, rfl⟩
/-- an env of a scope -/
def env0 (sc : Scope) : Env := { scope := sc, locals := 0, globals := 0, cells := [] }
theorem sw_env {ts : List Expr} {v : Expr} {e e' : Env} (h : e.scope = e'.scope) : swappedStores ts v e = swappedStores ts v e' := by
  unfold swappedStores Env.blockKind Env.kindOf
  rw [h]
theorem swith_env {v : Expr} {t : Option Expr} {l : Nat} {e e' : Env} (h : e.scope = e'.scope) : swapsWith v t l e = swapsWith v t l e' := by
  unfold swapsWith Env.blockKind Env.kindOf
  rw [h]

theorem takes_no {X : Cx} : Takes X noW := fun u s' ⟨_, _, _, _, _, _, _, _, _, _, _, _, _, _, _, _, w⟩ => w.elim
/-- a def of the module by its name, whatever calls it -/
structure Dfn (g : Gc) (G : Ge) (k : Nat) (x : Str) (n : Nat) (sem : List D → M D) : Prop where
  ex : ∃ (f : Addr) (fd : FuncData) (ps : List Str), ps.length = n ∧ FnG g G.P G.w G.mg G.base G.gr k f fd ps sem ∧ G.mg x = some (.ref f) ∧ PySem.W.keepIn g.K (.ref f) = true ∧ Binds g.K fd ps []
theorem Dfn.mono {g : Gc} {G : Ge} {j k : Nat} {x : Str} {n : Nat} {sem : List D → M D} (h : Dfn g G j x n sem) (hk : j ≤ k) : Dfn g G k x n sem := by
  obtain ⟨f, fd, ps, h1, h2, h3⟩ := h.ex
  exact ⟨f, fd, ps, h1, h2.mono hk, h3⟩
def blkB (N : List Str) (sc scope : Scope) (own : List (Str × Nat)) : Bool :=
  decide (scope.kind = .function) && scope.names.all (fun y => decide (scope.names.lookup y.1 = some y.2)) && own.all (fun p => decide (N[p.2]? = some p.1)) &&
  scope.names.all (fun y => if y.2 = .free then kindB sc y.1 [.cell, .free] else true) && scope.names.all (fun y => if y.2 = .local ∨ y.2 = .cell then decide (y.1 ∈ own.map (·.1)) || decide (y.1 ∉ N) else true)
theorem blkB_ok {N : List Str} {sc scope : Scope} {own : List (Str × Nat)} (h : blkB N sc scope own = true) : BlkOk N sc scope own := by
  unfold blkB at h
  simp only [Bool.and_eq_true, decide_eq_true_eq, List.all_eq_true] at h
  obtain ⟨⟨⟨⟨h1, h2⟩, h3⟩, h4⟩, h5⟩ := h
  refine ⟨h1, h2, h3, fun y hy e => ?_, fun y hy e => ?_⟩
  · have := h4 y hy
    rw [if_pos e] at this
    obtain ⟨q, hq, e2⟩ := kindB_eq this
    rw [e2]
    simp at hq
    rcases hq with rfl | rfl
    · exact .inl rfl
    · exact .inr rfl
  · have := h5 y hy
    rw [if_pos e, Bool.or_eq_true, decide_eq_true_eq, decide_eq_true_eq] at this
    exact this
namespace Cn
variable {g : Gc} {G : Ge} {k : Nat} {N : List Str} {sc : Scope} {X : Cx} {N0 : List Addr} {Wx : WX} {w0 : Wd}
theorem nd (c : Cn g G k N sc X) : X.N.Nodup := c.ok.nd
theorem u64 (c : Cn g G k N sc X) : X.A.units + 64 < cLine := by have := c.ok.room.un; omega
theorem u65 (c : Cn g G k N sc X) : X.A.units + 65 < cLine := by have := c.ok.room.un; omega
theorem u1 (c : Cn g G k N sc X) : X.A.units + 1 < cLine := by have := c.ok.room.un; omega
theorem blk (c : Cn g G k N sc X) (s : Shared) (H : Hp) (scope : Scope) (cl : List (Str × Addr)) (C : Addr) (fp : List Addr) : Cn g G k N (relS scope sc) (X.blk s H scope (compEnvC scope cl C X.env) fp) := by
  have hs : (compEnvC scope cl C X.env).scope = relS scope X.env.scope := rfl
  exact ⟨c.hP, c.hw, c.hm, c.hb, by rw [← c.hs]; exact hs, c.hN, ⟨c.ok.K, c.ok.calm, c.ok.nd, c.ok.room, c.ok.gd⟩⟩
theorem vis {i : Nat} {x : Str} (c : Cn g G k N sc X) (h : visB N sc x i = true) : X.N[i]? = some x ∧ Vis X.env.scope x ∧ (x == ("__debug__" : Str)) = false ∧ (x == ("__classdict__" : Str)) = false := by
  unfold visB at h
  simp only [Bool.and_eq_true, decide_eq_true_eq, Bool.not_eq_true'] at h
  obtain ⟨⟨⟨h1, h2⟩, h3⟩, h4⟩ := h
  refine ⟨by rw [c.hN]; exact h1, ?_, h3, h4⟩
  obtain ⟨q, hq, e⟩ := kindB_eq h2
  rw [c.hs]
  simp at hq
  rcases hq with rfl | rfl | rfl
  · exact .inl e
  · exact .inr (.inl e)
  · exact .inr (.inr e)
theorem loc {i : Nat} {x : Str} (c : Cn g G k N sc X) (h : locB N sc x i = true) : X.N[i]? = some x ∧ Loc X.env.scope x := by
  unfold locB at h
  simp only [Bool.and_eq_true, decide_eq_true_eq] at h
  refine ⟨by rw [c.hN]; exact h.1, ?_⟩
  obtain ⟨q, hq, e⟩ := kindB_eq h.2
  rw [c.hs]
  simp at hq
  rcases hq with rfl | rfl
  · exact .inl e
  · exact .inr e
theorem ploc {i : Nat} {x : Str} (c : Cn g G k N sc X) (h : plocB N sc x i = true) : X.N[i]? = some x ∧ X.env.scope.names.lookup x = some .local := by
  unfold plocB at h
  simp only [Bool.and_eq_true, decide_eq_true_eq] at h
  refine ⟨by rw [c.hN]; exact h.1, ?_⟩
  obtain ⟨q, hq, e⟩ := kindB_eq h.2
  rw [c.hs]
  simp at hq
  subst hq
  exact e
theorem gl {x : Str} (c : Cn g G k N sc X) (h : glB sc x = true) : Gl X x ∧ (x == ("__debug__" : Str)) = false := by
  unfold glB at h
  simp only [Bool.and_eq_true, Bool.not_eq_true'] at h
  refine ⟨?_, h.2⟩
  obtain ⟨q, hq, e⟩ := kindB_eq h.1
  simp at hq
  subst hq
  show X.env.scope.names.lookup x = _
  rw [c.hs]
  exact e
/-! ### names, constants -/
theorem pv {x : Str} {p : Pos} (c : Cn g G k N sc X) (i : Nat) (h : visB N sc x i = true) : PE X (.Name x p) (tVar i) := by
  obtain ⟨h1, h2, h3, h4⟩ := c.vis h
  exact pe_var h1 h2 h3 h4
theorem v {x : Str} {p : Pos} (c : Cn g G k N sc X) (i : Nat) (h : visB N sc x i = true) : DE g N0 Wx X (.Name x p) (rd i) := de_var (c.pv i h)
theorem vB {x : Str} {p : Pos} (c : Cn g G k N sc X) (i : Nat) (h : visB N sc x i = true) : DW g N0 Wx X (.Name x p) (rdB i) := dw_var (c.pv i h)
theorem pg {x : Str} {p : Pos} (c : Cn g G k N sc X) (fa : ∀ x, X.fn x = true) (i : Nat) (h : locB N sc x i = true) : PG X (.Name x p) (gName i) := by
  obtain ⟨h1, h2⟩ := c.loc h
  exact pg_name c.nd h1 h2 (.inl (fa x))
theorem pgl {x : Str} {p : Pos} (c : Cn g G k N sc X) (i : Nat) (h : plocB N sc x i = true) : PG X (.Name x p) (gName i) := by
  obtain ⟨h1, h2⟩ := c.ploc h
  exact pg_name c.nd h1 (.inl h2) (.inr h2)
theorem set {i : Nat} {x : Str} {e : Expr} {f : Ev → M Sl} {pos pos' : Pos} (c : Cn g G k N sc X) (fa : ∀ x, X.fn x = true) (h : locB N sc x i = true) (hc : notComp e = true) (d : DX g w0.N Wx X e f) : DS g Wx w0 X (.Assign [.Name x pos'] e pos) (setM i f) := by
  obtain ⟨h1, h2⟩ := c.loc h
  exact ds_set c.nd h1 h2 (fa x) hc d
/-- .. of a comprehension that is not stored from within -/
theorem setW {i : Nat} {x : Str} {e : Expr} {f : Ev → M Sl} {pos pos' : Pos} (c : Cn g G k N sc X) (fa : ∀ x, X.fn x = true) (h : locB N sc x i = true) (hw : swapsWith e (some (.Name x pos')) pos.line (env0 sc) = pure false) (d : DX g w0.N Wx X e f) : DS g Wx w0 X (.Assign [.Name x pos'] e pos) (setM i f) := by
  obtain ⟨h1, h2⟩ := c.loc h
  refine PS.imp (ps_set c.nd h1 h2 d ((swith_env c.hs).trans hw) (.inl (fa x))) fun E σ H ⟨w, env, S, ee, st, q⟩ => ?_
  subst ee
  refine tr_intro st.er st.sr (pst_of st q fun w1 s S1 y e k1 s1 r1 q1 => ?_)
  exact q1 w1 _ (Mono.refl w1) ⟨st.er.set_new st.kp.sub k1 r1, s1, st.kp.trans k1⟩
theorem int {i : Int} {j : Nat} {p : Pos} (c : Cn g G k N sc X) : DE g N0 Wx X (.Constant (.int i) j p) (fun _ => pure (.int i)) := de_con pe_int fun w => .int i
theorem str {i : Str} {j : Nat} {p : Pos} (c : Cn g G k N sc X) : DE g N0 Wx X (.Constant (.str i) j p) (fun _ => pure (.str i)) := de_con pe_str fun w => .str i
theorem bl {i : Bool} {j : Nat} {p : Pos} (c : Cn g G k N sc X) : DE g N0 Wx X (.Constant (.bool i) j p) (fun _ => pure (.bl i)) := de_con pe_bl fun w => .bl i
theorem non {j : Nat} {p : Pos} (c : Cn g G k N sc X) : DE g N0 Wx X (.Constant .none j p) (fun _ => pure .non) := de_con pe_non fun w => .non
theorem add (c : Cn g G k N sc X) : OpS g X (binaryOp .Add) addD := ops_add c.ok.K
theorem eq (c : Cn g G k N sc X) : OpS g X (compareOp .Eq) eqD := ops_eq c.ok.K c.u64
theorem ne (c : Cn g G k N sc X) : OpS g X (compareOp .NotEq) neD := ops_ne c.ok.K c.u64
theorem isin (c : Cn g G k N sc X) : OpS g X (compareOp .In) inD := ops_in c.ok.K c.u65
theorem nin (c : Cn g G k N sc X) : OpS g X (compareOp .NotIn) ninD := ops_nin c.ok.K c.u65
/-! ### built-in functions -/
theorem blt {x : Str} {fv : Value} (c : Cn g G k N sc X) (m : G.mg x = none) (h : glB sc x = true) (b : bootBuiltins x = some fv) (hn : x ≠ "__name__") : Blt X x fv := ⟨(c.gl h).1, by rw [c.hm]; exact m, b, hn, (c.gl h).2⟩
section
variable {e a b : Expr} {es : List Expr} {p pos : Pos} {f : Ev → M (List D)}
theorem call {x : Str} {n : Nat} {sem : List D → M D} (c : Cn g G k N sc X) (F : Dfn g G k x n sem) (h : glB sc x = true) (tk : Takes X Wx) (hs : (e :: es).all notStar = true) (ha : DA g N0 Wx X (e :: es) f) :
    DE g N0 Wx X (.Call (.Name x p) (e :: es) [] pos) (fun env => do let ds ← f env; callN n sem ds) := by
  obtain ⟨ff, fd, ps, h1, h2, h3, h4, h5⟩ := F.ex
  refine de_call (k := k) ⟨⟨ff, fd, ps, h1, ?_, by rw [c.hm]; exact h3, by rw [c.ok.K]; exact h4, by rw [c.ok.K]; exact h5⟩, (c.gl h).2⟩ c.ok (c.gl h).1 tk hs ha
  rw [c.hP, c.hw, c.hm, c.hb]
  exact h2
theorem call0 {x : Str} {n : Nat} {sem : List D → M D} (c : Cn g G k N sc X) (F : Dfn g G k x n sem) (h : glB sc x = true) (tk : Takes X Wx) :
    DE g N0 Wx X (.Call (.Name x p) [] [] pos) (fun _ => callN n sem []) := by
  obtain ⟨ff, fd, ps, h1, h2, h3, h4, h5⟩ := F.ex
  refine de_call0 (k := k) ⟨⟨ff, fd, ps, h1, ?_, by rw [c.hm]; exact h3, by rw [c.ok.K]; exact h4, by rw [c.ok.K]; exact h5⟩, (c.gl h).2⟩ c.ok (c.gl h).1 tk
  rw [c.hP, c.hw, c.hm, c.hb]
  exact h2
end
end Cn
end Pc

set_option Elab.async false
set_option linter.all false
set_option autoImplicit false
set_option maxRecDepth 100000
set_option maxHeartbeats 4000000
/-! Pc, part Q: rules by the context, for printed derivations. -/
namespace Pc
open PySem PySem.Spec PyProof.Rows L2
def hasB (l : List Str) (x : Str) : Bool := l.any fun y => decide (y = x)
/-- the built-in names that the module leaves alone -/
def Bts (l : List Str) (G : Ge) : Prop := ∀ x, hasB l x = true → G.mg x = none
theorem bb_len : bootBuiltins "len" = some (.builtin "len") := by kernel_rfl
theorem bb_sum : bootBuiltins "sum" = some (.builtin "sum") := by kernel_rfl
theorem bb_all : bootBuiltins "all" = some (.builtin "all") := by kernel_rfl
theorem bb_any : bootBuiltins "any" = some (.builtin "any") := by kernel_rfl
theorem bb_max : bootBuiltins "max" = some (.builtin "max") := by kernel_rfl
theorem bb_min : bootBuiltins "min" = some (.builtin "min") := by kernel_rfl
theorem bb_abs : bootBuiltins "abs" = some (.builtin "abs") := by kernel_rfl
theorem bb_repr : bootBuiltins "repr" = some (.builtin "repr") := by kernel_rfl
theorem bb_sorted : bootBuiltins "sorted" = some (.builtin "sorted") := by kernel_rfl
theorem bb_int : bootBuiltins "int" = some (.type "int") := by kernel_rfl
theorem bb_str : bootBuiltins "str" = some (.type "str") := by kernel_rfl
theorem bb_tuple : bootBuiltins "tuple" = some (.type "tuple") := by kernel_rfl
theorem bb_list : bootBuiltins "list" = some (.type "list") := by kernel_rfl
theorem isB (id : String) : (∃ i, (Value.builtin id) = .builtin i) ∨ ∃ T, (Value.builtin id) = .type T := .inl ⟨id, rfl⟩
theorem isT (id : String) : (∃ i, (Value.type id) = .builtin i) ∨ ∃ T, (Value.type id) = .type T := .inr ⟨id, rfl⟩
theorem mt_appendL {X : Cx} : Mth X "append" "list.append" rAppend := ⟨PySem.F.slot_list_append, by kernel_rfl, mt_append⟩
theorem mt_popL {X : Cx} : Mth X "pop" "list.pop" rPop := ⟨PySem.F.slot_list_pop, by kernel_rfl, mt_pop⟩
theorem mt_popAtL {X : Cx} : Mth X "pop" "list.pop" rPopAt := ⟨PySem.F.slot_list_pop, by kernel_rfl, mt_popAt⟩
namespace Cn
variable {g : Gc} {G : Ge} {k : Nat} {N : List Str} {sc : Scope} {X : Cx} {N0 : List Addr} {Wx : WX} {w0 : Wd}
section
variable {e a b : Expr} {es : List Expr} {p pos : Pos} {f : Ev → M (List D)} {l : List Str}
/-- a built-in that gives a value -/
theorem bf {x : Str} {fv : Value} {sem : List D → Option D} (c : Cn g G k N sc X) (B : Bts l G) (hb : hasB l x = true) (hg : glB sc x = true) (bb : bootBuiltins x = some fv) (hf : (∃ id, fv = .builtin id) ∨ ∃ T, fv = .type T) (hn : decide (x ≠ "__name__") = true) (hc : CallS g X fv sem) (hs : (e :: es).all notStar = true) (ha : DB g N0 Wx X (e :: es) f) :
    DE g N0 Wx X (.Call (.Name x p) (e :: es) [] pos) (fun env => do let ds ← f env; opN sem ds) := de_blt hf (c.blt (B x hb) hg bb (of_decide_eq_true hn)) hc hs ha
theorem bn {x : Str} {fv : Value} {sem : List D → Option (List D)} (c : Cn g G k N sc X) (B : Bts l G) (hb : hasB l x = true) (hg : glB sc x = true) (bb : bootBuiltins x = some fv) (hf : (∃ id, fv = .builtin id) ∨ ∃ T, fv = .type T) (hn : decide (x ≠ "__name__") = true) (hc : CallN g X fv sem) (hs : (e :: es).all notStar = true) (ha : DB g N0 Wx X (e :: es) f) :
    DL g N0 Wx X (.Call (.Name x p) (e :: es) [] pos) (fun env => do let ds ← f env; opN sem ds) := dl_blt hf (c.blt (B x hb) hg bb (of_decide_eq_true hn)) hc hs ha
theorem s_len (c : Cn g G k N sc X) : CallS g X (.builtin "len") lenS := cs_len c.ok.K
theorem s_sum (c : Cn g G k N sc X) : CallS g X (.builtin "sum") sumS := cs_sum c.ok.K c.ok.calm
theorem s_all (c : Cn g G k N sc X) : CallS g X (.builtin "all") allS := cs_all c.ok.K c.ok.calm
theorem s_any (c : Cn g G k N sc X) : CallS g X (.builtin "any") anyS := cs_any c.ok.K c.ok.calm
theorem s_max (c : Cn g G k N sc X) : CallS g X (.builtin "max") maxS := cs_max c.ok.K c.ok.calm
theorem s_min (c : Cn g G k N sc X) : CallS g X (.builtin "min") minS := cs_min c.ok.K c.ok.calm
theorem s_abs (c : Cn g G k N sc X) : CallS g X (.builtin "abs") absS := cs_abs
theorem s_int (c : Cn g G k N sc X) : CallS g X (.type "int") intS := cs_int
theorem s_str (c : Cn g G k N sc X) : CallS g X (.type "str") strS := cs_str
theorem s_tuple (c : Cn g G k N sc X) : CallS g X (.type "tuple") tupS := cs_tuple c.ok.K
theorem s_repr (c : Cn g G k N sc X) (hr : G.gr = true) : CallS g X (.builtin "repr") reprS := cs_repr c.ok.K (c.ok.gd hr) c.u64
theorem n_list (c : Cn g G k N sc X) : CallN g X (.type "list") lstS := cn_list c.ok.K
theorem n_sorted (c : Cn g G k N sc X) : CallN g X (.builtin "sorted") sortS := cn_sorted c.ok.K c.u64
theorem rng1 {Rl : Wd → Wd → Prop} {tg : Expr} (c : Cn g G k N sc X) (B : Bts l G) (hb : hasB l "range" = true) (hg : glB sc "range" = true) (hs : notStar a = true) (ha : DB g N0 Wx X [a] f) : DI g N0 Wx Rl X tg (.Call (.Name "range" p) [a] [] pos) (fun env => do let ds ← f env; ofO (Pc.rng1 ds)) := di_rng1 (c.gl hg).1 (by rw [c.hm]; exact B _ hb) hs ha
theorem rng2 {Rl : Wd → Wd → Prop} {tg : Expr} (c : Cn g G k N sc X) (B : Bts l G) (hb : hasB l "range" = true) (hg : glB sc "range" = true) (hs : notStar a = true) (hs2 : notStar b = true) (ha : DB g N0 Wx X [a, b] f) : DI g N0 Wx Rl X tg (.Call (.Name "range" p) [a, b] [] pos) (fun env => do let ds ← f env; ofO (Pc.rng2 ds)) := di_rng2 (c.gl hg).1 (by rw [c.hm]; exact B _ hb) hs hs2 ha
theorem sub {fa fb : Ev → M D} (c : Cn g G k N sc X) (hs : noSlice b = true) (ha : DW g N0 Wx X a fa) (hb : DW g N0 Wx X b fb) : DE g N0 Wx X (.Subscript a b pos) (fun env => do let x ← fa env; let y ← fb env; getM x y) := de_sub c.ok.K c.u1 hs ha hb
end
/-! ### comprehensions -/
section
variable {elt tg iter : Expr} {ifs : List Expr} {scope : Scope} {own : List (Str × Nat)} {us : List Nat} {pos : Pos} {fi : Ev → M (List D)} {fg : D → Ev → Option Ev} {fc : Ev → M Bool} {fe : Ev → M D}
def subB (us : List Nat) (own : List (Str × Nat)) : Bool := us.all fun i => own.any fun p => p.2 == i
theorem subB_ok (h : subB us own = true) : ∀ i ∈ us, i ∈ own.map (·.2) := fun i hi => by
  have := List.all_eq_true.mp h i hi
  obtain ⟨p, hp, e⟩ := List.any_eq_true.mp this
  exact List.mem_map.mpr ⟨p, hp, eq_of_beq e⟩
theorem comp (c : Cn g G k N sc X) (own : List (Str × Nat)) (hi : DI g N0 Wx Keep X tg iter fi) (ok : blkB N sc scope own = true) (hg : ∀ X', Cn g G k N (relS scope sc) X' → DG g N0 X' tg us fg)
    (ht : ∀ X', Cn g G k N (relS scope sc) X' → PTs X' ifs (tr g N0 noW rlB fc)) (he : ∀ X', Cn g G k N (relS scope sc) X' → DE g N0 noW X' elt fe) (sub : subB us own = true) (hs : ∀ env x, foldedSetIterable iter env x = pure x) :
    DL g N0 Wx X (.ListComp elt [⟨tg, iter, ifs, 0⟩] scope pos) (fun env => do let ds ← fi env; compM fg fc fe (wipeE env (own.map (·.2))) ds) :=
  dl_comp c.ok.calm c.nd hi (by rw [c.hN, c.hs]; exact blkB_ok ok) (fun s H C cl fp => hg _ (c.blk s H scope cl C fp)) (fun s H C cl fp => ht _ (c.blk s H scope cl C fp)) (fun s H C cl fp => he _ (c.blk s H scope cl C fp)) (subB_ok sub) (hs _)
/-- x = [.. for ..] on one line, x a plain local; m: what the slot gets -/
theorem setC {i : Nat} {y : Str} {py spos : Pos} (c : Cn g G k N sc X) (own : List (Str × Nat)) (hy : plocB N sc y i = true) (hw : swapsWith (.ListComp elt [⟨tg, iter, ifs, 0⟩] scope pos) (some (.Name y py)) spos.line (env0 sc) = pure true)
    (hi : DI g w0.N Wx Keep X tg iter fi) (ok : blkB N sc scope own = true) (hg : ∀ X', Cn g G k N (relS scope sc) X' → DG g w0.N X' tg us fg)
    (ht : ∀ X', Cn g G k N (relS scope sc) X' → PTs X' ifs (tr g w0.N noW rlB fc)) (he : ∀ X', Cn g G k N (relS scope sc) X' → DE g w0.N noW X' elt fe) (sub : subB us own = true) (hs : ∀ env x, foldedSetIterable iter env x = pure x)
    {f : Ev → M Sl} (hm : ∀ {σ : L2.St} {H : Hp} {Q : VK}, tr g w0.N Wx (rlX g) f σ H Q → tr g w0.N Wx (NewL g) (fun env => do let ds ← fi env; compM fg fc fe (wipeE env (own.map (·.2))) ds) σ H Q) :
    DS g Wx w0 X (.Assign [.Name y py] (.ListComp elt [⟨tg, iter, ifs, 0⟩] scope pos) spos) (setM i f) := by
  obtain ⟨h1, h2⟩ := c.ploc hy
  refine ds_setC ?_
  exact PS.imp (ps_setLc c.ok.calm c.nd h1 h2 ((swith_env c.hs).trans hw) hi (by rw [c.hN, c.hs]; exact blkB_ok ok) (fun s H C cl fp => hg _ (c.blk s H scope cl C fp)) (fun s H C cl fp => ht _ (c.blk s H scope cl C fp)) (fun s H C cl fp => he _ (c.blk s H scope cl C fp)) (hs _)) fun E σ H h => tr_lc (subB_ok sub) (hm h)
end
theorem x_own {f : Ev → M (List D)} {σ : L2.St} {H : Hp} {Q : VK} (h : tr g N0 Wx (rlX g) (fun env => do let d ← f env; pure (Sl.own d)) σ H Q) : tr g N0 Wx (NewL g) f σ H Q := by
  obtain ⟨w, env, S, ee, er, sr, q⟩ := h
  subst ee
  refine tr_intro er sr ?_
  have q' : Pst g Wx σ (rlX g) w ((f env >>= fun d => pure (.own d)) S) Q := q
  cases e : f env S with
  | ok xs S1 =>
    rw [bind_ok e] at q'
    intro w1 v k1 s1 n
    obtain ⟨p, vs, e1, h2, h3, h4, h5, h6⟩ := n
    exact q' w1 v k1 s1 ⟨⟨p, vs, e1, h2, h3, h4, h6⟩, fun _ a ea => by rw [e1] at ea; cases ea; exact h5⟩
  | ex c fs S1 => rw [bind_ex e] at q'; exact q'
  | bad => rw [bind_bad e] at q'; exact q'
theorem x_frz {f : Ev → M (List D)} {σ : L2.St} {H : Hp} {Q : VK} (h : tr g N0 Wx (rlX g) (fun env => do let d ← f env; pure (Sl.val (.lst d))) σ H Q) : tr g N0 Wx (NewL g) f σ H Q := by
  obtain ⟨w, env, S, ee, er, sr, q⟩ := h
  subst ee
  refine tr_intro er sr ?_
  have q' : Pst g Wx σ (rlX g) w ((f env >>= fun d => pure (.val (.lst d))) S) Q := q
  cases e : f env S with
  | ok xs S1 =>
    rw [bind_ok e] at q'
    intro w1 v k1 s1 n
    obtain ⟨w'', e1, k2, s2, r2⟩ := n.frozen k1 s1
    rw [← e1]
    exact q' w'' v k2 s2 ⟨r2, fun o => by cases o⟩
  | ex c fs S1 => rw [bind_ex e] at q'; exact q'
  | bad => rw [bind_bad e] at q'; exact q'
/-! ### several names -/
theorem par2 {i j : Nat} {x y : Str} {a b : Expr} {f : Ev → M (List Sl)} {px py pt pos : Pos} {kt k2 pt2} (c : Cn g G k N sc X) (hi : plocB N sc x i = true) (hj : plocB N sc y j = true) (hij : decide (i ≠ j) = true) (ha : DXs g w0.N Wx X [a, b] f)
    (hw : swappedStores [.Tuple [.Name x px, .Name y py] kt pt] (.Tuple [a, b] k2 pt2) (env0 sc) = pure (some [x, y])) (hca : notComp a = true) :
    DS g Wx w0 X (.Assign [.Tuple [.Name x px, .Name y py] kt pt] (.Tuple [a, b] k2 pt2) pos) (parM [i, j] f) :=
  ds_par2 c.ok.calm c.nd (c.ploc hi).1 (c.ploc hj).1 (of_decide_eq_true hij) (c.ploc hi).2 (c.ploc hj).2 hca ha ((sw_env c.hs).trans hw)
theorem par3 {i j l : Nat} {x y z : Str} {a b d : Expr} {f : Ev → M (List Sl)} {px py pz pt pos : Pos} {kt k2 pt2} (c : Cn g G k N sc X) (hi : plocB N sc x i = true) (hj : plocB N sc y j = true) (hl : plocB N sc z l = true) (hij : decide (i ≠ j ∧ i ≠ l ∧ j ≠ l) = true) (ha : DXs g w0.N Wx X [a, b, d] f)
    (hw : swappedStores [.Tuple [.Name x px, .Name y py, .Name z pz] kt pt] (.Tuple [a, b, d] k2 pt2) (env0 sc) = pure (some [x, y, z])) :
    DS g Wx w0 X (.Assign [.Tuple [.Name x px, .Name y py, .Name z pz] kt pt] (.Tuple [a, b, d] k2 pt2) pos) (parM [i, j, l] f) := by
  have h := of_decide_eq_true hij
  exact ds_par3 c.ok.calm c.nd (c.ploc hi).1 (c.ploc hj).1 (c.ploc hl).1 h.1 h.2.1 h.2.2 (c.ploc hi).2 (c.ploc hj).2 (c.ploc hl).2 ha ((sw_env c.hs).trans hw)
theorem asgEach_len {env : Env} : ∀ (xs : List (Str × Pos)), (assignEach (xs.map fun p => Expr.Name p.1 p.2) env).length = xs.length
  | [] => rfl
  | x :: xs => by
    show ((false, _) :: assignEach (xs.map fun p => Expr.Name p.1 p.2) env).length = _
    rw [List.length_cons, asgEach_len xs]; rfl
theorem asgEach_idx {env : Env} : ∀ (xs : List (Str × Pos)), (assignEach (xs.map fun p => Expr.Name p.1 p.2) env).findIdx? (·.1) = none
  | [] => rfl
  | x :: xs => by
    show ((false, _) :: assignEach (xs.map fun p => Expr.Name p.1 p.2) env).findIdx? (·.1) = none
    rw [List.findIdx?_cons, asgEach_idx xs]; rfl
def locsB (N : List Str) (sc : Scope) (xs : List (Str × Pos)) (is : List Nat) : Bool := (xs.zip is).all (fun p => locB N sc p.1.1 p.2) && (xs.length == is.length) && decide (is.length ≤ 100)
theorem parT {ts : List Expr} (xs : List (Str × Pos)) (is : List Nat) {es : List Expr} {f : Ev → M (List Sl)} {pt pos : Pos} {kt k2 pt2} (c : Cn g G k N sc X) (fa : ∀ x, X.fn x = true) (ht : ts = xs.map fun p => Expr.Name p.1 p.2) (h : locsB N sc xs is = true) (ha : DXs g w0.N Wx X es f)
    (hw : swappedStores [.Tuple ts kt pt] (.Tuple es k2 pt2) (env0 sc) = pure none) :
    DS g Wx w0 X (.Assign [.Tuple ts kt pt] (.Tuple es k2 pt2) pos) (parM is f) := by
  subst ht
  unfold locsB at h
  simp only [Bool.and_eq_true, decide_eq_true_eq] at h
  have hl := eq_of_beq h.1.2
  refine ds_parT c.ok.calm (fun p hp => c.pg fa p.2 (List.all_eq_true.mp h.1.1 p hp)) hl h.2 ha ((asgEach_len xs).trans hl) (asgEach_idx xs) ((sw_env c.hs).trans hw)
/-- targets that are tuples of names -/
theorem tg {es : List Expr} {k' n : Nat} {us : List Nat} {r : List D → Ev → Option Ev} {pos : Pos} (c : Cn g G k N sc X) (h : PGs X es (trGs g N0 us r)) (hn : ∀ env, (assignEach es env).length = n) (hst : ∀ env, (assignEach es env).findIdx? (·.1) = none) : DG g N0 X (.Tuple es k' pos) us (tupG n r) := dg_tup c.ok.K c.ok.calm h (hn _) (hst _)
end Cn
end Pc

set_option Elab.async false
set_option linter.all false
set_option autoImplicit false
set_option maxRecDepth 100000
set_option maxHeartbeats 4000000
/-! Pc, part R: a law's end by its meaning; defs by the head's facts. -/
namespace Pc
open PySem PySem.Spec PyProof.Rows L2
/-- what the script may be to the written part: one of its objects, or a frozen list of its own -/
theorem fin_at {g : Gc} {P : Program} {w : World} {mg mb : Str → Option Value} {k : Nat} {fa a : Addr} {fd : FuncData} {x : Str} {sem : List D → M D} {s : Shared} {vs : List Value} {ns : List Int} {H : Hp}
    (KX : g.K.In s.heap) (hns : s.heap.Ns mainGlobals mg) (hb : s.heap.Ns builtinsNs mb) (hbb : ∀ x : Str, x ≠ "__name__" → mb x = bootBuiltins x) (hlim : s.heap.NoLimit) (hg : s.gens = #[])
    (hobj : s.heap.get? a = some { cls := .type "list", data := .seq vs.toArray }) (hr : Room k callerA)
    (F : ∀ base : Heap, g.K.In base → base.Ns mainGlobals mg → FnG g P w mg base true k fa fd [x] sem) (hbind : ∀ (s : Shared) (u : Value), BindsTo s fd ⟨[u], []⟩ [(x, u)])
    (only : ∀ b, b ≠ a → H b = none) (frz : ∀ u, H a = some u → ∃ o xs, u = .frz o (.lst xs) ∧ g.K.lookup a = none) (hok : HOk P w H s.heap) (rep : Rep g ⟨H, [], []⟩ (.ref a) (.lst (ns.map D.int)))
    (hsem : ∃ S, sem [.lst (ns.map D.int)] [] = .ok (.bl true) S) :
    codeAny (model P w) callerA (.call (.ref fa) ⟨[.ref a], []⟩) (fun r s' => r = .ok (.ret (.bool true)) ∧ OldK s.heap s'.heap ∧ s'.os = s.os ∧ AllBare s'.gens) s := by
  obtain ⟨S, hS⟩ := hsem
  have isA : ∀ b u, H b = some u → b = a := fun b u e => Classical.byContradiction fun n => by rw [only b n] at e; cases e
  have low : ∀ {b : Addr} {o : Obj}, s.heap.get? b = some o → H b = none → (hidT s.heap H).get? b = some o := fun e n => hidT_get e n
  have names : ∀ {b : Addr} {m : Str → Option Value}, s.heap.Ns b m → (hidT s.heap H).Ns b m := fun {b m} ⟨o, es, ep, e, dd, r⟩ => by
    refine ⟨o, es, ep, low e ?_, dd, r⟩
    cases q : H b with
    | none => rfl
    | some u =>
      cases isA b u q
      rw [hobj] at e
      cases e
      have z : Data.seq vs.toArray _ = Data.dict es ep := dd
      cases z
  have KB : g.K.In (hidT s.heap H) := fun b o e => by
    refine low (KX b o e) ?_
    cases q : H b with
    | none => rfl
    | some u =>
      cases isA b u q
      obtain ⟨_, _, _, z⟩ := frz u q
      rw [z] at e
      cases e
  obtain ⟨mc, l1, l2⟩ := hlim
  have md : Mod g.K mg (hidT s.heap H) := ⟨KB, names hns, ⟨mb, names hb, hbb⟩, ⟨mc, names l1, l2⟩⟩
  have no : ∀ b : Addr, b ∉ frs [] := fun b z => by cases z
  have env : Env0 P w g.K mg (hidT s.heap H) callerA [] s H := ⟨rfl, md, fun b o e => of_hidT e, Nat.le_of_eq (hidT_size _ _), trivial, fun b z => (no b z).elim, hok, .of_eq hg⟩
  have sp : spOf g 1 sem [.ref a] H (fun v _ => v = .bl true) (fun _ _ _ => False) := by
    refine ⟨⟨H, [], []⟩, [.lst (ns.map D.int)], [], rfl, rfl, .cons rep .nil, ⟨rfl, List.nodup_nil, fun _ z => (by cases z), fun _ z => (by cases z), fun i ob z => by simp at z⟩, ?_⟩
    rw [hS]
    intro w' v _ _ r
    cases r
    rfl
  refine codeAny_mono ((F _ KB (names hns)).run callerA [] s H ⟨[.ref a], []⟩ [.ref a] [.ref a] _ _ hr (fun _ => rfl) env (hbind s (.ref a)) (.cons rfl .nil) sp) fun r s' h => ?_
  match r, h with
  | .error e, h =>
    obtain ⟨_, _, _, _, _, _, _, _, _, _, _, _, z⟩ := h
    exact z.elim
  | .ok .next, h => exact False.elim h
  | .ok .brk, h => exact False.elim h
  | .ok .cont, h => exact False.elim h
  | .ok (.ret u), ⟨v, H', os, bare, un, hok', rv, (q : v = .bl true)⟩ =>
    subst q
    cases (show u = Value.bool true from rv)
    refine ⟨rfl, OldK.of_keep fun b o e => ?_, os, bare⟩
    cases q : H b with
    | none => exact un.keep b o e q (no b) (by simp)
    | some u =>
      cases isA b u q
      obtain ⟨ob, xs, rfl, _⟩ := frz u q
      have f1 := (hok a _ q).1
      rw [e] at f1
      cases f1
      exact (hok' a _ (un.frzs a o _ q)).1
theorem walkG {l : PySem.W.OpenLaw} {n k : Nat} {q : Program} {loose : List Str} {XP : (Str → Option Value) → Heap → Prop} {YP : World → Heap → Prop} {d : DefRec} {x : Str} (hn : l.most = some n) (hn2 : n ≤ sizeLine) (hdf : d.params.defaults = []) (hr : Room k callerA)
    (F : ∀ (w : World) (mg : Str → Option Value) (fa : Addr) (h : Heap), YP w h → h.Ns mainGlobals mg → mg d.name = some (.ref fa) → ∃ (g : Gc) (fd : FuncData) (sem : List D → M D), g.K.In h ∧ (∀ (s : Shared) (u : Value), BindsTo s fd ⟨[u], []⟩ [(x, u)]) ∧
      (∀ base : Heap, g.K.In base → base.Ns mainGlobals mg → FnG g l.prog w mg base true k fa fd [x] sem) ∧ ∀ ns : List Int, ns.length ≤ n → (∀ z ∈ ns, Builtin.Int.intBits z ≤ 1048576) → ∃ S, sem [.lst (ns.map D.int)] [] = .ok (.bl true) S) :
    PySem.W.WalkO q loose XP YP l.row.toRowW d [] (fun f vs => PySem.call f vs) := by
  refine Att.attach_callB hn hdf fun w s₀ s₁ mg mb fa o pm cd doc a vs ns G Y ho hd hcd hmg hobj hints hlen hbits hg => ?_
  obtain ⟨g, fd, sem, KX, hb, hF, hsem⟩ := F w mg fa _ Y G.T.g hmg
  have rv := vals_ints hints
  have hl : ns.length ≤ sizeLine := Nat.le_trans hlen hn2
  have lenV : vs.length = ns.length := hints.length
  cases hk : g.K.lookup a with
  | some oo =>
    have e := KX a oo hk
    rw [hobj] at e
    cases e
    refine fin_at (H := fun _ => none) (ns := ns) KX G.T.g G.T.b G.T.builtins G.T.nolimit hg hobj hr hF hb (fun _ _ => rfl) (fun u z => by cases z) (fun b u z => by cases (show (none : Option HO) = some u from z)) (.lstK (vs := ns.map V.int) (fun H => .inr ⟨_, vs.toArray, _, hk, rfl, rfl, rfl, ?_, ?_⟩) (RepL.ints ns)) (hsem ns hlen hbits)
    · rw [List.size_toArray, lenV]; exact hl
    · simpa using rv
  | none =>
    refine fin_at (H := fun b => if b = a then some (.frz { cls := .type "list", data := .seq vs.toArray } (.lst (ns.map V.int))) else none) (ns := ns) KX G.T.g G.T.b G.T.builtins G.T.nolimit hg hobj hr hF hb (fun b n => if_neg n) (fun u z => ?_) (fun b u z => ?_) (.lst (vs := ns.map V.int) (.inr ⟨_, if_pos rfl⟩) (fun z => by cases z) (RepL.ints ns)) (hsem ns hlen hbits)
    · have z' := (if_pos rfl).symm.trans z
      cases z'
      exact ⟨_, _, rfl, hk⟩
    · by_cases hb' : b = a
      · have z' := (if_pos hb').symm.trans z
        cases z'
        subst hb'
        exact ⟨hobj, by rw [List.length_map]; exact hl, vs, _, rv, hobj⟩
      · have z' := (if_neg hb').symm.trans z
        cases z'
/-- a def of the module, by the head's datum and its body's meaning -/
def scB (N ps : List Str) (sc : Scope) : Bool := decide (sc.kind = .function) && decide (sc.isCoroutine = false) && decide (sc.isGenerator = false) && decide N.Nodup && decide (N.take ps.length = ps) && ps.all (fun x => kindB sc x [.local, .cell]) && sc.names.all (fun y => decide (y.2 ≠ .free))
theorem scB_ok {N ps : List Str} {sc : Scope} (h : scB N ps sc = true) : FnScope N ps sc := by
  unfold scB at h
  simp only [Bool.and_eq_true, decide_eq_true_eq, List.all_eq_true] at h
  obtain ⟨⟨⟨⟨⟨⟨h1, h2⟩, h3⟩, h4⟩, h5⟩, h6⟩, h7⟩ := h
  refine ⟨h1, h2, h3, h4, h5, fun x hx => ?_, h7⟩
  obtain ⟨q, hq, e⟩ := kindB_eq (h6 x hx)
  simp at hq
  rcases hq with rfl | rfl
  · exact .inl e
  · exact .inr e
theorem fnG_def {g : Gc} {G : Ge} {k : Nat} {f : Addr} {fd : FuncData} {name qual : Str} {params : Arguments} {body : List Stmt} {sc : Scope} {N ps : List Str} {fb : Ev → M Out} {dvs : List V} {kws : List (Str × V)} (F : FunD g.K name qual params body sc dvs kws f fd) (S : scB N ps sc = true)
    (hbody : ∀ (X : Cx) (Wx : WX) (w0 : Wd), Cn g G k N sc X → (∀ x, X.fn x = true) → Takes X Wx → Po X → DSs g Wx w0 X body fb) : FnG g G.P G.w G.mg G.base G.gr (k + 1) f fd ps (bodyM N.length fb) := by
  obtain ⟨⟨oc, od, dV, kV, doc, pm, an, cdv, ct, osl, rfl, lk, hcd, _, _⟩, _⟩ := F
  exact fnG_of lk hcd (scB_ok S) fun X Wx w0 h1 h2 h3 h4 h5 h6 h7 ok tk po => hbody X Wx w0 ⟨h1, h2, h3, h4, h5, h6, ok⟩ h7 tk po
theorem dfn_of {g : Gc} {G : Ge} {k n : Nat} {x : Str} {f : Addr} {fd : FuncData} {name qual : Str} {params : Arguments} {body : List Stmt} {sc : Scope} {N ps : List Str} {fb : Ev → M Out} {kws : List (Str × V)} {sem : List D → M D} (F : FunD g.K name qual params body sc [] kws f fd) (S : scB N ps sc = true) (hm : G.mg x = some (.ref f)) (hn : ps.length = n) (hs : sem = bodyM N.length fb)
    (hbd : Binds g.K fd ps []) (hbody : ∀ (X : Cx) (Wx : WX) (w0 : Wd), Cn g G k N sc X → (∀ x, X.fn x = true) → Takes X Wx → Po X → DSs g Wx w0 X body fb) : Dfn g G (k + 1) x n sem :=
  ⟨f, fd, ps, hn, by rw [hs]; exact fnG_def F S hbody, hm, F.kp, hbd⟩
end Pc
namespace Pc
open PySem PySem.Spec PyProof.Rows L2
theorem says_mem {fa : List He.Fa} {fn : List He.DefD} {K : PySem.W.Frag} (c : He.SaysD fa fn K) {f : He.Fa} (h : f ∈ fa) : f.ok K = true := by
  obtain ⟨i, e⟩ := List.getElem?_of_mem h
  exact c.fact i e
theorem bts_of {fa : List He.Fa} {fn : List He.DefD} {K : PySem.W.Frag} {h : Heap} {G : Ge} {l : List Str} (X : K.In h) (N : h.Ns mainGlobals G.mg) (c : He.SaysD fa fn K) (sub : ∀ x ∈ l, He.Fa.free x ∈ fa) : Bts l G := fun x hx => by
  obtain ⟨y, hy, e⟩ := List.any_eq_true.mp hx
  have := of_decide_eq_true e
  subst this
  exact He.free_ok X N (says_mem c (sub y hy))
theorem glo_of {fa : List He.Fa} {fn : List He.DefD} {K : PySem.W.Frag} {h : Heap} {mg : Str → Option Value} (X : K.In h) (N : h.Ns mainGlobals mg) (c : He.SaysD fa fn K) {x : Str} (i : Nat) (e : fa[i]? = some (.glo x)) : mg x = some (.ref (He.ga K x)) := He.glo_ok X N (c.fact i e)
end Pc

set_option Elab.async false
set_option linter.all false
set_option autoImplicit false
set_option maxRecDepth 100000
set_option maxHeartbeats 4000000
/-! Pc, part S: what a meaning comes to. -/
namespace Pc
open PySem PySem.Spec PyProof.Rows L2
abbrev XQ := Nat → List (Str × D) → Store → Prop
def Wp {α : Type} (x : M α) (S : Store) (E : XQ) (Q : α → Store → Prop) : Prop := match x S with
  | .ok a S' => Q a S'
  | .ex c fs S' => E c fs S'
  | .bad => False
section
variable {α β : Type} {S : Store} {E : XQ} {Q Q' : α → Store → Prop}
theorem wp_bind {x : M β} {f : β → M α} : Wp (x >>= f) S E Q ↔ Wp x S E fun b S' => Wp (f b) S' E Q := by
  show Wp (M.bind x f) S E Q ↔ _
  unfold Wp M.bind
  cases x S <;> rfl
theorem wp_pure {a : α} : Wp (pure a) S E Q ↔ Q a S := Iff.rfl
theorem wp_fail : Wp (fail : M α) S E Q ↔ False := Iff.rfl
theorem wp_ofO {o : Option α} : Wp (ofO o) S E Q ↔ ∃ a, o = some a ∧ Q a S := by
  cases o with
  | none => exact ⟨False.elim, fun ⟨_, e, _⟩ => by cases e⟩
  | some a => exact ⟨fun h => ⟨a, rfl, h⟩, fun ⟨_, e, h⟩ => by cases e; exact h⟩
theorem wp_mono {x : M α} (h : Wp x S E Q) (q : ∀ a S', Q a S' → Q' a S') : Wp x S E Q' := by
  unfold Wp at h ⊢
  cases e : x S with
  | ok a S' => rw [e] at h; exact q a S' h
  | ex c fs S' => rw [e] at h; exact h
  | bad => rw [e] at h; exact h
theorem wp_ok {x : M α} (h : Wp x S (fun _ _ _ => False) Q) : ∃ a S', x S = .ok a S' ∧ Q a S' := by
  unfold Wp at h
  cases e : x S with
  | ok a S' => rw [e] at h; exact ⟨a, S', rfl, h⟩
  | ex c fs S' => rw [e] at h; exact h.elim
  | bad => rw [e] at h; exact h.elim
theorem wp_of {x : M α} {a : α} {S' : Store} (e : x S = .ok a S') (h : Q a S') : Wp x S E Q := by
  unfold Wp; rw [e]; exact h
theorem pure_bind' {a : β} {f : β → M α} : ((pure a : M β) >>= f) = f a := rfl
theorem fail_bind {f : β → M α} : ((fail : M β) >>= f) = fail := rfl
theorem bind_bind {γ : Type} {x : M γ} {f : γ → M β} {h : β → M α} : ((x >>= f) >>= h) = (x >>= fun a => f a >>= h) := funext fun _ => bind_assoc
theorem bind_pure' {x : M α} : (x >>= fun a => pure a) = x := by
  funext S
  show M.bind x pure S = _
  unfold M.bind
  cases x S <;> rfl
theorem ofO_some {a : α} : (ofO (some a) : M α) = pure a := rfl
theorem ofO_none : (ofO (none : Option α) : M α) = fail := rfl
theorem ite_bind {c : Prop} [Decidable c] {x y : M β} {f : β → M α} : ((if c then x else y) >>= f) = if c then x >>= f else y >>= f := by split <;> rfl
theorem wp_ite {c : Prop} [Decidable c] {x y : M α} : Wp (if c then x else y) S E Q ↔ (c → Wp x S E Q) ∧ (¬ c → Wp y S E Q) := by
  by_cases h : c <;> simp [h]
end
/-! ### for -/
theorem wp_for {fg : D → Ev → Option Ev} {body : Ev → M Out} {E : XQ} {Q : Out → Store → Prop} {ds : List D} {env : Ev} {S : Store} (I : Nat → Ev → Store → Prop) (h0 : I 0 env S)
    (hs : ∀ (i : Nat) d env S, ds[i]? = some d → I i env S → ∃ env1, fg d env = some env1 ∧ Wp (body env1) S E fun o S' => match o with
      | .nx e => I (i + 1) e S'
      | .ct e => I (i + 1) e S'
      | .bk e => Q (.nx e) S'
      | .rt d => Q (.rt d) S')
    (hd : ∀ env S, I ds.length env S → Q (.nx env) S) : Wp (forM fg body ds env) S E Q := by
  suffices h : ∀ (n i : Nat) env S, i + n = ds.length → I i env S → Wp (forM fg body (ds.drop i) env) S E Q by
    have := h ds.length 0 env S (by omega) h0
    rwa [List.drop_zero] at this
  intro n
  induction n with
  | zero =>
    intro i env S hi hI
    rw [List.drop_eq_nil_of_le (by omega)]
    exact hd env S (by rw [show ds.length = i by omega]; exact hI)
  | succ n ih =>
    intro i env S hi hI
    have hl : i < ds.length := by omega
    rw [List.drop_eq_getElem_cons hl]
    obtain ⟨env1, e1, hw⟩ := hs i ds[i] env S (List.getElem?_eq_getElem hl) hI
    simp only [forM, e1]
    rw [wp_bind]
    refine wp_mono hw fun o S' h => ?_
    cases o with
    | nx e => exact ih (i + 1) e S' (by omega) h
    | ct e => exact ih (i + 1) e S' (by omega) h
    | bk e => exact h
    | rt d => exact h
/-! ### comprehensions -/
theorem wp_comp {fg : D → Ev → Option Ev} {fc : Ev → M Bool} {fe : Ev → M D} {base : Ev} {Q : List D → Store → Prop} {E : XQ} {ds : List D} {S : Store} (I : Nat → List D → Store → Prop) (h0 : I 0 [] S)
    (hs : ∀ (i : Nat) d ys S, ds[i]? = some d → I i ys S → ∃ env, fg d base = some env ∧ Wp (fc env) S (fun _ _ _ => False) fun b S1 => (b = true → Wp (fe env) S1 (fun _ _ _ => False) fun y S2 => I (i + 1) (ys ++ [y]) S2) ∧ (b = false → I (i + 1) ys S1))
    (hd : ∀ ys S, I ds.length ys S → Q ys S) : Wp (compM fg fc fe base ds) S E Q := by
  suffices h : ∀ (n i : Nat) ys S, i + n = ds.length → I i ys S → Wp (leftM fg fc fe base ys (ds.drop i)) S E Q by
    have := h ds.length 0 [] S (by omega) h0
    rw [List.drop_zero] at this
    unfold leftM at this
    have e : (do let zs ← compM fg fc fe base ds; pure ([] ++ zs) : M (List D)) = compM fg fc fe base ds := bind_pure'
    rwa [e] at this
  intro n
  induction n with
  | zero =>
    intro i ys S hi hI
    rw [List.drop_eq_nil_of_le (by omega)]
    exact wp_of left_nil (hd ys S (by rw [show ds.length = i by omega]; exact hI))
  | succ n ih =>
    intro i ys S hi hI
    have hl : i < ds.length := by omega
    rw [List.drop_eq_getElem_cons hl]
    obtain ⟨env1, e1, hw⟩ := hs i ds[i] ys S (List.getElem?_eq_getElem hl) hI
    obtain ⟨b, S1, e2, hb⟩ := wp_ok hw
    unfold Wp
    rw [left_step, e1]
    simp only [e2]
    cases b with
    | false => exact ih (i + 1) ys S1 (by omega) (hb.2 rfl)
    | true =>
      obtain ⟨y, S2, e3, hy⟩ := wp_ok (hb.1 rfl)
      simp only [e3]
      exact ih (i + 1) (ys ++ [y]) S2 (by omega) hy
/-- .. that changes nothing: p and f by the items -/
theorem comp_pure {fg : D → Ev → Option Ev} {fc : Ev → M Bool} {fe : Ev → M D} {base : Ev} {S : Store} (p : D → Bool) (f : D → D) : ∀ {ds : List D}, (∀ d ∈ ds, ∃ env, fg d base = some env ∧ fc env S = .ok (p d) S ∧ (p d = true → fe env S = .ok (f d) S)) → compM fg fc fe base ds S = .ok ((ds.filter p).map f) S
  | [], _ => rfl
  | d :: ds, h => by
    obtain ⟨env, e1, e2, e3⟩ := h d List.mem_cons_self
    have ih := comp_pure (ds := ds) p f fun d' hd' => h d' (List.mem_cons_of_mem _ hd')
    simp only [compM, e1]
    rw [bind_ok (show noEx (fc env) S = .ok (p d) S by simp only [noEx, e2])]
    cases hp : p d with
    | false =>
      rw [if_neg Bool.false_ne_true, List.filter_cons_of_neg (by rw [hp]; exact Bool.false_ne_true)]
      exact ih
    | true =>
      rw [if_pos rfl, List.filter_cons_of_pos hp, bind_ok (show noEx (fe env) S = .ok (f d) S by simp only [noEx, e3 hp]), bind_ok ih]
      rfl
end Pc

set_option Elab.async false
set_option linter.all false
set_option autoImplicit false
set_option maxRecDepth 100000
set_option maxHeartbeats 4000000
/-! Pc, part T: steps of a meaning, one by one. -/
namespace Pc
open PySem PySem.Spec PyProof.Rows L2
section
variable {α β : Type} {S : Store} {E : XQ}
theorem wp_op2 {sem : D → D → Option D} {x y : D} {Q : D → Store → Prop} : Wp (op2 sem x y) S E Q ↔ ∃ d, sem (deref S x) (deref S y) = some d ∧ Q d S := wp_ofO (o := sem (deref S x) (deref S y))
theorem wp_opN {sem : List D → Option α} {xs : List D} {Q : α → Store → Prop} : Wp (opN sem xs) S E Q ↔ ∃ d, sem (xs.map (deref S)) = some d ∧ Q d S := wp_ofO (o := sem (xs.map (deref S)))
theorem wp_getM {x y : D} {Q : D → Store → Prop} : Wp (getM x y) S E Q ↔ ∃ d, getD (deref S x) y = some d ∧ Q d S := wp_ofO (o := getD (deref S x) y)
theorem wp_sliceM {x : D} {l h : Option Int} {Q : D → Store → Prop} : Wp (sliceM x l h) S E Q ↔ ∃ d, sliceD (deref S x) l h = some d ∧ Q d S := wp_ofO (o := sliceD (deref S x) l h)
theorem wp_revM {x : D} {Q : D → Store → Prop} : Wp (revM x) S E Q ↔ ∃ d, revD (deref S x) = some d ∧ Q d S := wp_ofO (o := revD (deref S x))
theorem wp_rd {i : Nat} {env : Ev} {Q : D → Store → Prop} {d : D} (h : env[i]? = some (.val d)) : Wp (rd i env) S E Q ↔ Q d S := by
  unfold rd; rw [h]; exact Iff.rfl
theorem rd_val {i : Nat} {env : Ev} : rd i env = match env[i]? with
  | some (.val d) => pure d
  | _ => fail := rfl
theorem wp_asB {d : D} {Q : Bool → Store → Prop} : Wp (asB d) S E Q ↔ ∃ b, d = .bl b ∧ Q b S := by
  cases d with
  | bl b => exact ⟨fun h => ⟨b, rfl, h⟩, fun ⟨_, e, h⟩ => by cases e; exact h⟩
  | _ => exact ⟨False.elim, fun ⟨_, e, _⟩ => by cases e⟩
theorem wp_asI {d : D} {Q : Int → Store → Prop} : Wp (asI d) S E Q ↔ ∃ b, d = .int b ∧ Q b S := by
  cases d with
  | int b => exact ⟨fun h => ⟨b, rfl, h⟩, fun ⟨_, e, h⟩ => by cases e; exact h⟩
  | _ => exact ⟨False.elim, fun ⟨_, e, _⟩ => by cases e⟩
theorem wp_newOb {ob : Ob} {Q : D → Store → Prop} : Wp (newOb ob) S E Q ↔ Q (.obj S.length) (S ++ [ob]) := Iff.rfl
theorem wp_putH {h : Nat} {xs ys : List D} {j d : D} {Q : Unit → Store → Prop} (e : S[h]? = some (.lst xs)) (p : putI xs j d = some ys) (q : Q () (S.set h (.lst ys))) : Wp (putH (.obj h) j d) S E Q := by
  unfold Wp putH
  simp only [e, p]
  exact q
theorem wp_callN {n : Nat} {sem : List D → M D} {ds : List D} {Q : D → Store → Prop} (h : ds.length = n) : Wp (callN n sem ds) S E Q ↔ Wp (sem ds) S E Q := by
  unfold callN; rw [if_pos h]
theorem wp_itemsM {x : D} {Q : List D → Store → Prop} : Wp (itemsM x) S E Q ↔ ∃ d, itemsD x = some d ∧ Q d S := wp_ofO
theorem deref_obj {h : Nat} {xs : List D} (e : S[h]? = some (.lst xs)) : deref S (.obj h) = .lst xs := by
  show derefO h S[h]? = _
  rw [e]; rfl
theorem wp_body {n : Nat} {f : Ev → M Out} {ds : List D} {Q : D → Store → Prop} : Wp (bodyM n f ds) S E Q ↔ Wp (f (callE n ds)) S E fun o S' => match o with
    | .nx _ => Q .non S'
    | .rt d => Q d S'
    | _ => False := by
  unfold bodyM
  rw [wp_bind]
  constructor
  · intro h
    refine wp_mono h fun o S' h => ?_
    cases o <;> exact h
  · intro h
    refine wp_mono h fun o S' h => ?_
    cases o <;> exact h
theorem wp_seq {f r : Ev → M Out} {env : Ev} {Q : Out → Store → Prop} : Wp (seqM f r env) S E Q ↔ Wp (f env) S E fun o S' => match o with
    | .nx e => Wp (r e) S' E Q
    | o => Q o S' := by
  unfold seqM
  rw [wp_bind]
  constructor
  · intro h
    refine wp_mono h fun o S' h => ?_
    cases o <;> exact h
  · intro h
    refine wp_mono h fun o S' h => ?_
    cases o <;> exact h
theorem wp_set {i : Nat} {f : Ev → M Sl} {env : Ev} {Q : Out → Store → Prop} : Wp (setM i f env) S E Q ↔ Wp (f env) S E fun s S' => Q (.nx (env.set i s)) S' := by
  unfold setM
  rw [wp_bind]
  exact Iff.rfl
theorem wp_if {α : Type} {t : Ev → M Bool} {f r : Ev → M α} {env : Ev} {Q : α → Store → Prop} : Wp (ifM t f r env) S E Q ↔ Wp (t env) S E fun b S' => (b = true → Wp (f env) S' E Q) ∧ (b = false → Wp (r env) S' E Q) := by
  unfold ifM
  rw [wp_bind]
  constructor
  · intro h
    refine wp_mono h fun b S' h => ?_
    cases b
    · exact ⟨fun z => (by cases z), fun _ => h⟩
    · exact ⟨fun _ => h, fun z => (by cases z)⟩
  · intro h
    refine wp_mono h fun b S' h => ?_
    cases b
    · exact h.2 rfl
    · exact h.1 rfl
theorem wp_subH {fo fi fe : Ev → M D} {env : Ev} {Q : Out → Store → Prop} : Wp (subHM fo fi fe env) S E Q ↔ Wp (fe env) S E fun d S1 => Wp (fo env) S1 E fun x S2 => Wp (fi env) S2 E fun j S3 => Wp (putH x j d) S3 E fun _ S4 => Q (.nx env) S4 := by
  unfold subHM
  simp only [wp_bind, wp_pure]
theorem wp_subO {i : Nat} {fi fe : Ev → M D} {env : Ev} {Q : Out → Store → Prop} : Wp (subOM i fi fe env) S E Q ↔ Wp (fe env) S E fun d S1 => ∃ xs, ownX i env = some xs ∧ Wp (fi env) S1 E fun j S2 => ∃ ys, putI xs j d = some ys ∧ Q (.nx (env.set i (.own ys))) S2 := by
  unfold subOM
  simp only [wp_bind, wp_ofO]
  have h : ∀ (o : Option (List D)) S, Wp (setO i env o) S E Q ↔ ∃ ys, o = some ys ∧ Q (.nx (env.set i (.own ys))) S := fun o S => by
    cases o with
    | none => exact ⟨False.elim, fun ⟨_, e, _⟩ => by cases e⟩
    | some ys => exact ⟨fun h => ⟨ys, rfl, h⟩, fun ⟨_, e, h⟩ => by cases e; exact h⟩
  simp only [h]
theorem wp_par {is : List Nat} {f : Ev → M (List Sl)} {env : Ev} {Q : Out → Store → Prop} : Wp (parM is f env) S E Q ↔ Wp (f env) S E fun ss S' => ∃ e, setsE is ss env = some e ∧ Q (.nx e) S' := by
  unfold parM
  rw [wp_bind]
  have h : ∀ ss S, Wp (match setsE is ss env with | some env' => pure (.nx env') | none => fail : M Out) S E Q ↔ ∃ e, setsE is ss env = some e ∧ Q (.nx e) S := fun ss S => by
    cases setsE is ss env with
    | none => exact ⟨False.elim, fun ⟨_, e, _⟩ => by cases e⟩
    | some ys => exact ⟨fun h => ⟨ys, rfl, h⟩, fun ⟨_, e, h⟩ => by cases e; exact h⟩
  constructor
  · intro hh; exact wp_mono hh fun ss S' z => (h ss S').mp z
  · intro hh; exact wp_mono hh fun ss S' z => (h ss S').mpr z
theorem wp_unp {fg : D → Ev → Option Ev} {f : Ev → M D} {env : Ev} {Q : Out → Store → Prop} : Wp (unpM fg f env) S E Q ↔ Wp (f env) S E fun d S' => ∃ e, fg d env = some e ∧ Q (.nx e) S' := by
  unfold unpM
  simp only [wp_bind, wp_ofO, wp_pure]
theorem wp_chgO {i : Nat} {sem : Chg} {fa : Ev → M (List D)} {env : Ev} {xs : List D} {Q : Out → Store → Prop} (h : ownX i env = some xs) : Wp (chgS i sem fa env) S E Q ↔ Wp (fa env) S E fun ds S' => ∃ p, sem xs ds = some p ∧ Q (.nx (env.set i (.own p.2))) S' := by
  unfold chgS
  rw [ownX_eq h]
  simp only [wp_bind]
  have k : ∀ ds S, Wp (match sem xs ds with | some (_, ys) => pure (.nx (env.set i (.own ys))) | none => fail : M Out) S E Q ↔ ∃ p, sem xs ds = some p ∧ Q (.nx (env.set i (.own p.2))) S := fun ds S => by
    cases sem xs ds with
    | none => exact ⟨False.elim, fun ⟨_, e, _⟩ => by cases e⟩
    | some p => exact ⟨fun h => ⟨p, rfl, h⟩, fun ⟨_, e, h⟩ => by cases e; exact h⟩
  constructor
  · intro hh; exact wp_mono hh fun ss S' z => (k ss S').mp z
  · intro hh; exact wp_mono hh fun ss S' z => (k ss S').mpr z
theorem wp_consM {f : Ev → M D} {r : Ev → M (List D)} {env : Ev} {Q : List D → Store → Prop} : Wp (consM f r env) S E Q ↔ Wp (f env) S E fun x S1 => Wp (r env) S1 E fun xs S2 => Q (x :: xs) S2 := by
  unfold consM
  simp only [wp_bind, wp_pure]
theorem wp_consX {f : Ev → M Sl} {r : Ev → M (List Sl)} {env : Ev} {Q : List Sl → Store → Prop} : Wp (consX f r env) S E Q ↔ Wp (f env) S E fun x S1 => Wp (r env) S1 E fun xs S2 => Q (x :: xs) S2 := by
  unfold consX
  simp only [wp_bind, wp_pure]
theorem wp_mkTup {xs : List D} {Q : D → Store → Prop} (h : xs.length ≤ sizeLine) : Wp (mkTup xs) S E Q ↔ Q (.tup xs) S := by
  unfold mkTup; rw [if_pos h]; exact Iff.rfl
theorem wp_mkLst {xs : List D} {Q : List D → Store → Prop} (h : xs.length ≤ sizeLine) : Wp (mkLst xs) S E Q ↔ Q xs S := by
  unfold mkLst; rw [if_pos h]; exact Iff.rfl
theorem wp_andV {f r : Ev → M D} {env : Ev} {Q : D → Store → Prop} : Wp (andV f r env) S E Q ↔ Wp (f env) S E fun x S1 => ∃ b, x = .bl b ∧ (b = true → Wp (r env) S1 E Q) ∧ (b = false → Q (.bl false) S1) := by
  unfold andV
  simp only [wp_bind, wp_asB, wp_ite, wp_pure]
  simp
theorem wp_orV {f r : Ev → M D} {env : Ev} {Q : D → Store → Prop} : Wp (orV f r env) S E Q ↔ Wp (f env) S E fun x S1 => ∃ b, x = .bl b ∧ (b = true → Q (.bl true) S1) ∧ (b = false → Wp (r env) S1 E Q) := by
  unfold orV
  simp only [wp_bind, wp_asB, wp_ite, wp_pure]
  simp
theorem wp_andM {f r : Ev → M Bool} {env : Ev} {Q : Bool → Store → Prop} : Wp (andM f r env) S E Q ↔ Wp (f env) S E fun b S1 => (b = true → Wp (r env) S1 E Q) ∧ (b = false → Q false S1) := by
  unfold andM
  simp only [wp_bind, wp_ite, wp_pure]
  simp
theorem wp_orM {f r : Ev → M Bool} {env : Ev} {Q : Bool → Store → Prop} : Wp (orM f r env) S E Q ↔ Wp (f env) S E fun b S1 => (b = true → Q true S1) ∧ (b = false → Wp (r env) S1 E Q) := by
  unfold orM
  simp only [wp_bind, wp_ite, wp_pure]
  simp
theorem at0 {α : Type} {a : α} {l : List α} : atI (a :: l) 0 = some a := by
  unfold atI ixN
  simp
theorem ixN_nat {n i : Nat} (h : i < n) : ixN n (i : Int) = some i := by
  unfold ixN
  rw [if_pos (by omega), if_pos (by omega)]
  rfl
theorem at_nat {α : Type} {l : List α} {i : Nat} (h : i < l.length) : atI l (i : Int) = l[i]? := by
  unfold atI
  rw [ixN_nat h]
  rfl
end
section
variable {S : Store} {E : XQ}
theorem w_rd {i : Nat} {env : Ev} {Q : D → Store → Prop} (d : D) (h : env[i]? = some (.val d)) (q : Q d S) : Wp (rd i env) S E Q := (wp_rd h).mpr q
theorem w_rdB {i : Nat} {env : Ev} {Q : D → Store → Prop} (d : D) (h : env[i]? = some (.val d)) (q : Q d S) : Wp (rdB i env) S E Q := by
  unfold rdB; rw [h]; exact q
theorem w_rdO {i : Nat} {env : Ev} {Q : D → Store → Prop} (d : List D) (h : env[i]? = some (.own d)) (q : Q (.lst d) S) : Wp (rdB i env) S E Q := by
  unfold rdB; rw [h]; exact q
theorem w_add {i j : Int} {Q : D → Store → Prop} (q : Q (.int (i + j)) S) : Wp (op2 addD (.int i) (.int j)) S E Q := wp_op2.mpr ⟨_, rfl, q⟩
theorem w_sub {i j : Int} {Q : D → Store → Prop} (q : Q (.int (i - j)) S) : Wp (op2 subD (.int i) (.int j)) S E Q := wp_op2.mpr ⟨_, rfl, q⟩
theorem w_mul {i j : Int} {Q : D → Store → Prop} (h : (oki i || oki j) = true) (q : Q (.int (i * j)) S) : Wp (op2 mulD (.int i) (.int j)) S E Q := wp_op2.mpr ⟨_, if_pos h, q⟩
theorem w_mulL {i j : Int} {Q : D → Store → Prop} (h : oki i = true) (q : Q (.int (i * j)) S) : Wp (op2 mulD (.int i) (.int j)) S E Q := w_mul (by rw [h]; rfl) q
theorem w_mulR {i j : Int} {Q : D → Store → Prop} (h : oki j = true) (q : Q (.int (i * j)) S) : Wp (op2 mulD (.int i) (.int j)) S E Q := w_mul (by rw [h]; exact Bool.or_true _) q
theorem w_fdiv {i j : Int} {Q : D → Store → Prop} (h : 0 < j ∧ j.natAbs.log2 < 9000) (q : Q (.int (i / j)) S) : Wp (op2 fdivD (.int i) (.int j)) S E Q := wp_op2.mpr ⟨_, if_pos h, q⟩
theorem w_mod {i j : Int} {Q : D → Store → Prop} (h : 0 < j) (q : Q (.int (i % j)) S) : Wp (op2 modD (.int i) (.int j)) S E Q := wp_op2.mpr ⟨_, if_pos h, q⟩
theorem w_lt {i j : Int} {Q : D → Store → Prop} (q : Q (.bl (decide (i < j))) S) : Wp (op2 ltD (.int i) (.int j)) S E Q := wp_op2.mpr ⟨_, rfl, q⟩
theorem w_le {i j : Int} {Q : D → Store → Prop} (q : Q (.bl (decide (i ≤ j))) S) : Wp (op2 leD (.int i) (.int j)) S E Q := wp_op2.mpr ⟨_, rfl, q⟩
theorem w_gt {i j : Int} {Q : D → Store → Prop} (q : Q (.bl (decide (j < i))) S) : Wp (op2 gtD (.int i) (.int j)) S E Q := wp_op2.mpr ⟨_, rfl, q⟩
theorem w_ge {i j : Int} {Q : D → Store → Prop} (q : Q (.bl (decide (j ≤ i))) S) : Wp (op2 geD (.int i) (.int j)) S E Q := wp_op2.mpr ⟨_, rfl, q⟩
theorem w_op2 {sem : D → D → Option D} {x y d : D} {Q : D → Store → Prop} (h : sem (deref S x) (deref S y) = some d) (q : Q d S) : Wp (op2 sem x y) S E Q := wp_op2.mpr ⟨_, h, q⟩
theorem w_opN {α : Type} {sem : List D → Option α} {xs : List D} {d : α} {Q : α → Store → Prop} (h : sem (xs.map (deref S)) = some d) (q : Q d S) : Wp (opN sem xs) S E Q := wp_opN.mpr ⟨_, h, q⟩
theorem w_getM {x y d : D} {Q : D → Store → Prop} (h : getD (deref S x) y = some d) (q : Q d S) : Wp (getM x y) S E Q := wp_getM.mpr ⟨_, h, q⟩
theorem w_asB {b : Bool} {Q : Bool → Store → Prop} (q : Q b S) : Wp (asB (.bl b)) S E Q := q
theorem w_body {n : Nat} {f : Ev → M Out} {ds : List D} {Q : D → Store → Prop} (h : Wp (f (callE n ds)) S E fun o S' => match o with
    | .nx _ => Q .non S'
    | .rt d => Q d S'
    | _ => False) : Wp (bodyM n f ds) S E Q := wp_body.mpr h
theorem ex_some {α : Type} {o : Option α} {a : α} {P : α → Prop} (h : o = some a) (q : P a) : ∃ e, o = some e ∧ P e := ⟨a, h, q⟩
theorem w_call {n : Nat} {sem : List D → M D} {ds : List D} {Q : D → Store → Prop} (h : ds.length = n) (q : Wp (sem ds) S E Q) : Wp (callN n sem ds) S E Q := (wp_callN h).mpr q
theorem w_par {is : List Nat} {f : Ev → M (List Sl)} {env : Ev} {Q : Out → Store → Prop} (h : Wp (f env) S E fun ss S' => ∃ e, setsE is ss env = some e ∧ Q (.nx e) S') : Wp (parM is f env) S E Q := wp_par.mpr h
theorem w_tup {xs : List D} {Q : D → Store → Prop} (h : xs.length ≤ sizeLine) (q : Q (.tup xs) S) : Wp (mkTup xs) S E Q := (wp_mkTup h).mpr q
theorem w_lst {xs : List D} {Q : List D → Store → Prop} (h : xs.length ≤ sizeLine) (q : Q xs S) : Wp (mkLst xs) S E Q := (wp_mkLst h).mpr q
theorem w_slice {x d : D} {l h : Option Int} {Q : D → Store → Prop} (e : sliceD (deref S x) l h = some d) (q : Q d S) : Wp (sliceM x l h) S E Q := wp_sliceM.mpr ⟨_, e, q⟩
theorem w_items {x : D} {xs : List D} {Q : List D → Store → Prop} (e : itemsD x = some xs) (q : Q xs S) : Wp (itemsM x) S E Q := wp_itemsM.mpr ⟨_, e, q⟩
theorem w_ofO {α : Type} {o : Option α} {a : α} {Q : α → Store → Prop} (e : o = some a) (q : Q a S) : Wp (ofO o) S E Q := wp_ofO.mpr ⟨_, e, q⟩
theorem w_unp {fg : D → Ev → Option Ev} {f : Ev → M D} {env : Ev} {Q : Out → Store → Prop} (h : Wp (f env) S E fun d S' => ∃ e, fg d env = some e ∧ Q (.nx e) S') : Wp (unpM fg f env) S E Q := wp_unp.mpr h
theorem w_asI {b : Int} {Q : Int → Store → Prop} (q : Q b S) : Wp (asI (.int b)) S E Q := q
theorem w_pow {i j : Int} {Q : D → Store → Prop} (h : 0 ≤ j ∧ j ≤ 1000000 ∧ i.natAbs < 2 ^ 64) (q : Q (.int (i ^ j.toNat)) S) : Wp (op2 powD (.int i) (.int j)) S E Q := wp_op2.mpr ⟨_, if_pos h, q⟩
theorem w_new {ob : Ob} {Q : D → Store → Prop} (q : Q (.obj S.length) (S ++ [ob])) : Wp (newOb ob) S E Q := q
theorem w_chg {i : Nat} {sem : Chg} {fa : Ev → M (List D)} {env : Ev} {xs : List D} {Q : Out → Store → Prop} (h : ownX i env = some xs) (q : Wp (fa env) S E fun ds S' => ∃ p, sem xs ds = some p ∧ Q (.nx (env.set i (.own p.2))) S') : Wp (chgS i sem fa env) S E Q := (wp_chgO h).mpr q
theorem w_put {h : Nat} {xs ys : List D} {j d : D} {Q : Unit → Store → Prop} (e : S[h]? = some (.lst xs)) (p : putI xs j d = some ys) (q : Q () (S.set h (.lst ys))) : Wp (putH (.obj h) j d) S E Q := wp_putH e p q
end
/-- what changes nothing -/
abbrev Still {α : Type} (x : M α) (S : Store) (a : α) : Prop := Wp x S (fun _ _ _ => False) fun b S' => b = a ∧ S' = S
theorem Still.eq {α : Type} {x : M α} {S : Store} {a : α} (h : Still x S a) : x S = .ok a S := by
  obtain ⟨b, S', e, rfl, rfl⟩ := wp_ok h
  exact e
theorem w_comp {γ : Type} {fg : D → Ev → Option Ev} {fc : Ev → M Bool} {fe : Ev → M D} {base : Ev} {S : Store} {E : XQ} {Q : List D → Store → Prop} (xs : List γ) (enc : γ → D) (P : γ → Bool) (F : γ → D)
    (hs : ∀ x ∈ xs, ∃ env, fg (enc x) base = some env ∧ Still (fc env) S (P x) ∧ (P x = true → Still (fe env) S (F x))) (q : Q ((xs.filter P).map F) S) : Wp (compM fg fc fe base (xs.map enc)) S E Q := by
  have h : ∀ {xs : List γ}, (∀ x ∈ xs, ∃ env, fg (enc x) base = some env ∧ Still (fc env) S (P x) ∧ (P x = true → Still (fe env) S (F x))) → compM fg fc fe base (xs.map enc) S = .ok ((xs.filter P).map F) S := by
    intro xs
    induction xs with
    | nil => exact fun _ => rfl
    | cons x xs ih =>
      intro h
      obtain ⟨env, e1, e2, e3⟩ := h x List.mem_cons_self
      have ih' := ih fun y hy => h y (List.mem_cons_of_mem _ hy)
      simp only [List.map_cons, compM, e1]
      rw [bind_ok (show noEx (fc env) S = .ok (P x) S by simp only [noEx, e2.eq])]
      cases hp : P x with
      | false =>
        rw [if_neg Bool.false_ne_true, List.filter_cons_of_neg (by rw [hp]; exact Bool.false_ne_true)]
        exact ih'
      | true =>
        rw [if_pos rfl, List.filter_cons_of_pos hp, bind_ok (show noEx (fe env) S = .ok (F x) S by simp only [noEx, (e3 hp).eq]), bind_ok ih']
        rfl
  exact wp_of (h hs) q
theorem filter_tt {γ : Type} (xs : List γ) : xs.filter (fun _ => true) = xs := List.filter_eq_self.mpr fun _ _ => rfl
/-- a tuple of ints -/
abbrev tupI (xs : List Int) : D := .tup (xs.map D.int)
theorem okd_ints : ∀ (n : Nat) (xs : List Int), okdL n (xs.map D.int) = true
  | _, [] => by simp [okdL]
  | n, x :: xs => by
    simp only [List.map_cons, okdL, Bool.and_eq_true]
    exact ⟨by cases n <;> simp [okd], okd_ints n xs⟩
theorem okd_tupI (n : Nat) (xs : List Int) : okd (n + 1) (tupI xs) = true := by
  unfold tupI
  simp only [okd]
  exact okd_ints n xs
theorem eqdL_ints : ∀ (xs ys : List Int), eqdL (xs.map D.int) (ys.map D.int) = decide (xs = ys)
  | [], [] => by simp [eqdL]
  | [], _ :: _ => by simp [eqdL]
  | _ :: _, [] => by simp [eqdL]
  | x :: xs, y :: ys => by
    simp only [List.map_cons, eqdL, eqd, eqdL_ints xs ys, List.cons.injEq]
    by_cases h : x = y <;> by_cases h2 : xs = ys <;> simp [h, h2]
theorem eqd_tupI (xs ys : List Int) : eqd (tupI xs) (tupI ys) = decide (xs = ys) := by
  unfold tupI
  simp only [eqd]
  exact eqdL_ints xs ys
theorem any_ints (xs : List Int) (i : Int) : (xs.map D.int).any (fun y => eqd y (.int i)) = decide (i ∈ xs) := by
  induction xs with
  | nil => simp
  | cons x xs ih =>
    simp only [List.map_cons, List.any_cons, ih, eqd]
    by_cases h : i = x
    · subst h; simp
    · have : (x == i) = false := by simpa using fun e => h e.symm
      simp [this, h]
theorem in_tupI (xs : List Int) (i : Int) : inD (.int i) (tupI xs) = some (.bl (decide (i ∈ xs))) := by
  unfold tupI inD
  simp only
  rw [if_pos (by rw [Bool.and_eq_true]; exact ⟨rfl, okd_ints 60 xs⟩), any_ints]
theorem nin_tupI (xs : List Int) (i : Int) : ninD (.int i) (tupI xs) = some (.bl (!decide (i ∈ xs))) := by
  unfold tupI ninD
  simp only
  rw [if_pos (by rw [Bool.and_eq_true]; exact ⟨rfl, okd_ints 60 xs⟩), any_ints]
theorem sum_ints (xs : List Int) : sumS [.lst (xs.map D.int)] = some (.int xs.sum) := by
  unfold sumS
  simp only
  rw [intsOf_map]; rfl
theorem all_bls (xs : List Bool) : allS [.lst (xs.map D.bl)] = some (.bl (xs.all id)) := by
  unfold allS
  simp only
  rw [blsOf_map]; rfl
/-- x == [] of a list of plain data -/
theorem eq_nil {xs : List D} (h : okdL 59 xs = true) : eqD (.lst xs) (.lst []) = some (.bl xs.isEmpty) := by
  unfold eqD
  dsimp only
  rw [if_pos (by simp [okd, okdL, h])]
  cases xs <;> simp [eqd, eqdL]
theorem ne_nil {xs : List D} (h : okdL 59 xs = true) : neD (.lst xs) (.lst []) = some (.bl (!xs.isEmpty)) := by
  unfold neD
  dsimp only
  rw [if_pos (by simp [okd, okdL, h])]
  cases xs <;> simp [eqd, eqdL]
theorem okd_one : ∀ (n : Nat) (xs : List D), (∀ x ∈ xs, okd n x = true) → okdL n xs = true
  | _, [], _ => by simp [okdL]
  | n, x :: xs, h => by
    simp only [okdL, Bool.and_eq_true]
    exact ⟨h x List.mem_cons_self, okd_one n xs fun y hy => h y (List.mem_cons_of_mem _ hy)⟩
theorem sort_ok {xs : List D} (h : sortOk xs = true) : sortS [.lst xs] = some (sortD xs) := if_pos h
theorem isEmpty_fm {γ δ : Type} (p : γ → Bool) (f : γ → δ) (xs : List γ) : ((xs.filter p).map f).isEmpty = xs.all fun x => !p x := by
  induction xs with
  | nil => rfl
  | cons x xs ih =>
    cases h : p x with
    | true => simp [h]
    | false => simp [h, ih]
theorem at_mem {α : Type} {l : List α} {i : Int} (h0 : 0 ≤ i) (h : i < l.length) : ∃ d ∈ l, atI l i = some d := by
  obtain ⟨n, rfl⟩ := Int.eq_ofNat_of_zero_le h0
  have hn : n < l.length := by omega
  exact ⟨l[n], List.getElem_mem hn, by rw [at_nat hn, List.getElem?_eq_getElem hn]⟩
theorem at_ints {l : List Int} {i : Int} (h0 : 0 ≤ i) (h : i < l.length) : atI (l.map D.int) i = some (.int (l.getD i.toNat 0)) := by
  obtain ⟨n, rfl⟩ := Int.eq_ofNat_of_zero_le h0
  have hn : n < l.length := by omega
  rw [at_nat (by simpa using hn), List.getElem?_map, List.getElem?_eq_getElem hn]
  simp [List.getD, hn]
theorem rng1_ok {j : Int} (h0 : 0 ≤ j) (h : j ≤ 1000000) : rng1 [.int j] = some ((List.range j.toNat).map fun (i : Nat) => D.int (0 + (i : Int))) := by
  unfold rng1
  simp only
  rw [if_pos (by omega)]
theorem rng_get {n i : Nat} {lo : Int} {d : D} (h : ((List.range n).map fun (i : Nat) => D.int (lo + (i : Int)))[i]? = some d) : d = .int (lo + i) ∧ i < n := by
  rw [List.getElem?_map] at h
  by_cases hi : i < n
  · rw [List.getElem?_range hi] at h
    cases h
    exact ⟨rfl, hi⟩
  · rw [List.getElem?_eq_none (by simpa using hi)] at h
    cases h
theorem app_ok {xs : List D} {d : D} (h : xs.length ≤ 1000000) : appC xs [d] = some (.non, xs ++ [d]) := by
  unfold appC
  simp only
  rw [if_pos (by rw [sizeLine_eq]; omega)]
theorem w_revM {S : Store} {E : XQ} {x d : D} {Q : D → Store → Prop} (e : revD (deref S x) = some d) (q : Q d S) : Wp (revM x) S E Q := wp_revM.mpr ⟨_, e, q⟩
theorem eq_tupI (xs ys : List Int) : eqD (tupI xs) (tupI ys) = some (.bl (decide (xs = ys))) := by
  unfold eqD
  dsimp only
  rw [if_pos (by rw [okd_tupI, okd_tupI]; rfl), eqd_tupI]
theorem eq_nilT {xs : List D} (h : okdL 59 xs = true) : eqD (.tup xs) (.tup []) = some (.bl xs.isEmpty) := by
  unfold eqD
  dsimp only
  rw [if_pos (by simp [okd, okdL, h])]
  cases xs <;> simp [eqd, eqdL]
theorem rep_ok {v k : Int} (h0 : 0 ≤ k) (h : k ≤ 1000000) : repD [.int v] (.int k) = some ((List.replicate k.toNat v).map D.int) := by
  unfold repD
  simp only
  rw [if_pos ⟨by omega, by omega, by rw [sizeLine_eq]; simp; omega⟩]
  congr 1
  induction k.toNat with
  | zero => rfl
  | succ n ih => simp [List.replicate_succ, ih]
theorem put_ints {cs : List Int} {i v : Int} (h0 : 0 ≤ i) (h : i < cs.length) : putI (cs.map D.int) (.int i) (.int v) = some ((cs.set i.toNat v).map D.int) := by
  unfold putI
  obtain ⟨n, rfl⟩ := Int.eq_ofNat_of_zero_le h0
  have hn : n < cs.length := by omega
  simp only [List.length_map]
  rw [ixN_nat hn]
  simp
theorem at_last {s : List Int} (h : s ≠ []) : ∃ x ∈ s, atI (s.map D.int) (-1) = some (.int x) := by
  have hl : 0 < s.length := List.length_pos_iff.mpr h
  refine ⟨s[s.length - 1], List.getElem_mem _, ?_⟩
  unfold atI ixN
  rw [if_neg (by decide), if_pos (by simp; omega)]
  have : (-1 + ((s.map D.int).length : Int)).toNat = s.length - 1 := by simp; omega
  rw [this]
  show (s.map D.int)[s.length - 1]? = _
  rw [List.getElem?_map, List.getElem?_eq_getElem (by omega)]
  rfl
theorem sum_bound {xs : List Int} {B : Int} (hB : 0 ≤ B) (h : ∀ x ∈ xs, 0 ≤ x ∧ x ≤ B) : 0 ≤ xs.sum ∧ xs.sum ≤ xs.length * B := by
  induction xs with
  | nil => simp
  | cons x xs ih =>
    have h1 := ih fun y hy => h y (List.mem_cons_of_mem _ hy)
    have h2 := h x List.mem_cons_self
    rw [List.sum_cons, List.length_cons]
    have e : ((xs.length + 1 : Nat) : Int) * B = xs.length * B + B := by
      rw [Int.natCast_add, Int.add_mul]; simp
    rw [e]
    omega
end Pc

set_option Elab.async false
set_option linter.all false
set_option autoImplicit false
set_option maxRecDepth 100000
set_option maxHeartbeats 4000000
/-! Pc, part U: isinstance, what is never reached, the module's constants. -/
namespace Pc
open PySem PySem.Spec PyProof.Rows L2
/-! ### isinstance(x, T), T a built-in type -/
def tyN : D → Option String
  | .non => some "NoneType"
  | .bl _ => some "bool"
  | .int _ => some "int"
  | .str _ => some "str"
  | .tup _ => some "tuple"
  | .lst _ => some "list"
  | .dct _ => some "dict"
  | _ => none
def tyTs : List String := ["int", "bool", "str", "tuple", "list", "dict"]
def isT2 (t T : String) : Bool := decide (t = T) || (decide (t = "bool") && decide (T = "int"))
theorem isT2_ok : ∀ t ∈ "NoneType" :: tyTs, ∀ T ∈ tyTs, kitB t T = some (isT2 t T) := by decide +kernel
theorem tyN_in {d : D} {t : String} (h : tyN d = some t) : t ∈ "NoneType" :: tyTs := by
  cases d <;> cases h <;> decide
def isiD (T : String) (d : D) : Option D := (tyN d).map fun t => .bl (isT2 t T)
def isiM (T : String) (x : D) : M D := fun S => ofO (isiD T (deref S x)) S
section
variable {g : Gc} {Wx : WX} {w0 : Wd} {X : Cx} {N0 : List Addr}
theorem RepV.ty {w : Wd} {v : V} {d : D} {t : String} (r : RepV g w v d) (h : tyN d = some t) : TyX g.K w.H v (.type t) := by
  cases d with
  | non => cases h; rw [r.non]; exact .base .non
  | bl b => cases h; rw [r.bl]; exact .base (.bl b)
  | int b => cases h; rw [r.int]; exact .base (.int b)
  | str b => cases h; rw [r.str]; exact .base (.str b)
  | tup xs =>
    cases h
    obtain ⟨a, vs, rfl, h1, _⟩ := r.tup
    rcases h1 with (h1 | ⟨o, h1⟩) | ⟨o, its, n, h1, h2, _⟩
    · exact .base (.tup h1)
    · exact .fTuple h1
    · exact .kTuple h1 h2
  | lst xs =>
    cases h
    obtain ⟨a, vs, rfl, h1, _⟩ := r.lst
    rcases h1 with (h1 | ⟨o, h1⟩) | ⟨o, its, n, h1, h2, _⟩
    · exact .base (.lst h1)
    · exact .base (.frz h1)
    · exact .kList h1 h2
  | dct xs =>
    cases h
    obtain ⟨a, vs, rfl, h1, _⟩ := r.dct
    exact .base (.dK h1)
  | _ => cases h
theorem de_isi {a : Expr} {T : String} {x : Str} {fa : Ev → M D} {p p2 pos : Pos} (hK : X.K = g.K) (B : Blt X "isinstance" (.builtin "isinstance")) (BT : Blt X x (.type T)) (hT : decide (T ∈ tyTs) = true) (hs : notStar a = true) (ha : DW g N0 Wx X a fa) :
    DE g N0 Wx X (.Call (.Name "isinstance" p) [a, .Name x p2] [] pos) (fun env => do let d ← fa env; isiM T d) := by
  refine PE.imp (pe_blt (.inl ⟨_, rfl⟩) B call_isi (by rw [List.all_cons, hs]; rfl) (pa_cons ha (pa_cons (pe_bltn (v := .ty T) BT.gl BT.mg BT.bt rfl BT.nn BT.nd) pa_nil rfl) (star_cons hs))) fun σ H Q ⟨w, env, S, ee, er, sr, q⟩ => ?_
  subst ee
  refine tr_intro er sr (pst_imp (pst_bind (relA := rlW g) (fun _ _ _ _ _ z => z) q) fun v H1 ⟨w1, d, S1, e1, k1, s1, r1, q1⟩ => ?_)
  subst e1
  unfold isiM at q1
  cases eo : isiD T (deref S1 d) with
  | none => rw [eo] at q1; exact q1.elim
  | some y =>
    rw [eo] at q1
    unfold isiD at eo
    obtain ⟨t, et, rfl⟩ := Option.map_eq_some_iff.mp eo
    refine ⟨v, .ty T, .type t, .type T, _, rfl, .ty T, ?_, kit_ty (isT2_ok t (tyN_in et) T (of_decide_eq_true hT)), q1 w1 _ (Keep.refl _) s1 (.bl _)⟩
    rw [hK]
    exact (r1.view s1).ty et
/-! ### what is never reached -/
theorem ds_never {s : Stmt} : DS g Wx w0 X s (fun _ => fail) := ⟨fun pins s σ H D I ⟨_, _, _, _, _, q⟩ => q.elim⟩
theorem de_never {e : Expr} : DE g N0 Wx X e (fun _ => fail) := ⟨fun pins s σ H D I ⟨_, _, _, _, _, _, q⟩ => q.elim⟩
theorem dt_never {e : Expr} : DT g N0 Wx X e (fun _ => fail) := ⟨fun pins s σ H D I ⟨_, _, _, _, _, _, q⟩ => q.elim⟩
end
/-! ### the module's constants -/
/-- a constant of the module by its name -/
structure Con (g : Gc) (G : Ge) (x : Str) (d : D) : Prop where
  ex : ∃ (v : V) (u : Value), G.mg x = some u ∧ RelV v u ∧ ∀ w : Wd, Rep g w v d
namespace Cn
variable {g : Gc} {G : Ge} {k : Nat} {N : List Str} {sc : Scope} {X : Cx} {N0 : List Addr} {Wx : WX} {w0 : Wd} {l : List Str}
theorem con {x : Str} {d : D} {p : Pos} (c : Cn g G k N sc X) (C : Con g G x d) (h : glB sc x = true) : DE g N0 Wx X (.Name x p) (fun _ => pure d) := by
  obtain ⟨v, u, h1, h2, h3⟩ := C.ex
  exact de_con (pe_glob (c.gl h).1 (by rw [c.hm]; exact h1) h2 (c.gl h).2) h3
theorem bb_isi : bootBuiltins "isinstance" = some (.builtin "isinstance") := by kernel_rfl
theorem isi {a : Expr} {T : String} {x : Str} {fa : Ev → M D} {p p2 pos : Pos} (c : Cn g G k N sc X) (B : Bts l G) (hb : hasB l "isinstance" = true) (hg : glB sc "isinstance" = true) (hb2 : hasB l x = true) (hg2 : glB sc x = true) (bb : bootBuiltins x = some (.type T)) (hn : decide (x ≠ "__name__") = true) (hT : decide (T ∈ tyTs) = true) (hs : notStar a = true) (ha : DW g N0 Wx X a fa) :
    DE g N0 Wx X (.Call (.Name "isinstance" p) [a, .Name x p2] [] pos) (fun env => do let d ← fa env; isiM T d) :=
  de_isi c.ok.K (c.blt (B _ hb) hg bb_isi (by decide)) (c.blt (B _ hb2) hg2 bb (of_decide_eq_true hn)) hT hs ha
end Cn
theorem bb_bool : bootBuiltins "bool" = some (.type "bool") := by kernel_rfl
theorem bb_dict : bootBuiltins "dict" = some (.type "dict") := by kernel_rfl
theorem con_int {g : Gc} {G : Ge} {x : Str} {i : Int} {t : Tok} (h : G.mg x = some (.int i t)) : Con g G x (.int i) := ⟨.int i, _, h, ⟨t, rfl⟩, fun _ => .int i⟩
theorem con_str {g : Gc} {G : Ge} {x z : Str} {t : Tok} (h : G.mg x = some (.str z t)) : Con g G x (.str z) := ⟨.str z, _, h, ⟨t, rfl⟩, fun _ => .str z⟩
end Pc

set_option Elab.async false
set_option linter.all false
set_option autoImplicit false
set_option maxRecDepth 100000
set_option maxHeartbeats 4000000
/-! Pc, part V: enumerate, zip. -/
namespace Pc
open PySem PySem.Spec PyProof.Rows L2
theorem meets_en {v : Value} {o : Obj} {H : Heap → Prop} (B : PySem.Begins v o H) :
    Meets (Builtin.«enumerate.__new__» ⟨[.type "enumerate", v], []⟩) (fun _ R s => H s.heap ∧
      R (.ok (.ret (.ref (s.heap.push o).objs.size))) { s with heap := (s.heap.push o).push { cls := .type "enumerate", data := .fields #[.none, .bool false, .ref s.heap.objs.size, rawInt 0, .none, .none] } }) :=
  .of_wp fun prog w A R s h => by
    obtain ⟨hp, g, d, tk, os⟩ := s
    obtain ⟨h1, h⟩ := h
    have hsub := sub_enumerate
    have it : ∀ {A' : Around} {E : Value → Shared → Prop} {Q : Value → Shared → Prop}, Q (.ref hp.objs.size) ⟨hp.push o, g, d, tk, os⟩ → wpAny (model prog w) A' (pyIter v) Q E ⟨hp, g, d, tk, os⟩ :=
      fun q => B.iter prog w _ _ ⟨hp, g, d, tk, os⟩ _ h1 q
    wp_walk using it
    refine wpAny_stack_any fun st => wpAny_pure ?_
    split
    · rename_i c _ _ _ _ _
      cases (c == Value.type "enumerate") <;> (wp_walk using it; exact ⟨_, rfl, h⟩)
    · wp_walk using it
      exact ⟨_, rfl, h⟩
theorem en_call {prog : Program} {w : World} {A : Around} {E : Value → Shared → Prop} {s : Shared} {v : Value} {o : Obj} {H : Heap → Prop} {Q : Value → Shared → Prop} (B : PySem.Begins v o H) (h1 : H s.heap)
    (h : ∀ h', IsEnum h' (s.heap.objs.size + 1) s.heap.objs.size 0 .none → h'.get? s.heap.objs.size = some o → (∀ b o, s.heap.get? b = some o → h'.get? b = some o) → Q (.ref (s.heap.objs.size + 1)) { s with heap := h' }) :
    wpAny (model prog w) A (call (.type "enumerate") [v]) Q E s := by
  refine callType_new F.called_enumerate (by decide) (F.typeCall_enumerate_1 _) (F.newCall_enumerate_1 _) (fun obj => F.args_object_init_2 obj _) F.entry_enumerate_new (meets_en B) ⟨h1, ?_⟩
  have hz : (s.heap.push o).objs.size = s.heap.objs.size + 1 := Heap.size_push ..
  show _ ∧ _
  rw [hz]
  have en : IsEnum ((s.heap.push o).push { cls := .type "enumerate", data := .fields #[.none, .bool false, .ref s.heap.objs.size, rawInt 0, .none, .none] }) (s.heap.objs.size + 1) s.heap.objs.size 0 .none := by
    have q := Heap.get?_push_size (s.heap.push o) (o := { cls := .type "enumerate", data := .fields #[.none, .bool false, .ref s.heap.objs.size, rawInt 0, .none, .none] }) rfl
    rw [hz] at q
    exact q
  exact ⟨⟨_, en, rfl⟩, h _ en (Heap.get?_push_of_some _ (Heap.get?_push_size _ B.free)) fun b o x => Heap.get?_push_of_some _ (Heap.get?_push_of_some _ x)⟩
/-- the tuple at a, each item in a new pair -/
def IteT (K : PySem.W.Frag) (a : Addr) : It :=
  ⟨fun i H => ∃ (xs : List V) (x : V), SqT K H a xs ∧ xs[i]? = some x, fun i H v H' => ∃ T x, v = .ref T ∧ H T = none ∧ H' = upd H T (.tup [.int (i : Nat), x]) ∧ ∀ xs, SqT K H a xs → xs[i]? = some x, fun i H => ∃ xs : List V, SqT K H a xs ∧ xs.length = i⟩
theorem turn_enT {P : Program} {w : World} {K : PySem.W.Frag} {elts : List Expr} {kk : Nat} {tpos : Pos} (a e it : Addr) :
    Turn P w K (.Tuple elts kk tpos) (IteT K a) [e, it] e (fun i h => (∃ old, IsEnum h e it ((i : Nat) : Int) old) ∧ h.IsTupleIter it a i ∧ e ≠ it) where
  mem := by simp
  obj := fun i h st b hb => by
    obtain ⟨⟨old, he⟩, ⟨o, ho, hc, hd⟩, _⟩ := st
    simp only [List.mem_cons, List.not_mem_nil, or_false] at hb
    rcases hb with z | z
    · rw [z]; exact ⟨_, he, fun v q => nomatch q⟩
    · rw [z]; exact ⟨o, ho, fun v q => by rw [hd] at q; cases q⟩
  keep := fun i h h' st k => by
    obtain ⟨⟨old, he⟩, hi, hne⟩ := st
    exact ⟨⟨old, k e (by simp) _ he⟩, hi.at fun o q => k it (by simp) o q, hne⟩
  item := by
    intro X hP hw hK hc i pins s σ H E I hf st hg
    subst hP hw hK
    obtain ⟨⟨old, he⟩, hit, hne⟩ := st
    obtain ⟨xs, x, hq, hx⟩ := hg
    obtain ⟨its, rv, p, hz⟩ := I.tuple hq
    obtain ⟨u, hu, ru⟩ := rv.get hx
    have hel : e < s.heap.objs.size := Heap.lt_size he
    have hil : it < s.heap.objs.size := by obtain ⟨_, q, _⟩ := hit; exact Heap.lt_size q
    have p' : s.heap.IsTuple a its.toArray := p
    have nai : a ≠ it := fun z => by
      subst z
      obtain ⟨o1, e1, c1, _⟩ := hit
      obtain ⟨o2, e2, c2, _⟩ := p
      rw [e1] at e2
      cases e2
      rw [c1] at c2
      exact absurd c2 (by decide)
    have nae : e ∉ [it, a] := fun z => by
      simp only [List.mem_cons, List.not_mem_nil, or_false] at z
      rcases z with z | z
      · exact hne z
      · subst z
        obtain ⟨o2, e2, c2, _⟩ := p
        have e1 : s.heap.get? e = some _ := he
        rw [e1] at e2
        cases e2
        have c3 : Value.type "enumerate" = Value.type "tuple" := c2
        exact absurd c3 (by decide)
    have hi : i < its.toArray.size := by
      have := (List.getElem?_eq_some_iff.mp hu).1
      simpa using this
    refine wpAny_pyNext_enum_itemD (Draws.tuple (A := X.A.in1) (show X.A.in1.handled = none from I.ok.hd hc) it a nai its.toArray) he ⟨hit, p'⟩ hi hne nae fun y h' tk hy ho hst hT hsz hk => ?_
    have ey : y = u := by
      have : its.toArray[i]? = some u := by simpa using hu
      rw [this] at hy
      exact (Option.some.inj hy).symm
    subst ey
    refine ⟨_, rfl, wpAny_letOwnedTupleGo_enum (s := { s with heap := h', toks := tk + 1 }) ho fun h'' he' sb => ?_⟩
    have hT2 : h''.get? s.heap.objs.size = some { cls := .type "tuple", data := .seq #[.int i tk, y] } := (sb.2 _ (Nat.ne_of_gt hel)).trans hT
    have new : ObjOk X.prog X.w (upd H s.heap.objs.size (.tup [.int (i : Nat), x])) h'' s.heap.objs.size (.tup [.int (i : Nat), x]) :=
      ⟨by show 2 ≤ sizeLine; decide, [.int i tk, y], .cons ⟨_, rfl⟩ (.cons ru .nil), ⟨_, hT2, rfl, _, rfl⟩⟩
    have I1 : Inv X pins σ (upd H s.heap.objs.size (.tup [.int (i : Nat), x])) { s with heap := h'', toks := tk + 1 } :=
      I.turnedNew (ch := [e, it]) (fun b ob hb q => (sb.2 b (fun z => hb (by simp [z]))).trans (hk b ob (fun z => hb (by simp [z])) (fun z => hb (by simp [z])) q)) hf (Nat.le_refl _) new
    refine ⟨.ref s.heap.objs.size, _, I1, rfl, ⟨_, x, rfl, I.hok.fresh (Nat.le_refl _), rfl, fun ys hy => by rw [I.tuple_inj hy hq]; exact hx⟩, ⟨⟨y, ?_⟩, hst.1.at fun o q => (sb.2 it (Ne.symm hne)).trans q, hne⟩, fun b hb => ?_⟩
    · have e1 : ((i + 1 : Nat) : Int) = (i : Int) + 1 := by omega
      rw [e1]; exact he'
    · have hb' : b < s.heap.objs.size := by
        have hb2 := hb
        simp only [List.mem_cons, List.not_mem_nil, or_false] at hb2
        rcases hb2 with z | z
        · rw [z]; exact hel
        · rw [z]; exact hil
      rw [upd_ne (Nat.ne_of_lt hb')]
      exact (hf b hb).1
  done := by
    intro X hP hw hK hc i pins s σ H E I hf st hg
    subst hP hw hK
    obtain ⟨⟨old, he⟩, hit, hne⟩ := st
    obtain ⟨xs, hq, hx⟩ := hg
    obtain ⟨its, rv, p, hz⟩ := I.tuple hq
    obtain ⟨f0, f1, f2, f3, f4, f5⟩ := hf it (by simp)
    have nai : a ≠ it := fun z => by
      subst z
      obtain ⟨o1, e1, c1, _⟩ := hit
      obtain ⟨o2, e2, c2, _⟩ := p
      rw [e1] at e2
      cases e2
      rw [c1] at c2
      exact absurd c2 (by decide)
    have hi : its.toArray.size = i := by
      have := rv.length
      rw [List.size_toArray]; omega
    have p' : s.heap.IsTuple a its.toArray := p
    rw [← hi] at hit
    refine wpAny_pyNext_enum_endD (Draws.tuple (A := X.A.in1) (show X.A.in1.handled = none from I.ok.hd hc) it a nai its.toArray) he ⟨hit, p'⟩ fun h' eb => ⟨rfl, I.turned (t' := s.toks) (fun b o hb q => eb b o hb q) f0 f1 f3 f4 f5⟩
  self := fun A i s Q E st h => let ⟨⟨_, he⟩, _⟩ := st; wpAny_pyIter_enum he h
def iEnA (K : PySem.W.Frag) (ta : TA) : TI := fun σ H R => ta σ H fun vs H1 => ∃ a xs, vs = [.ref a] ∧ ((SqL K H1 a xs ∧ (xs.length ≤ sizeLine → R (Ite K a) H1)) ∨ (SqT K H1 a xs ∧ (xs.length ≤ sizeLine → R (IteT K a) H1)))
theorem pi_enA {X : Cx} {e : Expr} {ta : TA} {p pos tpos : Pos} {elts : List Expr} {kk : Nat} (hg : Gl X "enumerate") (hm : X.mg "enumerate" = none) (ha : PA X [e] ta) (hs : starEach [e] X.env = [(false, eval e X.env)]) :
    PI X (.Tuple elts kk tpos) (.Call (.Name "enumerate" p) [e] [] pos) (iEnA X.K ta) := by
  refine ⟨fun pins s σ H R I h => Call_ (ld_blt I hg hm boot_enumerate (PyProof.Rows.callWith_type1 (thn (ha.run pos pins s σ H _ I h) fun us s1 ⟨vs, H1, I1, r1, a, xs, ex, q1⟩ => ?_) hs rfl))⟩
  subst ex
  rw [Vals.ref1 r1]
  have fresh : ∀ b, b ∈ [s1.heap.objs.size + 1, s1.heap.objs.size] → FpOk X pins H1 b := fun b hb => by
    have hle : s1.heap.objs.size ≤ b := by
      simp only [List.mem_cons, List.not_mem_nil, or_false] at hb
      rcases hb with z | z <;> omega
    exact I1.fpOk hle (I1.hok.fresh hle)
  rcases q1 with ⟨hq, q⟩ | ⟨hq, q⟩
  · obtain ⟨its, rv, p', hz⟩ := I1.list hq
    refine en_call (PySem.begins_list a its.toArray) p'.isList fun h' he ho hk => wpAny_pyIter_enum he ?_
    exact ⟨s1.heap.objs.size + 1, _, _, _, H1, rfl, I1.kept (t' := s1.toks) hk, turn_enum a (s1.heap.objs.size + 1) s1.heap.objs.size, ⟨⟨.none, he⟩, ⟨_, ho, rfl, rfl⟩, Nat.succ_ne_self _⟩, fresh, q hz⟩
  · obtain ⟨its, rv, p', hz⟩ := I1.tuple hq
    refine en_call (PySem.begins_tuple a its.toArray) p' fun h' he ho hk => wpAny_pyIter_enum he ?_
    exact ⟨s1.heap.objs.size + 1, _, _, _, H1, rfl, I1.kept (t' := s1.toks) hk, turn_enT a (s1.heap.objs.size + 1) s1.heap.objs.size, ⟨⟨.none, he⟩, ⟨_, ho, rfl, rfl⟩, Nat.succ_ne_self _⟩, fresh, q hz⟩
def enumL (xs : List D) : List D := xs.mapIdx fun i x => .tup [.int (i : Int), x]
def zipL (xs ys : List D) : List D := (xs.zip ys).map fun p => .tup [p.1, p.2]
section
variable {g : Gc} {Wx : WX} {w0 : Wd} {X : Cx} {N0 : List Addr}
/-- a pair that is new at each turn -/
theorem yld_pair {w : Wd} {S : Store} {T : Addr} {vs : List V} {ds : List D} (s : SR g w S) (h : w.H T = none) (r : RepL g w vs ds) : ∃ w', w'.H = upd w.H T (.tup vs) ∧ Keep w w' ∧ SR g w' S ∧ Rep g w' (.ref T) (.tup ds) :=
  ⟨⟨upd w.H T (.tup vs), w.N, w.m⟩, rfl, keep_new h, s.new h, rep_newT h r⟩
theorem it_enL {Rl : Wd → Wd → Prop} {w : Wd} {K : PySem.W.Frag} {a : Addr} {vs : List V} {ds : List D} (r : RepL g w vs ds) (hz : vs.length ≤ sizeLine) (st : ∀ w', Rl w w' → SqL K w'.H a vs ∧ Mono w w') : ItOk g Rl w (Ite K a) (enumL ds) := by
  have hl : (enumL ds).length = ds.length := List.length_mapIdx
  refine ⟨by rw [hl, ← r.length]; exact hz, fun w' i k hi => ?_, fun w' i k hi => ?_, fun w' S i x H' k s hi y => ?_⟩
  · have hv : i < vs.length := by rw [r.length]; omega
    exact ⟨vs, vs[i], (st w' k).1, List.getElem?_eq_getElem hv⟩
  · exact ⟨vs, (st w' k).1, by rw [r.length]; omega⟩
  · obtain ⟨T, z, rfl, hT, rfl, hx⟩ := y
    obtain ⟨d, h1, h2⟩ := r.get' (hx vs (st w' k).1)
    obtain ⟨w2, e, k2, s2, r2⟩ := yld_pair s hT (.cons (.int (i : Int)) (.cons (h2.mono (st w' k).2) .nil))
    exact ⟨w2, _, e, k2, s2, by unfold enumL; rw [List.getElem?_mapIdx, h1]; rfl, r2⟩
theorem it_enT {Rl : Wd → Wd → Prop} {w : Wd} {K : PySem.W.Frag} {a : Addr} {vs : List V} {ds : List D} (r : RepL g w vs ds) (hz : vs.length ≤ sizeLine) (h : SqT K w.H a vs) (st : ∀ w', Rl w w' → Mono w w') : ItOk g Rl w (IteT K a) (enumL ds) := by
  have hl : (enumL ds).length = ds.length := List.length_mapIdx
  refine ⟨by rw [hl, ← r.length]; exact hz, fun w' i k hi => ?_, fun w' i k hi => ?_, fun w' S i x H' k s hi y => ?_⟩
  · have hv : i < vs.length := by rw [r.length]; omega
    exact ⟨vs, vs[i], (st w' k).sqT h, List.getElem?_eq_getElem hv⟩
  · exact ⟨vs, (st w' k).sqT h, by rw [r.length]; omega⟩
  · obtain ⟨T, z, rfl, hT, rfl, hx⟩ := y
    obtain ⟨d, h1, h2⟩ := r.get' (hx vs ((st w' k).sqT h))
    obtain ⟨w2, e, k2, s2, r2⟩ := yld_pair s hT (.cons (.int (i : Int)) (.cons (h2.mono (st w' k)) .nil))
    exact ⟨w2, _, e, k2, s2, by unfold enumL; rw [List.getElem?_mapIdx, h1]; rfl, r2⟩
theorem pst_rel {σ : L2.St} {α β : Type} {rel rel' : Wd → Wd → β → α → Prop} {w : Wd} {r : R α} {Q : β → Hp → Prop} (h : Pst g Wx σ rel w r Q) (q : ∀ w' y a, rel' w w' y a → rel w w' y a) : Pst g Wx σ rel' w r Q := by
  cases r with
  | ok a S => exact fun w' y k s z => h w' y k s (q w' y a z)
  | ex c fs S => exact h
  | bad => exact h
theorem ItOk.weak {w : Wd} {J : It} {ds : List D} (it : ItOk g Mono w J ds) : ItOk g Keep w J ds :=
  ⟨it.len, fun w2 i k2 hi => it.go w2 i k2.toMono hi, fun w2 i k2 hi => it.stop w2 i k2.toMono hi, fun w2 S2 i x H' k2 => it.yld w2 S2 i x H' k2.toMono⟩
def enM : List D → Option (List D)
  | [.tup xs] => some (enumL xs)
  | [.lst xs] => some (enumL xs)
  | _ => none
theorem di_enF {e : Expr} {f : Ev → M (List D)} {p pos tpos : Pos} {elts : List Expr} {kk : Nat} (hK : X.K = g.K) (hg : Gl X "enumerate") (hm : X.mg "enumerate" = none) (hs : notStar e = true) (ha : DA g N0 Wx X [e] f) :
    DI g N0 Wx Mono X (.Tuple elts kk tpos) (.Call (.Name "enumerate" p) [e] [] pos) (fun env => do let ds ← f env; ofO (enM ds)) := by
  refine PI.imp (pi_enA hg hm ha (star_cons hs)) fun σ H R ⟨w, env, S, ee, er, sr, q⟩ => ?_
  subst ee
  refine tr_intro er sr (pst_imp (pst_bind (relA := rlL g) (fun _ _ _ _ _ z => z) q) fun vs H1 ⟨w1, ds, S1, e1, k1, s1, r1, q1⟩ => ?_)
  subst e1
  cases eo : enM ds with
  | none => rw [eo] at q1; exact q1.elim
  | some xs =>
    rw [eo] at q1
    unfold enM at eo
    split at eo
    · cases eo
      obtain ⟨v, rfl, r⟩ := RepL.one r1
      cases r with
      | tup h1 h2 => exact ⟨_, _, rfl, .inr ⟨by rw [hK]; exact h1, fun hz => q1 w1 _ (Keep.refl _) s1 (it_enT h2 hz (by rw [hK]; exact h1) fun _ z => z)⟩⟩
    · cases eo
      obtain ⟨v, rfl, r⟩ := RepL.one r1
      cases r with
      | lst h1 hn h2 => exact ⟨_, _, rfl, .inl ⟨.inl h1, fun hz => q1 w1 _ (Keep.refl _) s1 (it_enL h2 hz fun w' k => ⟨.inl (k.rdL h1 hn), k⟩)⟩⟩
      | lstK h1 h2 => exact ⟨_, _, rfl, .inl ⟨by rw [hK]; exact h1 _, fun hz => q1 w1 _ (Keep.refl _) s1 (it_enL h2 hz fun w' k => ⟨by rw [hK]; exact h1 _, k⟩)⟩⟩
    · cases eo
theorem di_enC {e : Expr} {f : Ev → M (List D)} {p pos tpos : Pos} {elts : List Expr} {kk : Nat} (hK : X.K = g.K) (hg : Gl X "enumerate") (hm : X.mg "enumerate" = none) (hs : notStar e = true) (ha : DA g N0 Wx X [e] f) :
    DI g N0 Wx Keep X (.Tuple elts kk tpos) (.Call (.Name "enumerate" p) [e] [] pos) (fun env => do let ds ← f env; ofO (enM ds)) := by
  refine PI.imp (di_enF hK hg hm hs ha) fun σ H R ⟨w, env, S, ee, er, sr, q⟩ => ⟨w, env, S, ee, er, sr, pst_rel q fun _ _ _ it => it.weak⟩
/-! ### zip of two -/
theorem zipL_get {xs ys : List D} {i : Nat} {a b : D} (h : xs[i]? = some a) (h2 : ys[i]? = some b) : (zipL xs ys)[i]? = some (.tup [a, b]) := by
  unfold zipL
  rw [List.getElem?_map, List.getElem?_zip_eq_some (z := (a, b)) |>.mpr ⟨h, h2⟩]
  rfl
theorem it_zipL {Rl : Wd → Wd → Prop} {w : Wd} {K : PySem.W.Frag} {a b : Addr} {vs us : List V} {ds es : List D} (r : RepL g w vs ds) (r' : RepL g w us es) (hz : vs.length ≤ sizeLine) (st : ∀ w', Rl w w' → SqL K w'.H a vs ∧ SqL K w'.H b us ∧ Mono w w') : ItOk g Rl w (Itz K a b) (zipL ds es) := by
  have hl : (zipL ds es).length = min ds.length es.length := by unfold zipL; simp
  refine ⟨by rw [hl, ← r.length]; omega, fun w' i k hi => ?_, fun w' i k hi => ?_, fun w' S i x H' k s hi y => ?_⟩
  · have hv : i < vs.length := by rw [r.length]; omega
    have hu : i < us.length := by rw [r'.length]; omega
    exact ⟨vs, us, vs[i], us[i], (st w' k).1, (st w' k).2.1, List.getElem?_eq_getElem hv, List.getElem?_eq_getElem hu⟩
  · exact ⟨vs, us, (st w' k).1, (st w' k).2.1, by rw [r.length, r'.length]; omega⟩
  · obtain ⟨T, z, z', rfl, hT, rfl, hx, hx'⟩ := y
    obtain ⟨d, h1, h2⟩ := r.get' (hx vs (st w' k).1)
    obtain ⟨d', h1', h2'⟩ := r'.get' (hx' us (st w' k).2.1)
    obtain ⟨w2, e, k2, s2, r2⟩ := yld_pair s hT (.cons (h2.mono (st w' k).2.2) (.cons (h2'.mono (st w' k).2.2) .nil))
    exact ⟨w2, _, e, k2, s2, zipL_get h1 h1', r2⟩
theorem it_zipT {Rl : Wd → Wd → Prop} {w : Wd} {K : PySem.W.Frag} {a b : Addr} {vs us : List V} {ds es : List D} (r : RepL g w vs ds) (r' : RepL g w us es) (hz : ds.length ≤ sizeLine) (h : SqT K w.H a vs) (h' : SqT K w.H b us) (st : ∀ w', Rl w w' → Mono w w') : ItOk g Rl w (RZ.ItzT K a b) (zipL ds es) := by
  have hl : (zipL ds es).length = min ds.length es.length := by unfold zipL; simp
  refine ⟨by rw [hl]; omega, fun w' i k hi => ?_, fun w' i k hi => ?_, fun w' S i x H' k s hi y => ?_⟩
  · have hv : i < vs.length := by rw [r.length]; omega
    have hu : i < us.length := by rw [r'.length]; omega
    exact ⟨vs, us, vs[i], us[i], (st w' k).sqT h, (st w' k).sqT h', List.getElem?_eq_getElem hv, List.getElem?_eq_getElem hu⟩
  · exact ⟨vs, us, (st w' k).sqT h, (st w' k).sqT h', by rw [r.length, r'.length]; omega⟩
  · obtain ⟨T, z, z', rfl, hT, rfl, hx, hx'⟩ := y
    obtain ⟨d, h1, h2⟩ := r.get' (hx vs ((st w' k).sqT h))
    obtain ⟨d', h1', h2'⟩ := r'.get' (hx' us ((st w' k).sqT h'))
    obtain ⟨w2, e, k2, s2, r2⟩ := yld_pair s hT (.cons (h2.mono (st w' k)) (.cons (h2'.mono (st w' k)) .nil))
    exact ⟨w2, _, e, k2, s2, zipL_get h1 h1', r2⟩
def zipM : List D → Option (List D)
  | [.tup xs, .tup ys] => if xs.length ≤ sizeLine then some (zipL xs ys) else none
  | [.lst xs, .lst ys] => if xs.length ≤ sizeLine then some (zipL xs ys) else none
  | _ => none
theorem RepL.two {w : Wd} {vs : List V} {d e : D} (h : RepL g w vs [d, e]) : ∃ v u, vs = [v, u] ∧ Rep g w v d ∧ Rep g w u e := by
  cases h with
  | cons r t =>
    obtain ⟨u, rfl, r2⟩ := RepL.one t
    exact ⟨_, _, rfl, r, r2⟩
theorem di_zipF {a b : Expr} {f : Ev → M (List D)} {p pos tpos : Pos} {elts : List Expr} {kk : Nat} (hK : X.K = g.K) (hg : Gl X "zip") (hm : X.mg "zip" = none) (hs : notStar a = true) (hs2 : notStar b = true) (ha : DA g N0 Wx X [a, b] f) :
    DI g N0 Wx Mono X (.Tuple elts kk tpos) (.Call (.Name "zip" p) [a, b] [] pos) (fun env => do let ds ← f env; ofO (zipM ds)) := by
  refine PI.imp (RZ.pi_zipA hg hm ha (star_cons hs) (star_any (by rw [List.all_cons, hs2]; rfl))) fun σ H R ⟨w, env, S, ee, er, sr, q⟩ => ?_
  subst ee
  refine tr_intro er sr (pst_imp (pst_bind (relA := rlL g) (fun _ _ _ _ _ z => z) q) fun vs H1 ⟨w1, ds, S1, e1, k1, s1, r1, q1⟩ => ?_)
  subst e1
  cases eo : zipM ds with
  | none => rw [eo] at q1; exact q1.elim
  | some xs =>
    rw [eo] at q1
    unfold zipM at eo
    split at eo
    · split at eo
      · rename_i hz
        cases eo
        obtain ⟨v, u, rfl, r, r'⟩ := RepL.two r1
        cases r with
        | tup h1 h2 =>
          cases r' with
          | tup h3 h4 => exact ⟨_, _, _, _, rfl, .inr ⟨by rw [hK]; exact h1, by rw [hK]; exact h3, q1 w1 _ (Keep.refl _) s1 (it_zipT h2 h4 hz (by rw [hK]; exact h1) (by rw [hK]; exact h3) fun _ z => z)⟩⟩
      · cases eo
    · split at eo
      · rename_i hz
        cases eo
        obtain ⟨v, u, rfl, r, r'⟩ := RepL.two r1
        have sq : ∀ {v : V} {ds : List D}, Rep g w1 v (.lst ds) → ∃ a vs, v = .ref a ∧ RepL g w1 vs ds ∧ ∀ w', Mono w1 w' → SqL g.K w'.H a vs := fun r => by
          cases r with
          | lst h1 hn h2 => exact ⟨_, _, rfl, h2, fun w' k => .inl (k.rdL h1 hn)⟩
          | lstK h1 h2 => exact ⟨_, _, rfl, h2, fun w' k => h1 _⟩
        obtain ⟨a1, v1, rfl, q2, q3⟩ := sq r
        obtain ⟨a2, v2, rfl, q4, q5⟩ := sq r'
        exact ⟨_, _, v1, v2, rfl, .inl ⟨by rw [hK]; exact q3 w1 (Mono.refl _), by rw [hK]; exact q5 w1 (Mono.refl _), q1 w1 _ (Keep.refl _) s1 (it_zipL q2 q4 (by rw [q2.length]; exact hz) fun w' k => ⟨by rw [hK]; exact q3 w' k, by rw [hK]; exact q5 w' k, k⟩)⟩⟩
      · cases eo
    · cases eo
theorem di_zipC {a b : Expr} {f : Ev → M (List D)} {p pos tpos : Pos} {elts : List Expr} {kk : Nat} (hK : X.K = g.K) (hg : Gl X "zip") (hm : X.mg "zip" = none) (hs : notStar a = true) (hs2 : notStar b = true) (ha : DA g N0 Wx X [a, b] f) :
    DI g N0 Wx Keep X (.Tuple elts kk tpos) (.Call (.Name "zip" p) [a, b] [] pos) (fun env => do let ds ← f env; ofO (zipM ds)) := by
  refine PI.imp (di_zipF hK hg hm hs hs2 ha) fun σ H R ⟨w, env, S, ee, er, sr, q⟩ => ⟨w, env, S, ee, er, sr, pst_rel q fun _ _ _ it => it.weak⟩
end
namespace Cn
variable {g : Gc} {G : Ge} {k : Nat} {N : List Str} {sc : Scope} {X : Cx} {N0 : List Addr} {Wx : WX} {w0 : Wd} {l : List Str} {a b : Expr} {f : Ev → M (List D)} {p pos tpos : Pos} {elts : List Expr} {kk : Nat}
theorem enF (c : Cn g G k N sc X) (B : Bts l G) (hb : hasB l "enumerate" = true) (hg : glB sc "enumerate" = true) (hs : notStar a = true) (ha : DA g N0 Wx X [a] f) : DI g N0 Wx Mono X (.Tuple elts kk tpos) (.Call (.Name "enumerate" p) [a] [] pos) (fun env => do let ds ← f env; ofO (enM ds)) := di_enF c.ok.K (c.gl hg).1 (by rw [c.hm]; exact B _ hb) hs ha
theorem enC (c : Cn g G k N sc X) (B : Bts l G) (hb : hasB l "enumerate" = true) (hg : glB sc "enumerate" = true) (hs : notStar a = true) (ha : DA g N0 Wx X [a] f) : DI g N0 Wx Keep X (.Tuple elts kk tpos) (.Call (.Name "enumerate" p) [a] [] pos) (fun env => do let ds ← f env; ofO (enM ds)) := di_enC c.ok.K (c.gl hg).1 (by rw [c.hm]; exact B _ hb) hs ha
theorem zpF (c : Cn g G k N sc X) (B : Bts l G) (hb : hasB l "zip" = true) (hg : glB sc "zip" = true) (hs : notStar a = true) (hs2 : notStar b = true) (ha : DA g N0 Wx X [a, b] f) : DI g N0 Wx Mono X (.Tuple elts kk tpos) (.Call (.Name "zip" p) [a, b] [] pos) (fun env => do let ds ← f env; ofO (zipM ds)) := di_zipF c.ok.K (c.gl hg).1 (by rw [c.hm]; exact B _ hb) hs hs2 ha
theorem zpC (c : Cn g G k N sc X) (B : Bts l G) (hb : hasB l "zip" = true) (hg : glB sc "zip" = true) (hs : notStar a = true) (hs2 : notStar b = true) (ha : DA g N0 Wx X [a, b] f) : DI g N0 Wx Keep X (.Tuple elts kk tpos) (.Call (.Name "zip" p) [a, b] [] pos) (fun env => do let ds ← f env; ofO (zipM ds)) := di_zipC c.ok.K (c.gl hg).1 (by rw [c.hm]; exact B _ hb) hs hs2 ha
end Cn
end Pc

set_option Elab.async false
set_option linter.all false
set_option autoImplicit false
set_option maxRecDepth 100000
set_option maxHeartbeats 4000000
/-! Pc, part W: dicts, list + list. -/
namespace Pc
open PySem PySem.Spec PyProof.Rows L2
def putD (kvs : List (Key × D)) (k : Key) (v : D) : List (Key × D) := if (kvs.any fun kv => decide (kv.1 = k)) = true then kvs.map (fun kv => if kv.1 = k then (kv.1, v) else kv) else kvs ++ [(k, v)]
def mergeD (kvs more : List (Key × D)) : List (Key × D) := more.foldl (fun acc kv => putD acc kv.1 kv.2) kvs
section
variable {g : Gc} {Wx : WX} {w0 : Wd} {X : Cx} {N0 : List Addr}
theorem RepK.any {w : Wd} {k : Key} : ∀ {vs : List (Key × V)} {ds : List (Key × D)}, RepK g w vs ds → (vs.any fun kv => decide (kv.1 = k)) = (ds.any fun kv => decide (kv.1 = k))
  | _, _, .nil => rfl
  | _, _, .cons _ t => by simp only [List.any_cons, RepK.any t]
theorem RepK.map {w : Wd} {k : Key} {v : V} {d : D} (r : Rep g w v d) : ∀ {vs : List (Key × V)} {ds : List (Key × D)}, RepK g w vs ds → RepK g w (vs.map fun kv => if kv.1 = k then (kv.1, v) else kv) (ds.map fun kv => if kv.1 = k then (kv.1, d) else kv)
  | _, _, .nil => .nil
  | _, _, .cons (k := k') r' t => by
    simp only [List.map_cons]
    by_cases e : k' = k
    · rw [if_pos e, if_pos e]; exact .cons r (RepK.map r t)
    · rw [if_neg e, if_neg e]; exact .cons r' (RepK.map r t)
theorem RepK.snoc {w : Wd} {k : Key} {v : V} {d : D} (r : Rep g w v d) : ∀ {vs : List (Key × V)} {ds : List (Key × D)}, RepK g w vs ds → RepK g w (vs ++ [(k, v)]) (ds ++ [(k, d)])
  | _, _, .nil => .cons r .nil
  | _, _, .cons r' t => .cons r' (RepK.snoc r t)
theorem RepK.length {w : Wd} : ∀ {vs : List (Key × V)} {ds : List (Key × D)}, RepK g w vs ds → vs.length = ds.length
  | _, _, .nil => rfl
  | _, _, .cons _ t => congrArg (· + 1) (RepK.length t)
theorem RepK.put {w : Wd} {k : Key} {v : V} {d : D} {vs : List (Key × V)} {ds : List (Key × D)} (r : Rep g w v d) (h : RepK g w vs ds) : RepK g w (putK vs k v) (putD ds k d) := by
  unfold putK putD
  rw [h.any]
  split
  · exact h.map r
  · exact h.snoc r
theorem RepK.merge {w : Wd} : ∀ {ms : List (Key × V)} {md : List (Key × D)} {vs : List (Key × V)} {ds : List (Key × D)}, RepK g w ms md → RepK g w vs ds → RepK g w (mergeK vs ms) (mergeD ds md)
  | _, _, _, _, .nil, h => h
  | _, _, _, _, .cons (vs := vs') (ds := ds') r t, h => RepK.merge (ms := vs') (md := ds') t (RepK.put r h)
/-- a new dict, nobody's yet -/
def NewD (g : Gc) (w w' : Wd) (v : V) (xs : List (Key × D)) : Prop := ∃ p vs, v = .ref p ∧ w'.H p = some (.dK vs) ∧ p ∈ w'.N ∧ p ∉ w'.m ∧ p ∉ w.N ∧ RepK g w' vs xs
theorem NewD.base {w w1 w' : Wd} {v : V} {xs : List (Key × D)} (k : Keep w w1) (h : NewD g w1 w' v xs) : NewD g w w' v xs := by
  obtain ⟨p, vs, h1, h2, h3, h4, h5, h6⟩ := h
  exact ⟨p, vs, h1, h2, h3, h4, fun q => h5 (k.sub p q), h6⟩
abbrev DD (g : Gc) (N0 : List Addr) (Wx : WX) (X : Cx) (e : Expr) (f : Ev → M (List (Key × D))) : Prop := PE X e (tr g N0 Wx (NewD g) f)
theorem new_d {w : Wd} {S : Store} {p : Addr} {vs : List (Key × V)} {ds : List (Key × D)} (sr : SR g w S) (h : w.H p = none) (r : RepK g w vs ds) : NewD g w ⟨upd w.H p (.dK vs), p :: w.N, w.m⟩ (.ref p) ds :=
  ⟨p, vs, rfl, upd_same, List.mem_cons_self, fun q => sr.notnone (sr.sub p q) h, fun q => sr.notnone q h, r.mono (keep_newN h).toMono⟩
theorem dd_nil {pos : Pos} : DD g N0 Wx X (.Dict [] [] pos) (fun _ => pure []) := by
  refine PE.imp pe_dnewK fun σ H Q ⟨w, env, S, e, er, sr, q⟩ => ?_
  subst e
  exact fun p hp => q ⟨upd w.H p _, p :: w.N, w.m⟩ _ (keep_newN hp) (sr.newN hp) (new_d sr hp .nil)
/-- the pairs of a display -/
inductive RepP (g : Gc) (w : Wd) : List (V × V) → List (Key × D) → Prop
  | nil : RepP g w [] []
  | cons {k : Key} {v : V} {d : D} {vs : List (V × V)} {ds : List (Key × D)} : Rep g w v d → RepP g w vs ds → RepP g w ((kV k, v) :: vs) ((k, d) :: ds)
theorem RepP.kvs {w : Wd} : ∀ {ps : List (V × V)} {ds : List (Key × D)}, RepP g w ps ds → ∃ kvs : List (Key × V), ps = kvs.map (fun kv => (kV kv.1, kv.2)) ∧ RepK g w kvs ds
  | _, _, .nil => ⟨[], rfl, .nil⟩
  | _, _, .cons (k := k) (v := v) r t => by
    obtain ⟨kvs, e, h⟩ := RepP.kvs t
    exact ⟨(k, v) :: kvs, by rw [e]; rfl, .cons r h⟩
theorem RepP.mono {w w' : Wd} (k : Mono w w') : ∀ {ps : List (V × V)} {ds : List (Key × D)}, RepP g w ps ds → RepP g w' ps ds
  | _, _, .nil => .nil
  | _, _, .cons r t => .cons (r.mono k) (RepP.mono k t)
structure DP (g : Gc) (N0 : List Addr) (Wx : WX) (X : Cx) (pos : Pos) (ks : List (Option Expr)) (vs : List Expr) (f : Ev → M (List (Key × D))) : Prop where
  ex : ∃ trs, PPs X pos ks vs trs ∧ ∀ σ H Q, tr g N0 Wx (fun _ w ps ds => RepP g w ps ds) f σ H Q → tPairs trs σ H Q
theorem dp_nil {pos : Pos} : DP g N0 Wx X pos [] [] (fun _ => pure []) := by
  refine ⟨[], pps_nil, fun σ H Q ⟨w, env, S, e, er, sr, q⟩ => ?_⟩
  subst e
  exact q w [] (Keep.refl w) sr .nil
def pairM (fk fv : Ev → M D) (r : Ev → M (List (Key × D))) : Ev → M (List (Key × D)) := fun env => do
  let x ← fk env
  let k ← ofO (keyD x)
  let y ← fv env
  let xs ← r env
  pure ((k, y) :: xs)
theorem keyD_rep {w : Wd} {v : V} {d : D} {k : Key} (r : Rep g w v d) (h : keyD d = some k) : v = kV k := by
  cases d with
  | int i => cases h; cases r; rfl
  | str x => cases h; cases r; rfl
  | _ => cases h
theorem dp_cons {pos : Pos} {k v : Expr} {ks : List (Option Expr)} {vs : List Expr} {fk fv : Ev → M D} {r : Ev → M (List (Key × D))} (hk : DE g N0 Wx X k fk) (hv : DE g N0 Wx X v fv) (t : DP g N0 Wx X pos ks vs r) : DP g N0 Wx X pos (some k :: ks) (v :: vs) (pairM fk fv r) := by
  obtain ⟨trs, hp, hq⟩ := t.ex
  refine ⟨_, pps_cons hk hv hp, fun σ H Q ⟨w, env, S, e, er, sr, q⟩ => ?_⟩
  subst e
  refine tr_intro er sr (pst_imp (pst_bind (relA := rl g) (fun _ _ _ _ _ z => z) q) fun x H1 ⟨w1, da, S1, e1, k1, s1, r1, q1⟩ => ?_)
  subst e1
  rw [ofO_bind] at q1
  cases ek : keyD da with
  | none => rw [ek] at q1; exact q1.elim
  | some key =>
    rw [ek] at q1
    have ex := keyD_rep r1 ek
    subst ex
    refine tr_intro (er.keep k1) s1 (pst_imp (pst_bind (relA := rl g) (fun _ _ _ _ _ z => z) q1) fun y H2 ⟨w2, db, S2, e2, k2, s2, r2, q2⟩ => ?_)
    subst e2
    refine hq σ w2.H _ (tr_intro ((er.keep k1).keep k2) s2 (pst_imp (pst_bind (relA := fun _ w ps ds => RepP g w ps ds) (fun _ _ _ _ _ z => z) q2) fun ps H3 ⟨w3, dc, S3, e3, k3, s3, r3, q3⟩ => ?_))
    subst e3
    exact q3 w3 _ (Keep.refl _) s3 (.cons (r2.mono k3.toMono) r3)
def dispM (r : Ev → M (List (Key × D))) : Ev → M (List (Key × D)) := fun env => do
  let xs ← r env
  if xs.length ≤ 15 then pure (mergeD [] xs) else fail
theorem dd_disp {pos : Pos} {ks : List (Option Expr)} {vs : List Expr} {r : Ev → M (List (Key × D))} (hall : ks.all (·.isSome) = true) (hl : (ks.length == vs.length && !ks.isEmpty && decide (ks.length ≤ 15)) = true) (t : DP g N0 Wx X pos ks vs r) : DD g N0 Wx X (.Dict ks vs pos) (dispM r) := by
  obtain ⟨trs, hp, hq⟩ := t.ex
  simp only [Bool.and_eq_true, decide_eq_true_eq, Bool.not_eq_true'] at hl
  obtain ⟨⟨l1, l2⟩, l3⟩ := hl
  refine PE.imp (pe_disp hp hall (eq_of_beq l1) (fun z => by rw [z] at l2; cases l2) l3) fun σ H Q ⟨w, env, S, e, er, sr, q⟩ => ?_
  subst e
  intro p hp0
  have q' : Pst g Wx σ (NewD g) w ((r env >>= fun xs => if xs.length ≤ 15 then pure (mergeD [] xs) else fail) S) Q := q
  have k0 := keep_newN (o := .dK []) hp0
  have nm : p ∉ w.m := fun z => sr.notnone (sr.sub p z) hp0
  refine hq σ _ _ (tr_intro (w := ⟨upd w.H p (.dK []), p :: w.N, w.m⟩) (er.keep k0) (sr.newN hp0) ?_)
  cases e : r env S with
  | bad => rw [bind_bad e] at q'; exact q'
  | ex c fs S1 => rw [bind_ex e] at q'; exact fun w' cls dd k s z => q' w' cls dd (k0.trans k) s z
  | ok xs S1 =>
    rw [bind_ok e] at q'
    intro w1 ps k1 s1 r1
    have h1 : w1.H p = some (.dK []) := k1.kp p _ upd_same nm
    have nm1 : p ∉ w1.m := fun z => by
      rcases k1.newm p z with z | z
      · exact nm z
      · have : upd w.H p (.dK []) p = none := z
        rw [upd_same] at this; cases this
    have pN : p ∈ w1.N := k1.sub p List.mem_cons_self
    obtain ⟨kvs, ek, rk⟩ := r1.kvs
    by_cases hz : xs.length ≤ 15
    · rw [if_pos hz] at q'
      refine ⟨h1, kvs, ek, by rw [rk.length]; exact hz, ?_⟩
      have wr : Wr (.dK ([] : List (Key × V))) := ⟨fun _ z => (by cases z), fun _ _ z => (by cases z)⟩
      have mo := mono_own (o := .dK (mergeK [] kvs)) h1 wr.1 wr.2 pN
      refine q' ⟨upd w1.H p (.dK (mergeK [] kvs)), w1.N, w1.m⟩ _ ⟨(k0.toMono.trans k1.toMono).trans mo, fun a o e n => ?_, fun a z => k1.sub a (k0.sub a z), fun a z => ?_⟩ (s1.own h1 wr.1 wr.2 pN nm1) ⟨p, _, rfl, upd_same, pN, nm1, fun z => sr.notnone z hp0, (RepK.merge rk .nil).mono mo⟩
      · show upd w1.H p _ a = some o
        rw [upd_ne (ne_of_none e hp0)]
        exact (k0.trans k1).kp a o e n
      · exact (k0.trans k1).newm a z
    · rw [if_neg hz] at q'; exact q'.elim
/-- a new dict is frozen; gets a handle -/
theorem de_frzD {e : Expr} {f : Ev → M (List (Key × D))} (h : DD g N0 Wx X e f) : DE g N0 Wx X e (fun env => do let xs ← f env; pure (.dct xs)) := by
  refine PE.imp h fun σ H Q ⟨w, env, S, e, er, sr, q⟩ => ?_
  subst e
  refine tr_intro er sr ?_
  have q' : Pst g Wx σ (rl g) w (((f env) >>= fun xs => pure (.dct xs)) S) Q := q
  cases hr : f env S with
  | ok xs S1 =>
    rw [bind_ok hr] at q'
    intro w' y k s n
    obtain ⟨p, vs, rfl, h2, h3, h4, h5, h6⟩ := n
    obtain ⟨sub, out, inn⟩ := filter_ne (N := w'.N) (a := p)
    exact q' ⟨w'.H, w'.N.filter (fun b => decide (b ≠ p)), w'.m⟩ _ (keep_less k sub fun a ha => inn a (fun e => h5 (by rw [← e]; exact ha)) (k.sub a ha)) (s.less sub fun a ha => inn a (fun e => h4 (by rw [← e]; exact ha)) (s.sub a ha)) (.dct h2 out (h6.mono (mono_less sub)))
  | ex c fs S1 => rw [bind_ex hr] at q'; exact q'
  | bad => rw [bind_bad hr] at q'; exact q'
theorem de_mutD {e : Expr} {f : Ev → M (List (Key × D))} (h : DD g N0 Wx X e f) : DE g N0 Wx X e (fun env => do let xs ← f env; newOb (.dct xs)) := by
  refine PE.imp h fun σ H Q ⟨w, env, S, e, er, sr, q⟩ => ?_
  subst e
  refine tr_intro er sr ?_
  have q' : Pst g Wx σ (rl g) w (((f env) >>= fun xs => newOb (.dct xs)) S) Q := q
  cases hr : f env S with
  | ok xs S1 =>
    rw [bind_ok hr] at q'
    intro w' y k s n
    obtain ⟨p, vs, rfl, h2, h3, h4, h5, h6⟩ := n
    have hn : w.H p = none := by
      rcases k.new p h3 with z | z
      · exact absurd z h5
      · exact z
    refine q' ⟨w'.H, w'.N, w'.m ++ [p]⟩ _ (keep_toM k hn h3) (s.push h3 h4 ⟨vs, h2, h6⟩) (.obj ?_)
    show (w'.m ++ [p])[S1.length]? = some p
    have hl := s.len
    rw [List.getElem?_append_right (by omega), show S1.length - w'.m.length = 0 by omega]
    rfl
  | ex c fs S1 => rw [bind_ex hr] at q'; exact q'
  | bad => rw [bind_bad hr] at q'; exact q'
/-! ### d[k] = v, d a handle -/
def putHD (x j d : D) : M Unit := fun S => match x with
  | .obj h => (match S[h]? with
    | some (.dct kvs) => (match keyD j with
      | some k => if kvs.length < sizeLine then .ok () (S.set h (.dct (putD kvs k d))) else .bad
      | none => .bad)
    | _ => .bad)
  | _ => .bad
theorem putHD_ok {x j d : D} {S : Store} : putHD x j d S = .bad ∨ ∃ h kvs k, x = .obj h ∧ S[h]? = some (.dct kvs) ∧ keyD j = some k ∧ kvs.length < sizeLine ∧ putHD x j d S = .ok () (S.set h (.dct (putD kvs k d))) := by
  cases x with
  | obj h =>
    simp only [putHD]
    cases e : S[h]? with
    | none => exact .inl rfl
    | some ob =>
      cases ob with
      | dct kvs =>
        simp only
        cases e2 : keyD j with
        | none => exact .inl rfl
        | some k =>
          simp only
          by_cases hz : kvs.length < sizeLine
          · rw [if_pos hz]; exact .inr ⟨h, kvs, k, rfl, e, rfl, hz, rfl⟩
          · rw [if_neg hz]; exact .inl rfl
      | lst _ => exact .inl rfl
      | ins _ _ => exact .inl rfl
  | _ => exact .inl rfl
def subHDM (fo fi fe : Ev → M D) : Ev → M Out := fun env => do
  let d ← fe env
  let x ← fo env
  let j ← fi env
  let _ ← putHD x j d
  pure (.nx env)
theorem ds_subHD {p1 pos : Pos} {o ie e : Expr} {fo fi fe : Ev → M D} (hu : X.A.units + 1 < cLine) (hs : noSlice ie = true) (hc : notComp e = true) (he : DE g w0.N Wx X e fe) (ho : DE g w0.N Wx X o fo) (hi : DE g w0.N Wx X ie fi) :
    DS g Wx w0 X (.Assign [.Subscript o ie p1] e pos) (subHDM fo fi fe) := by
  refine PS.imp (ps_asg he (pg_sub ho hi (set_dict hu) (asg_sub hs)) (sole_sub hc) stores_sub rfl) fun E σ H ⟨w, env, S, ee, st, q⟩ => ?_
  subst ee
  refine tr_intro st.er st.sr (pst_of st q fun w1 d S1 v e k1 s1 r1 q1 => ?_)
  have st1 := st.step k1 s1
  refine tr_intro st1.er st1.sr (pst_of st1 q1 fun w2 x S2 xv e2 k2 s2 r2 q2 => ?_)
  have st2 := st1.step k2 s2
  refine tr_intro st2.er st2.sr (pst_of st2 q2 fun w3 j S3 jv e3 k3 s3 r3 q3 => ?_)
  have st3 := st2.step k3 s3
  rcases putHD_ok (x := x) (j := j) (d := d) (S := S3) with e | ⟨h, kvs, k, rfl, hx, hk, hz, e⟩
  · rw [bind_bad e] at q3; exact q3.elim
  · rw [bind_ok e] at q3
    obtain ⟨a, rfl, hm⟩ := rep_obj (r2.mono k3.toMono)
    obtain ⟨b, f3, vs, f4, f5⟩ := s3.at_ h _ hx
    rw [hm] at f3
    cases f3
    have ej := keyD_rep r3 hk
    subst ej
    have wr : Wr (.dK vs) := ⟨fun _ z => (by cases z), fun _ _ z => (by cases z)⟩
    have ham := List.mem_of_getElem? hm
    have kk := keep_hnd (o := .dK (putK vs k v)) f4 wr ham (s3.sub a ham)
    have ss := s3.hnd f4 wr hm (ob := .dct (putD kvs k d)) (o := .dK (putK vs k v)) ⟨_, upd_same, (RepK.put (r1.mono (k2.trans k3).toMono) f5).mono kk.toMono⟩
    exact ⟨a, _, rfl, DPut.k f4 (by rw [f5.length]; exact hz), q3 ⟨upd w3.H a (.dK (putK vs k v)), w3.N, w3.m⟩ σ kk.toMono (st3.step kk ss)⟩
end
end Pc

set_option Elab.async false
set_option linter.all false
set_option autoImplicit false
set_option maxRecDepth 100000
set_option maxHeartbeats 4000000
/-! Pc, part X: list + list, repr of data with dicts. -/
namespace Pc
open PySem PySem.Spec PyProof.Rows L2
open AutoSeq1 (wpAny_loadPart')
theorem meets_ladd (l b : Addr) (items items2 : Array Value) (n n2 : Nat) (sl sl2 : Array (Option Value)) (hc0 : items.size + items2.size ≤ sizeLine) :
    Meets (Builtin.«list.__add__» ⟨[.ref l, .ref b], []⟩) (fun _ R s => s.heap.get? l = some { cls := .type "list", dict := none, data := .seq items n, slots := sl } ∧ s.heap.get? b = some { cls := .type "list", dict := none, data := .seq items2 n2, slots := sl2 } ∧
      R (.ok (.ret (.ref s.heap.objs.size))) { s with heap := s.heap.push { cls := .type "list", data := .seq (items ++ items2) } }) :=
  .of_wp fun prog w A R s h => by
    obtain ⟨hp, g, d, tk, os⟩ := s
    obtain ⟨hl, hb, h⟩ := h
    have f3 := AutoSeq1.sub_list_list
    wp_walk using wpAny_loadPart' hl, wpAny_loadPart' hb
    exact ⟨_, rfl, h⟩
def rCatS (K : PySem.W.Frag) : R2 := fun x y H Q => ∃ l b xs zs, x = .ref l ∧ y = .ref b ∧ SqL K H l xs ∧ SqL K H b zs ∧ xs.length + zs.length ≤ sizeLine ∧ ∀ p, H p = none → Q (.ref p) (upd H p (.lst (xs ++ zs)))
theorem op_catS {X : Cx} : OpR X (binaryOp .Add) (rCatS X.K) := by
  intro pins s σ H x y v u Q I rx ry h
  obtain ⟨l, b, xs, zs, rfl, rfl, hl, hb, hz, q⟩ := h
  cases rx
  cases ry
  obtain ⟨its, r1, ⟨⟨c1, d1, t1, sl1⟩, n1, e1, k1, k2, k3⟩, _⟩ := I.list hl
  obtain ⟨its2, r2, ⟨⟨c2, d2, t2, sl2⟩, n2, e2, j1, j2, j3⟩, _⟩ := I.list hb
  simp only at k1 k2 k3 j1 j2 j3
  subst k1 k2 k3 j1 j2 j3
  have sz : its.toArray.size + its2.toArray.size ≤ sizeLine := by
    rw [List.size_toArray, List.size_toArray, ← r1.length, ← r2.length]; exact hz
  refine PySem.concat_meets ⟨_, e1, rfl⟩ ⟨_, e2, rfl⟩ PySem.noFill_list_add PySem.seq_list_add F.slot_list_add F.entry_list_add (F.args_list_add_2 _ _) (meets_ladd l b its.toArray its2.toArray n1 n2 sl1 sl2 sz) ⟨e1, e2, ?_⟩
  have ea : its.toArray ++ its2.toArray = (its ++ its2).toArray := by simp
  rw [ea]
  exact ⟨.ref _, _, I.lnew (t' := s.toks) (r1.append r2) (by rw [List.length_append]; exact hz), rfl, q _ I.fresh⟩
section
variable {g : Gc} {Wx : WX} {w0 : Wd} {X : Cx} {N0 : List Addr}
def catD : D → D → Option (List D)
  | .lst xs, .lst ys => if xs.length + ys.length ≤ sizeLine then some (xs ++ ys) else none
  | _, _ => none
def catM (x y : D) : M (List D) := fun S => ofO (catD (deref S x) (deref S y)) S
theorem dl_cat {a b : Expr} {fa fb : Ev → M D} {pos : Pos} (hK : X.K = g.K) (ha : DW g N0 Wx X a fa) (hb : DW g N0 Wx X b fb) : DL g N0 Wx X (.BinOp a .Add b pos) (fun env => do let x ← fa env; let y ← fb env; catM x y) := by
  refine PE.imp (pe_op op_catS ha hb) fun σ H Q h => ?_
  refine two (R := fun x y H2 => rCatS X.K x y H2 Q) (fun _ _ _ _ _ k z => z.base k) h fun w S x y a b sr ra rb p => ?_
  unfold catM at p
  cases e : catD (deref S a) (deref S b) with
  | none => rw [e] at p; exact p.elim
  | some d =>
    rw [e] at p
    have va := ra.view sr
    have vb := rb.view sr
    generalize deref S a = a' at e va
    generalize deref S b = b' at e vb
    unfold catD at e
    split at e
    · split at e
      · rename_i hz
        cases e
        obtain ⟨l, vs, rfl, h1, h2⟩ := va.lst
        obtain ⟨m, us, rfl, h3, h4⟩ := vb.lst
        exact ⟨l, m, vs, us, rfl, rfl, by rw [hK]; exact h1, by rw [hK]; exact h3, by rw [h2.length, h4.length]; exact hz, fun q hq => p ⟨upd w.H q _, q :: w.N, w.m⟩ _ (keep_newN hq) (sr.newN hq) (new_l sr hq (h2.append h4))⟩
      · cases e
    · cases e
end
end Pc

set_option Elab.async false
set_option linter.all false
set_option autoImplicit false
set_option maxRecDepth 100000
set_option maxHeartbeats 4000000
/-! Pc, part Z: a Hook with sys.modules and a check of one's own. -/
namespace Pc
open PySem PySem.Spec PyProof.Rows L2
/-- the written part has sys.modules, a dict -/
def Sy (K : PySem.W.Frag) : Prop := ∃ o, K.lookup sysModules = some o ∧ o.cls = .type "dict"
/-! ### the head's Hook with sys.modules and a check of one's own -/
def frX (g : Addr → Option Obj) (n : Nat) : PySem.W.Frag := He.frG g (sysModules :: He.asD g n)
def sysB (K : PySem.W.Frag) : Bool := match K.lookup sysModules with
  | some o => decide (o.cls = .type "dict")
  | none => false
theorem sysB_ok {K : PySem.W.Frag} (h : sysB K = true) : Sy K := by
  unfold sysB at h
  cases e : K.lookup sysModules with
  | none => rw [e] at h; cases h
  | some o => rw [e] at h; exact ⟨o, e, of_decide_eq_true h⟩
abbrev AlX : Type := He.AlD × Bool
def obsX (n : Nat) (fa : List He.Fa) (fn : List He.DefD) (ex : PySem.W.Frag → Bool) (g : Addr → Option Obj) : AlX := (He.obsD fa fn (frX g n), sysB (frX g n) && ex (frX g n))
def hookX (n : Nat) (fa : List He.Fa) (fn : List He.DefD) (ex : PySem.W.Frag → Bool) : PySem.W.Hook where
  α := AlX
  obs := fun s => obsX n fa fn ex s.heap.get?
  val := fun _ => (He.valD fn, true)
  says := fun _ h => ∃ K : PySem.W.Frag, K.In h ∧ He.SaysD fa fn K ∧ (sysB K && ex K) = true
  of := fun _ _ e => ⟨_, He.frG_in, congrArg Prod.fst e, congrArg Prod.snd e⟩
  keeps := fun _ _ _ ⟨K, hK, c⟩ k => ⟨K, PySem.W.Frag.In.keeps hK k, c⟩
theorem obsX_eq {n : Nat} {fa : List He.Fa} {fn : List He.DefD} {ex : PySem.W.Frag → Bool} {g : Addr → Option Obj} {s : Shared} (h : ∀ a, g a = s.heap.get? a) : obsX n fa fn ex g = (hookX n fa fn ex).obs s := by
  have e : g = s.heap.get? := funext h
  rw [e]
  rfl
end Pc

set_option Elab.async false
set_option linter.all false
set_option autoImplicit false
set_option maxRecDepth 100000
set_option maxHeartbeats 4000000
/-! Pc, part Y: repr of data with dicts. -/
namespace Pc
open PySem PySem.Spec PyProof.Rows L2
mutual
def okr : Nat → D → Bool
  | _, .non => true
  | _, .bl _ => true
  | _, .int _ => true
  | _, .str _ => true
  | n + 1, .tup xs => okrL n xs
  | n + 1, .lst xs => okrL n xs
  | n + 1, .dct xs => okrK n xs
  | _, _ => false
def okrL : Nat → List D → Bool
  | _, [] => true
  | n, x :: xs => okr n x && okrL n xs
def okrK : Nat → List (Key × D) → Bool
  | _, [] => true
  | n, (_, x) :: xs => okr n x && okrK n xs
end
section
variable {g : Gc} {X : Cx} {pins : List (Addr × Obj)} {σ : L2.St} {s : Shared} {w : Wd}
theorem pairs_keys {P : Program} {W : World} {h : Heap} {es : List DictEntry} {vs : List (Key × Value)} (hp : Pairs (mixKind P W) es vs) : ∀ {kvs : List (Key × V)} {ds : List (Key × D)}, RepK g w kvs ds → KV kvs vs → ReadsAll h (es.map (·.key)) ((toPK ds).map (·.1)) [] := by
  induction hp with
  | nil =>
    intro kvs ds r q
    cases q
    cases r
    simp only [toPK, List.map_nil]
    exact .nil
  | @cons e kv es vs h1 h2 t ih =>
    intro kvs ds r q
    cases q with
    | @cons a b as bs p q =>
      cases r with
      | @cons k v d vs' ds' r u =>
        simp only [toPK, List.map_cons]
        have e1 : k = kv.1 := p.1
        have h1' : keyIs kv.1 e.key = true := h1
        rw [← e1] at h1'
        have rk : Reads h e.key (keyP k) [] := by
          rcases keyIs_shape h1' with ⟨i, t, e2, e3⟩ | ⟨x, t, e2, e3⟩
          · rw [e2, e3]; exact .int i t
          · rw [e2, e3]; exact .str x t
        exact ReadsAll.cons rk (ih u q)
theorem pairs_vals {P : Program} {W : World} {es : List DictEntry} {vs : List (Key × Value)} (hp : Pairs (mixKind P W) es vs) : ∀ {kvs : List (Key × V)}, KV kvs vs → Vals (kvs.map (·.2)) (es.map (·.val)) := by
  induction hp with
  | nil => intro kvs q; cases q; exact .nil
  | @cons e kv es vs h1 h2 t ih =>
    intro kvs q
    cases q with
    | cons p q =>
      rw [List.map_cons, List.map_cons]
      exact .cons (by rw [h2]; exact p.2) (ih q)
mutual
theorem Rep.rds (I : Inv X pins σ w.H s) (hK : X.K = g.K) (Y : Sy g.K) : ∀ {n : Nat} {v : V} {d : D} {u : Value}, Rep g w v d → okr n d = true → RelV v u → ∃ as, Reads s.heap u d.toP as ∧ sysModules ∉ as
  | _, _, _, _, .non, _, r => by cases (show _ = Value.none from r); simp only [D.toP]; exact ⟨[], .none, by simp⟩
  | _, _, _, _, .bl b, _, r => by cases (show _ = Value.bool b from r); simp only [D.toP]; exact ⟨[], .bool b, by simp⟩
  | _, _, _, _, .int i, _, r => by obtain ⟨t, rfl⟩ := (show ∃ t, _ = Value.int i t from r); simp only [D.toP]; exact ⟨[], .int i t, by simp⟩
  | _, _, _, _, .str i, _, r => by obtain ⟨t, rfl⟩ := (show ∃ t, _ = Value.str i t from r); simp only [D.toP]; exact ⟨[], .str i t, by simp⟩
  | 0, _, _, _, .tup _ _, o, _ => by simp [okr] at o
  | 0, _, _, _, .lst _ _ _, o, _ => by simp [okr] at o
  | 0, _, _, _, .lstK _ _, o, _ => by simp [okr] at o
  | 0, _, _, _, .dct _ _ _, o, _ => by simp [okr] at o
  | n + 1, _, _, _, .tup h rr, o, r => by
    cases (show _ = Value.ref _ from r)
    obtain ⟨its, rv, ⟨ob, h1, h2, m, h3⟩, _⟩ := I.tuple (by rw [hK]; exact h)
    obtain ⟨as, ra, na⟩ := RepL.rds I hK Y rr (by simpa [okr] using o) rv
    simp only [D.toP]
    exact ⟨as, .tuple h1 h2 h3 (by simpa using ra), na⟩
  | n + 1, _, _, _, .lst (a := a) h k rr, o, r => by
    cases (show _ = Value.ref _ from r)
    obtain ⟨its, rv, ⟨ob, m, h1, h2, _, h3⟩, _⟩ := I.list (X := X) (.inl h)
    obtain ⟨as, ra, na⟩ := RepL.rds I hK Y rr (by simpa [okr] using o) rv
    simp only [D.toP]
    refine ⟨_, .list h1 h2 h3 (by simpa using ra), fun z => ?_⟩
    rcases List.mem_cons.mp z with z | z
    · obtain ⟨oy, y1, y2⟩ := Y
      have y3 := I.kIn _ _ (by rw [hK]; exact y1)
      rw [z, h1] at y3
      cases y3
      rw [h2] at y2
      exact absurd y2 (by decide)
    · exact na z
  | n + 1, _, _, _, .lstK (a := a) h rr, o, r => by
    cases (show _ = Value.ref _ from r)
    obtain ⟨its, rv, ⟨ob, m, h1, h2, _, h3⟩, _⟩ := I.list (by rw [hK]; exact h w.H)
    obtain ⟨as, ra, na⟩ := RepL.rds I hK Y rr (by simpa [okr] using o) rv
    simp only [D.toP]
    refine ⟨_, .list h1 h2 h3 (by simpa using ra), fun z => ?_⟩
    rcases List.mem_cons.mp z with z | z
    · obtain ⟨oy, y1, y2⟩ := Y
      have y3 := I.kIn _ _ (by rw [hK]; exact y1)
      rw [z, h1] at y3
      cases y3
      rw [h2] at y2
      exact absurd y2 (by decide)
    · exact na z
  | n + 1, _, _, _, .dct (a := a) h k rr, o, r => by
    cases (show _ = Value.ref _ from r)
    obtain ⟨_, hs, vs, kv, ob, es, ep, h1, h2, h3, _, h5, _⟩ := (show ObjOk X.prog X.w w.H s.heap a (.dK _) from I.hok a _ h)
    obtain ⟨bs, rb, nb⟩ := RepK.rds I hK Y rr (by simpa [okr] using o) (pairs_vals h5 kv)
    simp only [D.toP]
    refine ⟨_, .dict h1 h2.1 h3 (by simpa using pairs_keys (h := s.heap) h5 rr kv) rb, fun z => ?_⟩
    rw [List.cons_append] at z
    rcases List.mem_cons.mp z with z | z
    · rw [← z] at hs
      exact absurd hs (by decide)
    · exact nb (by simpa using z)
  | _, _, _, _, .ins _ _ _, o, _ => by simp [okr] at o
  | _, _, _, _, .obj _, o, _ => by simp [okr] at o
  | _, _, _, _, .ext _, o, _ => by simp [okr] at o
  | _, _, _, _, .exn _ _, o, _ => by simp [okr] at o
theorem RepL.rds (I : Inv X pins σ w.H s) (hK : X.K = g.K) (Y : Sy g.K) : ∀ {n : Nat} {v : List V} {d : List D} {u : List Value}, RepL g w v d → okrL n d = true → Vals v u → ∃ as, ReadsAll s.heap u (toPL d) as ∧ sysModules ∉ as
  | _, _, _, _, .nil, _, .nil => by simp only [toPL]; exact ⟨[], .nil, by simp⟩
  | n, _, _, _, .cons r t, o, .cons a b => by
    simp only [okrL, Bool.and_eq_true] at o
    obtain ⟨as, h1, h2⟩ := Rep.rds I hK Y r o.1 a
    obtain ⟨bs, h3, h4⟩ := RepL.rds I hK Y t o.2 b
    simp only [toPL]
    exact ⟨as ++ bs, .cons h1 h3, fun z => (List.mem_append.mp z).elim h2 h4⟩
theorem RepK.rds (I : Inv X pins σ w.H s) (hK : X.K = g.K) (Y : Sy g.K) : ∀ {n : Nat} {kvs : List (Key × V)} {d : List (Key × D)} {u : List Value}, RepK g w kvs d → okrK n d = true → Vals (kvs.map (·.2)) u → ∃ as, ReadsAll s.heap u ((toPK d).map (·.2)) as ∧ sysModules ∉ as
  | _, _, _, _, .nil, _, .nil => by simp only [toPK, List.map_nil]; exact ⟨[], .nil, by simp⟩
  | n, _, _, _, .cons r t, o, .cons a b => by
    simp only [okrK, Bool.and_eq_true] at o
    obtain ⟨as, k1, k2⟩ := Rep.rds I hK Y r o.1 a
    obtain ⟨bs, k3, k4⟩ := RepK.rds I hK Y t o.2 b
    simp only [toPK, List.map_cons]
    exact ⟨as ++ bs, .cons k1 k3, fun z => (List.mem_append.mp z).elim k2 k4⟩
end
mutual
theorem okr_depth : ∀ (n : Nat) (d : D), okr n d = true → d.toP.depth ≤ n
  | _, .non, _ => by simp [D.toP, PyData.depth]
  | _, .bl _, _ => by simp [D.toP, PyData.depth]
  | _, .int _, _ => by simp [D.toP, PyData.depth]
  | _, .str _, _ => by simp [D.toP, PyData.depth]
  | 0, .tup _, h => by simp [okr] at h
  | 0, .lst _, h => by simp [okr] at h
  | 0, .dct _, h => by simp [okr] at h
  | n + 1, .tup xs, h => by
    have := okrL_depth n xs (by simpa [okr] using h)
    simp only [D.toP, PyData.depth]; omega
  | n + 1, .lst xs, h => by
    have := okrL_depth n xs (by simpa [okr] using h)
    simp only [D.toP, PyData.depth]; omega
  | n + 1, .dct xs, h => by
    have := okrK_depth n xs (by simpa [okr] using h)
    simp only [D.toP, PyData.depth]; omega
  | _, .ins _ _, h => by simp [okr] at h
  | _, .obj _, h => by simp [okr] at h
  | _, .ext _, h => by simp [okr] at h
  | _, .exn _ _ _ _, h => by simp [okr] at h
theorem okrL_depth : ∀ (n : Nat) (d : List D), okrL n d = true → PyData.depthAll (toPL d) ≤ n
  | _, [], _ => by simp [toPL, PyData.depthAll]
  | n, x :: xs, h => by
    simp only [okrL, Bool.and_eq_true] at h
    have a := okr_depth n x h.1
    have b := okrL_depth n xs h.2
    simp only [toPL, PyData.depthAll]; omega
theorem okrK_depth : ∀ (n : Nat) (d : List (Key × D)), okrK n d = true → PyData.depthKv (toPK d) ≤ n
  | _, [], _ => by simp [toPK, PyData.depthKv]
  | n, (k, x) :: xs, h => by
    simp only [okrK, Bool.and_eq_true] at h
    have a := okr_depth n x h.1
    have b := okrK_depth n xs h.2
    have c : (keyP k).depth = 0 := by cases k <;> simp [keyP, PyData.depth]
    simp only [toPK, PyData.depthKv]; omega
end
/-- repr, dicts too -/
def repOkD (d : D) : Bool := okr 60 d && d.toP.showable && decide (d.toP.shown.length ≤ sizeLine)
def reprSD : List D → Option D
  | [d] => if repOkD d then some (.str d.toP.shown) else none
  | _ => none
theorem RepV.rds {v : V} {d : D} {u : Value} {n : Nat} (I : Inv X pins σ w.H s) (hK : X.K = g.K) (Y : Sy g.K) (r : RepV g w v d) (o : okr n d = true) (rv : RelV v u) : ∃ as, Reads s.heap u d.toP as ∧ sysModules ∉ as := by
  rcases r with r | ⟨a, vs, ds, rfl, rfl, h1, h3⟩ | ⟨a, vs, ds, rfl, rfl, h1, h3⟩
  · exact r.rds I hK Y o rv
  · cases n with
    | zero => simp [okr] at o
    | succ n =>
      cases (show u = Value.ref a from rv)
      obtain ⟨its, rv, ⟨ob, m, e1, e2, _, e3⟩, _⟩ := I.list (X := X) (.inl (.inl h1))
      obtain ⟨as, ra, na⟩ := RepL.rds I hK Y h3 (by simpa [okr] using o) rv
      simp only [D.toP]
      refine ⟨_, .list e1 e2 e3 (by simpa using ra), fun z => ?_⟩
      rcases List.mem_cons.mp z with z | z
      · obtain ⟨oy, y1, y2⟩ := Y
        have y3 := I.kIn _ _ (by rw [hK]; exact y1)
        rw [z, e1] at y3
        cases y3
        rw [e2] at y2
        exact absurd y2 (by decide)
      · exact na z
  · cases n with
    | zero => simp [okr] at o
    | succ n =>
      cases (show u = Value.ref a from rv)
      obtain ⟨_, hs, vs', kv, ob, es, ep, e1, e2, e3, _, e5, _⟩ := (show ObjOk X.prog X.w w.H s.heap a (.dK _) from I.hok a _ h1)
      obtain ⟨bs, rb, nb⟩ := RepK.rds I hK Y h3 (by simpa [okr] using o) (pairs_vals e5 kv)
      simp only [D.toP]
      refine ⟨_, .dict e1 e2.1 e3 (by simpa using pairs_keys (h := s.heap) e5 h3 kv) rb, fun z => ?_⟩
      rw [List.cons_append] at z
      rcases List.mem_cons.mp z with z | z
      · rw [← z] at hs
        exact absurd hs (by decide)
      · exact nb (by simpa using z)
theorem cs_reprD (hK : X.K = g.K) (Y : Sy g.K) (hg : X.A.guards = some []) (hu : X.A.units + 64 < cLine) : CallS g X (.builtin "repr") reprSD := by
  refine ⟨fun vs H Q => ∃ w v d, w.H = H ∧ vs = [v] ∧ repOkD d = true ∧ RepV g w v d ∧ Q (.str d.toP.shown) H, ?_, fun w S vs ds d Q e sr ra q => ?_⟩
  · intro pins s σ H vs us Q I r h
    obtain ⟨w, v, d, rfl, rfl, ho, hd, q⟩ := h
    obtain ⟨u, rfl, ru⟩ := vals1 r
    unfold repOkD at ho
    simp only [Bool.and_eq_true, decide_eq_true_eq] at ho
    obtain ⟨⟨o1, o2⟩, o3⟩ := ho
    have dep := okr_depth 60 d o1
    obtain ⟨as, rd, ns⟩ := hd.rds I hK Y o1 ru
    generalize d.toP = dp at rd q o2 o3 dep
    cases rd with
    | none => exact PySem.P.repr_of_none ⟨.str _, _, I.tok _, ⟨_, rfl⟩, by simpa [PyData.shown] using q⟩
    | bool b => exact PySem.P.repr_of_bool ⟨.str _, _, I.tok _, ⟨_, rfl⟩, by cases b <;> simpa [PyData.shown] using q⟩
    | int i t => exact PySem.P.repr_of_int (by simpa [PyData.showable] using o2) ⟨.str _, _, I.tok _, ⟨_, rfl⟩, by simpa [PyData.shown] using q⟩
    | str x t => exact PySem.P.repr_of_str ⟨.str _, _, I.tok _, ⟨_, rfl⟩, by simpa [PyData.shown] using q⟩ (by simpa [PyData.shown] using o3)
    | list h1 h2 h3 h4 => exact repr_of_reads' (.list h1 h2 h3 h4) o2 (fun _ => ns) hg (by omega) (fun _ _ e => e) (fun h' u tk hk => ⟨.str _, _, I.kept hk, ⟨_, rfl⟩, q⟩) o3
    | tuple h1 h2 h3 h4 => exact repr_of_reads' (.tuple h1 h2 h3 h4) o2 (fun _ => ns) hg (by omega) (fun _ _ e => e) (fun h' u tk hk => ⟨.str _, _, I.kept hk, ⟨_, rfl⟩, q⟩) o3
    | dict h1 h2 h3 h4 h5 => exact repr_of_reads' (.dict h1 h2 h3 h4 h5) o2 (fun _ => ns) hg (by omega) (fun _ _ e => e) (fun h' u tk hk => ⟨.str _, _, I.kept hk, ⟨_, rfl⟩, q⟩) o3
  · unfold reprSD at e
    split at e
    · split at e
      · rename_i d h
        cases e
        obtain ⟨v, rfl, r⟩ := ra.one
        exact ⟨w, v, d, rfl, rfl, h, r, q w _ (Keep.refl w) sr (.str _)⟩
      · cases e
    · cases e
end
theorem Cn.s_reprD {g : Gc} {G : Ge} {k : Nat} {N : List Str} {sc : Scope} {X : Cx} (c : Cn g G k N sc X) (hr : G.gr = true) (Y : Sy g.K) : CallS g X (.builtin "repr") reprSD := cs_reprD c.ok.K Y (c.ok.gd hr) c.u64
end Pc

set_option Elab.async false
set_option linter.all false
set_option autoImplicit false
set_option maxRecDepth 100000
set_option maxHeartbeats 4000000
/-! Pc, part Za: sorted(set(t)) of ints. -/
namespace Pc
open PySem PySem.Spec PyProof.Rows L2
/-- x put into a strictly ascending list -/
def insI (x : Int) : List Int → List Int
  | [] => [x]
  | y :: ys => if x < y then x :: y :: ys else if x = y then y :: ys else y :: insI x ys
def sortSet (ns : List Int) : List Int := ns.foldr insI []
theorem insI_mem {x z : Int} : ∀ {l : List Int}, z ∈ insI x l ↔ z = x ∨ z ∈ l
  | [] => by simp [insI]
  | y :: ys => by
    unfold insI
    split
    · simp
    · split
      · rename_i h; subst h; simp
      · simp only [List.mem_cons, insI_mem (l := ys)]
        constructor
        · rintro (h | h | h)
          · exact .inr (.inl h)
          · exact .inl h
          · exact .inr (.inr h)
        · rintro (h | h | h)
          · exact .inr (.inl h)
          · exact .inl h
          · exact .inr (.inr h)
theorem insI_sorted {x : Int} : ∀ {l : List Int}, l.Pairwise (· < ·) → (insI x l).Pairwise (· < ·)
  | [], _ => by simp [insI]
  | y :: ys, h => by
    obtain ⟨h1, h2⟩ := List.pairwise_cons.mp h
    unfold insI
    split
    · rename_i hx
      refine List.pairwise_cons.mpr ⟨fun z hz => ?_, h⟩
      rcases List.mem_cons.mp hz with rfl | hz
      · exact hx
      · exact Int.lt_trans hx (h1 z hz)
    · split
      · exact h
      · rename_i n1 n2
        refine List.pairwise_cons.mpr ⟨fun z hz => ?_, insI_sorted h2⟩
        rcases insI_mem.mp hz with rfl | hz
        · omega
        · exact h1 z hz
theorem sortSet_mem {z : Int} : ∀ {ns : List Int}, z ∈ sortSet ns ↔ z ∈ ns
  | [] => by simp [sortSet]
  | x :: xs => by
    show z ∈ insI x (sortSet xs) ↔ _
    rw [insI_mem, sortSet_mem (ns := xs), List.mem_cons]
theorem sortSet_sorted : ∀ (ns : List Int), (sortSet ns).Pairwise (· < ·)
  | [] => .nil
  | x :: xs => insI_sorted (sortSet_sorted xs)
theorem asc_unique : ∀ {a b : List Int}, a.Pairwise (· < ·) → b.Pairwise (· < ·) → (∀ z, z ∈ a ↔ z ∈ b) → a = b
  | [], [], _, _, _ => rfl
  | [], y :: ys, _, _, h => absurd ((h y).mpr List.mem_cons_self) (by simp)
  | x :: xs, [], _, _, h => absurd ((h x).mp List.mem_cons_self) (by simp)
  | x :: xs, y :: ys, ha, hb, h => by
    obtain ⟨a1, a2⟩ := List.pairwise_cons.mp ha
    obtain ⟨b1, b2⟩ := List.pairwise_cons.mp hb
    have exy : x = y := by
      rcases List.mem_cons.mp ((h x).mp List.mem_cons_self) with e | e
      · exact e
      · rcases List.mem_cons.mp ((h y).mpr List.mem_cons_self) with e2 | e2
        · exact e2.symm
        · have := b1 x e
          have := a1 y e2
          omega
    subst exy
    congr 1
    refine asc_unique a2 b2 fun z => ⟨fun hz => ?_, fun hz => ?_⟩
    · rcases List.mem_cons.mp ((h z).mp (List.mem_cons_of_mem _ hz)) with e | e
      · have := a1 z hz; omega
      · exact e
    · rcases List.mem_cons.mp ((h z).mpr (List.mem_cons_of_mem _ hz)) with e | e
      · have := b1 z hz; omega
      · exact e
section
variable {g : Gc} {Wx : WX} {w0 : Wd} {X : Cx} {N0 : List Addr}
theorem cr_setTI (hc : X.calm = true) : CallR X (.type "set") (fun xs H Q => ∃ (l : Addr) (ns : List Int), xs = [V.ref l] ∧ SqT X.K H l (ns.map V.int) ∧ ns.length < 64 ∧ ∀ a c, H a = none → c ≤ ns.length → Q (.ref a) (upd H a (SetO X.w a (fun j => decide (j ∈ ns)) c))) := by
  intro pins s σ H xs us Q I r h
  obtain ⟨l, ns, rfl, hl, hn, q⟩ := h
  rw [Vals.ref1 r]
  obtain ⟨its, rv, pt, _⟩ := I.tuple hl
  have hi : IntsAre its.toArray.toList ns := ints_of_vals rv
  refine call_set_tupI ns (I.ok.hd hc) (show s.heap.IsTuple l its.toArray from pt) hi (by unfold scanBound; omega) fun h' tk c R1 hcn k => ?_
  exact ⟨.ref s.heap.objs.size, _, I.laid (t' := tk) k (Nat.le_refl _) (setO_new R1), rfl, q _ c (I.hok.fresh (Nat.le_refl _)) hcn⟩
def sosetD : D → Option (List D)
  | .tup xs => (intsOf xs).bind fun ns => if ns.length < 64 then some ((sortSet ns).map D.int) else none
  | _ => none
def sosetM (x : D) : M (List D) := fun S => ofO (sosetD (deref S x)) S
theorem dl_soset {a : Expr} {fa : Ev → M D} {p p2 pos pos2 : Pos} (hK : X.K = g.K) (hc : X.calm = true) (B1 : Blt X "sorted" (.builtin "sorted")) (B2 : Blt X "set" (.type "set")) (hs : notStar a = true) (ha : DW g N0 Wx X a fa) :
    DL g N0 Wx X (.Call (.Name "sorted" p) [.Call (.Name "set" p2) [a] [] pos2] [] pos) (fun env => do let x ← fa env; sosetM x) := by
  refine PE.imp (pe_blt (.inl ⟨_, rfl⟩) B1 (cr_sortedSet hc) rfl (pa_cons (pe_blt (.inr ⟨_, rfl⟩) B2 (cr_setTI hc) (by rw [List.all_cons, hs]; rfl) (pa_cons ha pa_nil (star_cons hs))) pa_nil rfl)) fun σ H Q ⟨w, env, S, ee, er, sr, q⟩ => ?_
  subst ee
  refine tr_intro er sr (pst_imp (pst_bind (relA := rlW g) (fun _ _ _ _ k z => z.base k) q) fun v H1 ⟨w1, d, S1, e1, k1, s1, r1, q1⟩ => ?_)
  subst e1
  unfold sosetM at q1
  cases eo : sosetD (deref S1 d) with
  | none => rw [eo] at q1; exact q1.elim
  | some ys =>
    rw [eo] at q1
    have rv := r1.view s1
    generalize deref S1 d = d' at eo rv
    unfold sosetD at eo
    split at eo
    · rename_i xs
      cases ei : intsOf xs with
      | none => rw [ei] at eo; cases eo
      | some ns =>
        rw [ei] at eo
        simp only [Option.bind_some] at eo
        split at eo
        · rename_i hz
          cases eo
          have hx := intsOf_eq ei
          subst hx
          obtain ⟨l, vs, rfl, h1, h2⟩ := rv.tup
          rw [h2.int_inv] at h1
          refine ⟨l, ns, rfl, by rw [hK]; exact h1, hz, fun a c ha hcn => ?_⟩
          refine ⟨a, _, c, rfl, upd_same, by omega, fun ns' p hs hm hl hp => ?_⟩
          have e : ns' = sortSet ns := asc_unique hs (sortSet_sorted ns) fun z => by rw [hm z, decide_eq_true_eq, sortSet_mem]
          subst e
          have s2 := s1.new (o := SetO X.w a (fun j => decide (j ∈ ns)) c) ha
          have k2 := keep_new (o := SetO X.w a (fun j => decide (j ∈ ns)) c) ha
          exact q1 ⟨upd (upd w1.H a _) p _, p :: w1.N, w1.m⟩ _ (k2.trans (keep_newN (w := ⟨upd w1.H a _, w1.N, w1.m⟩) hp)) (s2.newN hp) ((new_l s2 hp (RepL.ints _)).base k2)
        · cases eo
    · cases eo
end
namespace Cn
variable {g : Gc} {G : Ge} {k : Nat} {N : List Str} {sc : Scope} {X : Cx} {N0 : List Addr} {Wx : WX} {l : List Str} {a : Expr} {fa : Ev → M D} {p p2 pos pos2 : Pos}
theorem bb_set : bootBuiltins "set" = some (.type "set") := by kernel_rfl
theorem soset (c : Cn g G k N sc X) (B : Bts l G) (h1 : hasB l "sorted" = true) (h2 : glB sc "sorted" = true) (h3 : hasB l "set" = true) (h4 : glB sc "set" = true) (hs : notStar a = true) (ha : DW g N0 Wx X a fa) : DL g N0 Wx X (.Call (.Name "sorted" p) [.Call (.Name "set" p2) [a] [] pos2] [] pos) (fun env => do let x ← fa env; sosetM x) :=
  dl_soset c.ok.K c.ok.calm (c.blt (B _ h1) h2 bb_sorted (by decide)) (c.blt (B _ h3) h4 bb_set (by decide)) hs ha
end Cn
end Pc

set_option Elab.async false
set_option linter.all false
set_option autoImplicit false
set_option maxRecDepth 100000
set_option maxHeartbeats 4000000
/-! Pc, part Zb: how long a repr may be. -/
namespace Pc
open PySem PySem.Spec PyProof.Rows L2
def wtKey : Key → Nat
  | .inl _ => 1921
  | .inr x => 10 * x.length + 2
def shwKey : Key → Bool
  | .inl i => decide (i.natAbs.log2 < 1920)
  | .inr x => okS x
mutual
def wt : D → Nat
  | .non => 4
  | .bl _ => 5
  | .int _ => 1921
  | .str x => 10 * x.length + 2
  | .tup xs => wtL xs + 3
  | .lst xs => wtL xs + 2
  | .dct xs => wtK xs + 2
  | _ => 0
def wtL : List D → Nat
  | [] => 0
  | x :: xs => wt x + 2 + wtL xs
def wtK : List (Key × D) → Nat
  | [] => 0
  | (k, x) :: xs => wtKey k + wt x + 4 + wtK xs
end
mutual
def shw : Nat → D → Bool
  | _, .non => true
  | _, .bl _ => true
  | _, .int i => decide (i.natAbs.log2 < 1920)
  | _, .str x => okS x
  | n + 1, .tup xs => shwL n xs
  | n + 1, .lst xs => shwL n xs
  | n + 1, .dct xs => shwK n xs
  | _, _ => false
def shwL : Nat → List D → Bool
  | _, [] => true
  | n, x :: xs => shw n x && shwL n xs
def shwK : Nat → List (Key × D) → Bool
  | _, [] => true
  | n, (k, x) :: xs => shwKey k && shw n x && shwK n xs
end
theorem rt_len {x : Str} (h : okS x = true) : (reprText x).length ≤ 10 * x.length + 2 := by
  refine PySem.StrLaws.reprText_len x fun c hc => ?_
  unfold okS PyData.strOk at h
  rw [Array.all_eq_true_iff_forall_mem] at h
  have := of_decide_eq_true (h c (Array.mem_toList_iff.mp hc))
  exact Nat.lt_of_lt_of_le this (by decide)
theorem lt_len (ts : List Str) : (listText ts).length ≤ piled ts + 2 := by
  unfold listText
  rw [strLen_append]
  have e1 : (((("]" : String) : Str))).length = 1 := rfl
  have e0 : (((("[" : String) : Str))).length = 1 := rfl
  rw [e1]
  cases ts with
  | nil => show (textFrom 0 "[" []).length + 1 ≤ _; show ((("[" : String) : Str)).length + 1 ≤ _; rw [e0]; simp [piled]
  | cons t r =>
    show (textFrom 1 ((("[" : String) : Str) ++ ((if 0 > 0 then ", " else "" : String) : Str) ++ t) r).length + 1 ≤ _
    rw [textFrom_length_pos _ _ _ (by decide), strLen_append, strLen_append, e0, piled_cons]
    have e2 : (((if 0 > 0 then ", " else "" : String) : Str)).length = 0 := rfl
    omega
theorem jn_len (ts : List Str) : (Str.join ", " ts).length ≤ piled ts := by
  cases ts with
  | nil => exact Nat.zero_le _
  | cons t r => have := join_length_add (t :: r) (by simp); omega
theorem tt_len (ts : List Str) : (tupleText ts).length ≤ piled ts + 3 := by
  unfold tupleText
  rw [strLen_append, strLen_append]
  have e1 : ((("(" : String) : Str)).length = 1 := rfl
  have e3 : (((if ts.length == 1 then ",)" else ")" : String) : Str)).length ≤ 2 := by split <;> decide
  have := jn_len ts
  omega
theorem dt_len (ts : List Str) : (dictText ts).length ≤ piled ts + 2 := by
  unfold dictText
  rw [strLen_append, strLen_append]
  have e1 : ((("{" : String) : Str)).length = 1 := rfl
  have e3 : ((("}" : String) : Str)).length = 1 := rfl
  have := jn_len ts
  omega
theorem shwKey_ok {k : Key} (h : shwKey k = true) : (keyP k).showable = true ∧ (keyP k).shown.length ≤ wtKey k := by
  cases k with
  | inl i =>
    have := of_decide_eq_true (show decide (i.natAbs.log2 < 1920) = true from h)
    refine ⟨by simp [keyP, PyData.showable, this], ?_⟩
    show ((PyData.int i).shown).length ≤ 1921
    simp only [PyData.shown]
    exact PyProof.Rows.int_text_len_1921 this
  | inr x =>
    refine ⟨by simp [keyP, PyData.showable], ?_⟩
    show ((PyData.str x).shown).length ≤ _
    simp only [PyData.shown]
    exact rt_len h
mutual
theorem shw_ok : ∀ (n : Nat) (d : D), shw n d = true → okr n d = true ∧ d.toP.showable = true ∧ d.toP.shown.length ≤ wt d
  | _, .non, _ => ⟨by simp [okr], by simp [D.toP, PyData.showable], by simp only [D.toP, PyData.shown, wt]; decide⟩
  | _, .bl b, _ => ⟨by simp [okr], by simp [D.toP, PyData.showable], by cases b <;> (simp only [D.toP, PyData.shown, wt]; decide)⟩
  | _, .int i, h => by
    have := of_decide_eq_true (show decide (i.natAbs.log2 < 1920) = true by simpa only [shw] using h)
    refine ⟨by simp [okr], by simp [D.toP, PyData.showable, this], ?_⟩
    simp only [D.toP, PyData.shown, wt]
    exact PyProof.Rows.int_text_len_1921 this
  | _, .str x, h => ⟨by simp [okr], by simp [D.toP, PyData.showable], by
    simp only [D.toP, PyData.shown, wt]
    exact rt_len (by simpa only [shw] using h)⟩
  | n + 1, .tup xs, h => by
    obtain ⟨a, b, c⟩ := shwL_ok n xs (by simpa only [shw] using h)
    refine ⟨by simpa only [okr] using a, by simpa only [D.toP, PyData.showable] using b, ?_⟩
    simp only [D.toP, PyData.shown, wt]
    have := tt_len (PyData.shownAll (toPL xs))
    omega
  | n + 1, .lst xs, h => by
    obtain ⟨a, b, c⟩ := shwL_ok n xs (by simpa only [shw] using h)
    refine ⟨by simpa only [okr] using a, by simpa only [D.toP, PyData.showable] using b, ?_⟩
    simp only [D.toP, PyData.shown, wt]
    have := lt_len (PyData.shownAll (toPL xs))
    omega
  | n + 1, .dct xs, h => by
    obtain ⟨a, b, c⟩ := shwK_ok n xs (by simpa only [shw] using h)
    refine ⟨by simpa only [okr] using a, by simpa only [D.toP, PyData.showable] using b, ?_⟩
    simp only [D.toP, PyData.shown, wt]
    have := dt_len (PyData.shownKv (toPK xs))
    omega
  | 0, .tup _, h => by simp [shw] at h
  | 0, .lst _, h => by simp [shw] at h
  | 0, .dct _, h => by simp [shw] at h
  | 0, .ins _ _, h => by simp [shw] at h
  | 0, .obj _, h => by simp [shw] at h
  | 0, .ext _, h => by simp [shw] at h
  | 0, .exn _ _ _ _, h => by simp [shw] at h
  | _ + 1, .ins _ _, h => by simp [shw] at h
  | _ + 1, .obj _, h => by simp [shw] at h
  | _ + 1, .ext _, h => by simp [shw] at h
  | _ + 1, .exn _ _ _ _, h => by simp [shw] at h
theorem shwL_ok : ∀ (n : Nat) (d : List D), shwL n d = true → okrL n d = true ∧ PyData.showableAll (toPL d) = true ∧ piled (PyData.shownAll (toPL d)) ≤ wtL d
  | _, [], _ => ⟨by simp [okrL], by simp [toPL, PyData.showableAll], by simp [toPL, PyData.shownAll, piled, wtL]⟩
  | n, x :: xs, h => by
    simp only [shwL, Bool.and_eq_true] at h
    obtain ⟨a, b, c⟩ := shw_ok n x h.1
    obtain ⟨a', b', c'⟩ := shwL_ok n xs h.2
    refine ⟨by simp [okrL, a, a'], by simp [toPL, PyData.showableAll, b, b'], ?_⟩
    simp only [toPL, PyData.shownAll, wtL, piled_cons]
    omega
theorem shwK_ok : ∀ (n : Nat) (d : List (Key × D)), shwK n d = true → okrK n d = true ∧ PyData.showableKv (toPK d) = true ∧ piled (PyData.shownKv (toPK d)) ≤ wtK d
  | _, [], _ => ⟨by simp [okrK], by simp [toPK, PyData.showableKv], by simp [toPK, PyData.shownKv, piled, wtK]⟩
  | n, (k, x) :: xs, h => by
    simp only [shwK, Bool.and_eq_true] at h
    obtain ⟨a0, b0⟩ := shwKey_ok h.1.1
    obtain ⟨a, b, c⟩ := shw_ok n x h.1.2
    obtain ⟨a', b', c'⟩ := shwK_ok n xs h.2
    refine ⟨by simp [okrK, a, a'], by simp [toPK, PyData.showableKv, a0, b, b'], ?_⟩
    simp only [toPK, PyData.shownKv, wtK, piled_cons, strLen_append]
    have e1 : (((": " : String) : Str)).length = 2 := rfl
    omega
end
/-- the text of a repr -/
def shown (d : D) : Str := d.toP.shown
theorem okr_mono2 {n m : Nat} (h : n ≤ m) : (∀ d, okr n d = true → okr m d = true) ∧ (∀ d, okrL n d = true → okrL m d = true) ∧ (∀ d, okrK n d = true → okrK m d = true) := by
  induction n generalizing m with
  | zero =>
    have a : ∀ d, okr 0 d = true → okr m d = true := fun d h => by
      cases d <;> first | (simp [okr] at h; done) | (cases m <;> simp [okr])
    refine ⟨a, fun d => ?_, fun d => ?_⟩
    · induction d with
      | nil => intro _; cases m <;> simp [okrL]
      | cons x xs ih => intro h; simp only [okrL, Bool.and_eq_true] at h ⊢; exact ⟨a _ h.1, ih h.2⟩
    · induction d with
      | nil => intro _; cases m <;> simp [okrK]
      | cons x xs ih => intro h; simp only [okrK, Bool.and_eq_true] at h ⊢; exact ⟨a _ h.1, ih h.2⟩
  | succ n ihn =>
    obtain ⟨m, rfl⟩ : ∃ k, m = k + 1 := ⟨m - 1, by omega⟩
    obtain ⟨i1, i2, i3⟩ := ihn (m := m) (by omega)
    have a : ∀ d, okr (n + 1) d = true → okr (m + 1) d = true := fun d h => by
      cases d with
      | tup xs => simp only [okr] at h ⊢; exact i2 _ h
      | lst xs => simp only [okr] at h ⊢; exact i2 _ h
      | dct xs => simp only [okr] at h ⊢; exact i3 _ h
      | non => simp [okr]
      | bl b => simp [okr]
      | int b => simp [okr]
      | str b => simp [okr]
      | ins _ _ => simp [okr] at h
      | obj _ => simp [okr] at h
      | ext _ => simp [okr] at h
      | exn _ _ _ _ => simp [okr] at h
    refine ⟨a, fun d => ?_, fun d => ?_⟩
    · induction d with
      | nil => intro _; simp [okrL]
      | cons x xs ih => intro h; simp only [okrL, Bool.and_eq_true] at h ⊢; exact ⟨a _ h.1, ih h.2⟩
    · induction d with
      | nil => intro _; simp [okrK]
      | cons x xs ih => intro h; simp only [okrK, Bool.and_eq_true] at h ⊢; exact ⟨a _ h.1, ih h.2⟩
theorem okr_mono {n m : Nat} {d : D} (h : n ≤ m) : okr n d = true → okr m d = true := (okr_mono2 h).1 d
theorem repr_ok {d : D} {n : Nat} (h : shw n d = true) (hn : n ≤ 60) (hw : wt d ≤ 16777216) : reprSD [d] = some (.str (shown d)) := by
  obtain ⟨a, b, c⟩ := shw_ok n d h
  refine if_pos ?_
  unfold repOkD
  rw [okr_mono hn a, b]
  simp only [Bool.true_and, decide_eq_true_eq]
  rw [sizeLine_eq]
  omega
/-- short: may be shown, depth n, length m -/
structure Sh (n m : Nat) (d : D) : Prop where
  ok : shw n d = true
  le : wt d ≤ m
theorem shwL_of {n : Nat} : ∀ {xs : List D}, (∀ x ∈ xs, shw n x = true) → shwL n xs = true
  | [], _ => by simp [shwL]
  | x :: xs, h => by simp only [shwL, Bool.and_eq_true]; exact ⟨h x List.mem_cons_self, shwL_of fun y hy => h y (List.mem_cons_of_mem _ hy)⟩
theorem wtL_le {m : Nat} : ∀ {xs : List D}, (∀ x ∈ xs, wt x ≤ m) → wtL xs ≤ xs.length * (m + 2)
  | [], _ => by simp [wtL]
  | x :: xs, h => by
    have a := h x List.mem_cons_self
    have b := wtL_le (xs := xs) fun y hy => h y (List.mem_cons_of_mem _ hy)
    simp only [wtL, List.length_cons, Nat.succ_mul]
    omega
theorem Sh.tup {n m k : Nat} {xs : List D} (h : ∀ x ∈ xs, Sh n m x) (hk : xs.length ≤ k) : Sh (n + 1) (k * (m + 2) + 3) (.tup xs) := by
  refine ⟨by simp only [shw]; exact shwL_of fun x hx => (h x hx).ok, ?_⟩
  have a := wtL_le fun x hx => (h x hx).le
  have b : xs.length * (m + 2) ≤ k * (m + 2) := Nat.mul_le_mul_right _ hk
  simp only [wt]
  omega
theorem Sh.lst {n m k : Nat} {xs : List D} (h : ∀ x ∈ xs, Sh n m x) (hk : xs.length ≤ k) : Sh (n + 1) (k * (m + 2) + 3) (.lst xs) := by
  refine ⟨by simp only [shw]; exact shwL_of fun x hx => (h x hx).ok, ?_⟩
  have a := wtL_le fun x hx => (h x hx).le
  have b : xs.length * (m + 2) ≤ k * (m + 2) := Nat.mul_le_mul_right _ hk
  simp only [wt]
  omega
theorem Sh.int {n m : Nat} {i : Int} (h : i.natAbs.log2 < 1920) (hm : 1921 ≤ m) : Sh n m (.int i) := ⟨by cases n <;> simp [shw, h], by simpa [wt] using hm⟩
theorem Sh.repr {n m : Nat} {d : D} (h : Sh n m d) (hn : n ≤ 60) (hm : m ≤ 16777216) : reprSD [d] = some (.str (shown d)) := repr_ok h.ok hn (Nat.le_trans h.le hm)
theorem eq_str (x y : Str) : eqD (.str x) (.str y) = some (.bl (decide (x = y))) := rfl
theorem ne_str (x y : Str) : neD (.str x) (.str y) = some (.bl (!decide (x = y))) := rfl
end Pc

set_option Elab.async false
set_option linter.all false
set_option autoImplicit false
set_option maxRecDepth 100000
set_option maxHeartbeats 4000000
/-! Pc, part Zc: instances of own classes. -/
namespace Pc
open PySem PySem.Spec PyProof.Rows L2
section
variable {g : Gc}
/-- an instance by value, or the one at a handle -/
def viewO : Option Ob → Option (Nat × List (Str × D))
  | some (.ins c fs) => some (c, fs)
  | _ => none
def viewI (S : Store) : D → Option (Nat × List (Str × D))
  | .ins c fs => some (c, fs)
  | .obj h => viewO S[h]?
  | _ => none
def RepI (g : Gc) (w : Wd) (v : V) (c : Nat) (fs : List (Str × D)) : Prop := ∃ a dx vs, v = .ref a ∧ w.H a = some (.ins (g.cl c) dx vs) ∧ RepF g w vs fs
theorem Rep.viewI {w : Wd} {S : Store} {v : V} {d : D} {c : Nat} {fs : List (Str × D)} (sr : SR g w S) (r : Rep g w v d) (e : viewI S d = some (c, fs)) : RepI g w v c fs := by
  cases d with
  | ins c' fs' =>
    cases e
    cases r with
    | ins h1 h2 h3 => exact ⟨_, _, _, rfl, h1, h3⟩
  | obj h =>
    cases r with
    | obj hm =>
      have e' : viewO S[h]? = some (c, fs) := e
      cases es : S[h]? with
      | none => rw [es] at e'; cases e'
      | some ob =>
        rw [es] at e'
        obtain ⟨q, e0, o0⟩ := sr.at_ h ob es
        rw [hm] at e0
        cases e0
        cases ob with
        | ins c' fs' => cases e'; obtain ⟨dx, vs, h1, h2⟩ := o0; exact ⟨_, dx, vs, rfl, h1, h2⟩
        | _ => cases e'
  | _ => cases e
theorem RepF.length {w : Wd} : ∀ {vs : List (Str × V)} {ds : List (Str × D)}, RepF g w vs ds → vs.length = ds.length
  | _, _, .nil => rfl
  | _, _, .cons _ t => congrArg (· + 1) (RepF.length t)
theorem RepF.lookup {w : Wd} {f : Str} : ∀ {vs : List (Str × V)} {ds : List (Str × D)} {d : D}, RepF g w vs ds → ds.lookup f = some d → ∃ v, vs.lookup f = some v ∧ Rep g w v d
  | _, _, _, .nil, h => by cases h
  | _, _, d, .cons (k := k) r t, h => by
    cases e : (f == k) with
    | true =>
      simp only [List.lookup, e] at h ⊢
      cases h
      exact ⟨_, rfl, r⟩
    | false =>
      simp only [List.lookup, e] at h ⊢
      exact RepF.lookup t h
theorem RepF.lookup_none {w : Wd} {f : Str} : ∀ {vs : List (Str × V)} {ds : List (Str × D)}, RepF g w vs ds → ds.lookup f = none → vs.lookup f = none
  | _, _, .nil, _ => rfl
  | _, _, .cons (k := k) r t, h => by
    cases e : (f == k) with
    | true => simp only [List.lookup, e] at h; cases h
    | false =>
      simp only [List.lookup, e] at h ⊢
      exact RepF.lookup_none t h
def putFD (f : Str) (d : D) : List (Str × D) → List (Str × D)
  | [] => [(f, d)]
  | (k, x) :: r => if k = f then (k, d) :: r else (k, x) :: putFD f d r
theorem RepF.put {w : Wd} {f : Str} {v : V} {d : D} (q : Rep g w v d) : ∀ {vs : List (Str × V)} {ds : List (Str × D)}, RepF g w vs ds → RepF g w (putF f v vs) (putFD f d ds)
  | _, _, .nil => .cons q .nil
  | _, _, .cons (k := k) r t => by
    by_cases e : k = f
    · simp only [putF, putFD, if_pos e]; exact .cons q t
    · simp only [putF, putFD, if_neg e]; exact .cons r (RepF.put q t)
end
/-! ### e.f -/
def fldM (c : Nat) (f : Str) (x : D) : M D := fun S => match viewI S x with
  | some (c', fs) => if c' = c then ofO (fs.lookup f) S else .bad
  | none => .bad
/-- an instance of the class, no field of that name -/
def isI (c : Nat) (m : Str) (x : D) : M Unit := fun S => match viewI S x with
  | some (c', fs) => if c' = c ∧ fs.lookup m = none then .ok () S else .bad
  | none => .bad
theorem isI_ok {c : Nat} {m : Str} {x : D} {S S' : Store} {u : Unit} (h : isI c m x S = .ok u S') : S' = S ∧ ∃ fs, viewI S x = some (c, fs) ∧ fs.lookup m = none := by
  unfold isI at h
  cases e : viewI S x with
  | none => rw [e] at h; cases h
  | some p =>
    obtain ⟨c', fs⟩ := p
    rw [e] at h
    dsimp only at h
    by_cases q : c' = c ∧ fs.lookup m = none
    · rw [if_pos q] at h
      cases h
      obtain ⟨rfl, q2⟩ := q
      exact ⟨rfl, fs, rfl, q2⟩
    · rw [if_neg q] at h; cases h
theorem isI_cases (c : Nat) (m : Str) (x : D) (S : Store) : isI c m x S = .bad ∨ isI c m x S = .ok () S := by
  unfold isI
  cases viewI S x with
  | none => exact .inl rfl
  | some p =>
    dsimp only
    split
    · exact .inr rfl
    · exact .inl rfl
section
variable {g : Gc} {N0 : List Addr} {Wx : WX} {X : Cx} {w0 : Wd}
theorem de_fld {e : Expr} {fe : Ev → M D} {f : Str} {c : Nat} {pos : Pos} (hK : X.K = g.K) (C : Cls g.K (g.cl c)) (n : NoAttr g.K (g.cl c) f) (hb : baseOk e = true) (h : DE g N0 Wx X e fe) :
    DE g N0 Wx X (.Attribute e f pos) (fun env => do let x ← fe env; fldM c f x) := by
  refine PE.imp (pe_fld h (base_ok hb)) fun σ H Q ⟨w, env, S, ee, er, sr, q⟩ => ?_
  subst ee
  refine tr_intro er sr (pst_imp (pst_bind (relA := rl g) (fun _ _ _ _ _ z => z) q) fun x H1 ⟨w1, d, S1, e1, k1, s1, r1, q1⟩ => ?_)
  subst e1
  unfold fldM at q1
  cases ev : viewI S1 d with
  | none => rw [ev] at q1; exact q1.elim
  | some p =>
    obtain ⟨c', fs⟩ := p
    rw [ev] at q1
    dsimp only at q1
    by_cases hc : c' = c
    · rw [if_pos hc] at q1
      subst hc
      cases el : fs.lookup f with
      | none => rw [el] at q1; exact q1.elim
      | some y =>
        rw [el] at q1
        obtain ⟨a, dx, vs, rfl, h1, h2⟩ := r1.viewI s1 ev
        obtain ⟨v, l1, l2⟩ := h2.lookup el
        exact ⟨a, _, dx, vs, v, rfl, h1, by rw [hK]; exact C, by rw [hK]; exact n, l1, q1 w1 v (Keep.refl _) s1 l2⟩
    · rw [if_neg hc] at q1; exact q1.elim
/-! ### calls of methods, properties -/
theorem FnG.okF {P : Program} {w : World} {mg : Str → Option Value} {base : Heap} {k : Nat} {f : Addr} {fd : FuncData} {ps : List Str} {sem : List D → M D} (F : FnG g P w mg base false k f fd ps sem) : FnOk P w g.K mg base (L2.CX P w) k f fd ps (spOf g ps.length sem) :=
  ⟨fun vs H Q E ⟨w, ds, S, _, hl, r, _⟩ => by rw [r.length]; exact hl, fun A outer s H args us vs Q E hr e0 hb r h => F.run A outer s H args us vs Q E hr (fun z => by cases z) e0 hb r h⟩
theorem FnG.up {P : Program} {w : World} {mg : Str → Option Value} {base : Heap} {k : Nat} {f : Addr} {fd : FuncData} {ps : List Str} {sem : List D → M D} {b : Bool} (F : FnG g P w mg base false k f fd ps sem) : FnG g P w mg base b k f fd ps sem :=
  ⟨fun A outer s H args us vs Q E hr _ e0 hb r h => F.run A outer s H args us vs Q E hr (fun z => by cases z) e0 hb r h⟩
theorem Ok.low {b : Bool} {k : Nat} (o : Ok g b X k) : Ok g false X k := ⟨o.K, o.calm, o.nd, o.room, fun z => by cases z⟩
/-- a def without repr, wherever -/
def Ge.lo (G : Ge) : Ge := ⟨G.P, G.w, G.mg, G.base, false⟩
theorem Dfn.up {G : Ge} {k n : Nat} {x : Str} {sem : List D → M D} (F : Dfn g G.lo k x n sem) : Dfn g G k x n sem := by
  obtain ⟨f, fd, ps, h1, h2, h3⟩ := F.ex
  exact ⟨⟨f, fd, ps, h1, h2.up, h3⟩⟩
/-- a method -/
structure Mtd (g : Gc) (G : Ge) (k : Nat) (c : Nat) (m : Str) (n : Nat) (sem : List D → M D) : Prop where
  ex : ∃ (f : Addr) (fd : FuncData) (ps : List Str), ps.length = n ∧ FnG g G.P G.w G.mg G.base false k f fd ps sem ∧ Meth g.K (g.cl c) m f ∧ Binds g.K fd ps []
  cls : Cls g.K (g.cl c)
theorem Mtd.mono {G : Ge} {j k c n : Nat} {m : Str} {sem : List D → M D} (F : Mtd g G j c m n sem) (h : j ≤ k) : Mtd g G k c m n sem := by
  obtain ⟨f, fd, ps, h1, h2, h3⟩ := F.ex
  exact ⟨⟨f, fd, ps, h1, h2.mono h, h3⟩, F.cls⟩
/-- a property -/
structure Prp (g : Gc) (G : Ge) (k : Nat) (c : Nat) (m : Str) (sem : List D → M D) : Prop where
  ex : ∃ (p f : Addr) (fd : FuncData) (ps : List Str) (j : Nat), j + 1 ≤ k ∧ ps.length = 1 ∧ FnG g G.P G.w G.mg G.base false j f fd ps sem ∧ PropOf g.K (g.cl c) m p f ∧ Binds g.K fd ps []
  cls : Cls g.K (g.cl c)
theorem Prp.mono {G : Ge} {j k c : Nat} {m : Str} {sem : List D → M D} (F : Prp g G j c m sem) (h : j ≤ k) : Prp g G k c m sem := by
  obtain ⟨p, f, fd, ps, i, h1, h2⟩ := F.ex
  exact ⟨⟨p, f, fd, ps, i, Nat.le_trans h1 h, h2⟩, F.cls⟩
def methM (c : Nat) (m : Str) (n : Nat) (sem : List D → M D) (fo : Ev → M D) (fa : Ev → M (List D)) : Ev → M D := fun env => do
  let x ← fo env
  isI c m x
  let ds ← fa env
  callN n sem (x :: ds)
theorem ok_cn {G : Ge} {k : Nat} {N : List Str} {sc : Scope} (c : Cn g G k N sc X) : Ok g false X k := c.ok.low
theorem Meth.atX (hK : X.K = g.K) {C f : Addr} {m : Str} (h : Meth g.K C m f) : Meth X.K C m f := by rw [hK]; exact h
/-- behind an isI -/
theorem pst_isI {σ : L2.St} {w : Wd} {S : Store} {c : Nat} {m : Str} {v : V} {x : D} {k : M D} {Q : VK} (sr : SR g w S) (r : Rep g w v x) (q : Pst g Wx σ (rl g) w ((isI c m x >>= fun _ => k) S) Q) :
    ∃ a dx fs, v = .ref a ∧ w.H a = some (.ins (g.cl c) dx fs) ∧ fs.lookup m = none ∧ Pst g Wx σ (rl g) w (k S) Q := by
  rcases isI_cases c m x S with h | h
  · rw [bind_bad h] at q; exact q.elim
  · rw [bind_ok h] at q
    obtain ⟨_, fs, e1, e2⟩ := isI_ok h
    obtain ⟨a, dx, vs, rfl, h1, h2⟩ := r.viewI sr e1
    exact ⟨a, dx, vs, rfl, h1, h2.lookup_none e2, q⟩
def methOk : Expr → Bool
  | .Name _ _ => true
  | .Attribute _ _ _ => true
  | .Subscript _ _ _ => true
  | _ => false
theorem Cn.meth {G : Ge} {k n c : Nat} {N : List Str} {sc : Scope} {o e : Expr} {es : List Expr} {m : Str} {sem : List D → M D} {fo : Ev → M D} {fa : Ev → M (List D)} {apos pos : Pos} {pl : Env → Sem Bool} (cn : Cn g G k N sc X) (F : Mtd g G k c m n sem) (tk : Takes X Wx) (hs : (e :: es).all notStar = true)
    (ho : DE g N0 Wx X o fo) (ha : DA g N0 Wx X (e :: es) fa)
    (ht : ∀ E : Env, eval (.Call (.Attribute o m apos) (e :: es) [] pos) E = (do
      let ov ← eval o E
      standAt apos.atName
      let (f, first) ← holding [ov] (getMethod ov m (pl E))
      callWith pos f first (backTo pos (starEach (e :: es) E)) (backToKw pos (keywordEach [] E)))) :
    DE g N0 Wx X (.Call (.Attribute o m apos) (e :: es) [] pos) (methM c m n sem fo fa) := by
  obtain ⟨f, fd, ps, hn, G', hm, hbd⟩ := F.ex
  have hK := cn.ok.K
  have hmX : Meth X.K (g.cl c) m f := by rw [hK]; exact hm
  simp only [List.all_cons, Bool.and_eq_true] at hs
  rw [← cn.hP, ← cn.hw, ← cn.hm, ← cn.hb] at G'
  refine ⟨fun pins s σ H Q I ⟨w, env, S, ee, er, sr, q⟩ => ?_⟩
  subst ee
  refine PySem.W.methodCall_KW (pl := pl X.env) (thn (ho.run pins s σ w.H _ I (tr_intro er sr (pst_bind (relA := rl g) (fun _ _ _ _ _ z => z) q))) fun u s1 ⟨x, H1, I1, rx, w1, d, S1, e1, k1, s1', r1, q1⟩ => ?_) (ht X.env)
  subst e1
  obtain ⟨a, dx, fs, rfl, ea, l, q2⟩ := pst_isI s1' r1 q1
  obtain rfl : u = Value.ref a := rx
  refine getmeth_ok I1 ea (by rw [hK]; exact F.cls) hmX l ?_
  refine PySem.W.callWith_K (first := [.ref a]) (h₀ := X.base) I.ok.mod.kin hmX.kp (thn (ha.run pos pins s1 σ w1.H _ I1 (tr_intro (er.keep k1) s1' (pst_bind (relA := rlL g) (fun _ _ _ _ _ z => z) q2))) fun us s2 ⟨vs, H2, I2, r, w2, ds, S2, e2, k2, s2', r2, q3⟩ => ⟨I2.kIn, ?_⟩) (star_cons hs.1) (star_any hs.2)
  subst e2
  unfold callN at q3
  by_cases hl : (d :: ds).length = n
  · rw [if_pos hl] at q3
    exact runG (us := .ref a :: us) (vs := .ref a :: vs) G' (ok_cn cn) (by rw [hK]; exact hbd) tk I2 (.cons rfl r) (sp_of_pst (hl.trans hn.symm) (.cons (r1.mono k2.toMono) r2) s2' q3)
  · rw [if_neg hl] at q3; exact q3.elim
theorem Cn.meth0 {G : Ge} {k n c : Nat} {N : List Str} {sc : Scope} {o : Expr} {m : Str} {sem : List D → M D} {fo : Ev → M D} {apos pos : Pos} {pl : Env → Sem Bool} (cn : Cn g G k N sc X) (F : Mtd g G k c m n sem) (tk : Takes X Wx) (ho : DE g N0 Wx X o fo)
    (ht : ∀ E : Env, eval (.Call (.Attribute o m apos) [] [] pos) E = (do
      let ov ← eval o E
      standAt apos.atName
      let (f, first) ← holding [ov] (getMethod ov m (pl E))
      callWith pos f first (backTo pos (starEach [] E)) (backToKw pos (keywordEach [] E)))) :
    DE g N0 Wx X (.Call (.Attribute o m apos) [] [] pos) (methM c m n sem fo (fun _ => pure [])) := by
  obtain ⟨f, fd, ps, hn, G', hm, hbd⟩ := F.ex
  have hK := cn.ok.K
  have hmX : Meth X.K (g.cl c) m f := by rw [hK]; exact hm
  rw [← cn.hP, ← cn.hw, ← cn.hm, ← cn.hb] at G'
  refine ⟨fun pins s σ H Q I ⟨w, env, S, ee, er, sr, q⟩ => ?_⟩
  subst ee
  refine PySem.W.methodCall_KW (pl := pl X.env) (thn (ho.run pins s σ w.H _ I (tr_intro er sr (pst_bind (relA := rl g) (fun _ _ _ _ _ z => z) q))) fun u s1 ⟨x, H1, I1, rx, w1, d, S1, e1, k1, s1', r1, q1⟩ => ?_) (ht X.env)
  subst e1
  obtain ⟨a, dx, fs, rfl, ea, l, q2⟩ := pst_isI s1' r1 q1
  obtain rfl : u = Value.ref a := rx
  refine getmeth_ok I1 ea (by rw [hK]; exact F.cls) hmX l ?_
  have q3 : Pst g Wx σ (rl g) w1 (callN n sem [d] S1) Q := q2
  unfold callN at q3
  by_cases hl : [d].length = n
  · rw [if_pos hl] at q3
    exact PySem.W.callWith_K0 (first := [.ref a]) I1.kIn hmX.kp (runG (us := [.ref a]) (vs := [.ref a]) G' (ok_cn cn) (by rw [hK]; exact hbd) tk I1 (.cons rfl .nil) (sp_of_pst (hl.trans hn.symm) (.cons r1 .nil) s1' q3))
  · rw [if_neg hl] at q3; exact q3.elim
/-- the class is known -/
def isC (c : Nat) (x : D) : M Unit := fun S => match viewI S x with
  | some (c', fs) => if c' = c then .ok () S else .bad
  | none => .bad
theorem isC_cases (c : Nat) (x : D) (S : Store) : isC c x S = .bad ∨ (isC c x S = .ok () S ∧ ∃ fs, viewI S x = some (c, fs)) := by
  unfold isC
  cases e : viewI S x with
  | none => exact .inl rfl
  | some p =>
    obtain ⟨c', fs⟩ := p
    dsimp only
    by_cases h : c' = c
    · subst h; rw [if_pos rfl]; exact .inr ⟨rfl, fs, rfl⟩
    · rw [if_neg h]; exact .inl rfl
def propM (c : Nat) (sem : List D → M D) (x : D) : M D := do
  isC c x
  noEx (sem [x])
theorem Cn.prop {G : Ge} {k c : Nat} {N : List Str} {sc : Scope} {o : Expr} {m : Str} {sem : List D → M D} {fo : Ev → M D} {pos : Pos} (cn : Cn g G k N sc X) (F : Prp g G k c m sem) (hb : baseOk o = true) (ho : DE g N0 Wx X o fo) :
    DE g N0 Wx X (.Attribute o m pos) (fun env => do let x ← fo env; propM c sem x) := by
  obtain ⟨p, f, fd, ps, j, hj, hn, G', hp, hbd⟩ := F.ex
  have hK := cn.ok.K
  rw [← cn.hP, ← cn.hw, ← cn.hm, ← cn.hb] at G'
  have FO := G'.okF
  rw [← hK] at FO
  have pas : Passes (L2.CX X.prog X.w) X.nox (fun _ _ _ => False) := fun _ _ _ _ _ _ _ h => by
    obtain ⟨_, _, _, _, _, _, _, _, _, _, _, _, z⟩ := h
    exact z.elim
  refine PE.imp (pe_prop (ds := []) (dvs := []) ho (by rw [hK]; exact F.cls) (by rw [hK]; exact hp) FO (cn.ok.room.mono hj) (by rw [hK]; exact hbd) .nil pas (base_ok hb)) fun σ H Q ⟨w, env, S, ee, er, sr, q⟩ => ?_
  subst ee
  refine tr_intro er sr (pst_imp (pst_bind (relA := rl g) (fun _ _ _ _ _ z => z) q) fun x H1 ⟨w1, d, S1, e1, k1, s1, r1, q1⟩ => ?_)
  subst e1
  unfold propM at q1
  rcases isC_cases c d S1 with h | ⟨h, fs, ev⟩
  · rw [bind_bad h] at q1; exact q1.elim
  · rw [bind_ok h] at q1
    obtain ⟨a, dx, vs, rfl, h1, h2⟩ := r1.viewI s1 ev
    refine ⟨a, dx, vs, rfl, h1, w1, [d], S1, rfl, hn.symm, .cons r1 .nil, s1, ?_⟩
    unfold noEx at q1
    cases e : sem [d] S1 with
    | ok y S2 => rw [e] at q1; exact q1
    | ex c' fs' S2 => rw [e] at q1; exact q1.elim
    | bad => rw [e] at q1; exact q1
end
end Pc

set_option Elab.async false
set_option linter.all false
set_option autoImplicit false
set_option maxRecDepth 100000
set_option maxHeartbeats 4000000
/-! Pc, part Zd: instances are made. -/
namespace Pc
open PySem PySem.Spec PyProof.Rows L2
abbrev FM := M (List (Str × D))
section
variable {g : Gc} {c : Nat} {Wx : WX} {w0 : Wd} {X : Cx} {x dx : Addr}
/-- between two statements of __init__: the instance at x, slot 0's -/
structure StI (g : Gc) (c : Nat) (w0 : Wd) (x dx : Addr) (w : Wd) (env : Ev) (S : Store) (σ : L2.St) (vs : List (Str × V)) (fs : List (Str × D)) : Prop where
  er : ER g w0.N w env σ
  sr : SR g w S
  kp : Keep w0 w
  self : σ[0]? = some (some (.ref x))
  at_ : w.H x = some (.ins (g.cl c) dx vs)
  inN : x ∈ w.N
  nm : x ∉ w.m
  rf : RepF g w vs fs
  no : w0.H x = none
def PstI (g : Gc) (c : Nat) (Wx : WX) (w0 : Wd) (x dx : Addr) (r : R (List (Str × D))) (E : Ends) : Prop :=
  match r with
  | .ok fs S' => ∀ w' σ' vs', Keep w0 w' → SR g w' S' → w'.H x = some (.ins (g.cl c) dx vs') → x ∈ w'.N → x ∉ w'.m → RepF g w' vs' fs → E.nx σ' w'.H
  | .ex c fs S' => ∀ w' σ' cls dd, Keep w0 w' → SR g w' S' → ExR g w' cls dd c fs → Wx cls dd σ' w'.H
  | .bad => False
def trI (g : Gc) (c : Nat) (Wx : WX) (w0 : Wd) (x dx : Addr) (f : Ev → List (Str × D) → FM) : TS := fun E σ H => ∃ w env S vs fs, w.H = H ∧ StI g c w0 x dx w env S σ vs fs ∧ PstI g c Wx w0 x dx (f env fs S) E
theorem StI.step {w w' : Wd} {env : Ev} {S S' : Store} {σ : L2.St} {vs : List (Str × V)} {fs : List (Str × D)} (s : StI g c w0 x dx w env S σ vs fs) (k : Keep w w') (s' : SR g w' S') : StI g c w0 x dx w' env S' σ vs fs := by
  refine ⟨s.er.keep k, s', s.kp.trans k, s.self, k.kp x _ s.at_ s.nm, k.sub x s.inN, fun z => ?_, ?_, s.no⟩
  · rcases k.newm x z with z | z
    · exact s.nm z
    · rw [s.at_] at z; cases z
  · exact RepF.mono k.toMono s.rf
theorem pstI_of {σ : L2.St} {α β : Type} {rel : Wd → Wd → β → α → Prop} {w : Wd} {env : Ev} {S : Store} {vs : List (Str × V)} {fs : List (Str × D)} {y : M α} {k : α → FM} {E : Ends} {Q : β → Hp → Prop} (st : StI g c w0 x dx w env S σ vs fs) (h : PstI g c Wx w0 x dx ((y >>= k) S) E)
    (q : ∀ w1 a S1 z, Keep w w1 → SR g w1 S1 → rel w w1 z a → PstI g c Wx w0 x dx (k a S1) E → Q z w1.H) : Pst g Wx σ rel w (y S) Q := by
  cases e : y S with
  | ok a S1 =>
    rw [bind_ok e] at h
    intro w1 z k1 s1 r1
    exact q w1 a S1 z k1 s1 r1 h
  | ex c fs S1 =>
    rw [bind_ex e] at h
    exact fun w' cls dd k s z => h w' σ cls dd (st.kp.trans k) s z
  | bad => rw [bind_bad e] at h; exact h
theorem dI_nil : PSs X [] (trI g c Wx w0 x dx fun _ fs => pure fs) := by
  refine PSs.imp pss_nil fun E σ H ⟨w, env, S, vs, fs, e, st, q⟩ => ?_
  subst e
  exact q w σ vs st.kp st.sr st.at_ st.inN st.nm st.rf
theorem dI_pass {r : List Stmt} {fr : Ev → List (Str × D) → FM} {pos : Pos} (t : PSs X r (trI g c Wx w0 x dx fr)) : PSs X (.Pass pos :: r) (trI g c Wx w0 x dx fr) := by
  refine PSs.imp (pss_cons ps_pass t) fun E σ H q => q
theorem dI_expr {e : Expr} {r : List Stmt} {f : Ev → M D} {fr : Ev → List (Str × D) → FM} {pos : Pos} (hc : notComp e = true) (h : DE g w0.N Wx X e f) (t : PSs X r (trI g c Wx w0 x dx fr)) :
    PSs X (.Expr e pos :: r) (trI g c Wx w0 x dx fun env fs => do let _ ← f env; fr env fs) := by
  refine PSs.imp (pss_cons (ps_expr h (swaps_no hc)) t) fun E σ H ⟨w, env, S, vs, fs, ee, st, q⟩ => ?_
  subst ee
  refine tr_intro st.er st.sr (pstI_of st q fun w1 a S1 z k1 s1 r1 q1 => ?_)
  exact ⟨w1, env, S1, vs, fs, rfl, st.step k1 s1, q1⟩
def fitF (fs : List (Str × D)) : M Unit := if fs.length < 1000 then pure () else fail
theorem fitF_cases (fs : List (Str × D)) (S : Store) : fitF fs S = .bad ∨ (fitF fs S = .ok () S ∧ fs.length < 1000) := by
  unfold fitF
  split
  · rename_i h; exact .inr ⟨rfl, h⟩
  · exact .inl rfl
/-- an own slot is no instance -/
theorem ER.upd_ins {N0 : List Addr} {w : Wd} {env : Ev} {σ : L2.St} {C : Addr} {vs : List (Str × V)} {o : HO} (er : ER g N0 w env σ) (h : w.H x = some (.ins C dx vs)) (hN : x ∈ w.N) : ER g N0 ⟨upd w.H x o, w.N, w.m⟩ env σ := by
  have mo := mono_own (w := w) (o := o) h wr_ins.1 wr_ins.2 hN
  refine ⟨er.len, fun i d e => ?_, fun i xs e => ?_, fun i xs e => ?_, er.ap⟩
  · obtain ⟨v, h1, h2⟩ := er.val i d e
    exact ⟨v, h1, h2.mono mo⟩
  · obtain ⟨a, us, h1, h2, h3, h4, h5, h6⟩ := er.own i xs e
    refine ⟨a, us, h1, ?_, h3, h4, h5, h6.mono mo⟩
    show upd w.H x o a = _
    rw [upd_ne (ne_of h2 h (fun z => by cases z))]; exact h2
  · obtain ⟨a, us, h1, h2, h3, h4, h5, h6⟩ := er.owd i xs e
    refine ⟨a, us, h1, ?_, h3, h4, h5, h6.mono mo⟩
    show upd w.H x o a = _
    rw [upd_ne (ne_of h2 h (fun z => by cases z))]; exact h2
theorem dI_fld {e : Expr} {r : List Stmt} {f : Ev → M D} {fr : Ev → List (Str × D) → FM} {s n : Str} {p1 p2 pos : Pos} (hK : X.K = g.K) (C : Cls g.K (g.cl c)) (hn : NoAttr g.K (g.cl c) n) (hv : PE X (.Name s p1) (tVar 0))
    (hs : swapsWith e (some (.Attribute (.Name s p1) n p2)) pos.line X.env = pure false) (h : DE g w0.N Wx X e f) (t : PSs X r (trI g c Wx w0 x dx fr)) :
    PSs X (.Assign [.Attribute (.Name s p1) n p2] e pos :: r) (trI g c Wx w0 x dx fun env fs => do let d ← f env; fitF fs; fr env (putFD n d fs)) := by
  refine PSs.imp (pss_cons (ps_fld hv h hs) t) fun E σ H ⟨w, env, S, vs, fs, ee, st, q⟩ => ?_
  subst ee
  refine tr_intro st.er st.sr (pstI_of st q fun w1 d S1 y k1 s1 r1 q1 => ?_)
  have st1 := st.step k1 s1
  rcases fitF_cases fs S1 with z | ⟨z, hl⟩
  · rw [bind_bad z] at q1; exact q1.elim
  rw [bind_ok z] at q1
  refine ⟨.ref x, st1.self, x, _, dx, vs, rfl, st1.at_, by rw [hK]; exact C, by rw [hK]; exact hn, by rw [st1.rf.length]; exact hl, ?_⟩
  have mo := mono_own (w := w1) (o := .ins (g.cl c) dx (putF n y vs)) st1.at_ wr_ins.1 wr_ins.2 st1.inN
  refine ⟨⟨upd w1.H x (.ins (g.cl c) dx (putF n y vs)), w1.N, w1.m⟩, env, S1, putF n y vs, putFD n d fs, rfl, ⟨st1.er.upd_ins st1.at_ st1.inN, st1.sr.own st1.at_ wr_ins.1 wr_ins.2 st1.inN st1.nm, ?_, st1.self, upd_same, st1.inN, st1.nm, RepF.mono mo (st1.rf.put r1), st1.no⟩, q1⟩
  refine ⟨st1.kp.toMono.trans mo, fun b o e hb => ?_, st1.kp.sub, st1.kp.newm⟩
  show upd w1.H x _ b = some o
  rw [upd_ne (ne_of_none e st1.no)]
  exact st1.kp.kp b o e hb
/-! ### __init__ as a def -/
def envI (N : Nat) (ds : List D) : Ev := .no :: (ds.map .val ++ List.replicate (N - 1 - ds.length) .no)
def initM (N : Nat) (f : Ev → List (Str × D) → FM) (ds : List D) : FM := f (envI N ds) []
def spI (g : Gc) (c n : Nat) (init : List D → FM) : Sp := fun vs H Q E => ∃ w0 ds S x dx us, vs = .ref x :: us ∧ w0.H x = none ∧ w0.H dx = none ∧ dx ≠ x ∧ H = upd (upd w0.H dx (.own x)) x (.ins (g.cl c) dx []) ∧ ds.length = n ∧ RepL g w0 us ds ∧ SR g w0 S ∧ match init ds S with
  | .ok fs S' => ∀ w' vs', Keep w0 w' → SR g w' S' → w'.H x = some (.ins (g.cl c) dx vs') → x ∈ w'.N → x ∉ w'.m → RepF g w' vs' fs → Q .non w'.H
  | .ex c fs S' => ∀ w' cls dd, Keep w0 w' → SR g w' S' → ExR g w' cls dd c fs → E cls dd w'.H
  | .bad => False
theorem er_startI {w : Wd} {N : List Str} {N0 : List Addr} {vs : List V} {ds : List D} {v : V} (hN : 1 ≤ N.length) (r : RepL g w vs ds) : ER g N0 w (envI N.length ds) (L2.start N (v :: vs)) := by
  have e0 := er_start (g := g) (N := N.tail) (N0 := N0) r
  have hl := r.length
  have es : L2.start N (v :: vs) = some v :: L2.start N.tail vs := by
    unfold L2.start
    cases N with
    | nil => simp at hN
    | cons a N => simp
  have ee : envI N.length ds = .no :: callE N.tail.length ds := by
    unfold envI callE
    rw [List.length_tail]
  rw [es, ee]
  refine ⟨by simp [e0.len], fun i d h => ?_, fun i d h => ?_, fun i d h => ?_, fun i j hij h1 h2 => ?_⟩
  · cases i with
    | zero => simp at h
    | succ i => simpa using e0.val i d (by simpa using h)
  · cases i with
    | zero => simp at h
    | succ i => simpa using e0.own i d (by simpa using h)
  · cases i with
    | zero => simp at h
    | succ i => simpa using e0.owd i d (by simpa using h)
  · cases i with
    | zero => obtain ⟨s, q1, q2⟩ := h1; simp at q1; subst q1; cases q2
    | succ i =>
      cases j with
      | zero => obtain ⟨s, q1, q2⟩ := h2; simp at q1; subst q1; cases q2
      | succ j =>
        have := e0.ap i j (by omega) (by obtain ⟨s, q1, q2⟩ := h1; exact ⟨s, by simpa using q1, q2⟩) (by obtain ⟨s, q1, q2⟩ := h2; exact ⟨s, by simpa using q1, q2⟩)
        simpa using this
theorem fnI_of {P : Program} {w : World} {mg : Str → Option Value} {base : Heap} {k n : Nat} {f : Addr} {ps : List Str} {name qual : Str} {params : Arguments} {body : List Stmt} {scope : Scope} {dV kV doc pm cdv ct oc : Value} {an od : Option Addr} {osl : Array (Option Value)} {N : List Str} {fb : Ev → List (Str × D) → FM}
    (lk : g.K.lookup f = some ⟨oc, od, .func (PySem.W.fnOf name qual params body scope dV kV doc pm an cdv ct), osl⟩) (hcd : PySem.W.codeIn g.K cdv qual = true) (S : FnScope N ps scope) (hN : 1 ≤ N.length) (hn : ps.length = n + 1)
    (hbody : ∀ (X : Cx) (Wx : WX) (w0 : Wd) (x dx : Addr), X.prog = P → X.w = w → X.mg = mg → X.base = base → X.env.scope = scope → X.N = N → (∀ x, X.fn x = true) → Ok g false X k → Takes X Wx → Po X → PSs X body (trI g c Wx w0 x dx fb)) :
    FnOk P w g.K mg base (L2.CX P w) (k + 1) f (PySem.W.fnOf name qual params body scope dV kV doc pm an cdv ct) ps (spI g c n (initM N.length fb)) := by
  refine fn_of lk hcd S (fun vs H Q E ⟨w0, ds, S0, x, dx, us, e, _, _, _, _, hl, r, _⟩ => ?_) fun A outer s H vs Q E hr ⟨w0, ds, S0, x, dx, us, e, hx, hd, hne, eH, hl, r, sr, q⟩ => ?_
  · subst e
    rw [List.length_cons, r.length, hl, hn]
  subst e eH
  have ok : Ok g false (cxOf (L2.CX P w) P w g.K mg base N qual scope f cdv A outer s (upd (upd w0.H dx (.own x)) x (.ins (g.cl c) dx [])) E) k := ⟨rfl, rfl, S.nd, hr, fun z => by cases z⟩
  refine ⟨_, hbody _ (fun cls d _ H => E cls d H) w0 x dx rfl rfl rfl rfl rfl rfl (fun _ => rfl) ok (takes_of rfl rfl rfl rfl) ⟨passes_of rfl, rfl, rfl⟩, ?_⟩
  have k1 := keep_new (w := w0) (o := .own x) hd
  have hx1 : (⟨upd w0.H dx (.own x), w0.N, w0.m⟩ : Wd).H x = none := by
    show upd w0.H dx (.own x) x = none
    rw [upd_ne (Ne.symm hne)]; exact hx
  have k2 := keep_newN (w := ⟨upd w0.H dx (.own x), w0.N, w0.m⟩) (o := .ins (g.cl c) dx []) hx1
  have s1 := sr.new (o := .own x) hd
  have s2 := s1.newN (o := .ins (g.cl c) dx []) hx1
  refine ⟨⟨upd (upd w0.H dx (.own x)) x (.ins (g.cl c) dx []), x :: w0.N, w0.m⟩, envI N.length ds, S0, [], [], rfl, ⟨er_startI hN (r.mono (k1.trans k2).toMono), s2, k1.trans k2, ?_, upd_same, List.mem_cons_self, fun z => sr.notnone (sr.sub x z) hx, .nil, hx⟩, ?_⟩
  · unfold L2.start
    simp
  · have q' : match initM N.length fb ds S0 with
      | .ok fs S' => ∀ w' vs', Keep w0 w' → SR g w' S' → w'.H x = some (.ins (g.cl c) dx vs') → x ∈ w'.N → x ∉ w'.m → RepF g w' vs' fs → Q .non w'.H
      | .ex c fs S' => ∀ w' cls dd, Keep w0 w' → SR g w' S' → ExR g w' cls dd c fs → E cls dd w'.H
      | .bad => False := q
    unfold initM at q'
    cases e : fb (envI N.length ds) [] S0 with
    | ok fs S' => rw [e] at q'; exact fun w' _ vs' a1 a2 a3 a4 a5 a6 => q' w' vs' a1 a2 a3 a4 a5 a6
    | ex c' fs S' => rw [e] at q'; exact fun w' _ cls dd a1 a2 a3 => q' w' cls dd a1 a2 a3
    | bad => rw [e] at q'; exact q'
end
/-! ### C(..) -/
section
variable {g : Gc} {N0 : List Addr} {Wx : WX} {X : Cx}
structure Mkr (g : Gc) (G : Ge) (k : Nat) (x : Str) (c n : Nat) (init : List D → FM) : Prop where
  ex : ∃ (f : Addr) (fd : FuncData) (ps : List Str) (j : Nat), j + 1 ≤ k ∧ ps.length = n + 1 ∧ FnOk G.P G.w g.K G.mg G.base (L2.CX G.P G.w) j f fd ps (spI g c n init) ∧ Mk g.K (g.cl c) f ∧ G.mg x = some (.ref (g.cl c)) ∧ Binds g.K fd ps []
theorem Mkr.mono {G : Ge} {j k c n : Nat} {x : Str} {init : List D → FM} (F : Mkr g G j x c n init) (h : j ≤ k) : Mkr g G k x c n init := by
  obtain ⟨f, fd, ps, i, h1, h2⟩ := F.ex
  exact ⟨⟨f, fd, ps, i, Nat.le_trans h1 h, h2⟩⟩
theorem runMk {k c n : Nat} {f : Addr} {fd : FuncData} {ps : List Str} {init : List D → FM} {pins : List (Addr × Obj)} {σ : L2.St} {s : Shared} {Q : VK} {us : List Value} {vs : List V} {w1 : Wd} {ds : List D} {S : Store} (M : Mk X.K (g.cl c) f)
    (F : FnOk X.prog X.w X.K X.mg X.base (L2.CX X.prog X.w) k f fd ps (spI g c n init)) (hn : ps.length = n + 1) (hr : Room (k + 1) X.A) (hb : Binds X.K fd ps []) (tk : Takes X Wx) (I : Inv X pins σ w1.H s) (r : Vals vs us) (hl : ds.length = n) (rp : RepL g w1 vs ds) (sr : SR g w1 S)
    (h : match init ds S with
      | .ok fs S' => ∀ w' x dx vs', w1.H x = none → Keep w1 w' → SR g w' S' → w'.H x = some (.ins (g.cl c) dx vs') → x ∈ w'.N → x ∉ w'.m → RepF g w' vs' fs → Q (.ref x) w'.H
      | .ex c fs S' => ∀ w' cls dd, Keep w1 w' → SR g w' S' → ExR g w' cls dd c fs → Wx cls dd σ w'.H
      | .bad => False) : wpAny (model X.prog X.w) X.A (call (.ref (g.cl c)) us) (EP X pins σ Q) X.xe s := by
  have nx := I.hok.fresh (Nat.le_succ s.heap.objs.size)
  have nd := I.hok.fresh (Nat.le_refl s.heap.objs.size)
  have I2 := Inv.made (C := g.cl c) I
  have r2 : Vals (V.ref (s.heap.objs.size + 1) :: vs) (Value.ref (s.heap.objs.size + 1) :: us) := .cons rfl r
  have hlu : (Value.ref (s.heap.objs.size + 1) :: us).length = ps.length := by
    rw [← r2.length, List.length_cons, rp.length, hl, hn]
  have bt := hb { s with heap := (s.heap.push PySem.W.emptyDict).push (PySem.W.instObj (g.cl c) s.heap.objs.size) } (Value.ref (s.heap.objs.size + 1) :: us) I2.kIn (by simpa using hlu)
  rw [List.append_nil] at bt
  have sp : spI g c n init (V.ref (s.heap.objs.size + 1) :: vs) (upd (upd w1.H s.heap.objs.size (.own (s.heap.objs.size + 1))) (s.heap.objs.size + 1) (.ins (g.cl c) s.heap.objs.size [])) (fun v H2 => v = .non ∧ Q (.ref (s.heap.objs.size + 1)) H2) (fun cls d H' => Wx cls d σ H') := by
    refine ⟨w1, ds, S, s.heap.objs.size + 1, s.heap.objs.size, vs, rfl, nx, nd, Nat.ne_of_lt (Nat.lt_succ_self _), rfl, hl, rp, sr, ?_⟩
    cases e : init ds S with
    | ok fs S' => rw [e] at h; exact fun w' vs' a1 a2 a3 a4 a5 a6 => ⟨rfl, h w' _ _ vs' nx a1 a2 a3 a4 a5 a6⟩
    | ex c' fs S' => rw [e] at h; exact h
    | bad => rw [e] at h; exact h
  have run := F.run _ X.stack _ _ ⟨Value.ref (s.heap.objs.size + 1) :: us, []⟩ _ _ _ _ (hr.make (g.cl c) us []) (I2.env0.make (g.cl c) us []) bt r2 sp
  refine wpAny_call (make_map (f := f) I.kIn M.makes M.init (beq_iff_eq.mp M.fn) (codeAny_mono run fun rr s' hq => ?_))
  cases rr with
  | error e => exact tk e s' (XE.of_call I2 (fun _ _ _ z => z) hq)
  | ok fl =>
    cases fl with
    | ret u =>
      obtain ⟨v, H', I3, rv, ev, q3⟩ := I2.after hq
      subst ev
      exact ⟨rv, V.ref (s.heap.objs.size + 1), H', I3, rfl, q3⟩
    | next => exact hq.elim
    | brk => exact hq.elim
    | cont => exact hq.elim
/-- a new instance, nobody's -/
def NewI (g : Gc) (c : Nat) (w w' : Wd) (v : V) (fs : List (Str × D)) : Prop := ∃ x dx vs, v = .ref x ∧ x ∉ w.N ∧ w'.H x = some (.ins (g.cl c) dx vs) ∧ x ∈ w'.N ∧ x ∉ w'.m ∧ RepF g w' vs fs
abbrev DM (g : Gc) (c : Nat) (N0 : List Addr) (Wx : WX) (X : Cx) (e : Expr) (f : Ev → FM) : Prop := PE X e (tr g N0 Wx (NewI g c) f)
def callI (n : Nat) (init : List D → FM) (ds : List D) : FM := if ds.length = n then init ds else fail
theorem Cn.make {G : Ge} {k c n : Nat} {N : List Str} {sc : Scope} {x : Str} {init : List D → FM} {e : Expr} {es : List Expr} {fa : Ev → M (List D)} {p pos : Pos} (cn : Cn g G k N sc X) (F : Mkr g G k x c n init) (hg : glB sc x = true) (tk : Takes X Wx) (hs : (e :: es).all notStar = true) (ha : DA g N0 Wx X (e :: es) fa) :
    DM g c N0 Wx X (.Call (.Name x p) (e :: es) [] pos) (fun env => do let ds ← fa env; callI n init ds) := by
  obtain ⟨f, fd, ps, j, hj, hn, FO, M, hm, hb⟩ := F.ex
  have hK := cn.ok.K
  rw [← cn.hP, ← cn.hw, ← cn.hm, ← cn.hb, ← hK] at FO
  rw [← hK] at M hb
  rw [← cn.hm] at hm
  simp only [List.all_cons, Bool.and_eq_true] at hs
  refine ⟨fun pins s σ H Q I ⟨w, env, S, ee, er, sr, q⟩ => ?_⟩
  subst ee
  refine wpAny_Call_Name_kw (ld_glob I (cn.gl hg).1 hm ?_ (cn.gl hg).2)
  refine PySem.W.callWith_K (h₀ := X.base) I.ok.mod.kin M.kp (thn (ha.run pos pins s σ w.H _ I (tr_intro er sr (pst_bind (relA := rlL g) (fun w1 w' y a k z => ?_) q))) fun us s1 ⟨vs, H1, I1, r, w1, ds, S1, e1, k1, s1', r1, q1⟩ => ⟨I1.kIn, ?_⟩) (star_cons hs.1) (star_any hs.2)
  · obtain ⟨x, dx, vs, h1, h2, h3⟩ := z
    exact ⟨x, dx, vs, h1, fun q => h2 (k.sub x q), h3⟩
  subst e1
  unfold callI at q1
  by_cases hl : ds.length = n
  · rw [if_pos hl] at q1
    refine runMk M FO hn (cn.ok.room.mono hj) hb tk I1 r hl r1 s1' ?_
    cases ei : init ds S1 with
    | ok fs S' => rw [ei] at q1; exact fun w' x dx vs' a0 a1 a2 a3 a4 a5 a6 => q1 w' _ a1 a2 ⟨x, dx, vs', rfl, fun z => s1'.notnone z a0, a3, a4, a5, a6⟩
    | ex c' fs S' => rw [ei] at q1; exact q1
    | bad => rw [ei] at q1; exact q1
  · rw [if_neg hl] at q1; exact q1.elim
end
end Pc

set_option Elab.async false
set_option linter.all false
set_option autoImplicit false
set_option maxRecDepth 100000
set_option maxHeartbeats 4000000
/-! Pc, part Ze: new instances as values, as handles; fields set; the head's words for classes. -/
namespace Pc
open PySem PySem.Spec PyProof.Rows L2
section
variable {g : Gc} {N0 : List Addr} {Wx : WX} {X : Cx} {c : Nat} {w0 : Wd}
theorem NewI.frozen {w w' : Wd} {S : Store} {v : V} {fs : List (Str × D)} (k : Keep w w') (s : SR g w' S) (h : NewI g c w w' v fs) : ∃ w'', w''.H = w'.H ∧ Keep w w'' ∧ SR g w'' S ∧ Rep g w'' v (.ins c fs) := by
  obtain ⟨p, dx, vs, rfl, h5, h2, h3, h4, h6⟩ := h
  have sub : ∀ a ∈ w'.N.filter (fun a => decide (a ≠ p)), a ∈ w'.N := fun a ha => (List.mem_filter.mp ha).1
  have out : p ∉ w'.N.filter (fun a => decide (a ≠ p)) := fun ha => absurd rfl (of_decide_eq_true (List.mem_filter.mp ha).2)
  have inn : ∀ a, a ≠ p → a ∈ w'.N → a ∈ w'.N.filter (fun a => decide (a ≠ p)) := fun a n ha => List.mem_filter.mpr ⟨ha, decide_eq_true n⟩
  refine ⟨⟨w'.H, w'.N.filter (fun a => decide (a ≠ p)), w'.m⟩, rfl, keep_less k sub fun a ha => inn a (fun e => h5 (by rw [← e]; exact ha)) (k.sub a ha), s.less sub fun a ha => inn a (fun e => h4 (by rw [← e]; exact ha)) (s.sub a ha), ?_⟩
  exact .ins h2 out (RepF.mono (mono_less sub) h6)
theorem de_frzI {e : Expr} {f : Ev → FM} (h : DM g c N0 Wx X e f) : DE g N0 Wx X e (fun env => do let fs ← f env; pure (.ins c fs)) := by
  refine PE.imp h fun σ H Q ⟨w, env, S, e, er, sr, q⟩ => ?_
  subst e
  refine tr_intro er sr ?_
  have q' : Pst g Wx σ (rl g) w (((f env) >>= fun fs => pure (.ins c fs)) S) Q := q
  cases hr : f env S with
  | ok xs S1 =>
    rw [bind_ok hr] at q'
    intro w' y k s n
    obtain ⟨w'', e1, k1, s1, r1⟩ := n.frozen k s
    rw [← e1]
    exact q' w'' y k1 s1 r1
  | ex c fs S1 => rw [bind_ex hr] at q'; exact q'
  | bad => rw [bind_bad hr] at q'; exact q'
theorem de_mutI {e : Expr} {f : Ev → FM} (h : DM g c N0 Wx X e f) : DE g N0 Wx X e (fun env => do let fs ← f env; newOb (.ins c fs)) := by
  refine PE.imp h fun σ H Q ⟨w, env, S, e, er, sr, q⟩ => ?_
  subst e
  refine tr_intro er sr ?_
  have q' : Pst g Wx σ (rl g) w (((f env) >>= fun fs => newOb (.ins c fs)) S) Q := q
  cases hr : f env S with
  | ok xs S1 =>
    rw [bind_ok hr] at q'
    intro w' y k s n
    obtain ⟨p, dx, vs, rfl, h5, h2, h3, h4, h6⟩ := n
    have hn : w.H p = none := by
      rcases k.new p h3 with z | z
      · exact absurd z h5
      · exact z
    refine q' ⟨w'.H, w'.N, w'.m ++ [p]⟩ _ (keep_toM k hn h3) (s.push h3 h4 ⟨dx, vs, h2, h6⟩) (.obj ?_)
    show (w'.m ++ [p])[S1.length]? = some p
    have hl := s.len
    rw [List.getElem?_append_right (by omega), show S1.length - w'.m.length = 0 by omega]
    rfl
  | ex c fs S1 => rw [bind_ex hr] at q'; exact q'
  | bad => rw [bind_bad hr] at q'; exact q'
/-! ### o.f = e, o a handle -/
def putOb (c : Nat) (f : Str) (d : D) (S : Store) (h : Nat) : Option Ob → R Unit
  | some (.ins c' fs) => if c' = c ∧ fs.length < 1000 then .ok () (S.set h (.ins c (putFD f d fs))) else .bad
  | _ => .bad
def putO (c : Nat) (f : Str) (d : D) (x : D) : M Unit := fun S => match x with
  | .obj h => putOb c f d S h S[h]?
  | _ => .bad
theorem putO_cases (c : Nat) (f : Str) (d : D) (x : D) (S : Store) : putO c f d x S = .bad ∨ ∃ h fs, x = .obj h ∧ S[h]? = some (.ins c fs) ∧ fs.length < 1000 ∧ putO c f d x S = .ok () (S.set h (.ins c (putFD f d fs))) := by
  cases x with
  | obj h =>
    have e0 : putO c f d (.obj h) S = putOb c f d S h S[h]? := rfl
    rw [e0]
    cases e : S[h]? with
    | none => exact .inl rfl
    | some ob =>
      cases ob with
      | ins c' fs =>
        by_cases hc : c' = c ∧ fs.length < 1000
        · have e1 : putOb c f d S h (some (.ins c' fs)) = .ok () (S.set h (.ins c (putFD f d fs))) := if_pos hc
          obtain ⟨rfl, hl⟩ := hc
          exact .inr ⟨h, fs, rfl, e, hl, e1⟩
        · exact .inl (if_neg hc)
      | _ => exact .inl rfl
  | _ => exact .inl rfl
theorem ds_fldH {o e : Expr} {fo fe : Ev → M D} {f : Str} {p pos : Pos} (hK : X.K = g.K) (C : Cls g.K (g.cl c)) (hn : NoAttr g.K (g.cl c) f) (hs : swapsWith e (some (.Attribute o f p)) pos.line X.env = pure false) (he : DE g w0.N Wx X e fe) (ho : DE g w0.N Wx X o fo) :
    DS g Wx w0 X (.Assign [.Attribute o f p] e pos) (fun env => do let d ← fe env; let x ← fo env; putO c f d x; pure (.nx env)) := by
  refine PS.imp (ps_fld ho he hs) fun E σ H ⟨w, env, S, ee, st, q⟩ => ?_
  subst ee
  refine tr_intro st.er st.sr (pst_of st q fun w1 d S1 y e k1 s1 r1 q1 => ?_)
  have st1 := st.step k1 s1
  refine tr_intro st1.er st1.sr (pst_of st1 q1 fun w2 x S2 z e2 k2 s2 r2 q2 => ?_)
  have st2 := st1.step k2 s2
  rcases putO_cases c f d x S2 with h | ⟨h, fs, rfl, es, hl, h'⟩
  · rw [bind_bad h] at q2; exact q2.elim
  rw [bind_ok h'] at q2
  obtain ⟨a, rfl, hm⟩ := rep_obj r2
  obtain ⟨b, e3, dx, vs, e4, e5⟩ := s2.at_ h _ es
  rw [hm] at e3
  cases e3
  refine ⟨a, _, dx, vs, rfl, e4, by rw [hK]; exact C, by rw [hK]; exact hn, by rw [e5.length]; exact hl, ?_⟩
  have hN := s2.sub a (List.mem_of_getElem? hm)
  have kk := keep_hnd (w := w2) (o := .ins (g.cl c) dx (putF f y vs)) e4 wr_ins (List.mem_of_getElem? hm) hN
  have ss := s2.hnd (o := .ins (g.cl c) dx (putF f y vs)) (ob := .ins c (putFD f d fs)) e4 wr_ins hm ⟨dx, _, upd_same, RepF.mono kk.toMono (e5.put (r1.mono k2.toMono))⟩
  exact q2 ⟨upd w2.H a (.ins (g.cl c) dx (putF f y vs)), w2.N, w2.m⟩ σ kk.toMono (st2.step kk ss)
/-! ### a.append(b.pop(e)), a and b own lists -/
def appopM (i j : Nat) (fe : Ev → M D) : Ev → M Out := fun env => match env[i]?, env[j]? with
  | some (.own xs), some (.own ys) => do
    let d ← fe env
    match popAtC ys [d] with
    | some (v, zs) => (match appC xs [v] with
      | some (_, ws) => pure (.nx ((env.set j (.own zs)).set i (.own ws)))
      | none => fail)
    | none => fail
  | _, _ => fail
theorem ds_appop {i j : Nat} {x y : Str} {e : Expr} {fe : Ev → M D} {p p2 pos apos apos2 cpos cpos2 : Pos} (hK : X.K = g.K) (hij : i ≠ j) (hx : PE X (.Name x p) (tVar i)) (hy : PE X (.Name y p2) (tVar j)) (Ma : Mth X "append" "list.append" rAppend) (Mp : Mth X "pop" "list.pop" rPopAt)
    (hl : (apos.endLine == cpos.line) = true) (hl2 : (apos2.endLine == cpos2.line) = true) (hs : notStar e = true) (he : DE g w0.N Wx X e fe) :
    DS g Wx w0 X (.Expr (.Call (.Attribute (.Name x p) "append" apos) [.Call (.Attribute (.Name y p2) "pop" apos2) [e] [] cpos2] [] cpos) pos) (appopM i j fe) := by
  have hsA : [e].all notStar = true := by simp [hs]
  have inner := pe_bm PySem.F.plainAttrs_list Mp.slot Mp.ty Mp.mt hy (pa_cons he pa_nil (star_cons hs)) (base_ok rfl) (few_ok hsA (by simp)) hl2 (star_cons hs) (star_any rfl)
  refine PS.imp (ps_expr (pe_bm PySem.F.plainAttrs_list Ma.slot Ma.ty Ma.mt hx (pa_cons inner pa_nil (star_cons rfl)) (base_ok rfl) (few_ok (es := [.Call (.Attribute (.Name y p2) "pop" apos2) [e] [] cpos2]) rfl (by simp)) hl (star_cons rfl) (star_any rfl)) (swaps_no rfl)) fun E σ H ⟨w, env, S, ee, st, q⟩ => ?_
  subst ee
  cases hi : env[i]? with
  | none => simp only [appopM, hi] at q; exact q.elim
  | some si =>
  cases si with
  | own xs =>
    cases hj : env[j]? with
    | none => simp only [appopM, hi, hj] at q; exact q.elim
    | some sj =>
    cases sj with
    | own ys =>
      simp only [appopM, hi, hj] at q
      obtain ⟨a, vs, h1, h2, _⟩ := st.er.own i xs hi
      obtain ⟨b, us, g1, g2, _⟩ := st.er.own j ys hj
      refine ⟨_, h1, .inl ⟨rfl, vs, .inl (.inl h2)⟩, _, g1, .inl ⟨rfl, us, .inl (.inl g2)⟩, tr_intro st.er st.sr (pst_of st q fun w1 d S1 z e k1 s1 r1 q1 => ?_)⟩
      have st1 := st.step k1 s1
      obtain ⟨b', us1, g1', g2', g3, g4, g5, g6⟩ := st1.er.own j ys hj
      rw [g1] at g1'
      cases g1'
      cases ep : popAtC ys [d] with
      | none => simp only [ep] at q1; exact q1.elim
      | some pr =>
        obtain ⟨v, zs⟩ := pr
        simp only [ep] at q1
        refine ch_popAt w1 b us1 ys [z] [d] v zs _ ep g2' g6 (.cons r1 .nil) fun v' us' rv ru => ?_
        obtain ⟨mo, st2⟩ := st1.chg hj g1 g2' g3 g4 g5 ru
        have hi2 : (env.set j (.own zs))[i]? = some (.own xs) := by rw [List.getElem?_set_ne (Ne.symm hij)]; exact hi
        obtain ⟨a', vs2, f1, f2, f3, f4, f5, f6⟩ := st2.er.own i xs hi2
        rw [h1] at f1
        cases f1
        cases ea : appC xs [v] with
        | none => simp only [ea] at q1; exact q1.elim
        | some pr2 =>
          obtain ⟨v2, ws⟩ := pr2
          simp only [ea] at q1
          refine ch_app ⟨upd w1.H b (.lst us'), w1.N, w1.m⟩ a vs2 xs [v'] [v] v2 ws _ ea f2 f6 (.cons (rv.mono mo) .nil) fun v3 vs3 _ r3 => ?_
          obtain ⟨mo2, st3⟩ := st2.chg hi2 h1 f2 f3 f4 f5 r3
          exact q1 _ σ (mo.trans mo2) st3
    | _ => simp only [appopM, hi, hj] at q; exact q.elim
  | _ => simp only [appopM, hi] at q; exact q.elim
end
/-! ### the head's words for classes -/
structure Fld (g : Gc) (c : Nat) (f : Str) : Prop where
  cls : Cls g.K (g.cl c)
  no : NoAttr g.K (g.cl c) f
/-- a property: its class, its name, the getter as a def (its place is not looked at) -/
structure PrD where
  cls : Str
  f : Str
  d : He.DefD
def prA (K : PySem.W.Frag) (p : PrD) : Addr := He.ma K (He.ga K p.cls) p.f
def gtA (K : PySem.W.Frag) (p : PrD) : Addr := match PySem.W.recIn K (prA K p) "property" with
  | some (.ref a :: _) => a
  | _ => 0
def fnAt (K : PySem.W.Frag) (a : Addr) : He.FnW := match K.lookup a with
  | some ⟨_, _, .func fd, _⟩ => some (fd.name, fd.qualname, fd.params, fd.body, fd.scope, fd.globals, fd.closure, fd.builtins)
  | _ => none
def PrD.ok (K : PySem.W.Frag) (p : PrD) : Bool := decide (PySem.W.findIn K (.ref (He.ga K p.cls)) p.f = some (some (.ref (prA K p)))) && (decide (PySem.W.specialIn K (.ref (prA K p)) "__get__" = some (some (.builtin "property.__get__"))) && (decide (PySem.W.takesIn K (.ref (prA K p)) = some true) &&
  ((match PySem.W.recIn K (prA K p) "property" with
    | some (.ref _ :: _) => true
    | _ => false) && (PySem.W.keepIn K (.ref (gtA K p)) && (match K.lookup (gtA K p) with
    | some ⟨_, _, .func fd, _⟩ => PySem.W.codeIn K fd.code p.d.qual && (He.dflB K fd.defaults [] && He.kwdB K fd.kwdefaults [])
    | _ => false)))))
theorem PrD.prop {K : PySem.W.Frag} {p : PrD} (h : p.ok K = true) : PropOf K (He.ga K p.cls) p.f (prA K p) (gtA K p) := by
  obtain ⟨h1, h⟩ := He.ba h
  obtain ⟨h2, h⟩ := He.ba h
  obtain ⟨h3, h⟩ := He.ba h
  obtain ⟨h4, h⟩ := He.ba h
  refine ⟨of_decide_eq_true h1, of_decide_eq_true h2, of_decide_eq_true h3, ?_⟩
  unfold gtA
  cases e : PySem.W.recIn K (prA K p) "property" with
  | none => rw [e] at h4; cases h4
  | some l =>
    rw [e] at h4
    cases l with
    | nil => cases h4
    | cons v r =>
      cases v with
      | ref a => exact ⟨r, rfl⟩
      | _ => cases h4
theorem PrD.fun {K : PySem.W.Frag} {p : PrD} (e : fnAt K (gtA K p) = p.d.val) (h : p.ok K = true) : ∃ fd, FunD K p.d.name p.d.qual p.d.params p.d.body p.d.scope [] [] (gtA K p) fd := by
  obtain ⟨_, h⟩ := He.ba h
  obtain ⟨_, h⟩ := He.ba h
  obtain ⟨_, h⟩ := He.ba h
  obtain ⟨_, h⟩ := He.ba h
  obtain ⟨kp, c2⟩ := He.ba h
  unfold fnAt at e
  cases q : K.lookup (gtA K p) with
  | none => rw [q] at c2; cases c2
  | some o =>
    obtain ⟨oc, od, dt, osl⟩ := o
    rw [q] at c2 e
    cases dt with
    | func fd =>
      obtain ⟨n1, n2, n3, n4, n5, n6, n7, n8, n9, n10, n11, n12, n13, n14, n15⟩ := fd
      have e2 : (some (n1, n2, n3, n4, n5, n6, n7, n15) : He.FnW) = p.d.val := e
      unfold He.DefD.val at e2
      simp only [Option.some.injEq, Prod.mk.injEq] at e2
      obtain ⟨h1, h2, h3, h4, h5, h6, h7, h8⟩ := e2
      subst h1 h2 h3 h4 h5 h6 h7 h8
      have c3 : (PySem.W.codeIn K n13 p.d.qual && (He.dflB K n8 [] && He.kwdB K n9 [])) = true := c2
      obtain ⟨m1, m2⟩ := He.ba c3
      obtain ⟨m3, m4⟩ := He.ba m2
      exact ⟨_, ⟨oc, od, n8, n9, n10, n11, n12, n13, n14, osl, rfl, q, m1, He.dflB_ok m3, He.kwdB_ok m4⟩, kp⟩
    | _ => cases c2
abbrev AlY : Type := AlX × Bool × List He.FnW
def obsY (n : Nat) (fa : List He.Fa) (fn : List He.DefD) (ps : List PrD) (ex : PySem.W.Frag → Bool) (g : Addr → Option Obj) : AlY := (obsX n fa fn ex g, ps.all (fun p => p.ok (frX g n)), ps.map fun p => fnAt (frX g n) (gtA (frX g n) p))
structure SaysY (fa : List He.Fa) (fn : List He.DefD) (ps : List PrD) (ex : PySem.W.Frag → Bool) (K : PySem.W.Frag) : Prop where
  d : He.SaysD fa fn K
  sy : Sy K
  ex : ex K = true
  ok : ∀ p ∈ ps, p.ok K = true
  gt : ps.map (fun p => fnAt K (gtA K p)) = ps.map fun p => p.d.val
def hookY (n : Nat) (fa : List He.Fa) (fn : List He.DefD) (ps : List PrD) (ex : PySem.W.Frag → Bool) : PySem.W.Hook where
  α := AlY
  obs := fun s => obsY n fa fn ps ex s.heap.get?
  val := fun _ => ((He.valD fn, true), true, ps.map fun p => p.d.val)
  says := fun _ h => ∃ K : PySem.W.Frag, K.In h ∧ SaysY fa fn ps ex K
  of := fun _ _ e => ⟨_, He.frG_in, by
    have e1 := congrArg (fun z : AlY => z.1) e
    have e2 := congrArg (fun z : AlY => z.2.1) e
    have e3 := congrArg (fun z : AlY => z.2.2) e
    have e4 := He.ba (congrArg Prod.snd e1)
    exact ⟨congrArg Prod.fst e1, sysB_ok e4.1, e4.2, fun p hp => List.all_eq_true.mp e2 p hp, e3⟩⟩
  keeps := fun _ _ _ ⟨K, hK, c⟩ k => ⟨K, PySem.W.Frag.In.keeps hK k, c⟩
theorem obsY_eq {n : Nat} {fa : List He.Fa} {fn : List He.DefD} {ps : List PrD} {ex : PySem.W.Frag → Bool} {g : Addr → Option Obj} {s : Shared} (h : ∀ a, g a = s.heap.get? a) : obsY n fa fn ps ex g = (hookY n fa fn ps ex).obs s := by
  have e : g = s.heap.get? := funext h
  rw [e]
  rfl
theorem SaysY.prop {fa : List He.Fa} {fn : List He.DefD} {ps : List PrD} {ex : PySem.W.Frag → Bool} {K : PySem.W.Frag} (c : SaysY fa fn ps ex K) (i : Nat) {p : PrD} (h : ps[i]? = some p) : PropOf K (He.ga K p.cls) p.f (prA K p) (gtA K p) ∧ ∃ fd, FunD K p.d.name p.d.qual p.d.params p.d.body p.d.scope [] [] (gtA K p) fd := by
  have hm := c.ok p (List.mem_of_getElem? h)
  refine ⟨p.prop hm, PrD.fun ?_ hm⟩
  have e2 : (ps.map fun p => fnAt K (gtA K p))[i]? = (ps.map fun p => p.d.val)[i]? := by rw [c.gt]
  rw [List.getElem?_map, List.getElem?_map, h] at e2
  exact Option.some.inj e2
section
variable {g : Gc} {G : Ge} {k n c : Nat} {f : Addr} {fd : FuncData} {name qual : Str} {params : Arguments} {body : List Stmt} {sc : Scope} {N ps : List Str} {kws : List (Str × V)}
theorem mtd_of {m : Str} {fb : Ev → M Out} {sem : List D → M D} (F : FunD g.K name qual params body sc [] kws f fd) (C : Cls g.K (g.cl c)) (hm : Meth g.K (g.cl c) m f) (S : scB N ps sc = true) (hn : ps.length = n) (hs : sem = bodyM N.length fb) (hbd : Binds g.K fd ps [])
    (hbody : ∀ (X : Cx) (Wx : WX) (w0 : Wd), Cn g G.lo k N sc X → (∀ x, X.fn x = true) → Takes X Wx → Po X → DSs g Wx w0 X body fb) : Mtd g G (k + 1) c m n sem :=
  ⟨⟨f, fd, ps, hn, by rw [hs]; exact fnG_def (G := G.lo) F S hbody, hm, hbd⟩, C⟩
theorem prp_of {m : Str} {p : Addr} {fb : Ev → M Out} {sem : List D → M D} (F : FunD g.K name qual params body sc [] kws f fd) (C : Cls g.K (g.cl c)) (hm : PropOf g.K (g.cl c) m p f) (S : scB N ps sc = true) (hn : ps.length = 1) (hs : sem = bodyM N.length fb) (hbd : Binds g.K fd ps [])
    (hbody : ∀ (X : Cx) (Wx : WX) (w0 : Wd), Cn g G.lo k N sc X → (∀ x, X.fn x = true) → Takes X Wx → Po X → DSs g Wx w0 X body fb) : Prp g G (k + 2) c m sem :=
  ⟨⟨p, f, fd, ps, k + 1, Nat.le_refl _, hn, by rw [hs]; exact fnG_def (G := G.lo) F S hbody, hm, hbd⟩, C⟩
theorem mkr_of {x : Str} {fb : Ev → List (Str × D) → FM} {init : List D → FM} (F : FunD g.K name qual params body sc [] kws f fd) (M : Mk g.K (g.cl c) f) (hx : G.mg x = some (.ref (g.cl c))) (S : scB N ps sc = true) (hN : decide (1 ≤ N.length) = true) (hn : ps.length = n + 1) (hs : init = initM N.length fb) (hbd : Binds g.K fd ps [])
    (hbody : ∀ (X : Cx) (Wx : WX) (w0 : Wd) (x dx : Addr), Cn g G.lo k N sc X → (∀ x, X.fn x = true) → Takes X Wx → Po X → PSs X body (trI g c Wx w0 x dx fb)) : Mkr g G (k + 2) x c n init := by
  obtain ⟨⟨oc, od, dV, kV, doc, pm, an, cdv, ct, osl, rfl, lk, hcd, _, _⟩, _⟩ := F
  refine ⟨⟨f, _, ps, k + 1, Nat.le_refl _, hn, ?_, M, hx, hbd⟩⟩
  rw [hs]
  exact fnI_of lk hcd (scB_ok S) (of_decide_eq_true hN) hn fun X Wx w0 x dx h1 h2 h3 h4 h5 h6 h7 ok tk po => hbody X Wx w0 x dx ⟨h1, h2, h3, h4, h5, h6, ok⟩ h7 tk po
end
section
variable {g : Gc} {G : Ge} {k c : Nat} {N : List Str} {sc : Scope} {X : Cx} {N0 : List Addr} {Wx : WX} {w0 : Wd} {x dx : Addr}
theorem Cn.fld {e : Expr} {fe : Ev → M D} {f : Str} {pos : Pos} (cn : Cn g G k N sc X) (F : Fld g c f) (hb : baseOk e = true) (h : DE g N0 Wx X e fe) : DE g N0 Wx X (.Attribute e f pos) (fun env => do let y ← fe env; fldM c f y) := de_fld cn.ok.K F.cls F.no hb h
theorem Cn.ifld {e : Expr} {r : List Stmt} {f : Ev → M D} {fr : Ev → List (Str × D) → FM} {s n : Str} {p1 p2 pos : Pos} (cn : Cn g G k N sc X) (F : Fld g c n) (hv : visB N sc s 0 = true) (hs : swapsWith e (some (.Attribute (.Name s p1) n p2)) pos.line (env0 sc) = pure false) (h : DE g w0.N Wx X e f) (t : PSs X r (trI g c Wx w0 x dx fr)) :
    PSs X (.Assign [.Attribute (.Name s p1) n p2] e pos :: r) (trI g c Wx w0 x dx fun env fs => do let d ← f env; fitF fs; fr env (putFD n d fs)) :=
  dI_fld cn.ok.K F.cls F.no (cn.pv 0 hv) (by rw [swith_env (e' := env0 sc) (by rw [cn.hs]; rfl)]; exact hs) h t
theorem Cn.setf {o e : Expr} {fo fe : Ev → M D} {f : Str} {p pos : Pos} (cn : Cn g G k N sc X) (F : Fld g c f) (hs : swapsWith e (some (.Attribute o f p)) pos.line (env0 sc) = pure false) (he : DE g w0.N Wx X e fe) (ho : DE g w0.N Wx X o fo) :
    DS g Wx w0 X (.Assign [.Attribute o f p] e pos) (fun env => do let d ← fe env; let x ← fo env; putO c f d x; pure (.nx env)) :=
  ds_fldH cn.ok.K F.cls F.no (by rw [swith_env (e' := env0 sc) (by rw [cn.hs]; rfl)]; exact hs) he ho
theorem Cn.appop {i j : Nat} {y z : Str} {e : Expr} {fe : Ev → M D} {p p2 pos apos apos2 cpos cpos2 : Pos} (cn : Cn g G k N sc X) (hij : decide (i ≠ j) = true) (hx : visB N sc y i = true) (hy : visB N sc z j = true)
    (hl : (apos.endLine == cpos.line) = true) (hl2 : (apos2.endLine == cpos2.line) = true) (hs : notStar e = true) (he : DE g w0.N Wx X e fe) :
    DS g Wx w0 X (.Expr (.Call (.Attribute (.Name y p) "append" apos) [.Call (.Attribute (.Name z p2) "pop" apos2) [e] [] cpos2] [] cpos) pos) (appopM i j fe) :=
  ds_appop cn.ok.K (of_decide_eq_true hij) (cn.pv i hx) (cn.pv j hy) mt_appendL mt_popAtL hl hl2 hs he
end
/-! ### tuples of the module -/
theorem con_tup {g : Gc} {G : Ge} {x : Str} {ns : List Int} {h : Heap} (X : g.K.In h) (N : h.Ns mainGlobals G.mg) (hg : (He.Fa.glo x).ok g.K = true) (ht : He.tupB g.K x (ns.map He.Dv.int) = true) : Con g G x (.tup (ns.map D.int)) := by
  refine ⟨.ref (He.ga g.K x), _, He.glo_ok X N hg, rfl, fun w => .tup (vs := ns.map V.int) ?_ (RepL.ints ns)⟩
  have := He.tupB_ok ht w.H
  rw [List.map_map] at this
  exact this
end Pc

set_option Elab.async false
set_option linter.all false
set_option autoImplicit false
set_option maxRecDepth 100000
set_option maxHeartbeats 4000000
/-! Pc, part Zf: tuple * int, one time too. -/
namespace Pc
open PySem PySem.Spec PyProof.Rows L2
theorem tuple_once (l : Addr) (items : Array Value) (n : Nat) (dd : Option Addr) (sl : Array (Option Value)) (u : Tok) :
    Meets (Builtin.«tuple.__mul__» ⟨[.ref l, .int 1 u], []⟩) (fun _ R s => s.heap.get? l = some { cls := .type "tuple", dict := dd, data := .seq items n, slots := sl } ∧ R (.ok (.ret (Value.ref l))) s) :=
  .of_wp fun prog w A R s h => by
    obtain ⟨hp, g, d, tk, os⟩ := s
    obtain ⟨hl, h⟩ := h
    have f1 := AutoSeq1.idx_int
    have c1 : (items.isEmpty || (1 : Int) == 1) = true := by simp
    wp_walk using wpAny_loadPart' hl
    repeat (first
      | (refine wpAny_ite_false (decide_eq_false (by decide)) ?_; wp_walk using wpAny_loadPart' hl)
      | (refine wpAny_ite_true (decide_eq_true c1) ?_; wp_walk using wpAny_loadPart' hl))
    exact ⟨_, rfl, h⟩
def rRep1 (K : PySem.W.Frag) : R2 := fun x y H Q => ∃ l xs, x = .ref l ∧ y = .int 1 ∧ SqT K H l xs ∧ Q (.ref l) H
section
variable {X : Cx} {g : Gc}
theorem op_rep1 : OpR X (binaryOp .Mult) (rRep1 X.K) := by
  intro pins s σ H x y v u Q I rx ry h
  obtain ⟨l, xs, rfl, rfl, hT, q⟩ := h
  cases rx
  obtain ⟨t, rfl⟩ := ry
  obtain ⟨its, r, ⟨⟨cls, dd, data, sl⟩, ho, hc, n, hd⟩, hs⟩ := I.tuple hT
  simp only at hc hd
  subst hc hd
  exact wpAny_binaryOp_repeat_ref (T := "tuple") (U := "int") (by decide) ⟨_, ho, rfl⟩ (fun s' => typeIs_int s' 1 t) noFill_tuple_mul F.fills_int_mul F.slot_int_rmul repeat_tuple F.slot_int_index.lookup
    (call_meets F.slot_int_rmul (typeIs_int s 1 t) F.entry_int_rmul (F.args_int_rmul_2 _ _) (int_rmul_tuple 1 t l its.toArray n dd sl)
      ⟨ho, rfl, ⟨_, ho, rfl⟩, call_meets F.slot_tuple_mul ⟨_, ho, rfl⟩ F.entry_tuple_mul (F.args_tuple_mul_2 _ _) (tuple_once l its.toArray n dd sl t) ⟨ho, .ref l, H, I, rfl, q⟩⟩)
def mulT : D → D → Option D
  | .tup xs, .int k => if xs.isEmpty = false ∧ 1 ≤ k ∧ k ≤ 1000 ∧ xs.length ≤ 1000 then some (.tup (List.replicate k.toNat xs).flatten) else none
  | _, _ => none
theorem ops_mulT (hK : X.K = g.K) : OpS g X (binaryOp .Mult) mulT := by
  refine ⟨_, OpR.or op_rep1 op_repT, fun w S x y a b d Q e sr ra rb q => ?_⟩
  unfold mulT at e
  split at e
  · rename_i xs k
    split at e
    · rename_i h
      cases e
      obtain ⟨p, vs, rfl, h1, h2⟩ := ra.tup
      by_cases h1k : k = 1
      · subst h1k
        refine .inl ⟨p, vs, rfl, rb.int, by rw [hK]; exact h1, q w _ (Keep.refl w) sr (.tup h1 ?_)⟩
        show RepL g w vs (List.replicate 1 xs).flatten
        simpa using h2
      · refine .inr ⟨p, k, vs, rfl, rb.int, by rw [hK]; exact h1, fun e => ?_, by omega, h.2.2.1, by rw [h2.length]; exact h.2.2.2, fun r hr => q _ _ (keep_new hr) (sr.new hr) (rep_newT hr (h2.rep _))⟩
        subst e
        cases h2
        exact absurd h.1 (by simp)
    · cases e
  · cases e
theorem Cn.mul {G : Ge} {k : Nat} {N : List Str} {sc : Scope} (c : Cn g G k N sc X) : OpS g X (binaryOp .Mult) (orS mulD mulT) := OpS.or ops_mul (ops_mulT c.ok.K)
end
end Pc

set_option Elab.async false
set_option linter.all false
set_option autoImplicit false
set_option maxRecDepth 100000
set_option maxHeartbeats 4000000
/-! Pc, part Zg: small words for the ties. -/
namespace Pc
open PySem PySem.Spec PyProof.Rows L2
def classBody (s : Stmt) : List Stmt := match s with
  | .ClassDef _ _ _ b _ _ _ _ _ _ _ => b
  | _ => []
def mth (s : Stmt) (i : Nat) : Stmt := (classBody s).getD i (.Pass ⟨0, 0, 0, 0⟩)
theorem con_lo {g : Gc} {P : Program} {w : World} {mg : Str → Option Value} {base : Heap} {b b' : Bool} {x : Str} {d : D} (C : Con g ⟨P, w, mg, base, b⟩ x d) : Con g ⟨P, w, mg, base, b'⟩ x d := ⟨C.ex⟩
theorem Mtd.lo {g : Gc} {P : Program} {w : World} {mg : Str → Option Value} {base : Heap} {b b' : Bool} {k c n : Nat} {m : Str} {sem : List D → M D} (F : Mtd g ⟨P, w, mg, base, b⟩ k c m n sem) : Mtd g ⟨P, w, mg, base, b'⟩ k c m n sem := ⟨F.ex, F.cls⟩
theorem Prp.lo {g : Gc} {P : Program} {w : World} {mg : Str → Option Value} {base : Heap} {b b' : Bool} {k c : Nat} {m : Str} {sem : List D → M D} (F : Prp g ⟨P, w, mg, base, b⟩ k c m sem) : Prp g ⟨P, w, mg, base, b'⟩ k c m sem := ⟨F.ex, F.cls⟩
theorem Mkr.lo {g : Gc} {P : Program} {w : World} {mg : Str → Option Value} {base : Heap} {b b' : Bool} {k c n : Nat} {x : Str} {init : List D → FM} (F : Mkr g ⟨P, w, mg, base, b⟩ k x c n init) : Mkr g ⟨P, w, mg, base, b'⟩ k x c n init := ⟨F.ex⟩
theorem bts_all {fa : List He.Fa} {fn : List He.DefD} {K : PySem.W.Frag} {h : Heap} {G : Ge} {l : List Str} (X : K.In h) (N : h.Ns mainGlobals G.mg) (c : He.SaysD fa fn K) (i : Nat) (e : (fa.drop i).take l.length = l.map He.Fa.free) : Bts l G :=
  bts_of X N c fun x hx => List.mem_of_mem_drop (List.mem_of_mem_take (by rw [e]; exact List.mem_map_of_mem hx))
/-! ### list(range(n)), x += e -/
section
variable {g : Gc} {N0 : List Addr} {Wx : WX} {X : Cx} {w0 : Wd}
theorem rep_rgV {w : Wd} (a b : Int) : RepL g w (rgV a b) ((List.range (b - a).toNat).map fun (i : Nat) => D.int (a + (i : Int))) := by
  unfold rgV
  have h := RepL.ints (g := g) (w := w) ((List.range (b - a).toNat).map fun (i : Nat) => a + (i : Int))
  rw [List.map_map, List.map_map] at h
  exact h
theorem dl_listRg {a : Expr} {fa : Ev → M D} {p p2 pos pos2 : Pos} (hc : X.calm = true) (h1 : Gl X "list") (h2 : X.mg "list" = none) (h3 : Gl X "range") (h4 : X.mg "range" = none) (hs : notStar a = true) (ha : DE g N0 Wx X a fa) :
    DL g N0 Wx X (.Call (.Name "list" p) [.Call (.Name "range" p2) [a] [] pos2] [] pos) (fun env => do let x ← fa env; ofO (rng1 [x])) := by
  refine PE.imp (pe_listRg hc h1 h2 (prg_1 h3 h4 ha (star_cons hs)) (star_cons rfl)) fun σ H Q ⟨w, env, S, ee, er, sr, q⟩ => ?_
  subst ee
  refine tr_intro er sr (pst_imp (pst_bind (relA := rl g) (fun _ _ _ _ k z => z.base k) q) fun v H1 ⟨w1, d, S1, e1, k1, s1, r1, q1⟩ => ?_)
  subst e1
  cases eo : rng1 [d] with
  | none => rw [eo] at q1; exact q1.elim
  | some xs =>
    rw [eo] at q1
    unfold rng1 at eo
    split at eo
    · rename_i j e0
      cases e0
      split at eo
      · rename_i h
        cases eo
        cases r1
        refine ⟨j, rfl, ⟨by decide, by decide, h.1, by omega, by omega⟩, fun p hp => ?_⟩
        have r := rep_rgV (g := g) (w := w1) 0 j
        rw [show (j - 0).toNat = j.toNat by rw [Int.sub_zero]] at r
        exact q1 ⟨upd w1.H p (.lst (rgV 0 j)), p :: w1.N, w1.m⟩ _ (keep_newN hp) (s1.newN hp) (new_l s1 hp r)
      · cases eo
    · cases eo
def augM (i : Nat) (op : Int → Int → Int) (f : Ev → M D) : Ev → M Out := fun env => do
  let x ← rd i env
  let y ← f env
  match x, y with
  | .int a, .int b => pure (.nx (env.set i (.val (.int (op a b)))))
  | _, _ => fail
theorem ds_aug {i : Nat} {x : Str} {e : Expr} {op : Operator} {f : Ev → M D} {o : Int → Int → Int} {pos pos' : Pos} (hN : X.N.Nodup) (hi : X.N[i]? = some x) (hx : Loc X.env.scope x) (hf : X.fn x = true) (hp : PIp X op (ipI o)) (h : DE g w0.N Wx X e f) :
    DS g Wx w0 X (.AugAssign (.Name x pos') op e pos) (augM i o f) := by
  refine PS.imp (ps_aug hN hi hx h hp (.inl hf)) fun E σ H ⟨w, env, S, ee, st, q⟩ => ?_
  subst ee
  unfold augM at q
  cases hd : env[i]? with
  | none => rw [bind_bad (show rd i env S = .bad by unfold rd; rw [hd]; rfl)] at q; exact q.elim
  | some sl =>
    cases sl with
    | val d =>
      rw [bind_ok (show rd i env S = .ok d S by unfold rd; rw [hd]; rfl)] at q
      obtain ⟨v, e1, r⟩ := st.er.val i d hd
      refine ⟨v, e1, tr_intro st.er st.sr (pst_of st q fun w1 b S1 y e k1 s1 r1 q1 => ?_)⟩
      have st1 := st.step k1 s1
      cases d with
      | int a =>
        cases r
        cases b with
        | int b =>
          cases r1
          refine ⟨a, b, rfl, rfl, ?_⟩
          exact q1 w1 _ (Mono.refl _) ⟨st1.er.set_val (.int _), s1, st1.kp⟩
        | _ => exact q1.elim
      | _ => cases b <;> exact q1.elim
    | _ => rw [bind_bad (show rd i env S = .bad by unfold rd; rw [hd]; rfl)] at q; exact q.elim
end
namespace Cn
variable {g : Gc} {G : Ge} {k : Nat} {N : List Str} {sc : Scope} {X : Cx} {N0 : List Addr} {Wx : WX} {w0 : Wd} {l : List Str}
theorem listRg {a : Expr} {fa : Ev → M D} {p p2 pos pos2 : Pos} (c : Cn g G k N sc X) (B : Bts l G) (h1 : hasB l "list" = true) (h2 : glB sc "list" = true) (h3 : hasB l "range" = true) (h4 : glB sc "range" = true) (hs : notStar a = true) (ha : DE g N0 Wx X a fa) :
    DL g N0 Wx X (.Call (.Name "list" p) [.Call (.Name "range" p2) [a] [] pos2] [] pos) (fun env => do let x ← fa env; ofO (Pc.rng1 [x])) :=
  dl_listRg c.ok.calm (c.gl h2).1 (by rw [c.hm]; exact B _ h1) (c.gl h4).1 (by rw [c.hm]; exact B _ h3) hs ha
theorem augA {i : Nat} {x : Str} {e : Expr} {f : Ev → M D} {pos pos' : Pos} (c : Cn g G k N sc X) (fa : ∀ x, X.fn x = true) (h : locB N sc x i = true) (d : DE g w0.N Wx X e f) : DS g Wx w0 X (.AugAssign (.Name x pos') .Add e pos) (augM i (fun a b => a + b) f) := ds_aug c.nd (c.loc h).1 (c.loc h).2 (fa x) ip_add d
theorem augS {i : Nat} {x : Str} {e : Expr} {f : Ev → M D} {pos pos' : Pos} (c : Cn g G k N sc X) (fa : ∀ x, X.fn x = true) (h : locB N sc x i = true) (d : DE g w0.N Wx X e f) : DS g Wx w0 X (.AugAssign (.Name x pos') .Sub e pos) (augM i (fun a b => a - b) f) := ds_aug c.nd (c.loc h).1 (c.loc h).2 (fa x) ip_sub d
end Cn
end Pc

set_option Elab.async false
set_option linter.all false
set_option autoImplicit false
set_option maxRecDepth 100000
set_option maxHeartbeats 4000000
/-! Pc, part Zh: comprehensions whose names are cells. -/
namespace Pc
open PySem PySem.Spec PyProof.Rows L2
namespace Cn
variable {g : Gc} {G : Ge} {k : Nat} {N : List Str} {sc : Scope} {X : Cx} {N0 : List Addr} {Wx : WX} {w0 : Wd}
def isCell (scope : Scope) (x : Str) : Bool := scope.names.lookup x == some .cell
theorem pgc {scope : Scope} {x : Str} {p : Pos} (c : Cn g G k N sc X) (hf : ∀ x, isCell scope x = true → X.fn x = true) (i : Nat) (h : locB N sc x i = true) (hc : isCell scope x = true) : PG X (.Name x p) (gName i) := pg_name c.nd (c.loc h).1 (c.loc h).2 (.inl (hf x hc))
section
variable {elt tg iter : Expr} {ifs : List Expr} {scope : Scope} {us : List Nat} {pos : Pos} {fi : Ev → M (List D)} {fg : D → Ev → Option Ev} {fc : Ev → M Bool} {fe : Ev → M D}
theorem compx (c : Cn g G k N sc X) (own : List (Str × Nat)) (hi : DI g N0 Wx Keep X tg iter fi) (ok : blkB N sc scope own = true) (hg : ∀ X', Cn g G k N (relS scope sc) X' → (∀ x, isCell scope x = true → X'.fn x = true) → DG g N0 X' tg us fg)
    (ht : ∀ X', Cn g G k N (relS scope sc) X' → PTs X' ifs (tr g N0 noW rlB fc)) (he : ∀ X', Cn g G k N (relS scope sc) X' → DE g N0 noW X' elt fe) (sub : subB us own = true) (hs : ∀ env x, foldedSetIterable iter env x = pure x) :
    DL g N0 Wx X (.ListComp elt [⟨tg, iter, ifs, 0⟩] scope pos) (fun env => do let ds ← fi env; compM fg fc fe (wipeE env (own.map (·.2))) ds) :=
  dl_comp c.ok.calm c.nd hi (by rw [c.hN, c.hs]; exact blkB_ok ok) (fun s H C cl fp => hg _ (c.blk s H scope cl C fp) fun _ h => h) (fun s H C cl fp => ht _ (c.blk s H scope cl C fp)) (fun s H C cl fp => he _ (c.blk s H scope cl C fp)) (subB_ok sub) (hs _)
theorem setCx {i : Nat} {y : Str} {py spos : Pos} (c : Cn g G k N sc X) (own : List (Str × Nat)) (hy : plocB N sc y i = true) (hw : swapsWith (.ListComp elt [⟨tg, iter, ifs, 0⟩] scope pos) (some (.Name y py)) spos.line (env0 sc) = pure true)
    (hi : DI g w0.N Wx Keep X tg iter fi) (ok : blkB N sc scope own = true) (hg : ∀ X', Cn g G k N (relS scope sc) X' → (∀ x, isCell scope x = true → X'.fn x = true) → DG g w0.N X' tg us fg)
    (ht : ∀ X', Cn g G k N (relS scope sc) X' → PTs X' ifs (tr g w0.N noW rlB fc)) (he : ∀ X', Cn g G k N (relS scope sc) X' → DE g w0.N noW X' elt fe) (sub : subB us own = true) (hs : ∀ env x, foldedSetIterable iter env x = pure x)
    {f : Ev → M Sl} (hm : ∀ {σ : L2.St} {H : Hp} {Q : VK}, tr g w0.N Wx (rlX g) f σ H Q → tr g w0.N Wx (NewL g) (fun env => do let ds ← fi env; compM fg fc fe (wipeE env (own.map (·.2))) ds) σ H Q) :
    DS g Wx w0 X (.Assign [.Name y py] (.ListComp elt [⟨tg, iter, ifs, 0⟩] scope pos) spos) (setM i f) := by
  obtain ⟨h1, h2⟩ := c.ploc hy
  refine ds_setC ?_
  exact PS.imp (ps_setLc c.ok.calm c.nd h1 h2 ((swith_env c.hs).trans hw) hi (by rw [c.hN, c.hs]; exact blkB_ok ok) (fun s H C cl fp => hg _ (c.blk s H scope cl C fp) fun _ h => h) (fun s H C cl fp => ht _ (c.blk s H scope cl C fp)) (fun s H C cl fp => he _ (c.blk s H scope cl C fp)) (hs _)) fun E σ H h => tr_lc (subB_ok sub) (hm h)
end
end Cn
end Pc

set_option Elab.async false
set_option linter.all false
set_option autoImplicit false
set_option maxRecDepth 100000
set_option maxHeartbeats 4000000
/-! Pc, part Zi: more steps of meanings. -/
namespace Pc
open PySem PySem.Spec PyProof.Rows L2
section
variable {S : Store} {E : XQ}
theorem wp_subHD {fo fi fe : Ev → M D} {env : Ev} {Q : Out → Store → Prop} : Wp (subHDM fo fi fe env) S E Q ↔ Wp (fe env) S E fun d S1 => Wp (fo env) S1 E fun x S2 => Wp (fi env) S2 E fun j S3 => Wp (putHD x j d) S3 E fun _ S4 => Q (.nx env) S4 := by
  unfold subHDM
  simp only [wp_bind, wp_pure]
theorem w_putHD {h : Nat} {kvs : List (Key × D)} {k : Key} {j d : D} {Q : Unit → Store → Prop} (e : S[h]? = some (.dct kvs)) (e2 : keyD j = some k) (hl : kvs.length < sizeLine) (q : Q () (S.set h (.dct (putD kvs k d)))) : Wp (putHD (.obj h) j d) S E Q := by
  rcases putHD_ok (x := .obj h) (j := j) (d := d) (S := S) with z | ⟨h', kvs', k', e0, e1, e3, _, z⟩
  · exfalso
    unfold putHD at z
    simp only [e, e2, hl, if_true] at z
    cases z
  · cases e0
    rw [e] at e1
    cases e1
    rw [e2] at e3
    cases e3
    exact wp_of z q
theorem w_cat {x y : D} {xs : List D} {Q : List D → Store → Prop} (h : catD (deref S x) (deref S y) = some xs) (q : Q xs S) : Wp (catM x y) S E Q := wp_of (by unfold catM; rw [h]; rfl) q
theorem w_fld {c : Nat} {f : Str} {x d : D} {fs : List (Str × D)} {Q : D → Store → Prop} (h : viewI S x = some (c, fs)) (h2 : fs.lookup f = some d) (q : Q d S) : Wp (fldM c f x) S E Q := by
  refine wp_of (a := d) (S' := S) ?_ q
  unfold fldM
  rw [h]
  dsimp only
  rw [if_pos rfl, h2]
  rfl
theorem w_isI {c : Nat} {m : Str} {x : D} {fs : List (Str × D)} {Q : Unit → Store → Prop} (h : viewI S x = some (c, fs)) (h2 : fs.lookup m = none) (q : Q () S) : Wp (isI c m x) S E Q := by
  refine wp_of (a := ()) (S' := S) ?_ q
  unfold isI
  rw [h]
  dsimp only
  rw [if_pos ⟨rfl, h2⟩]
theorem w_isC {c : Nat} {x : D} {fs : List (Str × D)} {Q : Unit → Store → Prop} (h : viewI S x = some (c, fs)) (q : Q () S) : Wp (isC c x) S E Q := by
  refine wp_of (a := ()) (S' := S) ?_ q
  unfold isC
  rw [h]
  dsimp only
  rw [if_pos rfl]
theorem w_noEx {α : Type} {x : M α} {Q : α → Store → Prop} (h : Wp x S (fun _ _ _ => False) Q) : Wp (noEx x) S E Q := by
  obtain ⟨a, S', e, q⟩ := wp_ok h
  exact wp_of (by unfold noEx; rw [e]) q
theorem w_prop {c : Nat} {sem : List D → M D} {x : D} {Q : D → Store → Prop} (h : Wp (isC c x) S E fun _ S1 => Wp (noEx (sem [x])) S1 E Q) : Wp (propM c sem x) S E Q := wp_bind.mpr h
theorem w_meth {c n : Nat} {m : Str} {sem : List D → M D} {fo : Ev → M D} {fa : Ev → M (List D)} {env : Ev} {Q : D → Store → Prop} (h : Wp (fo env) S E fun x S1 => Wp (isI c m x) S1 E fun _ S2 => Wp (fa env) S2 E fun ds S3 => Wp (callN n sem (x :: ds)) S3 E Q) : Wp (methM c m n sem fo fa env) S E Q := by
  unfold methM
  simp only [wp_bind]
  exact h
theorem w_callI {n : Nat} {init : List D → FM} {ds : List D} {Q : List (Str × D) → Store → Prop} (h : ds.length = n) (q : Wp (init ds) S E Q) : Wp (callI n init ds) S E Q := by
  unfold callI
  rw [if_pos h]
  exact q
theorem w_init {n : Nat} {f : Ev → List (Str × D) → FM} {ds : List D} {Q : List (Str × D) → Store → Prop} (q : Wp (f (envI n ds) []) S E Q) : Wp (initM n f ds) S E Q := q
theorem w_fit {fs : List (Str × D)} {Q : Unit → Store → Prop} (h : fs.length < 1000) (q : Q () S) : Wp (fitF fs) S E Q := by
  unfold fitF
  rw [if_pos h]
  exact q
theorem w_aug {i : Nat} {op : Int → Int → Int} {f : Ev → M D} {env : Ev} {a : Int} {Q : Out → Store → Prop} (h : env[i]? = some (.val (.int a))) (q : Wp (f env) S E fun y S1 => ∃ b, y = .int b ∧ Q (.nx (env.set i (.val (.int (op a b))))) S1) : Wp (augM i op f env) S E Q := by
  unfold augM
  refine wp_bind.mpr (w_rd _ h (wp_bind.mpr (wp_mono q ?_)))
  rintro y S1 ⟨b, rfl, q⟩
  exact q
theorem w_appop {i j : Nat} {fe : Ev → M D} {env : Ev} {xs ys : List D} {Q : Out → Store → Prop} (hi : env[i]? = some (.own xs)) (hj : env[j]? = some (.own ys))
    (q : Wp (fe env) S E fun d S1 => ∃ v zs ws, popAtC ys [d] = some (v, zs) ∧ appC xs [v] = some (.non, ws) ∧ Q (.nx ((env.set j (.own zs)).set i (.own ws))) S1) : Wp (appopM i j fe env) S E Q := by
  unfold appopM
  simp only [hi, hj]
  refine wp_bind.mpr (wp_mono q ?_)
  rintro d S1 ⟨v, zs, ws, e1, e2, q⟩
  simp only [e1, e2]
  exact q
/-- a while with a measure -/
theorem wp_while {fc : Ev → M Bool} {fb : Ev → M Out} {Q : Out → Store → Prop} (I : Nat → Ev → Store → Prop) (hs : ∀ n env S, I n env S → Wp (fc env) S E fun b S1 => (b = true → Wp (fb env) S1 E fun o S2 => match o with
      | .nx e => ∃ m, m < n ∧ I m e S2
      | .ct e => ∃ m, m < n ∧ I m e S2
      | .bk e => Q (.nx e) S2
      | .rt d => Q (.rt d) S2) ∧ (b = false → Q (.nx env) S1)) : ∀ (f n : Nat) (env : Ev) (S : Store), n < f → I n env S → Wp (whileM fc fb f env) S E Q
  | 0, n, env, S, hf, _ => absurd hf (Nat.not_lt_zero _)
  | f + 1, n, env, S, hf, hI => by
    simp only [whileM]
    refine wp_bind.mpr (wp_mono (hs n env S hI) ?_)
    rintro b S1 ⟨h1, h2⟩
    cases b with
    | false => exact h2 rfl
    | true =>
      rw [if_pos rfl]
      refine wp_bind.mpr (wp_mono (h1 rfl) ?_)
      intro o S2 ho
      cases o with
      | nx e => obtain ⟨m, hm, hI2⟩ := ho; exact wp_while I hs f m e S2 (by omega) hI2
      | ct e => obtain ⟨m, hm, hI2⟩ := ho; exact wp_while I hs f m e S2 (by omega) hI2
      | bk e => exact ho
      | rt d => exact ho
theorem w_whileF {fc : Ev → M Bool} {fb : Ev → M Out} {env : Ev} {fuel : Nat} {Q : Out → Store → Prop} (I : Nat → Ev → Store → Prop) (n : Nat) (hn : n < fuel) (h0 : I n env S) (hs : ∀ n env S, I n env S → Wp (fc env) S E fun b S1 => (b = true → Wp (fb env) S1 E fun o S2 => match o with
      | .nx e => ∃ m, m < n ∧ I m e S2
      | .ct e => ∃ m, m < n ∧ I m e S2
      | .bk e => Q (.nx e) S2
      | .rt d => Q (.rt d) S2) ∧ (b = false → Q (.nx env) S1)) : Wp (fun S => whileM fc fb fuel env S) S E Q := wp_while I hs fuel n env S hn h0
/-- a for whose items are told by a function -/
theorem w_for {γ : Type} {fg : D → Ev → Option Ev} {body : Ev → M Out} {Q : Out → Store → Prop} {env : Ev} (xs : List γ) (enc : γ → D) (I : Nat → Ev → Store → Prop) (h0 : I 0 env S)
    (hs : ∀ (i : Nat) x env S, xs[i]? = some x → I i env S → ∃ env1, fg (enc x) env = some env1 ∧ Wp (body env1) S E fun o S' => match o with
      | .nx e => I (i + 1) e S'
      | .ct e => I (i + 1) e S'
      | .bk e => Q (.nx e) S'
      | .rt d => Q (.rt d) S')
    (hd : ∀ env S, I xs.length env S → Q (.nx env) S) : Wp (forM fg body (xs.map enc) env) S E Q := by
  refine wp_for I h0 (fun i d env S e hI => ?_) fun env S hI => hd env S (by rwa [List.length_map] at hI)
  rw [List.getElem?_map] at e
  obtain ⟨x, hx, rfl⟩ := Option.map_eq_some_iff.mp e
  exact hs i x env S hx hI
/-- range(n) -/
theorem w_forR {fg : D → Ev → Option Ev} {body : Ev → M Out} {Q : Out → Store → Prop} {env : Ev} {n : Nat} {lo : Int} (I : Nat → Ev → Store → Prop) (h0 : I 0 env S)
    (hs : ∀ (i : Nat) env S, i < n → I i env S → ∃ env1, fg (.int (lo + (i : Int))) env = some env1 ∧ Wp (body env1) S E fun o S' => match o with
      | .nx e => I (i + 1) e S'
      | .ct e => I (i + 1) e S'
      | .bk e => Q (.nx e) S'
      | .rt d => Q (.rt d) S')
    (hd : ∀ env S, I n env S → Q (.nx env) S) : Wp (forM fg body ((List.range n).map fun (i : Nat) => D.int (lo + (i : Int))) env) S E Q := by
  refine wp_for I h0 (fun i d env S e hI => ?_) fun env S hI => hd env S (by simpa using hI)
  obtain ⟨rfl, hi⟩ := rng_get e
  exact hs i env S hi hI
theorem w_disp {r : Ev → M (List (Key × D))} {env : Ev} {Q : List (Key × D) → Store → Prop} (h : Wp (r env) S E fun kvs S' => kvs.length ≤ 15 ∧ Q (mergeD [] kvs) S') : Wp (dispM r env) S E Q := by
  unfold dispM
  refine wp_bind.mpr (wp_mono h ?_)
  rintro kvs S' ⟨hl, q⟩
  rw [if_pos hl]
  exact q
theorem wp_pair {fk fv : Ev → M D} {r : Ev → M (List (Key × D))} {env : Ev} {Q : List (Key × D) → Store → Prop} : Wp (pairM fk fv r env) S E Q ↔ Wp (fk env) S E fun k S1 => Wp (ofO (keyD k)) S1 E fun kk S2 => Wp (fv env) S2 E fun v S3 => Wp (r env) S3 E fun rs S4 => Q ((kk, v) :: rs) S4 := by
  unfold pairM
  simp only [wp_bind, wp_pure]
end
end Pc

set_option Elab.async false
set_option linter.all false
set_option autoImplicit false
set_option maxRecDepth 100000
set_option maxHeartbeats 4000000
/-! Pc, part Zj: sorted lists by values. -/
namespace Pc
open PySem PySem.Spec PyProof.Rows L2
theorem toPL_ints : ∀ (ns : List Int), toPL (ns.map D.int) = ns.map PyData.int
  | [] => rfl
  | n :: ns => by simp only [List.map_cons, toPL, D.toP, toPL_ints ns]
theorem le_tupI (a b : List Int) : PySem.W.dataLe false D.toP (tupI a) (tupI b) = decide (a ≤ b) := by
  show (!PySem.W.dataLt (D.toP (tupI b)) (D.toP (tupI a))) = _
  simp only [D.toP, toPL_ints]
  rw [PySem.W.dataLt_tuple]
  show (!PySem.W.rowLt (b.map .int) (a.map .int)) = _
  rw [PySem.W.dataLt_ints]
  by_cases h : b < a
  · have h' : ¬ a ≤ b := fun r => List.not_lt.mpr r h
    simp [h, h']
  · have h' : a ≤ b := List.not_lt.mp h
    simp [h, h']
theorem le_int (a b : Int) : PySem.W.dataLe false D.toP (.int a) (.int b) = decide (a ≤ b) := by
  show (!PySem.W.dataLt (.int b) (.int a)) = _
  rw [PySem.W.dataLt_int, PySem.W.not_lt_int]
def sortI (ns : List Int) : List Int := ns.mergeSort fun a b => decide (a ≤ b)
def sortT (L : List (List Int)) : List (List Int) := L.mergeSort fun a b => decide (a ≤ b)
theorem sortD_ints (ns : List Int) : sortD (ns.map D.int) = (sortI ns).map D.int := by
  unfold sortD sortI
  exact (List.map_mergeSort fun a _ b _ => (le_int a b).symm).symm
theorem sortD_tups (L : List (List Int)) : sortD (L.map tupI) = (sortT L).map tupI := by
  unfold sortD sortT
  exact (List.map_mergeSort fun a _ b _ => (le_tupI a b).symm).symm
theorem sortT_pw (L : List (List Int)) : (sortT L).Pairwise (fun a b => a ≤ b) := by
  have h := List.pairwise_mergeSort (le := fun (a b : List Int) => decide (a ≤ b)) (fun a b c h1 h2 => by
    simp only [decide_eq_true_eq] at *
    exact List.le_trans h1 h2) (fun a b => by
    simp only [Bool.or_eq_true, decide_eq_true_eq]
    exact List.le_total a b) L
  exact h.imp fun hab => of_decide_eq_true hab
theorem sortI_pw (L : List Int) : (sortI L).Pairwise (fun a b => a ≤ b) := by
  have h := List.pairwise_mergeSort (le := fun (a b : Int) => decide (a ≤ b)) (fun a b c h1 h2 => by
    simp only [decide_eq_true_eq] at *
    omega) (fun a b => by
    simp only [Bool.or_eq_true, decide_eq_true_eq]
    omega) L
  exact h.imp fun hab => of_decide_eq_true hab
theorem sortT_perm (L : List (List Int)) : (sortT L).Perm L := List.mergeSort_perm _ _
theorem sortI_perm (L : List Int) : (sortI L).Perm L := List.mergeSort_perm _ _
theorem sortT_eq {L L' : List (List Int)} (p : L.Perm L') (s : L'.Pairwise (fun a b => a ≤ b)) : sortT L = L' :=
  ((sortT_perm L).trans p).eq_of_pairwise (fun a b _ _ h1 h2 => List.le_antisymm h1 h2) (sortT_pw L) s
theorem sortI_eq {L L' : List Int} (p : L.Perm L') (s : L'.Pairwise (fun a b => a ≤ b)) : sortI L = L' :=
  ((sortI_perm L).trans p).eq_of_pairwise (fun a b _ _ h1 h2 => by omega) (sortI_pw L) s
theorem sortI_asc {L : List Int} (h : L.Nodup) : (sortI L).Pairwise (fun a b => a < b) := by
  have h1 := sortI_pw L
  have h2 : (sortI L).Nodup := (sortI_perm L).nodup_iff.mpr h
  exact (h1.and h2).imp fun ⟨a, b⟩ => by omega
theorem alA_ints : ∀ (x y : List Int), PySem.W.alikeAll (x.map PyData.int) (y.map PyData.int) = true
  | [], _ => by simp [PySem.W.alikeAll]
  | _ :: _, [] => by simp [PySem.W.alikeAll]
  | a :: x, b :: y => by simp [PySem.W.alikeAll, PySem.W.alike, alA_ints x y]
theorem al_tupI (x y : List Int) : alD (tupI x) (tupI y) = true := by
  unfold alD
  simp only [D.toP, toPL_ints, PySem.W.alike, alA_ints]
theorem sortS_tups {L : List (List Int)} (hne : ∀ l ∈ L, l ≠ []) (h : L.length ≤ 1000000) : sortS [.lst (L.map tupI)] = some ((sortT L).map tupI) := by
  rw [← sortD_tups]
  refine sort_ok ?_
  unfold sortOk
  have h1 : okdL 30 (L.map tupI) = true := okd_one _ _ fun x hx => by
    obtain ⟨l, _, rfl⟩ := List.mem_map.mp hx
    exact okd_tupI 29 l
  have h2 : (L.map tupI).all (fun a => (L.map tupI).all (alD a)) = true := by
    rw [List.all_eq_true]
    intro a ha
    rw [List.all_eq_true]
    intro b hb
    obtain ⟨x, _, rfl⟩ := List.mem_map.mp ha
    obtain ⟨y, _, rfl⟩ := List.mem_map.mp hb
    exact al_tupI x y
  have h3 : (L.map tupI).all isTupC = true := by
    rw [List.all_eq_true]
    intro a ha
    obtain ⟨x, hx, rfl⟩ := List.mem_map.mp ha
    cases x with
    | nil => exact absurd rfl (hne [] hx)
    | cons _ _ => rfl
  rw [h1, h2, h3]
  simp only [Bool.true_and, Bool.true_or, decide_eq_true_eq]
  rw [List.length_map, sizeLine_eq]
  omega
theorem sortS_ints {ns : List Int} (h : ns.length ≤ 1000000) : sortS [.lst (ns.map D.int)] = some ((sortI ns).map D.int) := by
  rw [← sortD_ints]
  refine sort_ok ?_
  unfold sortOk
  have h1 : okdL 30 (ns.map D.int) = true := okd_ints _ _
  have h2 : (ns.map D.int).all (fun a => (ns.map D.int).all (alD a)) = true := by
    rw [List.all_eq_true]
    intro a ha
    rw [List.all_eq_true]
    intro b hb
    obtain ⟨x, _, rfl⟩ := List.mem_map.mp ha
    obtain ⟨y, _, rfl⟩ := List.mem_map.mp hb
    simp [alD, D.toP, PySem.W.alike]
  have h3 : (ns.map D.int).all isFlat = true := by
    rw [List.all_eq_true]
    intro a ha
    obtain ⟨x, _, rfl⟩ := List.mem_map.mp ha
    rfl
  rw [h1, h2, h3]
  simp only [Bool.true_and, Bool.or_true, decide_eq_true_eq]
  rw [List.length_map, sizeLine_eq]
  omega
theorem cat_ok {xs ys : List D} (h : xs.length + ys.length ≤ 1000000) : catD (.lst xs) (.lst ys) = some (xs ++ ys) := if_pos (Nat.le_trans h (by rw [sizeLine_eq]; omega))
end Pc

set_option Elab.async false
set_option linter.all false
set_option autoImplicit false
set_option maxRecDepth 100000
set_option maxHeartbeats 4000000
/-! Pc, part Zk: steps for what judges any value. -/
namespace Pc
open PySem PySem.Spec PyProof.Rows L2
def D.isInt : D → Bool
  | .int _ => true
  | _ => false
def D.isBl : D → Bool
  | .bl _ => true
  | _ => false
def D.isTup : D → Bool
  | .tup _ => true
  | _ => false
def D.isStr : D → Bool
  | .str _ => true
  | _ => false
def D.isLst : D → Bool
  | .lst _ => true
  | _ => false
def D.isDct : D → Bool
  | .dct _ => true
  | _ => false
/-- a value of a built-in kind -/
abbrev D.pl (d : D) : Prop := (tyN d).isSome = true
theorem isi_int {d : D} (h : d.pl) : isiD "int" d = some (.bl (d.isInt || d.isBl)) := by
  cases d <;> first | (exfalso; cases h; done) | kernel_rfl
theorem isi_bool {d : D} (h : d.pl) : isiD "bool" d = some (.bl d.isBl) := by
  cases d <;> first | (exfalso; cases h; done) | kernel_rfl
theorem isi_tuple {d : D} (h : d.pl) : isiD "tuple" d = some (.bl d.isTup) := by
  cases d <;> first | (exfalso; cases h; done) | kernel_rfl
theorem isi_str {d : D} (h : d.pl) : isiD "str" d = some (.bl d.isStr) := by
  cases d <;> first | (exfalso; cases h; done) | kernel_rfl
theorem isi_list {d : D} (h : d.pl) : isiD "list" d = some (.bl d.isLst) := by
  cases d <;> first | (exfalso; cases h; done) | kernel_rfl
theorem isi_dict {d : D} (h : d.pl) : isiD "dict" d = some (.bl d.isDct) := by
  cases d <;> first | (exfalso; cases h; done) | kernel_rfl
theorem pl_deref {d : D} {S : Store} (h : d.pl) : deref S d = d := by
  cases d <;> first | rfl | cases h
theorem okd_pl {n : Nat} {d : D} (h : okd n d = true) : d.pl := by
  cases d <;> first | rfl | (cases n <;> simp [okd] at h)
section
variable {S : Store} {E : XQ} {Q : D → Store → Prop} {d : D}
theorem w_isi {T : String} {y : D} (h : isiD T (deref S d) = some y) (q : Q y S) : Wp (isiM T d) S E Q := wp_of (by unfold isiM; rw [h]; rfl) q
theorem w_isiI (h : d.pl) (q : Q (.bl (d.isInt || d.isBl)) S) : Wp (isiM "int" d) S E Q := w_isi (by rw [pl_deref h]; exact isi_int h) q
theorem w_isiB (h : d.pl) (q : Q (.bl d.isBl) S) : Wp (isiM "bool" d) S E Q := w_isi (by rw [pl_deref h]; exact isi_bool h) q
theorem w_isiT (h : d.pl) (q : Q (.bl d.isTup) S) : Wp (isiM "tuple" d) S E Q := w_isi (by rw [pl_deref h]; exact isi_tuple h) q
theorem w_isiS (h : d.pl) (q : Q (.bl d.isStr) S) : Wp (isiM "str" d) S E Q := w_isi (by rw [pl_deref h]; exact isi_str h) q
theorem w_isiL (h : d.pl) (q : Q (.bl d.isLst) S) : Wp (isiM "list" d) S E Q := w_isi (by rw [pl_deref h]; exact isi_list h) q
theorem w_compD {fg : D → Ev → Option Ev} {fc : Ev → M Bool} {fe : Ev → M D} {base : Ev} {Q : List D → Store → Prop} {xs : List D} (P : D → Bool) (F : D → D)
    (hs : ∀ x ∈ xs, ∃ env, fg x base = some env ∧ Still (fc env) S (P x) ∧ (P x = true → Still (fe env) S (F x))) (q : Q ((xs.filter P).map F) S) : Wp (compM fg fc fe base xs) S E Q := by
  have h := w_comp (fg := fg) (fc := fc) (fe := fe) (base := base) (S := S) (E := E) (Q := Q) xs id P F hs q
  rwa [List.map_id] at h
/-- comprehensions without a condition -/
theorem w_compA {γ : Type} {fg : D → Ev → Option Ev} {fe : Ev → M D} {base : Ev} {Q : List D → Store → Prop} (xs : List γ) (enc F : γ → D) (hs : ∀ x ∈ xs, ∃ env, fg (enc x) base = some env ∧ Still (fe env) S (F x)) (q : Q (xs.map F) S) : Wp (compM fg (fun _ => pure true) fe base (xs.map enc)) S E Q := by
  refine w_comp xs enc (fun _ => true) F (fun x hx => ?_) (by rw [filter_tt]; exact q)
  obtain ⟨env, e, h⟩ := hs x hx
  exact ⟨env, e, ⟨rfl, rfl⟩, fun _ => h⟩
theorem w_compDA {fg : D → Ev → Option Ev} {fe : Ev → M D} {base : Ev} {Q : List D → Store → Prop} {xs : List D} (F : D → D) (hs : ∀ x ∈ xs, ∃ env, fg x base = some env ∧ Still (fe env) S (F x)) (q : Q (xs.map F) S) : Wp (compM fg (fun _ => pure true) fe base xs) S E Q := by
  have h := w_compA (fg := fg) (fe := fe) (base := base) (S := S) (E := E) (Q := Q) xs id F hs q
  rwa [List.map_id] at h
theorem w_allB {γ : Type} {xs : List γ} {p : γ → Bool} (q : Q (.bl (xs.all p)) S) : Wp (opN allS [.lst (xs.map fun x => .bl (p x))]) S E Q := by
  refine w_opN (d := .bl (xs.all p)) ?_ q
  have e : (xs.map fun x => D.bl (p x)) = (xs.map p).map D.bl := by rw [List.map_map]; rfl
  show allS [.lst (xs.map fun x => D.bl (p x))] = _
  rw [e, all_bls]
  simp [List.all_map]
theorem any_bls (xs : List Bool) : anyS [.lst (xs.map D.bl)] = some (.bl (xs.any id)) := by
  show (blsOf (xs.map D.bl)).map (fun ns => D.bl (ns.any id)) = _
  rw [blsOf_map]
  rfl
theorem w_anyB {γ : Type} {xs : List γ} {p : γ → Bool} (q : Q (.bl (xs.any p)) S) : Wp (opN anyS [.lst (xs.map fun x => .bl (p x))]) S E Q := by
  refine w_opN (d := .bl (xs.any p)) ?_ q
  have e : (xs.map fun x => D.bl (p x)) = (xs.map p).map D.bl := by rw [List.map_map]; rfl
  show anyS [.lst (xs.map fun x => D.bl (p x))] = _
  rw [e, any_bls]
  simp [List.any_map]
theorem w_sumI {γ : Type} {xs : List γ} {f : γ → Int} (q : Q (.int (xs.map f).sum) S) : Wp (opN sumS [.lst (xs.map fun x => .int (f x))]) S E Q := by
  refine w_opN (d := .int (xs.map f).sum) ?_ q
  have e : (xs.map fun x => D.int (f x)) = (xs.map f).map D.int := by rw [List.map_map]; rfl
  show sumS [.lst (xs.map fun x => D.int (f x))] = _
  rw [e]
  exact sum_ints _
theorem w_chain {s1 s2 : D → D → Option D} {fa fb fc : Ev → M D} {env : Ev} (h : Wp (fa env) S E fun x S1 => Wp (fb env) S1 E fun y S2 => ∃ b, s1 (deref S2 x) (deref S2 y) = some (.bl b) ∧ (b = true → Wp (fc env) S2 E fun u S3 => Wp (op2 s2 y u) S3 E Q) ∧ (b = false → Q (.bl false) S2)) : Wp (chainM s1 s2 fa fb fc env) S E Q := by
  unfold chainM
  refine wp_bind.mpr (wp_mono h fun x S1 h1 => wp_bind.mpr (wp_mono h1 ?_))
  rintro y S2 ⟨b, e, ht, hf⟩
  refine wp_bind.mpr (w_op2 e (wp_bind.mpr (w_asB ?_)))
  cases b with
  | true => rw [if_pos rfl]; exact wp_bind.mpr (ht rfl)
  | false => rw [if_neg Bool.false_ne_true]; exact hf rfl
end
end Pc

set_option Elab.async false
set_option linter.all false
set_option autoImplicit false
set_option maxRecDepth 100000
set_option maxHeartbeats 4000000
/-! Pc, part Zl: values that can be shown; lengths. -/
namespace Pc
open PySem PySem.Spec PyProof.Rows L2
theorem shwL_mem : ∀ {n : Nat} {xs : List D} {x : D}, shwL n xs = true → x ∈ xs → shw n x = true
  | n, y :: xs, x, h, hx => by
    simp only [shwL, Bool.and_eq_true] at h
    rcases List.mem_cons.mp hx with rfl | hx
    · exact h.1
    · exact shwL_mem h.2 hx
theorem wtL_mem : ∀ {xs : List D} {x : D}, x ∈ xs → wt x ≤ wtL xs
  | y :: xs, x, hx => by
    simp only [wtL]
    rcases List.mem_cons.mp hx with rfl | hx
    · omega
    · have := wtL_mem hx
      omega
theorem Sh.pl {n m : Nat} {d : D} (h : Sh n m d) : d.pl := by
  have := h.ok
  cases d <;> first | rfl | (cases n <;> simp [shw] at this)
theorem Sh.items {n m : Nat} {xs : List D} (h : Sh n m (.tup xs)) : ∀ x ∈ xs, Sh (n - 1) m x := fun x hx => by
  have h1 := h.ok
  have h2 := h.le
  cases n with
  | zero => simp [shw] at h1
  | succ n =>
    simp only [shw] at h1
    simp only [wt] at h2
    have := wtL_mem hx
    exact ⟨shwL_mem h1 hx, by omega⟩
theorem Sh.le_of {n m m' : Nat} {d : D} (h : Sh n m d) (hm : m ≤ m') : Sh n m' d := ⟨h.ok, Nat.le_trans h.le hm⟩
theorem Sh.chk {n m : Nat} {d : D} (h : (shw n d && decide (wt d ≤ m)) = true) : Sh n m d := by
  rw [Bool.and_eq_true, decide_eq_true_eq] at h
  exact ⟨h.1, h.2⟩
def shB (n m : Nat) (d : D) : Bool := shw n d && decide (wt d ≤ m)
theorem Sh.all {n m : Nat} {xs : List D} (h : xs.all (shB n m) = true) : ∀ x ∈ xs, Sh n m x := fun x hx => Sh.chk (List.all_eq_true.mp h x hx)
theorem log_small {i : Int} (h : -(2 ^ 1900) < i) (h2 : i < 2 ^ 1900) : i.natAbs.log2 < 1920 := by
  by_cases h0 : i.natAbs = 0
  · rw [h0]; decide +kernel
  · rw [Nat.log2_lt h0]
    have : i.natAbs < 2 ^ 1900 := by
      have h3 : (i.natAbs : Int) < 2 ^ 1900 := by omega
      exact_mod_cast h3
    exact Nat.lt_of_lt_of_le this (Nat.pow_le_pow_right (by decide) (by decide))
theorem cut_sub {xs : List D} {l h : Option Int} {x : D} (hx : x ∈ Pc.cutD xs l h) : x ∈ xs := by
  unfold Pc.cutD at hx
  exact List.mem_of_mem_drop (List.mem_of_mem_take hx)
theorem cut_len (xs : List D) (l h : Option Int) : (Pc.cutD xs l h).length ≤ xs.length := by
  unfold Pc.cutD
  rw [List.length_take, List.length_drop]
  omega
section
variable {S : Store} {E : XQ} {Q : D → Store → Prop}
theorem w_addT {x y : List D} (h : x.length + y.length ≤ 1000000) (q : Q (.tup (x ++ y)) S) : Wp (op2 addD (.tup x) (.tup y)) S E Q := w_op2 (if_pos (Nat.le_trans h (by rw [sizeLine_eq]; omega))) q
theorem w_mulT {x : D} {k : Int} (h0 : 1 ≤ k) (h1 : k ≤ 1000) (q : Q (.tup (List.replicate k.toNat x)) S) : Wp (op2 mulT (.tup [x]) (.int k)) S E Q := by
  refine w_op2 (d := .tup (List.replicate k.toNat x)) ?_ q
  show (if [x].isEmpty = false ∧ 1 ≤ k ∧ k ≤ 1000 ∧ [x].length ≤ 1000 then some (D.tup (List.replicate k.toNat [x]).flatten) else none) = _
  rw [if_pos ⟨rfl, h0, h1, by simp⟩]
  congr 2
  generalize k.toNat = n
  induction n with
  | zero => rfl
  | succ n ih => rw [List.replicate_succ, List.flatten_cons, ih, List.replicate_succ]; rfl
theorem w_repr {n m : Nat} {d : D} (h : Sh n m d) (hn : n ≤ 60) (hm : m ≤ 16777216) (q : Q (.str (shown d)) S) : Wp (opN reprSD [d]) S E Q := by
  refine w_opN (d := .str (shown d)) ?_ q
  show reprSD [deref S d] = _
  rw [pl_deref h.pl]
  exact h.repr hn hm
theorem w_neStr {x : PySem.Str} (q : Q (.bl false) S) : Wp (op2 neD (.str x) (.str x)) S E Q := by
  refine w_op2 (d := .bl false) ?_ q
  show neD (.str x) (.str x) = _
  rw [Pc.ne_str]
  simp
end
theorem ll_cut {xs : List D} {l h : Option Int} {c : Nat} (hc : xs.length ≤ c) : (Pc.cutD xs l h).length ≤ c := Nat.le_trans (cut_len xs l h) hc
theorem ll_app {x y : List D} {a b : Nat} (h1 : x.length ≤ a) (h2 : y.length ≤ b) : (x ++ y).length ≤ a + b := by rw [List.length_append]; omega
theorem ll_one {x : D} : [x].length ≤ 1 := Nat.le_refl _
theorem ll_cons {x : D} {xs : List D} {c : Nat} (h : xs.length ≤ c) : (x :: xs).length ≤ c + 1 := by rw [List.length_cons]; omega
theorem ll_nil : ([] : List D).length ≤ 0 := Nat.le_refl _
theorem ll_two {x y : D} : [x, y].length ≤ 2 := Nat.le_refl _
theorem w_addL {S : Store} {E : XQ} {Q : D → Store → Prop} {x y : List D} {a b : Nat} (h1 : x.length ≤ a) (h2 : y.length ≤ b) (hab : a + b ≤ 1000000) (q : Q (.tup (x ++ y)) S) : Wp (op2 addD (.tup x) (.tup y)) S E Q := w_addT (by omega) q
theorem w_catL {S : Store} {E : XQ} {Q : List D → Store → Prop} {x y : List D} {a b : Nat} (h1 : x.length ≤ a) (h2 : y.length ≤ b) (hab : a + b ≤ 1000000) (q : Q (x ++ y) S) : Wp (catM (.lst x) (.lst y)) S E Q := w_cat (cat_ok (by omega)) q
/-- items that can be shown -/
def Its (n m : Nat) (xs : List D) : Prop := ∀ x ∈ xs, Sh n m x
theorem its_cut {n m : Nat} {xs : List D} {l h : Option Int} (hx : Its n m xs) : Its n m (Pc.cutD xs l h) := fun x z => hx x (cut_sub z)
theorem its_app {n m : Nat} {x y : List D} (h1 : Its n m x) (h2 : Its n m y) : Its n m (x ++ y) := fun z hz => (List.mem_append.mp hz).elim (h1 z) (h2 z)
theorem its_one {n m : Nat} {x : D} (h : Sh n m x) : Its n m [x] := fun z hz => by rw [List.mem_singleton.mp hz]; exact h
theorem its_rev {n m : Nat} {x : List D} (h1 : Its n m x) : Its n m x.reverse := fun z hz => h1 z (List.mem_reverse.mp hz)
theorem ll_rev {x : List D} {c : Nat} (h : x.length ≤ c) : x.reverse.length ≤ c := by simpa using h
mutual
theorem shw_mono' : ∀ (d : D) {n n' : Nat}, n ≤ n' → shw n d = true → shw n' d = true
  | .non, _, n', _, _ => by cases n' <;> simp [shw]
  | .bl _, _, n', _, _ => by cases n' <;> simp [shw]
  | .int i, n, n', _, h => by cases n <;> cases n' <;> simpa [shw] using h
  | .str x, n, n', _, h => by cases n <;> cases n' <;> simpa [shw] using h
  | .tup xs, n, n', hn, h => by
    cases n with
    | zero => simp [shw] at h
    | succ n =>
      cases n' with
      | zero => omega
      | succ n' =>
        simp only [shw] at h ⊢
        exact shwL_mono xs (by omega) h
  | .lst xs, n, n', hn, h => by
    cases n with
    | zero => simp [shw] at h
    | succ n =>
      cases n' with
      | zero => omega
      | succ n' =>
        simp only [shw] at h ⊢
        exact shwL_mono xs (by omega) h
  | .dct xs, n, n', hn, h => by
    cases n with
    | zero => simp [shw] at h
    | succ n =>
      cases n' with
      | zero => omega
      | succ n' =>
        simp only [shw] at h ⊢
        exact shwK_mono xs (by omega) h
  | .ins _ _, n, _, _, h => by cases n <;> simp [shw] at h
  | .obj _, n, _, _, h => by cases n <;> simp [shw] at h
  | .ext _, n, _, _, h => by cases n <;> simp [shw] at h
  | .exn _ _ _ _, n, _, _, h => by cases n <;> simp [shw] at h
theorem shwL_mono : ∀ (xs : List D) {n n' : Nat}, n ≤ n' → shwL n xs = true → shwL n' xs = true
  | [], _, _, _, _ => by simp [shwL]
  | x :: xs, n, n', hn, h => by
    simp only [shwL, Bool.and_eq_true] at h ⊢
    exact ⟨shw_mono' x hn h.1, shwL_mono xs hn h.2⟩
theorem shwK_mono : ∀ (xs : List (Key × D)) {n n' : Nat}, n ≤ n' → shwK n xs = true → shwK n' xs = true
  | [], _, _, _, _ => by simp [shwK]
  | (k, x) :: xs, n, n', hn, h => by
    simp only [shwK, Bool.and_eq_true] at h ⊢
    exact ⟨⟨h.1.1, shw_mono' x hn h.1.2⟩, shwK_mono xs hn h.2⟩
end
theorem shw_mono {n n' : Nat} {d : D} (hn : n ≤ n') (h : shw n d = true) : shw n' d = true := shw_mono' d hn h
theorem Sh.up {n m n' m' : Nat} {d : D} (h : Sh n m d) (hn : n ≤ n') (hm : m ≤ m') : Sh n' m' d := ⟨shw_mono hn h.ok, Nat.le_trans h.le hm⟩
theorem sh_tup {n m c n' m' : Nat} {xs : List D} (h : Its n m xs) (hc : xs.length ≤ c) (hn : n + 1 ≤ n') (hm : c * (m + 2) + 3 ≤ m') : Sh n' m' (.tup xs) := (Sh.tup h hc).up hn hm
theorem sh_lst {n m c n' m' : Nat} {xs : List D} (h : Its n m xs) (hc : xs.length ≤ c) (hn : n + 1 ≤ n') (hm : c * (m + 2) + 3 ≤ m') : Sh n' m' (.lst xs) := (Sh.lst h hc).up hn hm
theorem enum_map {γ : Type} (xs : List γ) (enc : γ → D) : enumL (xs.map enc) = (xs.mapIdx fun i x => (i, x)).map fun p => .tup [.int (p.1 : Int), enc p.2] := by
  unfold enumL
  apply List.ext_getElem?
  intro i
  simp [List.getElem?_mapIdx]
  rfl
end Pc

set_option Elab.async false
set_option linter.all false
set_option autoImplicit false
set_option maxRecDepth 100000
set_option maxHeartbeats 4000000
/-! Pc, part Zm: str of a tuple. -/
namespace Pc
open PySem PySem.Spec PyProof.Rows L2
def strTS : List D → Option D
  | [.tup xs] => if repOkD (.tup xs) then some (.str (shown (.tup xs))) else none
  | _ => none
theorem cs_strT {g : Gc} {X : Cx} (hK : X.K = g.K) (Y : Sy g.K) (hg : X.A.guards = some []) (hu : X.A.units + 70 < cLine) : CallS g X (.type "str") strTS := by
  refine ⟨fun vs H Q => ∃ w v xs, w.H = H ∧ vs = [v] ∧ repOkD (.tup xs) = true ∧ RepV g w v (.tup xs) ∧ Q (.str (shown (.tup xs))) H, fun pins s σ H vs us Q I r h => ?_, fun w S vs ds d Q e sr ra q => ?_⟩
  · obtain ⟨w, v, xs, rfl, rfl, ho, hd, q⟩ := h
    obtain ⟨u, rfl, ru⟩ := vals1 r
    unfold repOkD at ho
    simp only [Bool.and_eq_true, decide_eq_true_eq] at ho
    obtain ⟨⟨o1, o2⟩, o3⟩ := ho
    have dep := okr_depth 60 (.tup xs) o1
    obtain ⟨as, rd, ns⟩ := hd.rds I hK Y o1 ru
    unfold shown at q
    simp only [D.toP] at rd q o2 o3 dep
    cases rd with
    | tuple h1 h2 h3 h4 => exact str_of_reads (.tuple h1 h2 h3 h4) o2 (fun _ => ns) hg (by omega) (fun _ _ z => z) (fun h' u tk hk => ⟨.str _, _, I.kept hk, ⟨_, rfl⟩, q⟩) o3
  · unfold strTS at e
    split at e
    · split at e
      · rename_i xs h
        cases e
        obtain ⟨v, rfl, r⟩ := ra.one
        exact ⟨w, v, xs, rfl, rfl, h, r, q w _ (Keep.refl w) sr (.str _)⟩
      · cases e
    · cases e
theorem Cn.s_strT {g : Gc} {G : Ge} {k : Nat} {N : List Str} {sc : Scope} {X : Cx} (c : Cn g G k N sc X) (hr : G.gr = true) (Y : Sy g.K) : CallS g X (.type "str") strTS := cs_strT c.ok.K Y (c.ok.gd hr) (by have := c.ok.room.un; omega)
theorem w_strT {S : Store} {E : XQ} {Q : D → Store → Prop} {n m : Nat} {xs : List D} (h : Sh n m (.tup xs)) (hn : n ≤ 60) (hm : m ≤ 16777216) (q : Q (.str (shown (.tup xs))) S) : Wp (opN strTS [.tup xs]) S E Q := by
  refine w_opN (d := .str (shown (.tup xs))) ?_ q
  have e := h.repr hn hm
  exact e
end Pc

set_option Elab.async false
set_option linter.all false
set_option autoImplicit false
set_option maxRecDepth 100000
set_option maxHeartbeats 4000000
/-! Pc, part Zn: len of an instance whose class has its own length. -/
namespace Pc
open PySem PySem.Spec PyProof.Rows L2
theorem tyAtN {M : Model} {h : Heap} {y C : Addr} {o : Obj} (ho : h.get? y = some o) (hc : o.cls = .ref C) : PySem.W.Looks M h (typeOf (.ref y)) (.ref C) :=
  (PySem.W.Looks.ld ho).andThen (by rw [hc]; exact .now)
theorem cspecF {M : Model} {A : Around} {E : Value → Shared → Prop} {s : Shared} {self : Value} {name : PySem.Str} {f : Addr} {args : List Value} {Q : Option Value → Shared → Prop} (sp : PySem.W.Looks M s.heap (specialOf self name) (some (.ref f))) (hb : PySem.W.Looks M s.heap (bindSpecial (.ref f) self) (.ref f, [self]))
    (hc : wpAny M A (call (.ref f) (self :: args)) (fun v => Q (some v)) E s) : wpAny M A (callSpecial? self name args) Q E s := by
  simp only [callSpecial?]
  refine wpAny_bind (sp.here ?_)
  exact wpAny_holding (wpAny_bind (hb.here (wpAny_bind (wpAny_mono hc (fun v s' h' => wpAny_pure h') fun _ _ h' => h'))))
section
variable {X : Cx} {CX : CXT} {k : Nat} {C a dx f : Addr} {fs : List (Str × V)} {fd : FuncData} {ps : List Str} {sp : Sp} {E : XK}
theorem lenF_run {pins : List (Addr × Obj)} {σ : L2.St} {H : Hp} {s : Shared} {Q : VK} {E' : Value → Shared → Prop} (I : Inv X pins σ H s) (ea : H a = some (.ins C dx fs)) (hm : Meth X.K C "__len__" f)
    (F : FnOk X.prog X.w X.K X.mg X.base CX k f fd ps sp) (hr : Room (k + 1) X.A) (hb : Binds X.K fd ps []) (hx : Passes CX X.nox E) (h : sp [.ref a] H (fun v H' => ∃ n : Int, v = .int n ∧ 0 ≤ n ∧ n < 2 ^ 63 ∧ Q v H') E) :
    wpAny (model X.prog X.w) X.A (call (.builtin "len") [.ref a]) (EP X pins σ Q) E' s := by
  obtain ⟨mA, O, _, _, _, _⟩ := ins_get I.hok ea
  have sl : PySem.W.Looks (model X.prog X.w) s.heap (specialOf (.ref a) "__len__") (some (.ref f)) := (tyAtN O.obj rfl).andThen (PySem.W.looks_findIn I.kIn hm.at_)
  have hl : ([Value.ref a] ++ []).length = ps.length := (F.len _ _ _ _ h).symm ▸ rfl
  refine Calls.call_function_entry kind_len plain_len entry_len (args_len1 _) ?_
  unfold Builtin.«len»
  refine wpAny_bind (m := oneArg "len" _) (wpAny_pure ?_)
  refine wpAny_bind (m := callSpecial? (.ref a) (PySem.Str.ofString "__len__")) (cspecF sl (PySem.W.bind_fn I.kIn _ (beq_iff_eq.mp hm.fn)) (wpAny_call ?_))
  refine codeAny_mono (F.run X.A.in1 X.stack s H ⟨[.ref a], []⟩ [.ref a] [.ref a] _ E hr.in1 I.env0.in1 (hb _ [.ref a] I.kIn hl) (.cons rfl .nil) h) fun r s' hq => ?_
  cases r with
  | error er => exact False.elim (hx pins σ H s er s' (I.wish _) hq)
  | ok fl =>
    cases fl with
    | ret u =>
      obtain ⟨v, H', I3, rv, n, rfl, h1, h2, q3⟩ := I.after hq
      obtain ⟨t, rfl⟩ := rv
      show wpAny _ _ _ _ _ _
      dsimp only
      refine wpAny_bind (wpAny_holding (wpAny_pure ?_))
      refine wpAny_bind (wpAny_letGo ?_)
      show wpAny _ _ (if n < 0 then _ else _) _ _ _
      rw [if_neg (by omega)]
      show wpAny _ _ (if n ≥ 2 ^ 63 then _ else _) _ _ _
      rw [if_neg (by omega)]
      exact wpAny_bind (wpAny_mkInt (wpAny_pure ⟨_, rfl, .int n, H', I3.tok _, ⟨_, rfl⟩, q3⟩))
    | next => exact False.elim hq
    | brk => exact False.elim hq
    | cont => exact False.elim hq
end
section
variable {g : Gc} {N0 : List Addr} {Wx : WX} {X : Cx} {w0 : Wd}
/-- len(o) by the class's own length -/
def lenIM (c : Nat) (sem : List D → M D) (x : D) : M D := do
  isC c x
  let y ← noEx (sem [x])
  match y with
  | .int n => if 0 ≤ n ∧ n < 2 ^ 63 then pure (.int n) else fail
  | _ => fail
theorem call_lenF {CX : CXT} {k : Nat} {C f : Addr} {fd : FuncData} {ps : List Str} {sp : Sp} {E : XK} (hm : Meth X.K C "__len__" f) (F : FnOk X.prog X.w X.K X.mg X.base CX k f fd ps sp) (hr : Room (k + 1) X.A) (hb : Binds X.K fd ps []) (hx : Passes CX X.nox E) :
    CallR X (.builtin "len") (fun vs H Q => ∃ a dx fs, vs = [.ref a] ∧ H a = some (.ins C dx fs) ∧ sp [.ref a] H (fun v H' => ∃ n : Int, v = .int n ∧ 0 ≤ n ∧ n < 2 ^ 63 ∧ Q v H') E) := by
  intro pins s σ H vs us Q I r ⟨a, dx, fs, e, ea, h⟩
  subst e
  rw [Vals.ref1 r]
  exact lenF_run I ea hm F hr hb hx h
/-- a class's own length -/
structure Lnr (g : Gc) (G : Ge) (k : Nat) (c : Nat) (sem : List D → M D) : Prop where
  ex : ∃ j, j + 1 ≤ k ∧ Mtd g G j c "__len__" 1 sem
theorem Lnr.mono {G : Ge} {j k c : Nat} {sem : List D → M D} (F : Lnr g G j c sem) (h : j ≤ k) : Lnr g G k c sem := by
  obtain ⟨i, h1, h2⟩ := F.ex
  exact ⟨i, Nat.le_trans h1 h, h2⟩
theorem Mtd.lnr {G : Ge} {k c : Nat} {sem : List D → M D} (F : Mtd g G k c "__len__" 1 sem) : Lnr g G (k + 1) c sem := ⟨k, Nat.le_refl _, F⟩
theorem Cn.lenI {G : Ge} {k c : Nat} {N : List Str} {sc : Scope} {e : Expr} {p pos : Pos} {l : List Str} {sem : List D → M D} {fe : Ev → M D} (cn : Cn g G k N sc X) (B : Bts l G) (F : Lnr g G k c sem) (hB : hasB l "len" = true) (hg : glB sc "len" = true) (hs : [e].all notStar = true) (he : DE g N0 Wx X e fe) :
    DE g N0 Wx X (.Call (.Name "len" p) [e] [] pos) (fun env => do let x ← fe env; lenIM c sem x) := by
  obtain ⟨j, hj, F⟩ := F.ex
  obtain ⟨f, fd, ps, hn, G', hm, hbd⟩ := F.ex
  have hK := cn.ok.K
  rw [← cn.hP, ← cn.hw, ← cn.hm, ← cn.hb] at G'
  have FO := G'.okF
  rw [← hK] at FO
  have pas : Passes (L2.CX X.prog X.w) X.nox (fun _ _ _ => False) := fun _ _ _ _ _ _ _ h => by
    obtain ⟨_, _, _, _, _, _, _, _, _, _, _, _, z⟩ := h
    exact z.elim
  have hs1 : notStar e = true := by simpa using hs
  refine PE.imp (pe_blt (isB "len") (cn.blt (B "len" hB) hg bb_len (by decide)) (call_lenF (by rw [hK]; exact hm) FO (cn.ok.room.mono hj) (by rw [hK]; exact hbd) pas) hs (pa_cons he pa_nil (star_cons hs1))) fun σ H Q ⟨w, env, S, ee, er, sr, q⟩ => ?_
  subst ee
  refine tr_intro er sr (pst_imp (pst_bind (relA := rl g) (fun _ _ _ _ _ z => z) q) fun x H1 ⟨w1, d, S1, e1, k1, s1, r1, q1⟩ => ?_)
  subst e1
  show ∃ a dx fs, [x] = [.ref a] ∧ _
  unfold lenIM at q1
  rcases isC_cases c d S1 with h | ⟨h, fs, ev⟩
  · rw [bind_bad h] at q1; exact q1.elim
  · rw [bind_ok h] at q1
    obtain ⟨a, dx, vs, rfl, h1, h2⟩ := r1.viewI s1 ev
    refine ⟨a, dx, vs, rfl, h1, w1, [d], S1, rfl, hn.symm, .cons r1 .nil, s1, ?_⟩
    cases e : sem [d] S1 with
    | ok y S2 =>
      rw [bind_ok (show noEx (sem [d]) S1 = .ok y S2 by unfold noEx; rw [e])] at q1
      intro w' v kp sr' rv
      cases y with
      | int n =>
        dsimp only at q1
        by_cases hn : 0 ≤ n ∧ n < 2 ^ 63
        · rw [if_pos hn] at q1
          cases rv
          exact ⟨n, rfl, hn.1, hn.2, q1 w' _ kp sr' (.int n)⟩
        · rw [if_neg hn] at q1; exact q1.elim
      | _ => exact q1.elim
    | ex c' fs' S2 => rw [bind_bad (show noEx (sem [d]) S1 = .bad by unfold noEx; rw [e])] at q1; exact q1.elim
    | bad => rw [bind_bad (show noEx (sem [d]) S1 = .bad by unfold noEx; rw [e])] at q1; exact q1.elim
end
end Pc

set_option Elab.async false
set_option linter.all false
set_option autoImplicit false
set_option maxRecDepth 100000
set_option maxHeartbeats 4000000
/-! Pc, part Zo: sorted(set(xs)), xs a list of tuples of ints of any lengths. -/
namespace Pc
open PySem PySem.Spec PyProof.Rows L2
abbrev encT (q : Addr × List Int) : PyData := .tuple (q.2.map PyData.int)
theorem rds_ints {h : Heap} : ∀ {us : List Value} {ns : List Int}, IntsAre us ns → ReadsAll h us (ns.map PyData.int) []
  | [], [], _ => .nil
  | u :: us, n :: ns, x => by
    cases x with
    | cons _ b => exact ReadsAll.cons (as := []) (bs := []) (.int _ _) (rds_ints (by assumption))
theorem rds_tup {h : Heap} {b : Addr} {ns : List Int} (x : TS.TupInts h (.ref b) ns) : Reads h (.ref b) (.tuple (ns.map PyData.int)) [] := by
  obtain ⟨a, xs, e, ⟨o, ho, hc, n, hd⟩, i⟩ := x
  cases e
  exact .tuple ho hc hd (rds_ints i)
theorem le_encT (a b : Addr × List Int) : PySem.W.dataLe false encT a b = decide (a.2 ≤ b.2) := by
  show (!PySem.W.dataLt (encT b) (encT a)) = _
  rw [PySem.W.dataLt_tuple]
  show (!PySem.W.rowLt (b.2.map .int) (a.2.map .int)) = _
  rw [PySem.W.dataLt_ints]
  by_cases h : b.2 < a.2
  · have h' : ¬ a.2 ≤ b.2 := fun r => List.not_lt.mpr r h
    simp [h, h']
  · have h' : a.2 ≤ b.2 := List.not_lt.mp h
    simp [h, h']
theorem each_refs : ∀ (L : List (Addr × List Int)), PySem.W.EachIs (fun u (q : Addr × List Int) => u = Value.ref q.1) (L.map fun q => Value.ref q.1) L
  | [] => .nil
  | _ :: L => .cons rfl (each_refs L)
theorem refs_each : ∀ {us : List Value} {L : List (Addr × List Int)}, PySem.W.EachIs (fun u (q : Addr × List Int) => u = Value.ref q.1) us L → us = L.map fun q => Value.ref q.1
  | _, _, .nil => rfl
  | _, _, .cons a t => by rw [List.map_cons, a, refs_each t]
theorem each_rds {h : Heap} {d : Addr} : ∀ (L : List (Addr × List Int)), (∀ q ∈ L, TS.TupInts h (.ref q.1) q.2) → PySem.W.EachIs (fun u (q : Addr × List Int) => ∃ as, Reads h u (encT q) as ∧ d ∉ as) (L.map fun q => Value.ref q.1) L
  | [], _ => .nil
  | q :: L, x => .cons ⟨[], rds_tup (x q List.mem_cons_self), by simp⟩ (each_rds L fun r hr => x r (List.mem_cons_of_mem _ hr))
theorem perm_map_inv {α β : Type} {f : α → β} {l : List α} {m : List β} (p0 : m.Perm (l.map f)) : ∃ k : List α, k.Perm l ∧ m = k.map f := by
  suffices h : ∀ {m n : List β}, m.Perm n → ∀ {l : List α}, n = l.map f → ∃ k : List α, k.Perm l ∧ m = k.map f from h p0 rfl
  intro m n p
  induction p with
  | nil => intro l e; exact ⟨l, .refl _, e⟩
  | cons x p ih =>
    intro l e
    cases l with
    | nil => cases e
    | cons y l =>
      rw [List.map_cons] at e
      injection e with e1 e2
      obtain ⟨k, h1, h2⟩ := ih e2
      exact ⟨y :: k, h1.cons y, by rw [List.map_cons, ← h2, e1]⟩
  | swap x y l' =>
    intro l e
    match l, e with
    | a :: b :: l, e =>
      rw [List.map_cons, List.map_cons] at e
      injection e with e1 e2
      injection e2 with e2 e3
      exact ⟨b :: a :: l, .swap _ _ _, by rw [List.map_cons, List.map_cons, e1, e2, e3]⟩
  | trans p q ih1 ih2 =>
    intro l e
    obtain ⟨k, h1, h2⟩ := ih2 e
    obtain ⟨k', h3, h4⟩ := ih1 h2
    exact ⟨k', h3.trans h1, h4⟩
section
variable {P : Program} {w : World} {A : Around} {E : Value → Shared → Prop} {s : Shared}
theorem sorted_setU {a : Addr} {L : List (Addr × List Int)} {es : Array (Int × Value)} {ep : Nat} {t : SetTable} {Q : Value → Shared → Prop} (R : SetTR P w s.heap a L es ep t) (hh : A.handled = none) (hu : A.units + 8 < cLine)
    (hB : ∀ p ∈ L, p.2 ≠ [])
    (hQ : ∀ s' p (out : Array Value) (c : Nat) (L' : List (Addr × List Int)), (∀ b o, s.heap.get? b = some o → s'.heap.get? b = some o) → s'.gens = s.gens → s'.os = s.os → s.heap.objs.size ≤ p →
      s'.heap.get? p = some (seqObj "list" out c) → out.toList = L'.map (fun q => Value.ref q.1) → L'.Perm L → L'.Pairwise (fun q r => q.2 ≤ r.2) → Q (.ref p) s') :
    wpAny (model P w) A (call (.builtin "sorted") [.ref a]) Q E s := by
  obtain ⟨o, ho, hex, hd⟩ := R.ob
  have hsz := R.size
  have hfew := R.few
  refine Calls.call_function_entry kind_sorted plain_sorted entry_sorted (args_sorted1 _) ?_
  unfold Builtin.«sorted»
  refine wpAny_bind (m := checkCount "sorted" 1 1 _) (wpAny_pure ?_)
  refine wpAny_bind (collect_set (A := A.in1) hh ⟨o, ho, hex.1, hd⟩ R.fits (by unfold scanBound; omega) R.tab.ris R.led fun s1 vs k1 hz g1 o1 pm => ?_)
  have hes : es.toList.map (·.2) = L.map fun q => Value.ref q.1 := by
    rw [R.rows]
    unfold rowsOf
    rw [List.map_map] <;> rfl
  rw [hes] at pm
  obtain ⟨L1, e1, hs⟩ : ∃ L1 : List (Addr × List Int), vs = L1.map (fun q => Value.ref q.1) ∧ L1.Perm L := by
    obtain ⟨L1, h1, h2⟩ := Pc.perm_map_inv (f := fun q : Addr × List Int => Value.ref q.1) pm
    exact ⟨L1, h2, h1⟩
  subst e1
  have hl1 : L1.length < 64 := by rw [hs.length_eq]; exact hfew
  refine wpAny_bind (wpAny_newList ?_ (by rw [sizeLine_eq]; simp; omega))
  have hoL : (s1.heap.push (seqObj "list" (L1.map fun q => Value.ref q.1).toArray 0)).get? s1.heap.objs.size = some (seqObj "list" (L1.map fun q => Value.ref q.1).toArray 0) := Heap.get?_push_size _ rfl
  have tk : ∀ q ∈ L1, TS.TupInts (s1.heap.push (seqObj "list" (L1.map fun q => Value.ref q.1).toArray 0)) (.ref q.1) q.2 := fun q hq => tupInts_of (P := P) (w := w) (isT_keep (R.tup q (hs.mem_iff.mp hq)) fun b u e => Heap.get?_push_of_some _ (k1 b u e))
  refine wpAny_bind (wpAny_holding (PySem.W.list_sort_data (s := { s1 with heap := s1.heap.push (seqObj "list" (L1.map fun q => Value.ref q.1).toArray 0) }) (R := fun u (q : Addr × List Int) => u = Value.ref q.1) (enc := encT) (bs := L1) hoL (each_refs L1) (each_rds L1 tk) ?_ ?_ (by rw [sizeLine_eq]; omega) ?_ fun out a1 a2 => ?_))
  · intro d hd d' hd'
    obtain ⟨b, hb, rfl⟩ := List.mem_map.mp hd
    obtain ⟨b', hb', rfl⟩ := List.mem_map.mp hd'
    simp only [PySem.W.alike, alA_ints]
  · refine .inl fun d hd => ?_
    obtain ⟨b, hb, rfl⟩ := List.mem_map.mp hd
    cases hb2 : b.2 with
    | nil => exact absurd hb2 (hB b (hs.mem_iff.mp hb))
    | cons x r => exact ⟨_, _, by unfold encT; rw [hb2]; rfl⟩
  · intro b hb
    have : (encT b).depth ≤ 1 := by
      have h := (okd_lay 1 (tupI b.2) (okd_tupI 0 b.2)).2
      simpa only [D.toP, toPL_ints] using h
    show A.in1.units + 1 + _ < cLine
    have : A.in1.units ≤ A.units + 1 := by first | exact Nat.le_refl _ | (show A.units + 1 ≤ _; omega)
    omega
  have eo := refs_each a2
  obtain ⟨c, hc⟩ := sortedHeap_at (vs := L1.map fun q => Value.ref q.1) (out := out.toArray) hoL
  have pL : (L1.mergeSort (PySem.W.dataLe false encT)).Perm L := (List.mergeSort_perm _ _).trans hs
  have pw : (L1.mergeSort (PySem.W.dataLe false encT)).Pairwise (fun q r => q.2 ≤ r.2) := by
    have h := List.pairwise_mergeSort (le := PySem.W.dataLe false encT) (fun a b c h1 h2 => by
      rw [le_encT, decide_eq_true_eq] at *
      exact List.le_trans h1 h2) (fun a b => by
      rw [le_encT, le_encT, Bool.or_eq_true, decide_eq_true_eq, decide_eq_true_eq]
      exact List.le_total a.2 b.2) L1
    exact h.imp fun hab => by rw [le_encT] at hab; exact of_decide_eq_true hab
  refine wpAny_pure ⟨_, rfl, hQ _ s1.heap.objs.size out.toArray c _ (fun b u e => ?_) g1 o1 hz hc (by simpa using eo) pL pw⟩
  have q := k1 b u e
  have hlt := Heap.lt_size q
  show (sortedHeap (s1.heap.push (seqObj "list" (L1.map fun q => Value.ref q.1).toArray 0)) s1.heap.objs.size (L1.map fun q => Value.ref q.1) out.toArray).get? b = some u
  rw [sortedHeap_old (Nat.ne_of_lt hlt) (by rw [size_push']; exact Nat.lt_succ_of_lt hlt)]
  exact Heap.get?_push_of_some _ q
end
section
variable {g : Gc} {Wx : WX} {w0 : Wd} {X : Cx} {N0 : List Addr}
def rSortedU (K : PySem.W.Frag) (P : Program) (w : World) : List V → Hp → VK → Prop := fun vs H Q => ∃ (a : Addr) (L : List (Addr × List Int)), vs = [V.ref a] ∧ H a = some (SetTO P w a L) ∧ (∀ p ∈ L, SqT K H p.1 (p.2.map V.int)) ∧
  (∀ p ∈ L, p.2 ≠ []) ∧ ∀ (L' : List (Addr × List Int)) (p : Addr), L'.Perm L → (L'.map (·.2)).Nodup → L'.Pairwise (fun q r => q.2 ≤ r.2) → H p = none → Q (.ref p) (upd H p (.lst (L'.map fun q => V.ref q.1)))
theorem cr_sortedU (hc : X.calm = true) (hu : X.A.units + 64 < cLine) : CallR X (.builtin "sorted") (rSortedU X.K X.prog X.w) := by
  intro pins s σ H vs us Q I r h
  obtain ⟨a, L, rfl, ha, hk, hB, q⟩ := h
  have R0 : SetT0 X.prog X.w s.heap a L := (I.hok a _ ha).1
  obtain ⟨es, ep, t, R⟩ := R0.full fun p hp => I.isT (hk p hp)
  rw [Vals.ref1 r]
  refine sorted_setU R (I.ok.hd hc) (by omega) hB fun s' p out c L' k g o hp hg hout pm pw => ?_
  have hfew : L'.length < 64 := by rw [pm.length_eq]; exact R.few
  have hlen : (L'.map fun q => V.ref q.1).length ≤ sizeLine := by rw [List.length_map, sizeLine_eq]; omega
  have hn : H p = none := I.hok.fresh hp
  have hv : Vals (L'.map fun q => V.ref q.1) out.toList := by rw [hout]; exact vals_of_refs L'
  have J : Inv X pins σ (upd H p (.lst (L'.map fun q => V.ref q.1))) { s with heap := s'.heap, gens := s'.gens, drawn := s'.drawn, toks := s'.toks } :=
    I.call (ch := []) (Un.laid k hp hn) (I.hok.laid k hp ⟨hlen, out.toList, c, hv, hg⟩) (by rw [g]; exact I.bare) (fun _ z => nomatch z)
  have e : s' = { s with heap := s'.heap, gens := s'.gens, drawn := s'.drawn, toks := s'.toks } := by
    cases s'
    cases s
    cases o
    rfl
  rw [e]
  exact ⟨.ref p, _, J, rfl, q L' p pm ((pm.map (·.2)).nodup_iff.mpr R.nd) pw hn⟩
/-- the items of a list of lists, each once, ascending -/
def dedup : List (List Int) → List (List Int)
  | [] => []
  | x :: xs => if x ∈ xs then dedup xs else x :: dedup xs
def sosT (L : List (List Int)) : List (List Int) := sortT (dedup L)
theorem dedup_mem {z : List Int} : ∀ {L : List (List Int)}, z ∈ dedup L ↔ z ∈ L
  | [] => by simp [dedup]
  | x :: xs => by
    unfold dedup
    split
    · rename_i h
      rw [dedup_mem (L := xs), List.mem_cons]
      exact ⟨.inr, fun z => z.elim (fun e => e ▸ h) id⟩
    · rw [List.mem_cons, List.mem_cons, dedup_mem (L := xs)]
theorem dedup_nodup : ∀ (L : List (List Int)), (dedup L).Nodup
  | [] => .nil
  | x :: xs => by
    unfold dedup
    split
    · exact dedup_nodup xs
    · rename_i h
      exact List.nodup_cons.mpr ⟨fun z => h (dedup_mem.mp z), dedup_nodup xs⟩
theorem sosT_mem {z : List Int} {L : List (List Int)} : z ∈ sosT L ↔ z ∈ L := by
  unfold sosT
  rw [(sortT_perm _).mem_iff, dedup_mem]
theorem sosT_nodup (L : List (List Int)) : (sosT L).Nodup := (sortT_perm _).nodup_iff.mpr (dedup_nodup L)
theorem sosT_eq {L M : List (List Int)} (hn : M.Nodup) (hs : M.Pairwise (fun a b => a ≤ b)) (hm : ∀ z, z ∈ M ↔ z ∈ L) : sosT L = M := by
  refine sortT_eq ?_ hs
  exact (List.perm_ext_iff_of_nodup (dedup_nodup L) hn).mpr fun z => by rw [dedup_mem, hm]
def tupsOf : List D → Option (List (List Int))
  | [] => some []
  | .tup xs :: r => (intsOf xs).bind fun ns => (tupsOf r).map (ns :: ·)
  | _ :: _ => none
theorem tupsOf_eq : ∀ {ds : List D} {L : List (List Int)}, tupsOf ds = some L → ds = L.map tupI
  | [], _, h => by cases h; rfl
  | .tup xs :: r, L, h => by
    unfold tupsOf at h
    cases e : intsOf xs with
    | none => rw [e] at h; cases h
    | some ns =>
      rw [e] at h
      cases e2 : tupsOf r with
      | none => rw [e2] at h; cases h
      | some M => rw [e2] at h; cases h; rw [tupsOf_eq e2, intsOf_eq e]; rfl
  | .non :: _, _, h => by cases h
  | .bl _ :: _, _, h => by cases h
  | .int _ :: _, _, h => by cases h
  | .str _ :: _, _, h => by cases h
  | .lst _ :: _, _, h => by cases h
  | .dct _ :: _, _, h => by cases h
  | .ins _ _ :: _, _, h => by cases h
  | .obj _ :: _, _, h => by cases h
  | .ext _ :: _, _, h => by cases h
  | .exn _ _ _ _ :: _, _, h => by cases h
theorem tupsOf_map : ∀ (L : List (List Int)), tupsOf (L.map tupI) = some L
  | [] => rfl
  | x :: L => by
    show (intsOf (x.map D.int)).bind (fun ns => (tupsOf (L.map tupI)).map (ns :: ·)) = _
    rw [intsOf_map, tupsOf_map L]
    rfl
theorem RepL.tups {w : Wd} : ∀ {vs : List V} {L : List (List Int)}, RepL g w vs (L.map tupI) → ∃ M : List (Addr × List Int), vs = M.map (fun q => V.ref q.1) ∧ M.map (·.2) = L ∧ ∀ q ∈ M, SqT g.K w.H q.1 (q.2.map V.int)
  | _, [], .nil => ⟨[], rfl, rfl, fun _ z => by cases z⟩
  | _, x :: L, .cons r t => by
    obtain ⟨M, h1, h2, h3⟩ := RepL.tups t
    cases r with
    | @tup a vs ds hs hr =>
      rw [hr.int_inv] at hs
      exact ⟨(a, x) :: M, by rw [h1]; rfl, by rw [← h2]; rfl, fun q hq => by
        rcases List.mem_cons.mp hq with e | e
        · rw [e]; exact hs
        · exact h3 q e⟩
theorem RepL.of_tups {w : Wd} : ∀ {M : List (Addr × List Int)}, (∀ q ∈ M, SqT g.K w.H q.1 (q.2.map V.int)) → RepL g w (M.map fun q => V.ref q.1) ((M.map (·.2)).map tupI)
  | [], _ => .nil
  | q :: M, h => .cons (.tup (h q List.mem_cons_self) (RepL.ints _)) (RepL.of_tups fun r hr => h r (List.mem_cons_of_mem _ hr))
def sosetTD : D → Option (List D)
  | .lst xs => (tupsOf xs).bind fun L => if L.length < 64 ∧ L.all (fun t => !t.isEmpty) = true then some ((sosT L).map tupI) else none
  | _ => none
def sosetTM (x : D) : M (List D) := fun S => ofO (sosetTD (deref S x)) S
theorem dl_sosetT {a : Expr} {fa : Ev → M D} {p p2 pos pos2 : Pos} (hK : X.K = g.K) (hc : X.calm = true) (hu : X.A.units + 64 < cLine) (B1 : Blt X "sorted" (.builtin "sorted")) (B2 : Blt X "set" (.type "set")) (hs : notStar a = true) (ha : DW g N0 Wx X a fa) :
    DL g N0 Wx X (.Call (.Name "sorted" p) [.Call (.Name "set" p2) [a] [] pos2] [] pos) (fun env => do let x ← fa env; sosetTM x) := by
  refine PE.imp (pe_blt (.inl ⟨_, rfl⟩) B1 (cr_sortedU hc hu) rfl (pa_cons (pe_blt (.inr ⟨_, rfl⟩) B2 (cr_setOfT hc hu) (by rw [List.all_cons, hs]; rfl) (pa_cons ha pa_nil (star_cons hs))) pa_nil rfl)) fun σ H Q ⟨w, env, S, ee, er, sr, q⟩ => ?_
  subst ee
  refine tr_intro er sr (pst_imp (pst_bind (relA := rlW g) (fun _ _ _ _ k z => z.base k) q) fun v H1 ⟨w1, d, S1, e1, k1, s1, r1, q1⟩ => ?_)
  subst e1
  unfold sosetTM at q1
  cases eo : sosetTD (deref S1 d) with
  | none => rw [eo] at q1; exact q1.elim
  | some ys =>
    rw [eo] at q1
    have rv := r1.view s1
    generalize deref S1 d = d' at eo rv
    unfold sosetTD at eo
    split at eo
    · rename_i xs
      cases ei : tupsOf xs with
      | none => rw [ei] at eo; cases eo
      | some ks =>
        rw [ei] at eo
        simp only [Option.bind_some] at eo
        split at eo
        · rename_i hz
          cases eo
          have hx := tupsOf_eq ei
          subst hx
          obtain ⟨l, vs, rfl, h1, h2⟩ := rv.lst
          obtain ⟨M, rfl, rfl, h5⟩ := h2.tups
          refine ⟨l, M, rfl, by rw [hK]; exact h1, fun p hp => by rw [hK]; exact h5 p hp, by simpa using hz.1, fun a L ha hL1 hL2 => ?_⟩
          have s2 := s1.new (o := SetTO X.prog X.w a L) ha
          have k2 := keep_new (o := SetTO X.prog X.w a L) ha
          have t2 : ∀ q ∈ L, SqT g.K (upd w1.H a (SetTO X.prog X.w a L)) q.1 (q.2.map V.int) := fun q hq => k2.toMono.sqT (h5 q (hL1 q hq))
          refine ⟨a, L, rfl, upd_same, fun p hp => by rw [hK]; exact t2 p hp, fun p hp => ?_, fun L' p pm nd pw hp => ?_⟩
          · have := List.all_eq_true.mp hz.2 p.2 (List.mem_map.mpr ⟨p, hL1 p hp, rfl⟩)
            intro e
            rw [e] at this
            cases this
          · have e : sosT (M.map (·.2)) = L'.map (·.2) := sosT_eq nd (by rw [List.pairwise_map]; exact pw) fun z => by
              constructor
              · intro hz2
                obtain ⟨q, hq, rfl⟩ := List.mem_map.mp hz2
                exact List.mem_map.mpr ⟨q, hL1 q (pm.mem_iff.mp hq), rfl⟩
              · intro hz2
                obtain ⟨q, hq, rfl⟩ := List.mem_map.mp hz2
                obtain ⟨r, hr, e⟩ := List.mem_map.mp (hL2 q hq)
                exact List.mem_map.mpr ⟨r, pm.mem_iff.mpr hr, e⟩
            rw [e] at q1
            exact q1 ⟨upd (upd w1.H a _) p _, p :: w1.N, w1.m⟩ _ (k2.trans (keep_newN (w := ⟨upd w1.H a _, w1.N, w1.m⟩) hp)) (s2.newN hp) ((new_l s2 hp (RepL.of_tups fun q hq => t2 q (pm.mem_iff.mp hq))).base k2)
        · cases eo
    · cases eo
end
namespace Cn
variable {g : Gc} {G : Ge} {k : Nat} {N : List Str} {sc : Scope} {X : Cx} {N0 : List Addr} {Wx : WX} {l : List Str} {a : Expr} {fa : Ev → M D} {p p2 pos pos2 : Pos}
theorem sosetT (c : Cn g G k N sc X) (B : Bts l G) (h1 : hasB l "sorted" = true) (h2 : glB sc "sorted" = true) (h3 : hasB l "set" = true) (h4 : glB sc "set" = true) (hs : notStar a = true) (ha : DW g N0 Wx X a fa) : DL g N0 Wx X (.Call (.Name "sorted" p) [.Call (.Name "set" p2) [a] [] pos2] [] pos) (fun env => do let x ← fa env; sosetTM x) :=
  dl_sosetT c.ok.K c.ok.calm c.u64 (c.blt (B _ h1) h2 bb_sorted (by decide)) (c.blt (B _ h3) h4 bb_set (by decide)) hs ha
end Cn
theorem w_sosetT {S : Store} {E : XQ} {L : List (List Int)} {Q : List D → Store → Prop} (h : L.length < 64) (h2 : ∀ t ∈ L, t ≠ []) (q : Q ((sosT L).map tupI) S) : Wp (sosetTM (.lst (L.map tupI))) S E Q := by
  refine wp_of (a := (sosT L).map tupI) (S' := S) ?_ q
  unfold sosetTM
  show ofO (sosetTD (.lst (L.map tupI))) S = _
  have e : sosetTD (.lst (L.map tupI)) = some ((sosT L).map tupI) := by
    show (tupsOf (L.map tupI)).bind _ = _
    rw [tupsOf_map, Option.bind_some, if_pos ⟨h, List.all_eq_true.mpr fun t ht => by
      cases t with
      | nil => exact absurd rfl (h2 [] ht)
      | cons _ _ => rfl⟩]
  rw [e]
  rfl
end Pc

set_option Elab.async false
set_option linter.all false
set_option autoImplicit false
set_option maxRecDepth 100000
set_option maxHeartbeats 4000000
/-! Pc, part Zp: pools by their sets; sorted lists of pairs of a set and a number. -/
namespace Pc
open PySem PySem.Spec PyProof.Rows L2
/-! pools by their sets -/
def wsum (ps : List (List Int × Int)) (s : List Int) : Int := ((ps.filter fun p => decide (p.1 = s)).map (·.2)).sum
def mergeP (ps : List (List Int × Int)) : List (List Int × Int) := (sosT (ps.map (·.1))).map fun s => (s, wsum ps s)
theorem wsum_cons (p : List Int × Int) (ps : List (List Int × Int)) (s : List Int) : wsum (p :: ps) s = (if p.1 = s then p.2 else 0) + wsum ps s := by
  unfold wsum
  by_cases h : p.1 = s <;> simp [List.filter_cons, h]
theorem sum_add {α : Type} (f g : α → Int) : ∀ l : List α, (l.map fun x => f x + g x).sum = (l.map f).sum + (l.map g).sum
  | [] => rfl
  | x :: l => by
    simp only [List.map_cons, List.sum_cons, sum_add f g l]
    omega
theorem sum_zero {α : Type} : ∀ l : List α, (l.map fun _ => (0 : Int)).sum = 0
  | [] => rfl
  | x :: l => by simp only [List.map_cons, List.sum_cons, sum_zero l]; omega
theorem sum_ite {α : Type} [DecidableEq α] {a : α} {c : Int} : ∀ {l : List α}, l.Nodup → (l.map fun x => if a = x then c else 0).sum = if a ∈ l then c else 0
  | [], _ => by simp
  | x :: l, h => by
    obtain ⟨h1, h2⟩ := List.nodup_cons.mp h
    simp only [List.map_cons, List.sum_cons, sum_ite h2, List.mem_cons]
    by_cases hx : a = x
    · subst hx
      simp [h1]
    · simp [hx]
/-- what the pools of some sets have together -/
theorem wsum_sum (f : List Int → Bool) {L : List (List Int)} (hn : L.Nodup) : ∀ {ps : List (List Int × Int)}, (∀ p ∈ ps, p.1 ∈ L) → ((L.filter f).map (wsum ps)).sum = ((ps.filter fun p => f p.1).map (·.2)).sum
  | [], _ => by
    have : (fun s => wsum ([] : List (List Int × Int)) s) = fun _ => 0 := rfl
    show ((L.filter f).map (fun s => wsum ([] : List (List Int × Int)) s)).sum = 0
    rw [this, sum_zero]
  | p :: ps, h => by
    have ih := wsum_sum f hn (ps := ps) fun q hq => h q (List.mem_cons_of_mem _ hq)
    have e : (fun s => wsum (p :: ps) s) = fun s => (if p.1 = s then p.2 else 0) + wsum ps s := funext fun s => wsum_cons p ps s
    show ((L.filter f).map (fun s => wsum (p :: ps) s)).sum = _
    rw [e, sum_add, sum_ite (hn.filter _)]
    have e2 : ((L.filter f).map fun s => wsum ps s) = (L.filter f).map (wsum ps) := rfl
    rw [e2, ih]
    have hp := h p List.mem_cons_self
    cases hf : f p.1 with
    | true => simp [List.mem_filter, hp, hf, List.filter_cons]
    | false => simp [List.mem_filter, hf, List.filter_cons]
theorem mergeP_sum (f : List Int → Bool) (ps : List (List Int × Int)) : (((mergeP ps).filter fun p => f p.1).map (·.2)).sum = ((ps.filter fun p => f p.1).map (·.2)).sum := by
  have h := wsum_sum f (sosT_nodup (ps.map (·.1))) (ps := ps) fun p hp => sosT_mem.mpr (List.mem_map_of_mem hp)
  rw [← h]
  unfold mergeP
  rw [List.filter_map, List.map_map]
  rfl
theorem wsum_pos {ps : List (List Int × Int)} (h : ∀ p ∈ ps, 1 ≤ p.2) {s : List Int} : (0 < wsum ps s ↔ s ∈ ps.map (·.1)) ∧ 0 ≤ wsum ps s := by
  induction ps with
  | nil => exact ⟨⟨fun z => absurd z (by simp [wsum]), fun z => by cases z⟩, Int.le_refl _⟩
  | cons p ps ih =>
    obtain ⟨h1, h2⟩ := ih fun q hq => h q (List.mem_cons_of_mem _ hq)
    have hp := h p List.mem_cons_self
    rw [wsum_cons, List.map_cons, List.mem_cons]
    by_cases e : p.1 = s
    · rw [if_pos e]
      exact ⟨⟨fun _ => .inl e.symm, fun _ => by omega⟩, by omega⟩
    · rw [if_neg e]
      refine ⟨⟨fun z => .inr (h1.mp (by omega)), fun z => ?_⟩, by omega⟩
      rcases z with z | z
      · exact absurd z.symm e
      · have := h1.mpr z; omega
/-- pairs of a set and a number in Python's order -/
def leP (p q : List Int × Int) : Bool := decide (p.1 < q.1) || (decide (p.1 = q.1) && decide (p.2 ≤ q.2))
theorem eqv_ints : ∀ (x y : List Int), PyData.eqvAll (x.map .int) (y.map .int) = decide (x = y)
  | [], [] => by simp [PyData.eqvAll]
  | [], _ :: _ => by simp [PyData.eqvAll]
  | _ :: _, [] => by simp [PyData.eqvAll]
  | a :: x, b :: y => by
    simp only [List.map_cons, PyData.eqvAll, eqv_ints x y, PyData.eqv]
    by_cases h : a = b <;> by_cases h2 : x = y <;> simp [h, h2]
theorem leP_trans (a b c : List Int × Int) (h1 : leP a b = true) (h2 : leP b c = true) : leP a c = true := by
  unfold leP at *
  simp only [Bool.or_eq_true, Bool.and_eq_true, decide_eq_true_eq] at *
  rcases h1 with h1 | ⟨h1, h1'⟩
  · rcases h2 with h2 | ⟨h2, _⟩
    · exact .inl (List.lt_trans h1 h2)
    · exact .inl (h2 ▸ h1)
  · rcases h2 with h2 | ⟨h2, h2'⟩
    · exact .inl (h1 ▸ h2)
    · exact .inr ⟨h1.trans h2, by omega⟩
theorem lt_or_eq_or_gt (a b : List Int) : a < b ∨ a = b ∨ b < a := by
  rcases List.le_total a b with h | h
  · by_cases e : a = b
    · exact .inr (.inl e)
    · by_cases h2 : b < a
      · exact .inr (.inr h2)
      · by_cases h3 : a < b
        · exact .inl h3
        · exact absurd (List.le_antisymm h (List.not_lt.mp h3)) e
  · by_cases e : a = b
    · exact .inr (.inl e)
    · by_cases h2 : a < b
      · exact .inl h2
      · by_cases h3 : b < a
        · exact .inr (.inr h3)
        · exact absurd (List.le_antisymm (List.not_lt.mp h3) h) e
theorem leP_total (a b : List Int × Int) : (leP a b || leP b a) = true := by
  unfold leP
  simp only [Bool.or_eq_true, Bool.and_eq_true, decide_eq_true_eq]
  rcases lt_or_eq_or_gt a.1 b.1 with h | h | h
  · exact .inl (.inl h)
  · rcases Int.le_total a.2 b.2 with h2 | h2
    · exact .inl (.inr ⟨h, h2⟩)
    · exact .inr (.inr ⟨h.symm, h2⟩)
  · exact .inr (.inl h)
theorem leP_anti {a b : List Int × Int} (h1 : leP a b = true) (h2 : leP b a = true) : a = b := by
  unfold leP at *
  simp only [Bool.or_eq_true, Bool.and_eq_true, decide_eq_true_eq] at *
  rcases h1 with h1 | ⟨h1, h1'⟩
  · rcases h2 with h2 | ⟨h2, _⟩
    · exact absurd (List.lt_trans h1 h2) (List.lt_irrefl _)
    · rw [h2] at h1; exact absurd h1 (List.lt_irrefl _)
  · rcases h2 with h2 | ⟨_, h2'⟩
    · rw [h1] at h2; exact absurd h2 (List.lt_irrefl _)
    · exact Prod.ext h1 (by omega)
abbrev encP (p : List Int × Int) : D := .tup [tupI p.1, .int p.2]
theorem le_encP (p q : List Int × Int) : PySem.W.dataLe false D.toP (encP p) (encP q) = leP p q := by
  show (!PySem.W.dataLt (D.toP (encP q)) (D.toP (encP p))) = _
  simp only [encP, D.toP, toPL, toPL_ints]
  rw [PySem.W.dataLt_pair (by simp only [PySem.W.alike, alA_ints]) (by simp [PySem.W.alike]), PySem.W.dataLt_int, PySem.W.dataLt_tuple]
  have e : PyProof.Rows.lexLt itemOrd (PySem.W.keyToksAll (q.1.map PyData.int)) (PySem.W.keyToksAll (p.1.map PyData.int)) = decide (q.1 < p.1) := PySem.W.dataLt_ints q.1 p.1
  rw [e]
  simp only [PyData.eqv, eqv_ints, decide_eq_true_eq, beq_iff_eq]
  unfold leP
  rcases lt_or_eq_or_gt p.1 q.1 with h | h | h
  · have h1 : q.1 ≠ p.1 := fun z => by rw [z] at h; exact List.lt_irrefl _ h
    have h2 : ¬ q.1 < p.1 := fun z => List.lt_irrefl _ (List.lt_trans h z)
    simp [h, h1, h2]
  · have h2 : ¬ q.1 < q.1 := List.lt_irrefl _
    rw [h]
    simp only [if_true, h2, decide_true, decide_false, Bool.false_or, Bool.true_and]
    by_cases h3 : q.2 = p.2
    · simp [h3]
    · by_cases h4 : q.2 < p.2
      · have : ¬ p.2 ≤ q.2 := by omega
        simp [h3, h4, this]
      · have : p.2 ≤ q.2 := by omega
        simp [h3, h4, this]
  · have h1 : q.1 ≠ p.1 := fun z => by rw [z] at h; exact List.lt_irrefl _ h
    have h2 : ¬ p.1 < q.1 := fun z => List.lt_irrefl _ (List.lt_trans h z)
    have h3 : p.1 ≠ q.1 := fun z => h1 z.symm
    simp [h, h1, h2, h3]
def sortP (ps : List (List Int × Int)) : List (List Int × Int) := ps.mergeSort leP
theorem sortD_encP (L : List (List Int × Int)) : sortD (L.map encP) = (sortP L).map encP := by
  unfold sortD sortP
  exact (List.map_mergeSort fun a _ b _ => (le_encP a b).symm).symm
theorem sortP_eq {L L' : List (List Int × Int)} (p : L.Perm L') (s : L'.Pairwise (fun a b => leP a b = true)) : sortP L = L' :=
  ((List.mergeSort_perm L leP).trans p).eq_of_pairwise (fun a b _ _ h1 h2 => leP_anti h1 h2) (List.pairwise_mergeSort leP_trans leP_total L) s
theorem sortS_encP {L : List (List Int × Int)} (h : L.length ≤ 1000000) : sortS [.lst (L.map encP)] = some ((sortP L).map encP) := by
  rw [← sortD_encP]
  refine sort_ok ?_
  unfold sortOk
  have h1 : okdL 30 (L.map encP) = true := okd_one _ _ fun x hx => by
    obtain ⟨l, _, rfl⟩ := List.mem_map.mp hx
    simp only [encP, okd, okdL, okd_ints, Bool.and_true]
  have h2 : (L.map encP).all (fun a => (L.map encP).all (alD a)) = true := by
    rw [List.all_eq_true]
    intro a ha
    rw [List.all_eq_true]
    intro b hb
    obtain ⟨x, _, rfl⟩ := List.mem_map.mp ha
    obtain ⟨y, _, rfl⟩ := List.mem_map.mp hb
    simp only [alD, encP, D.toP, toPL, toPL_ints, PySem.W.alike, PySem.W.alikeAll, alA_ints, Bool.and_self]
  have h3 : (L.map encP).all isTupC = true := by
    rw [List.all_eq_true]
    intro a ha
    obtain ⟨x, hx, rfl⟩ := List.mem_map.mp ha
    rfl
  rw [h1, h2, h3]
  simp only [Bool.true_and, Bool.true_or, decide_eq_true_eq]
  rw [List.length_map, sizeLine_eq]
  omega
theorem mergeP_sorted (ps : List (List Int × Int)) : (mergeP ps).Pairwise (fun a b => leP a b = true) := by
  unfold mergeP
  rw [List.pairwise_map]
  have h1 : (sosT (ps.map fun p => p.1)).Pairwise (fun a b => a ≤ b) := sortT_pw _
  have h2 : (sosT (ps.map fun p => p.1)).Pairwise (fun a b => a ≠ b) := sosT_nodup _
  refine (h1.and h2).imp fun {a b} h => ?_
  unfold leP
  simp only [Bool.or_eq_true, Bool.and_eq_true, decide_eq_true_eq]
  rcases lt_or_eq_or_gt a b with h1 | h1 | h1
  · exact .inl h1
  · exact absurd h1 h.2
  · exact absurd h1 (List.not_lt.mpr h.1)
end Pc

set_option Elab.async false
set_option linter.all false
set_option autoImplicit false
set_option maxRecDepth 100000
set_option maxHeartbeats 4000000
/-! Pc, part Zq: == and != by an own method; isinstance of an own class. -/
namespace Pc
open PySem PySem.Spec PyProof.Rows L2
/-! ### isinstance(x, C) -/
def iscB (K : PySem.W.Frag) (C : Addr) : Bool := decide (PySem.W.findIn K (.ref C) "__class__" = some (some (.builtin "object.__class__"))) && (decide (PySem.W.specialIn K (.builtin "object.__class__") "__get__" = some (some (.builtin "getset_descriptor.__get__"))) &&
  (decide (PySem.W.takesIn K (.builtin "object.__class__") = some true) && (decide (PySem.W.mroIn K C (.type "object") = some true) && ("NoneType" :: tyTs).all fun t => decide (PySem.W.kitOne K (.type t) (.ref C) = some false))))
/-- an own class as isinstance asks for it -/
structure Isc (g : Gc) (G : Ge) (x : Str) (c : Nat) : Prop where
  cls : Cls g.K (g.cl c)
  glo : G.mg x = some (.ref (g.cl c))
  ok : iscB g.K (g.cl c) = true
theorem Isc.lo {g : Gc} {P : Program} {w : World} {mg : Str → Option Value} {base : Heap} {b b' : Bool} {x : Str} {c : Nat} (F : Isc g ⟨P, w, mg, base, b⟩ x c) : Isc g ⟨P, w, mg, base, b'⟩ x c := ⟨F.cls, F.glo, F.ok⟩
def isiCM (c : Nat) (x : D) : M D := fun S => match viewI S x with
  | some (c', _) => if c' = c then .ok (.bl true) S else .bad
  | none => (match tyN (deref S x) with
    | some _ => .ok (.bl false) S
    | none => .bad)
section
variable {g : Gc} {Wx : WX} {w0 : Wd} {X : Cx} {N0 : List Addr}
theorem RepB.viewI {w : Wd} {S : Store} {v : V} {d : D} {c : Nat} {fs : List (Str × D)} (sr : SR g w S) (r : RepB g w v d) (e : viewI S d = some (c, fs)) : RepI g w v c fs := by
  rcases r with r | ⟨_, _, _, _, rfl, _⟩ | ⟨_, _, _, _, rfl, _⟩
  · exact r.viewI sr e
  · cases e
  · cases e
theorem Cn.isiC {G : Ge} {k c : Nat} {N : List Str} {sc : Scope} {l : List Str} {a : Expr} {x : Str} {fa : Ev → M D} {p p2 pos : Pos} (cn : Cn g G k N sc X) (B : Bts l G) (F : Isc g G x c) (hb : hasB l "isinstance" = true) (hg : glB sc "isinstance" = true) (hg2 : glB sc x = true) (hs : notStar a = true) (ha : DW g N0 Wx X a fa) :
    DE g N0 Wx X (.Call (.Name "isinstance" p) [a, .Name x p2] [] pos) (fun env => do let d ← fa env; isiCM c d) := by
  have hK := cn.ok.K
  have ok := F.ok
  unfold iscB at ok
  obtain ⟨o1, ok⟩ := He.ba ok
  obtain ⟨o2, ok⟩ := He.ba ok
  obtain ⟨o3, ok⟩ := He.ba ok
  obtain ⟨o4, o5⟩ := He.ba ok
  refine PE.imp (pe_blt (.inl ⟨_, rfl⟩) (cn.blt (B _ hb) hg Cn.bb_isi (by decide)) call_isi (by rw [List.all_cons, hs]; rfl) (pa_cons ha (pa_cons (pe_glob (v := .ref (g.cl c)) (cn.gl hg2).1 (by rw [cn.hm]; exact F.glo) rfl (cn.gl hg2).2) pa_nil rfl) (star_cons hs))) fun σ H Q ⟨w, env, S, ee, er, sr, q⟩ => ?_
  subst ee
  refine tr_intro er sr (pst_imp (pst_bind (relA := rlW g) (fun _ _ _ _ _ z => z) q) fun v H1 ⟨w1, d, S1, e1, k1, s1, r1, q1⟩ => ?_)
  subst e1
  unfold isiCM at q1
  cases ev : viewI S1 d with
  | some pr =>
    obtain ⟨c', fs⟩ := pr
    rw [ev] at q1
    dsimp only at q1
    by_cases hc : c' = c
    · rw [if_pos hc] at q1
      subst hc
      obtain ⟨b, dx, vs, rfl, h1, h2⟩ := r1.viewI s1 ev
      refine ⟨.ref b, .ref (g.cl c'), .ref (g.cl c'), .ref (g.cl c'), true, rfl, .own _, ?_, ?_, q1 w1 _ (Keep.refl _) s1 (.bl _)⟩
      · rw [hK]
        exact .base (.ins h1 F.cls (of_decide_eq_true o1) (of_decide_eq_true o2) (of_decide_eq_true o3) (of_decide_eq_true o4))
      · unfold PySem.W.kitOne
        rw [if_pos (beq_self_eq_true _)]
    · rw [if_neg hc] at q1; exact q1.elim
  | none =>
    rw [ev] at q1
    dsimp only at q1
    cases et : tyN (deref S1 d) with
    | none => rw [et] at q1; exact q1.elim
    | some t =>
      rw [et] at q1
      refine ⟨v, .ref (g.cl c), .type t, .ref (g.cl c), false, rfl, .own _, ?_, ?_, q1 w1 _ (Keep.refl _) s1 (.bl _)⟩
      · rw [hK]
        exact (r1.view s1).ty et
      · rw [hK]
        exact of_decide_eq_true (List.all_eq_true.mp o5 t (tyN_in et))
/-! ### == and != -/
def ownCM (c : Nat) (sem : List D → M D) (x y : D) : M D := do
  isC c x
  isC c y
  let r ← noEx (sem [x, y])
  match r with
  | .bl b => pure (.bl b)
  | _ => fail
def rOwn (C : Addr) (sp : Sp) : R2 := fun x y H Q => ∃ a b dx dy fs gs, x = .ref a ∧ y = .ref b ∧ H a = some (.ins C dx fs) ∧ H b = some (.ins C dy gs) ∧ sp [.ref a, .ref b] H (fun v H' => (∃ z, v = .bl z) ∧ Q v H') (fun _ _ _ => False)
theorem op_own {op : CmpOp} {k : Nat} {C f : Addr} {fd : FuncData} {ps : List Str} {sp : Sp} (hop : compareOp op = richCompare op) (hm : Meth X.K C (cmpInfo op).2.1 f) (F : FnOk X.prog X.w X.K X.mg X.base (L2.CX X.prog X.w) k f fd ps sp) (hr : Room k X.A) (hb : Binds X.K fd ps []) : OpR X (compareOp op) (rOwn C sp) := by
  intro pins s σ H x y u v Q I rx ry hq
  obtain ⟨a, b, dx, dy, fs, gs, rfl, rfl, ha, hb', hsp⟩ := hq
  cases rx
  cases ry
  rw [hop]
  obtain ⟨mA, J, _⟩ := ins_get I.hok ha
  obtain ⟨mB, J', _⟩ := ins_get I.hok hb'
  obtain ⟨od, J, _⟩ := J.look
  obtain ⟨od', J', _⟩ := J'.look
  obtain ⟨m, hF⟩ := I.fr
  have un := hr.un
  refine PySem.W.cmp_K (op := op) (tb := .ref C) (by omega) hF I.ok.mod.kin J J'.type (by simp [PySem.W.notFirst]) hm.at_ hm.fn ?_
  have hl := F.len _ _ _ _ hsp
  have r2 : Vals [V.ref a, V.ref b] [Value.ref a, Value.ref b] := .cons rfl (.cons rfl .nil)
  refine wpAny_call (codeAny_mono (F.run X.A X.stack s H ⟨[.ref a, .ref b], []⟩ [.ref a, .ref b] [.ref a, .ref b] _ (fun _ _ _ => False) hr I.env0 (by
    have := hb s [.ref a, .ref b] I.kIn (by simpa using hl)
    simpa using this) r2 hsp) fun r s' hq => ?_)
  cases r with
  | error e =>
    obtain ⟨_, _, _, _, _, _, _, _, _, _, _, _, z⟩ := hq
    exact z.elim
  | ok fl =>
    cases fl with
    | ret w =>
      obtain ⟨z, H', I', rz, ⟨b, ez⟩, q⟩ := I.after hq
      subst ez
      cases rz
      exact ⟨.bl b, H', I', rfl, q⟩
    | next => exact False.elim hq
    | brk => exact False.elim hq
    | cont => exact False.elim hq
theorem own_pst {σ : L2.St} {w : Wd} {S : Store} {c n : Nat} {sem : List D → M D} {x y : V} {a b : D} {Q : VK} (sr : SR g w S) (ra : Rep g w x a) (rb : Rep g w y b) (q : Pst g Wx σ (rl g) w (ownCM c sem a b S) Q) (hn : n = 2) : rOwn (g.cl c) (spOf g n sem) x y w.H Q := by
  unfold ownCM at q
  rcases isC_cases c a S with h | ⟨h, fs, ea⟩
  · rw [bind_bad h] at q; exact q.elim
  rw [bind_ok h] at q
  rcases isC_cases c b S with h | ⟨h, gs, eb⟩
  · rw [bind_bad h] at q; exact q.elim
  rw [bind_ok h] at q
  obtain ⟨a1, dx, vs, rfl, h1, h2⟩ := ra.viewI sr ea
  obtain ⟨a2, dy, us, rfl, h3, h4⟩ := rb.viewI sr eb
  refine ⟨a1, a2, dx, dy, vs, us, rfl, rfl, h1, h3, w, [a, b], S, rfl, hn.symm, .cons ra (.cons rb .nil), sr, ?_⟩
  cases e : sem [a, b] S with
  | ok y S2 =>
    rw [bind_ok (show noEx (sem [a, b]) S = .ok y S2 by unfold noEx; rw [e])] at q
    intro w' v kp sr' rv
    cases y with
    | bl z =>
      cases rv
      exact ⟨⟨z, rfl⟩, q w' _ kp sr' (.bl z)⟩
    | _ => exact q.elim
  | ex c' fs' S2 => rw [bind_bad (show noEx (sem [a, b]) S = .bad by unfold noEx; rw [e])] at q; exact q.elim
  | bad => rw [bind_bad (show noEx (sem [a, b]) S = .bad by unfold noEx; rw [e])] at q; exact q.elim
section
variable {G : Ge} {k c : Nat} {N : List Str} {sc : Scope} {op : CmpOp} {m : Str} {a b : Expr} {fa fb : Ev → M D} {sem : List D → M D} {pos : Pos}
theorem Cn.opOwn (cn : Cn g G k N sc X) (F : Mtd g G k c m 2 sem) (hop : compareOp op = richCompare op) (hm : (cmpInfo op).2.1 = m) : OpR X (compareOp op) (rOwn (g.cl c) (spOf g 2 sem)) := by
  obtain ⟨f, fd, ps, hn, G', hmt, hbd⟩ := F.ex
  have hK := cn.ok.K
  rw [← cn.hP, ← cn.hw, ← cn.hm, ← cn.hb] at G'
  have FO := G'.okF
  rw [hn] at FO
  refine op_own hop (by rw [hK, hm]; exact hmt) (by rw [hK]; exact FO) cn.ok.room (by rw [hK]; exact hbd)
theorem Cn.cmpI (cn : Cn g G k N sc X) (F : Mtd g G k c m 2 sem) (hop : compareOp op = richCompare op) (hm : (cmpInfo op).2.1 = m) (ha : DE g N0 Wx X a fa) (hb : DE g N0 Wx X b fb) (hmk : behindInMarks op b = false) :
    DE g N0 Wx X (.Compare a [op] [b] pos) (fun env => do let x ← fa env; let y ← fb env; ownCM c sem x y) := by
  refine PE.imp (pe_cmpR (cn.opOwn F hop hm) ha hb hmk) fun σ H Q ⟨w, env, S, ee, er, sr, q⟩ => ?_
  subst ee
  refine tr_intro er sr (pst_imp (pst_bind (relA := rl g) (fun _ _ _ _ _ z => z) q) fun x H1 ⟨w1, da, S1, e1, k1, s1, r1, q1⟩ => ?_)
  subst e1
  refine tr_intro (er.keep k1) s1 (pst_imp (pst_bind (relA := rl g) (fun _ _ _ _ _ z => z) q1) fun y H2 ⟨w2, db, S2, e2, k2, s2, r2, q2⟩ => ?_)
  subst e2
  exact own_pst s2 (r1.mono k2.toMono) r2 q2 rfl
theorem Cn.tcmpI (cn : Cn g G k N sc X) (F : Mtd g G k c m 2 sem) (hop : compareOp op = richCompare op) (hm : (cmpInfo op).2.1 = m) (ha : DE g N0 Wx X a fa) (hb : DE g N0 Wx X b fb) (hmk : behindInMarks op b = false) :
    DT g N0 Wx X (.Compare a [op] [b] pos) (fun env => do let x ← fa env; let y ← fb env; let z ← ownCM c sem x y; asB z) := by
  refine PT.imp (pt_cmpR (cn.opOwn F hop hm) ha hb hmk) fun σ H Q ⟨w, env, S, ee, er, sr, q⟩ => ?_
  subst ee
  refine tr_intro er sr (pst_imp (pst_bind (relA := rl g) (fun _ _ _ _ _ z => z) q) fun x H1 ⟨w1, da, S1, e1, k1, s1, r1, q1⟩ => ?_)
  subst e1
  refine tr_intro (er.keep k1) s1 (pst_imp (pst_bind (relA := rl g) (fun _ _ _ _ _ z => z) q1) fun y H2 ⟨w2, db, S2, e2, k2, s2, r2, q2⟩ => ?_)
  subst e2
  refine own_pst (Wx := Wx) (σ := σ) s2 (r1.mono k2.toMono) r2 (pst_imp (pst_bind (x := ownCM c sem da db) (relA := rl g) (fun _ _ _ _ _ z => z) q2) fun z H3 ⟨w3, dc, S3, e3, k3, s3, r3, q3⟩ => ?_) rfl
  subst e3
  cases dc with
  | bl z => cases r3; exact ⟨z, rfl, q3 w3 _ (Keep.refl _) s3 rfl⟩
  | _ => exact q3.elim
end
end
section
variable {S : Store} {E : XQ} {Q : D → Store → Prop}
theorem w_isiCT {c : Nat} {x : D} {fs : List (Str × D)} (h : viewI S x = some (c, fs)) (q : Q (.bl true) S) : Wp (isiCM c x) S E Q := by
  refine wp_of (a := .bl true) (S' := S) ?_ q
  unfold isiCM
  rw [h]
  dsimp only
  rw [if_pos rfl]
theorem w_isiCF {c : Nat} {x : D} (h : x.pl) (q : Q (.bl false) S) : Wp (isiCM c x) S E Q := by
  refine wp_of (a := .bl false) (S' := S) ?_ q
  unfold isiCM
  have e : viewI S x = none := by cases x <;> first | rfl | cases h
  rw [e]
  dsimp only
  rw [pl_deref h]
  cases et : tyN x with
  | none => rw [D.pl, et] at h; cases h
  | some t => rfl
theorem w_ownC {c : Nat} {sem : List D → M D} {x y : D} (h : Wp (isC c x) S E fun _ S1 => Wp (isC c y) S1 E fun _ S2 => Wp (noEx (sem [x, y])) S2 E fun r S3 => ∃ b, r = .bl b ∧ Q (.bl b) S3) : Wp (ownCM c sem x y) S E Q := by
  unfold ownCM
  refine wp_bind.mpr (wp_mono h fun _ S1 h1 => wp_bind.mpr (wp_mono h1 fun _ S2 h2 => wp_bind.mpr (wp_mono h2 ?_)))
  rintro r S3 ⟨b, rfl, q⟩
  exact q
end
end Pc

set_option Elab.async false
set_option linter.all false
set_option autoImplicit false
set_option maxRecDepth 100000
set_option maxHeartbeats 4000000
/-! Pc, part Zr: a dict whose keys are tuples of ints, its values ints. -/
namespace Pc
open PySem PySem.Spec PyProof.Rows L2
/-- key, where the key stands, value -/
abbrev Ent := List Int × Addr × Int
def keyI (ns : List Int) : List Key := ns.map Sum.inl
theorem keyI_inj {a b : List Int} (h : keyI a = keyI b) : a = b := by
  unfold keyI at h
  exact List.map_inj_right (f := (Sum.inl : Int → Key)) (fun x y e => by injection e) |>.mp h
theorem keyI_V (ns : List Int) : (keyI ns).map kV = ns.map V.int := by
  unfold keyI
  rw [List.map_map]
  rfl
abbrev ERel (p : Ent) (q : List Key × Addr × Value) : Prop := keyI p.1 = q.1 ∧ p.2.1 = q.2.1 ∧ ∃ t, q.2.2 = .int p.2.2 t
abbrev EXP (L : List Ent) (xs : List (List Key × Addr × Value)) : Prop := Paired ERel L xs
def DX0 (P : Program) (w : World) (h : Heap) (a : Addr) (L : List Ent) : Prop := L.length ≤ sizeLine ∧ (a == sysModules) = false ∧ ∃ xs, EXP L xs ∧
  ∃ o es ep, h.get? a = some o ∧ o.ExactDict ∧ o.data = .dict es ep ∧ es.toList = xs.map (entryOfKey (tupleKind (mixKind P w))) ∧ (xs.map (·.1)).Nodup
def DXO (P : Program) (w : World) (a : Addr) (L : List Ent) : HO := .ext fun h => DX0 P w h a L
theorem dx_ok {P : Program} {w : World} {H : Hp} {h : Heap} {a : Addr} {L : List Ent} (R : DX0 P w h a L) : ObjOk P w H h a (DXO P w a L) := by
  have ⟨_, _, xs, _, o, es, ep, ho, _⟩ := id R
  refine ⟨R, ⟨o, ho⟩, fun h1 h2 p k => ?_⟩
  obtain ⟨z, y, xs', e', o', es', ep', ho', r'⟩ := p
  exact ⟨z, y, xs', e', o', es', ep', k o' ho', r'⟩
def valX (L : List Ent) (ns : List Int) : Option Int := (L.find? fun e => decide (e.1 = ns)).map (·.2.2)
def putX (L : List Ent) (ns : List Int) (b : Addr) (v : Int) : List Ent := if (L.any fun e => decide (e.1 = ns)) = true then L.map (fun e => if e.1 = ns then (e.1, e.2.1, v) else e) else L ++ [(ns, b, v)]
theorem EXP.val {L : List Ent} {xs : List (List Key × Addr × Value)} (r : EXP L xs) (ns : List Int) : RelO ((valX L ns).map V.int) ((atKey xs (keyI ns)).map (·.2)) := by
  induction r with
  | nil => exact True.intro
  | @cons p q ps qs h t ih =>
    obtain ⟨h1, _, t2, h2⟩ := h
    by_cases e : p.1 = ns
    · have e' : q.1 = keyI ns := by rw [← h1, e]
      have e1 : valX (p :: ps) ns = some p.2.2 := by simp [valX, e]
      have e2 : atKey (q :: qs) (keyI ns) = some q.2 := by simp [atKey, e']
      rw [e1, e2]
      exact ⟨t2, h2⟩
    · have e' : q.1 ≠ keyI ns := fun z => e (keyI_inj (by rw [h1, z]))
      have e1 : valX (p :: ps) ns = valX ps ns := by simp [valX, e]
      have e2 : atKey (q :: qs) (keyI ns) = atKey qs (keyI ns) := by simp [atKey, e']
      rw [e1, e2]
      exact ih
theorem EXP.any {L : List Ent} {xs : List (List Key × Addr × Value)} (r : EXP L xs) (ns : List Int) : (L.any fun e => decide (e.1 = ns)) = (atKey xs (keyI ns)).isSome := by
  induction r with
  | nil => rfl
  | @cons p q ps qs h t ih =>
    obtain ⟨h1, _⟩ := h
    by_cases e : p.1 = ns
    · have e' : q.1 = keyI ns := by rw [← h1, e]
      simp [atKey, e, e']
    · have e' : q.1 ≠ keyI ns := fun z => e (keyI_inj (by rw [h1, z]))
      have e2 : atKey (q :: qs) (keyI ns) = atKey qs (keyI ns) := by simp [atKey, e']
      rw [e2, List.any_cons, decide_eq_false e, Bool.false_or]
      exact ih
theorem EXP.repl {L : List Ent} {xs : List (List Key × Addr × Value)} (r : EXP L xs) (ns : List Int) {v : Int} {t : Tok} : EXP (L.map fun e => if e.1 = ns then (e.1, e.2.1, v) else e) (xs.map (putAt (keyI ns) (.int v t))) := by
  induction r with
  | nil => exact .nil
  | @cons p q ps qs h t' ih =>
    rw [List.map_cons, List.map_cons]
    refine .cons ?_ ih
    obtain ⟨h1, h2, h3⟩ := h
    by_cases e : p.1 = ns
    · have e' : q.1 = keyI ns := by rw [← h1, e]
      rw [if_pos e]
      unfold putAt
      rw [if_pos e']
      exact ⟨h1, h2, _, rfl⟩
    · have e' : q.1 ≠ keyI ns := fun z => e (keyI_inj (by rw [h1, z]))
      rw [if_neg e]
      unfold putAt
      rw [if_neg e']
      exact ⟨h1, h2, h3⟩
theorem EXP.put {L : List Ent} {xs : List (List Key × Addr × Value)} (r : EXP L xs) (ns : List Int) {b : Addr} {v : Int} {t : Tok} : EXP (putX L ns b v) (storedH xs (keyI ns) b (.int v t)) := by
  unfold putX storedH
  rw [r.any]
  by_cases q : (atKey xs (keyI ns)).isSome = true
  · rw [if_pos q, if_pos q]; exact r.repl ns
  · rw [if_neg q, if_neg q]; exact Paired.snoc r ⟨rfl, rfl, _, rfl⟩
theorem putX_len (L : List Ent) (ns : List Int) (b : Addr) (v : Int) : (putX L ns b v).length ≤ L.length + 1 := by
  unfold putX
  split
  · simp
  · simp
section
variable {X : Cx} {pins : List (Addr × Obj)} {σ : L2.St} {H : Hp} {s : Shared}
theorem Inv.keyT {b : Addr} {ns : List Int} (I : Inv X pins σ H s) (h : SqT X.K H b (ns.map V.int)) : (tupleKind (mixKind X.prog X.w)).is s.heap (keyI ns) b := by
  obtain ⟨its, r, ⟨o, ho, hc, n, hd⟩, _⟩ := I.tuple h
  rw [← keyI_V] at r
  exact ⟨o, its.toArray, n, ho, hc, hd, by simpa using items_are r⟩
/-- the keys' tuples are there -/
def KeysT (K : PySem.W.Frag) (H : Hp) (L : List Ent) : Prop := ∀ p ∈ L, SqT K H p.2.1 (p.1.map V.int)
theorem exp_mem {L : List Ent} {xs : List (List Key × Addr × Value)} (r : EXP L xs) : ∀ x ∈ xs, ∃ p ∈ L, ERel p x := by
  induction r with
  | nil => intro x hx; cases hx
  | @cons p q ps qs h t ih =>
    intro x hx
    rcases List.mem_cons.mp hx with e | hx
    · subst e; exact ⟨p, List.mem_cons_self, h⟩
    · obtain ⟨p', hp', e⟩ := ih x hx
      exact ⟨p', List.mem_cons_of_mem _ hp', e⟩
theorem dx_full {a : Addr} {L : List Ent} (I : Inv X pins σ H s) (ha : H a = some (DXO X.prog X.w a L)) (hk : KeysT X.K H L) : L.length ≤ sizeLine ∧ (a == sysModules) = false ∧ ∃ xs, EXP L xs ∧ s.heap.DictOfH (tupleKind (mixKind X.prog X.w)) a xs := by
  obtain ⟨z, y, xs, r, o, es, ep, h1, h2, h3, h4, h5⟩ := (show DX0 X.prog X.w s.heap a L from (I.hok a _ ha).1)
  refine ⟨z, y, xs, r, o, es, ep, h1, h2, h3, h4, fun x hx => ?_, h5⟩
  obtain ⟨p, hp, e1, e2, _⟩ := exp_mem r x hx
  have := Inv.keyT I (hk p hp)
  rw [e1, e2] at this
  exact this
/-- {} -/
def tDNewX (P : Program) (w : World) : TE := fun _ H Q => ∀ p, H p = none → Q (.ref p) (upd H p (DXO P w p []))
theorem pe_dnewX {pos : Pos} : PE X (.Dict [] [] pos) (tDNewX X.prog X.w) := ⟨fun pins s σ H Q I h =>
  wpAny_Dict_empty ⟨.ref s.heap.objs.size, _, I.laid (a := s.heap.objs.size) (o := DXO X.prog X.w s.heap.objs.size []) (t' := s.toks) (fun _ _ q => Heap.get?_push_of_some _ q) (Nat.le_refl _)
    (dx_ok ⟨Nat.zero_le _, beq_eq_false_iff_ne.mpr (Ne.symm (Nat.ne_of_lt I.big)), [], .nil, _, #[], 0, Heap.get?_push_size _ rfl, ⟨rfl, rfl, rfl⟩, rfl, rfl, List.nodup_nil⟩), rfl, h _ (I.hok.fresh (Nat.le_refl _))⟩⟩
/-- d.get(k, n) -/
def tDGetX (K : PySem.W.Frag) (P : Program) (w : World) (td ty tx : TE) : TE := fun σ H Q => td σ H fun x H1 => ∃ a L, x = .ref a ∧ H1 a = some (DXO P w a L) ∧ KeysT K H1 L ∧ ty σ H1 fun y H2 => tx σ H2 fun z H3 => ∃ b ns n, H3 a = some (DXO P w a L) ∧ KeysT K H3 L ∧ y = .ref b ∧ SqT K H3 b (ns.map V.int) ∧ z = .int n ∧ Q (.int ((valX L ns).getD n)) H3
theorem pe_dgetX {o e f : Expr} {td ty tx : TE} {apos cpos : Pos} (hu : X.A.units + 1 < cLine) (ho : PE X o td) (he : PE X e ty) (hf : PE X f tx) (m : M2 X o "get" apos e f cpos) : PE X (.Call (.Attribute o "get" apos) [e, f] [] cpos) (tDGetX X.K X.prog X.w td ty tx) := by
  refine ⟨fun pins s σ H Q I h => ?_⟩
  refine wpAny_Call_method m.base m.few m.line PySem.F.plainAttrs_dict PySem.F.slot_dict_get PySem.F.type_dict_get (thn (ho.run pins s σ H _ I h) fun u s1 ⟨x, H1, I1, rx, a, L, ex, ea, kt, q1⟩ => ?_)
  subst ex
  obtain rfl : u = Value.ref a := rx
  obtain ⟨_, _, xs1, _, d1⟩ := dx_full I1 ea kt
  refine ⟨d1.typeIs, fun b q => ?_, ?_⟩
  · cases q
    obtain ⟨ob, _, _, h1, h2, _⟩ := d1
    exact ⟨ob, h1, h2.2.1⟩
  rw [m.trees]
  refine Calls.callWith_builtin rfl (Calls.evalArgs_plain (Calls.spliced_cons (thn (he.run pins s1 σ H1 _ I1 q1) fun iv s2 ⟨y, H2, I2, ry, q2⟩ =>
    Calls.spliced_cons (thn (hf.run pins s2 σ H2 _ I2 q2) fun fv s3 ⟨z, H3, I3, rz, b, ns, n, ea3, kt3, ey, hb, ez, q3⟩ => Calls.spliced_nil ?_))))
  subst ey ez
  obtain rfl : iv = Value.ref b := ry
  obtain ⟨hz, hd, xs, rel, dd⟩ := dx_full I3 ea3 kt3
  refine call_meetsIn PySem.F.slot_dict_get dd.typeIs PySem.F.entry_dict_get (PySem.F.args_dict_get_3 _ _ _) (meetsH_dict_get_default (tupleKind (mixKind X.prog X.w)) a b hd fv) ⟨tupleKind_room_in1 hu, keyI ns, xs, Inv.keyT I3 hb, dd, .int ((valX L ns).getD n), H3, I3.tok _, ?_, q3⟩
  have := (rel.val ns).getD rz
  cases hv : valX L ns with
  | none => rw [hv] at this; exact this
  | some i => rw [hv] at this; exact this
/-- d[k] = n -/
def rSetX (K : PySem.W.Frag) (P : Program) (w : World) : TSet := fun o i v H Q => ∃ a L b ns n, o = .ref a ∧ i = .ref b ∧ v = .int n ∧ H a = some (DXO P w a L) ∧ KeysT K H L ∧ SqT K H b (ns.map V.int) ∧ L.length < sizeLine ∧ Q (upd H a (DXO P w a (putX L ns b n)))
theorem set_X (hu : X.A.units + 1 < cLine) : PSet X (rSetX X.K X.prog X.w) := by
  intro pins s σ H o i v ov iv u Q I ro ri rv h
  obtain ⟨a, L, b, ns, n, rfl, rfl, rfl, ea, kt, hb, hl, q⟩ := h
  cases (show ov = Value.ref a from ro)
  cases (show iv = Value.ref b from ri)
  obtain ⟨t, rfl⟩ := (show ∃ t, u = Value.int n t from rv)
  obtain ⟨hz, hd, xs, rel, dd⟩ := dx_full I ea kt
  have hzx : xs.length ≤ sizeLine := by rw [← Paired.length rel]; exact hz
  refine wpAny_setItem_heap (hsz := hzx) (tupleKind_room_in1 hu) (Inv.keyT I hb) dd fun h' dd' hs => ?_
  obtain ⟨p, es, ep, hp, h2, h3, h4, _, h5⟩ := dd'
  exact ⟨_, d_write I (by rw [ea]; exact True.intro) hs ⟨p, hp⟩ (dx_ok ⟨by have := putX_len L ns b n; omega, hd, _, rel.put ns, p, es, ep, hp, h2, h3, h4, h5⟩), q⟩
end
section
variable {X : Cx}
/-- d.items() -/
def tItemsX (K : PySem.W.Frag) (P : Program) (w : World) (to : TE) : TE := fun σ H Q => to σ H fun x H1 => ∃ a L, x = .ref a ∧ H1 a = some (DXO P w a L) ∧ KeysT K H1 L ∧ ∀ p, H1 p = none → Q (.ref p) (upd H1 p (L2.DX.itemsO p a))
theorem pe_itemsX {o : Expr} {to : TE} {apos cpos : Pos} (ho : PE X o to) (hbase : baseOk o = true) (hline : (apos.endLine == cpos.line) = true) : PE X (.Call (.Attribute o "items" apos) [] [] cpos) (tItemsX X.K X.prog X.w to) := by
  refine ⟨fun pins s σ H Q I h => ?_⟩
  refine wpAny_Call_method0_late (base_ok hbase) hline (thn (ho.run pins s σ H _ I h) fun v s1 ⟨x, H1, I1, r1, a, L, ex, ea, kt, q1⟩ => ?_)
  subst ex
  obtain rfl : v = Value.ref a := r1
  obtain ⟨_, hd, xs1, _, d1⟩ := dx_full I1 ea kt
  have tyi := d1.typeIs
  obtain ⟨ob, es, ep, h1, h2, h3, _⟩ := d1
  refine ⟨"dict", "dict.items", PySem.F.plainAttrs_dict, PySem.F.slot_dict_items, by kernel_rfl, tyi, fun b q => ?_, Calls.callWith_builtin rfl (PySem.evalArgs_none ?_)⟩
  · cases q
    exact ⟨ob, h1, h2.2.1⟩
  refine DT.callItems (es := es) (ep := ep) hd ⟨ob, h1, h2, h3⟩ ?_
  have hf : H1 s1.heap.objs.size = none := I1.hok.fresh (Nat.le_refl _)
  exact ⟨.ref s1.heap.objs.size, upd H1 s1.heap.objs.size (L2.DX.itemsO s1.heap.objs.size a), I1.laid (t' := s1.toks) (fun b u e => Heap.get?_push_of_some _ e) (Nat.le_refl _) (L2.DX.itemsO_ok (Heap.get?_push_size _ rfl)), rfl, q1 _ hf⟩
abbrev encE (e : Ent) : PyData := .tuple [.tuple (e.1.map PyData.int), .int e.2.2]
abbrev pairE (e : Ent) : List Int × Int := (e.1, e.2.2)
theorem encE_P (e : Ent) : encE e = D.toP (encP (pairE e)) := by
  simp only [encP, pairE, D.toP, toPL, toPL_ints]
def rSortX (K : PySem.W.Frag) (P : Program) (w : World) : List V → Hp → VK → Prop := fun vs H Q => ∃ (p a : Addr) (L : List Ent), vs = [.ref p] ∧ H p = some (L2.DX.itemsO p a) ∧ H a = some (DXO P w a L) ∧ KeysT K H L ∧ L.length ≤ 1000000 ∧
  ∀ (H' : Hp) (l : Addr) (zs : List (Addr × Ent)), (∀ b o, H b = some o → H' b = some o) → (zs.map fun z => z.2).Perm L → (zs.map fun z => pairE z.2) = sortP (L.map pairE) → H l = none → H' l = some (.lst (zs.map fun z => V.ref z.1)) →
    (∀ z ∈ zs, H' z.1 = some (.tup [.ref z.2.2.1, .int z.2.2.2])) → Q (.ref l) H'
theorem each_zip {R : Value → Addr × Ent → Prop} : ∀ (as : List Addr) (L : List Ent), as.length = L.length → (∀ z ∈ as.zip L, R (Value.ref z.1) z) → PySem.W.EachIs R (as.map Value.ref) (as.zip L)
  | [], _, _, _ => .nil
  | a :: as, [], h, _ => by simp at h
  | a :: as, e :: L, h, q => .cons (q (a, e) (by simp)) (each_zip as L (by simpa using h) fun z hz => q z (by simp [hz]))
theorem eachrefs {us : List Value} {L : List (Addr × Ent)} (h : PySem.W.EachIs (fun u (q : Addr × Ent) => u = Value.ref q.1) us L) : us = L.map fun q => Value.ref q.1 := by
  induction h with
  | nil => rfl
  | cons a t ih => rw [List.map_cons, a, ih]
theorem cr_sortedX (hc : X.calm = true) (hu : X.A.units + 64 < cLine) : CallR X (.builtin "sorted") (rSortX X.K X.prog X.w) := by
  intro pins s σ H xs us Q I r h
  obtain ⟨p, a, L, rfl, hp, ha, kt, hL, q⟩ := h
  obtain rfl := Vals.ref1 r
  have view : s.heap.IsItemsView p a := (show ObjOk X.prog X.w H s.heap p (L2.DX.itemsO p a) from I.hok p _ hp).1
  obtain ⟨z, hd, xs', rel, o, es, ep, ho, hx, hdat, hes, his, hn⟩ := dx_full I ha kt
  have l1 : L.length = xs'.length := Paired.length rel
  have l2 : es.size = xs'.length := size_of_entries hes
  have hh : X.A.handled = none := I.ok.hd hc
  refine DT.sortedI (es := es) (ep := ep) hh view ⟨o, ho, hx, hdat⟩ (by rw [sizeLine_eq]; omega) fun h' tk as hk hlt hl hG => ?_
  have lak : as.length = L.length := by omega
  have nd : as.Nodup := List.Pairwise.imp (fun h => Nat.ne_of_lt h) hG.rise
  -- the pairs that were made
  have pr : ∀ z ∈ as.zip L, ∃ t, h'.get? z.1 = some { cls := .type "tuple", data := .seq #[Value.ref z.2.2.1, Value.int z.2.2.2 t] } := by
    intro z hz
    obtain ⟨j, hj⟩ := List.mem_iff_getElem?.mp hz
    obtain ⟨hj1, hj2⟩ := List.getElem?_zip_eq_some.mp hj
    obtain ⟨en, he, hg⟩ := hG.pairs j z.1 hj1
    rw [entry_at hes j] at he
    obtain ⟨x, hxj, een⟩ := Option.map_eq_some_iff.mp he
    obtain ⟨e0, he0, r1, r2, t, r3⟩ := L2.DX.pget rel hxj
    rw [hj2] at he0
    cases he0
    refine ⟨t, ?_⟩
    rw [hg, ← een]
    show some ({ cls := .type "tuple", data := .seq #[Value.ref x.2.1, x.2.2] } : Obj) = _
    rw [r3, ← r2]
  have hob : (h'.push { cls := .type "list", data := .seq (as.map Value.ref).toArray }).get? h'.objs.size = some (seqObj "list" (as.map Value.ref).toArray 0) := Heap.get?_push_size _ rfl
  have kb : ∀ b o, s.heap.get? b = some o → (h'.push { cls := .type "list", data := .seq (as.map Value.ref).toArray }).get? b = some o := fun b o e => Heap.get?_push_of_some _ (hk b o e)
  have ne0 : ∀ b o, h'.get? b = some o → b ≠ h'.objs.size := fun b o e => Nat.ne_of_lt (Heap.lt_size e)
  generalize hh2 : h'.push { cls := .type "list", data := .seq (as.map Value.ref).toArray } = h2 at hob kb ⊢
  have ka : ∀ b o, h'.get? b = some o → h2.get? b = some o := fun b o e => by rw [← hh2]; exact Heap.get?_push_of_some _ e
  have lz : (as.zip L).length = L.length := by rw [List.length_zip]; omega
  refine PySem.W.list_sort_data (s := { s with heap := h2, toks := tk }) (R := fun u (z : Addr × Ent) => u = Value.ref z.1) (enc := fun z : Addr × Ent => encE z.2) (bs := as.zip L) hob (each_zip as L lak fun _ _ => rfl) (each_zip as L lak fun z hz => ?_) ?_ ?_ (by rw [lz, sizeLine_eq]; omega) ?_ fun out ho eo => ?_
  · obtain ⟨t, hg⟩ := pr z hz
    have hk2 : z.2 ∈ L := (List.of_mem_zip hz).2
    refine ⟨[], ?_, by simp⟩
    have kr : Reads h2 (.ref z.2.2.1) (.tuple (z.2.1.map PyData.int)) [] := rds_tup (tupInts_of (P := X.prog) (w := X.w) (isT_keep (I.isT (kt z.2 hk2)) fun b u e => kb b u e))
    exact .tuple (ka _ _ hg) rfl rfl (ReadsAll.cons (as := []) (bs := []) kr (ReadsAll.cons (as := []) (bs := []) (.int _ _) .nil))
  · intro d hd d' hd'
    obtain ⟨b, hb, rfl⟩ := List.mem_map.mp hd
    obtain ⟨b', hb', rfl⟩ := List.mem_map.mp hd'
    simp only [encE, PySem.W.alike, PySem.W.alikeAll, alA_ints, Bool.and_self]
  · refine .inl fun d hd => ?_
    obtain ⟨b, hb, rfl⟩ := List.mem_map.mp hd
    exact ⟨_, _, rfl⟩
  · intro b hb
    have : (encE b.2).depth ≤ 2 := by
      rw [encE_P]
      refine (okd_lay 2 (encP (pairE b.2)) ?_).2
      simp only [encP, okd, okdL, okd_ints, Bool.and_true]
    show X.A.in1.units + 1 + _ < cLine
    have : X.A.in1.units ≤ X.A.units + 1 := by first | exact Nat.le_refl _ | (show X.A.units + 1 ≤ _; omega)
    omega
  · have hout := eachrefs eo
    have pz : ((as.zip L).mergeSort (PySem.W.dataLe false fun z : Addr × Ent => encE z.2)).Perm (as.zip L) := List.mergeSort_perm _ _
    have epair : ((as.zip L).mergeSort (PySem.W.dataLe false fun z : Addr × Ent => encE z.2)).map (fun z => pairE z.2) = sortP (L.map pairE) := by
      have e1 : L.map pairE = (as.zip L).map fun z => pairE z.2 := by
        have e2 : (as.zip L).map (fun z => z.2) = L := List.map_snd_zip (by omega)
        conv => lhs; rw [← e2, List.map_map]
        rfl
      rw [e1]
      unfold sortP
      refine (List.map_mergeSort fun x _ y _ => ?_)
      have := le_encP (pairE x.2) (pairE y.2)
      rw [← this]
      show (!PySem.W.dataLt (encE y.2) (encE x.2)) = (!PySem.W.dataLt (D.toP (encP (pairE y.2))) (D.toP (encP (pairE x.2))))
      rw [encE_P, encE_P]
    generalize (as.zip L).mergeSort (PySem.W.dataLe false fun z : Addr × Ent => encE z.2) = zs at hout pz epair
    show EP X pins σ Q (.ref h'.objs.size) { s with heap := sortedHeap h2 h'.objs.size (as.map Value.ref) out.toArray, toks := tk }
    have hperm : (zs.map fun z => z.2).Perm L := by
      have e := pz.map (fun z => z.2)
      have m2 : (as.zip L).map (fun z => z.2) = L := List.map_snd_zip (by omega)
      rw [m2] at e
      exact e
    have kF : ∀ b o, b ≠ h'.objs.size → h2.get? b = some o → (sortedHeap h2 h'.objs.size (as.map Value.ref) out.toArray).get? b = some o := fun b o hb e => (PyProof.Rows.sortedHeap_old hb (Heap.lt_size e)).trans e
    have kS : ∀ b o, s.heap.get? b = some o → (sortedHeap h2 h'.objs.size (as.map Value.ref) out.toArray).get? b = some o := fun b o e => kF b o (ne0 _ _ (hk b o e)) (kb b o e)
    obtain ⟨eF, heF⟩ := PyProof.Rows.sortedHeap_at (vs := as.map Value.ref) (out := out.toArray) hob
    have I1 : Inv X pins σ H { s with heap := sortedHeap h2 h'.objs.size (as.map Value.ref) out.toArray, toks := tk } := I.kept (t' := tk) kS
    have hn0 : H h'.objs.size = none := I.hok.fresh (Nat.le_of_lt hlt)
    have hlen : (zs.map fun z => V.ref z.1).length ≤ sizeLine := by
      have e := pz.length_eq
      rw [lz] at e
      rw [List.length_map, sizeLine_eq]
      omega
    have rv : Vals (zs.map fun z => V.ref z.1) out := by
      rw [hout]
      exact vals_maps (fun z : Addr × Ent => V.ref z.1) (fun z => Value.ref z.1) zs fun _ _ => rfl
    have I2 : Inv X pins σ (upd H h'.objs.size (.lst (zs.map fun z => V.ref z.1))) { s with heap := sortedHeap h2 h'.objs.size (as.map Value.ref) out.toArray, toks := tk } :=
      I1.take (h' := sortedHeap h2 h'.objs.size (as.map Value.ref) out.toArray) (t' := tk) (fun b ob _ e => e) (I.fpOk (Nat.le_of_lt hlt) hn0) ⟨hlen, out, eF, rv, heF⟩
    have nz : (zs.map fun z => z.1).Nodup := by
      have e := pz.map (fun z => z.1)
      have m1 : (as.zip L).map (fun z => z.1) = as := List.map_fst_zip (by omega)
      rw [m1] at e
      exact e.nodup_iff.mpr nd
    obtain ⟨H2, I3, g, qt⟩ := L2.DX.takeT (P := fun b vs => ∃ z ∈ zs, z.1 = b ∧ vs = [.ref z.2.2.1, .int z.2.2.2]) I (zs.map fun z => z.1) _ I2 nz fun b hb => by
      obtain ⟨z, hz, rfl⟩ := List.mem_map.mp hb
      have hz0 := pz.mem_iff.mp hz
      obtain ⟨t, hg⟩ := pr z hz0
      have hbl : s.heap.objs.size ≤ z.1 := Nat.le_of_lt (hG.above z.1 (List.of_mem_zip hz0).1)
      refine ⟨hbl, ?_, [.ref z.2.2.1, .int z.2.2.2], ⟨z, hz, rfl, rfl⟩, fun H3 => ⟨(by rw [sizeLine_eq]; show 2 ≤ 16777216; omega), [Value.ref z.2.2.1, Value.int z.2.2.2 t], .cons rfl (.cons ⟨t, rfl⟩ .nil), ⟨_, kF _ _ (ne0 _ _ hg) (ka _ _ hg), rfl, 0, rfl⟩⟩⟩
      rw [upd_ne (ne0 _ _ hg)]
      exact I.hok.fresh hbl
    have gr : ∀ b o, H b = some o → H2 b = some o := fun b o e => g b o (by rw [upd_ne (ne_of_none e hn0)]; exact e)
    refine ⟨.ref h'.objs.size, H2, I3, rfl, q H2 h'.objs.size zs gr hperm epair hn0 (g _ _ upd_same) fun z' hz' => ?_⟩
    obtain ⟨vs, ⟨z2, hz2, e1, ev⟩, hH⟩ := qt z'.1 (List.mem_map_of_mem (f := fun z => z.1) hz')
    have e2 : z2 = z' := by
      obtain ⟨i, hi⟩ := List.mem_iff_getElem?.mp hz2
      obtain ⟨j, hj⟩ := List.mem_iff_getElem?.mp hz'
      have hi' : (zs.map fun z => z.1)[i]? = some z2.1 := by rw [List.getElem?_map, hi]; rfl
      have hj' : (zs.map fun z => z.1)[j]? = some z'.1 := by rw [List.getElem?_map, hj]; rfl
      have : i = j := (List.getElem?_inj (List.getElem?_eq_some_iff.mp hi').1 nz).mp (by rw [hi', hj', e1])
      subst this
      rw [hi] at hj
      exact Option.some.inj hj
    subst e2
    rw [ev] at hH
    exact hH
end
end Pc

set_option Elab.async false
set_option linter.all false
set_option autoImplicit false
set_option maxRecDepth 100000
set_option maxHeartbeats 4000000
/-! Pc, part Zs: found = {}; for a, b in q: found[a] = found.get(a, 0) + b; return tuple(sorted(found.items())). -/
namespace Pc
open PySem PySem.Spec PyProof.Rows L2
def valQ (L : List (List Int × Int)) (ns : List Int) : Option Int := (L.find? fun e => decide (e.1 = ns)).map (·.2)
def putQ (L : List (List Int × Int)) (ns : List Int) (v : Int) : List (List Int × Int) := if (L.any fun e => decide (e.1 = ns)) = true then L.map (fun e => if e.1 = ns then (e.1, v) else e) else L ++ [(ns, v)]
def stepQ (acc : List (List Int × Int)) (p : List Int × Int) : List (List Int × Int) := putQ acc p.1 ((valQ acc p.1).getD 0 + p.2)
def mrg (ps : List (List Int × Int)) : List (List Int × Int) := ps.foldl stepQ []
theorem valX_Q (L : List Ent) (ns : List Int) : valX L ns = valQ (L.map pairE) ns := by
  unfold valX valQ
  rw [List.find?_map]
  simp only [Option.map_map]
  rfl
theorem putX_Q (L : List Ent) (ns : List Int) (b : Addr) (v : Int) : (putX L ns b v).map pairE = putQ (L.map pairE) ns v := by
  unfold putX putQ
  have e : ((L.map pairE).any fun e => decide (e.1 = ns)) = L.any fun e => decide (e.1 = ns) := by rw [List.any_map]; rfl
  rw [e]
  split
  · rw [List.map_map, List.map_map]
    refine List.map_congr_left fun x _ => ?_
    simp only [Function.comp]
    by_cases h : x.1 = ns <;> simp [h]
  · rw [List.map_append]
    rfl
/-! ### plain -/
theorem putQ_keys (L : List (List Int × Int)) (ns : List Int) (v : Int) : (putQ L ns v).map (·.1) = if ns ∈ L.map (·.1) then L.map (·.1) else L.map (·.1) ++ [ns] := by
  unfold putQ
  have e : (L.any fun e => decide (e.1 = ns)) = true ↔ ns ∈ L.map (·.1) := by
    rw [List.any_eq_true, List.mem_map]
    constructor
    · rintro ⟨x, hx, h⟩; exact ⟨x, hx, of_decide_eq_true h⟩
    · rintro ⟨x, hx, h⟩; exact ⟨x, hx, decide_eq_true h⟩
  by_cases h : ns ∈ L.map (·.1)
  · rw [if_pos (e.mpr h), if_pos h, List.map_map]
    refine List.map_congr_left fun x _ => ?_
    simp only [Function.comp]
    by_cases h : x.1 = ns <;> simp [h]
  · rw [if_neg fun z => h (e.mp z), if_neg h, List.map_append]
    rfl
structure MrgI (done acc : List (List Int × Int)) : Prop where
  nd : (acc.map (·.1)).Nodup
  mem : ∀ s, s ∈ acc.map (·.1) ↔ s ∈ done.map (·.1)
  val : ∀ p ∈ acc, p.2 = wsum done p.1
theorem wsum_none {ps : List (List Int × Int)} {s : List Int} (h : s ∉ ps.map (·.1)) : wsum ps s = 0 := by
  unfold wsum
  have e : (ps.filter fun p => decide (p.1 = s)) = [] := List.filter_eq_nil_iff.mpr fun p hp z => h (List.mem_map.mpr ⟨p, hp, of_decide_eq_true z⟩)
  rw [e]
  rfl
theorem wsum_snoc (ps : List (List Int × Int)) (p : List Int × Int) (s : List Int) : wsum (ps ++ [p]) s = wsum ps s + if p.1 = s then p.2 else 0 := by
  unfold wsum
  rw [List.filter_append, List.map_append, List.sum_append]
  by_cases h : p.1 = s <;> simp [List.filter_cons, h]
theorem valQ_of {done acc : List (List Int × Int)} (h : MrgI done acc) (s : List Int) : (valQ acc s).getD 0 = wsum done s := by
  unfold valQ
  cases e : acc.find? fun e => decide (e.1 = s) with
  | none =>
    have hn : s ∉ acc.map (·.1) := fun z => by
      obtain ⟨p, hp, hs⟩ := List.mem_map.mp z
      have := List.find?_eq_none.mp e p hp
      exact this (decide_eq_true hs)
    rw [wsum_none fun z => hn ((h.mem s).mpr z)]
    rfl
  | some p =>
    have h1 := List.mem_of_find?_eq_some e
    have h2 : p.1 = s := by simpa using List.find?_some e
    show p.2 = _
    rw [h.val p h1, h2]
theorem mrg_step {done acc : List (List Int × Int)} (h : MrgI done acc) (p : List Int × Int) : MrgI (done ++ [p]) (stepQ acc p) := by
  unfold stepQ
  rw [valQ_of h]
  refine ⟨?_, fun s => ?_, fun q hq => ?_⟩
  · rw [putQ_keys]
    split
    · exact h.nd
    · rename_i hn
      refine List.nodup_append.mpr ⟨h.nd, by simp, fun a ha b hb e => ?_⟩
      rw [List.mem_singleton.mp hb] at e
      exact hn (e ▸ ha)
  · rw [putQ_keys, List.map_append, List.mem_append, ← h.mem s]
    split
    · rename_i hy
      constructor
      · exact .inl
      · rintro (z | z)
        · exact z
        · have : s = p.1 := by simpa using z
          rw [this]; exact hy
    · rw [List.mem_append]
      simp
  · rw [wsum_snoc]
    unfold putQ at hq
    split at hq
    · obtain ⟨x, hx, e⟩ := List.mem_map.mp hq
      by_cases hxs : x.1 = p.1
      · rw [if_pos hxs] at e
        subst e
        show _ = wsum done x.1 + if p.1 = x.1 then p.2 else 0
        rw [hxs, if_pos rfl]
      · rw [if_neg hxs] at e
        subst e
        rw [if_neg fun z => hxs z.symm, h.val x hx, Int.add_zero]
    · rename_i hn
      rcases List.mem_append.mp hq with hq | hq
      · have hne : p.1 ≠ q.1 := fun z => hn (List.any_eq_true.mpr ⟨q, hq, decide_eq_true z.symm⟩)
        rw [if_neg hne, h.val q hq, Int.add_zero]
      · have e := List.mem_singleton.mp hq
        subst e
        rw [if_pos rfl]
theorem mrg_inv (ps : List (List Int × Int)) : MrgI ps (mrg ps) := by
  suffices h : ∀ (rest done acc : List (List Int × Int)), MrgI done acc → MrgI (done ++ rest) (rest.foldl stepQ acc) by
    have := h ps [] [] ⟨List.nodup_nil, fun s => Iff.rfl, fun p hp => by cases hp⟩
    rw [List.nil_append] at this
    exact this
  intro rest
  induction rest with
  | nil => intro done acc h; simpa using h
  | cons p rest ih =>
    intro done acc h
    have := ih (done ++ [p]) (stepQ acc p) (mrg_step h p)
    simpa using this
theorem mrg_sort (ps : List (List Int × Int)) : sortP (mrg ps) = mergeP ps := by
  have h := mrg_inv ps
  refine sortP_eq ?_ (mergeP_sorted ps)
  have e : mrg ps = ((mrg ps).map (·.1)).map fun s => (s, wsum ps s) := by
    rw [List.map_map]
    conv => lhs; rw [← List.map_id (mrg ps)]
    refine List.map_congr_left fun p hp => ?_
    exact Prod.ext rfl (h.val p hp)
  rw [e]
  unfold mergeP
  refine List.Perm.map _ ?_
  exact (List.perm_ext_iff_of_nodup h.nd (sosT_nodup _)).mpr fun s => by rw [h.mem s, sosT_mem]
/-! ### the body -/
def pairsOf : List D → Option (List (List Int × Int))
  | [] => some []
  | .tup [.tup xs, .int n] :: r => (intsOf xs).bind fun ns => (pairsOf r).map ((ns, n) :: ·)
  | _ :: _ => none
theorem pairsOf_map : ∀ (ps : List (List Int × Int)), pairsOf (ps.map encP) = some ps
  | [] => rfl
  | p :: ps => by
    show (intsOf (p.1.map D.int)).bind (fun ns => (pairsOf (ps.map encP)).map ((ns, p.2) :: ·)) = _
    rw [intsOf_map, pairsOf_map ps]
    rfl
theorem pairsOf_eq : ∀ {ds : List D} {ps : List (List Int × Int)}, pairsOf ds = some ps → ds = ps.map encP
  | [], _, h => by cases h; rfl
  | d :: r, ps, h => by
    unfold pairsOf at h
    split at h
    · rename_i e; cases e
    · rename_i xs n r' e
      cases e
      cases e1 : intsOf xs with
      | none => rw [e1] at h; cases h
      | some ns =>
        rw [e1] at h
        cases e2 : pairsOf r with
        | none => rw [e2] at h; cases h
        | some qs => rw [e2] at h; cases h; rw [pairsOf_eq e2, intsOf_eq e1]; rfl
    · cases h
def mrgD (d : D) : Option D := (itemsD d).bind fun ds => (pairsOf ds).bind fun ps => if ps.length ≤ 1000000 then some (.tup ((sortP (mrg ps)).map encP)) else none
def mrgB (env : Ev) : M Out := do
  let d ← rd 0 env
  let r ← ofO (if env.length = 4 then mrgD d else none)
  pure (.rt r)
theorem mrgB_ok {env : Ev} {S : Store} : mrgB env S = .bad ∨ ∃ d ds ps, env.length = 4 ∧ env[0]? = some (.val d) ∧ itemsD d = some ds ∧ ds = ps.map encP ∧ ps.length ≤ 1000000 ∧ mrgB env S = .ok (.rt (.tup ((sortP (mrg ps)).map encP))) S := by
  unfold mrgB
  cases hd : env[0]? with
  | none => exact .inl (bind_bad (by unfold rd; rw [hd]; rfl))
  | some sl =>
    cases sl with
    | val d =>
      have e1 : rd 0 env S = .ok d S := by unfold rd; rw [hd]; rfl
      rw [bind_ok e1, ofO_bind]
      by_cases hl : env.length = 4
      · rw [if_pos hl]
        unfold mrgD
        cases e2 : itemsD d with
        | none => exact .inl rfl
        | some ds =>
          rw [Option.bind_some]
          cases e3 : pairsOf ds with
          | none => exact .inl rfl
          | some ps =>
            rw [Option.bind_some]
            by_cases hz : ps.length ≤ 1000000
            · rw [if_pos hz]
              exact .inr ⟨d, ds, ps, hl, rfl, e2, pairsOf_eq e3, hz, rfl⟩
            · rw [if_neg hz]; exact .inl rfl
      · rw [if_neg hl]; exact .inl rfl
    | _ => exact .inl (bind_bad (by unfold rd; rw [hd]; rfl))
theorem stepQ_len (acc : List (List Int × Int)) (p : List Int × Int) : (stepQ acc p).length ≤ acc.length + 1 := by
  unfold stepQ putQ
  split
  · simp
  · simp
theorem foldQ_len : ∀ (ps acc : List (List Int × Int)), (ps.foldl stepQ acc).length ≤ acc.length + ps.length
  | [], acc => by simp
  | p :: ps, acc => by
    have h1 := foldQ_len ps (stepQ acc p)
    have h2 := stepQ_len acc p
    simp only [List.foldl_cons, List.length_cons]
    omega
section
variable {g : Gc} {Wx : WX} {w0 : Wd} {X : Cx}
theorem ER.upd_ext {N0 : List Addr} {w : Wd} {env : Ev} {σ : L2.St} {p : Addr} {f : Heap → Prop} {o : HO} (er : ER g N0 w env σ) (h : w.H p = some (.ext f)) (hN : p ∈ w.N) : ER g N0 ⟨upd w.H p o, w.N, w.m⟩ env σ := by
  have mo := mono_own (w := w) (o := o) h (fun _ z => (by cases z)) (fun _ _ z => (by cases z)) hN
  refine ⟨er.len, fun i d e => ?_, fun i xs e => ?_, fun i xs e => ?_, er.ap⟩
  · obtain ⟨v, h1, h2⟩ := er.val i d e
    exact ⟨v, h1, h2.mono mo⟩
  · obtain ⟨a, us, h1, h2, h3, h4, h5, h6⟩ := er.own i xs e
    refine ⟨a, us, h1, ?_, h3, h4, h5, h6.mono mo⟩
    show upd w.H p o a = _
    rw [upd_ne (ne_of h2 h (fun z => by cases z))]; exact h2
  · obtain ⟨a, us, h1, h2, h3, h4, h5, h6⟩ := er.owd i xs e
    refine ⟨a, us, h1, ?_, h3, h4, h5, h6.mono mo⟩
    show upd w.H p o a = _
    rw [upd_ne (ne_of h2 h (fun z => by cases z))]; exact h2
structure StX (g : Gc) (P : Program) (W : World) (w0 : Wd) (p : Addr) (w : Wd) (env : Ev) (S : Store) (σ : L2.St) (L : List Ent) : Prop where
  st : StR g w0 w env S σ
  self : σ[1]? = some (some (.ref p))
  at_ : w.H p = some (DXO P W p L)
  inN : p ∈ w.N
  nm : p ∉ w.m
  no : w0.H p = none
  kt : KeysT g.K w.H L
theorem StX.step {P : Program} {W : World} {p : Addr} {w w' : Wd} {env : Ev} {S S' : Store} {σ : L2.St} {L : List Ent} (s : StX g P W w0 p w env S σ L) (k : Keep w w') (s' : SR g w' S') : StX g P W w0 p w' env S' σ L := by
  refine ⟨s.st.step k s', s.self, k.kp p _ s.at_ s.nm, k.sub p s.inN, fun z => ?_, s.no, fun q hq => k.toMono.sqT (s.kt q hq)⟩
  rcases k.newm p z with z | z
  · exact s.nm z
  · rw [s.at_] at z; cases z
theorem Cn.merged {G : Ge} {k : Nat} {N : List Str} {sc : Scope} {l : List Str} {f a b q : Str} {p0 p1 p2 pa pb pt pq pf1 pa1 ps pf2 ap pa2 pc cp pb2 pbin pasg pfor pt1 ps1 pf3 ap2 cp2 cs ct pr : Pos} {kt kk : Nat} (c : Cn g G k N sc X) (B : Bts l G) (fa : ∀ x, X.fn x = true) (po : Po X)
    (h1 : locB N sc f 1 = true) (h2 : locB N sc a 2 = true) (h3 : locB N sc b 3 = true) (v0 : visB N sc q 0 = true) (v1 : visB N sc f 1 = true) (v2 : visB N sc a 2 = true) (v3 : visB N sc b 3 = true)
    (ht : hasB l "tuple" = true) (hgt : glB sc "tuple" = true) (hs : hasB l "sorted" = true) (hgs : glB sc "sorted" = true) (l1 : (ap.endLine == cp.line) = true) (l2 : (ap2.endLine == cp2.line) = true) :
    DSs g Wx w0 X [.Assign [.Name f p0] (.Dict [] [] p1) p2,
      .For (.Tuple [.Name a pa, .Name b pb] kt pt) (.Name q pq) [.Assign [.Subscript (.Name f pf1) (.Name a pa1) ps] (.BinOp (.Call (.Attribute (.Name f pf2) "get" ap) [.Name a pa2, .Constant (.int 0) kk pc] [] cp) .Add (.Name b pb2) pbin) pasg] [] pfor,
      .Return (some (.Call (.Name "tuple" pt1) [.Call (.Name "sorted" ps1) [.Call (.Attribute (.Name f pf3) "items" ap2) [] [] cp2] [] cs] [] ct)) pr] mrgB := by
  have hK := c.ok.K
  obtain ⟨g1, g2⟩ := c.loc h1
  have MT : M2 X (.Name f pf2) "get" ap (.Name a pa2) (.Constant (.int 0) kk pc) cp := ⟨base_ok rfl, few_ok (es := [.Name a pa2, .Constant (.int 0) kk pc]) rfl (by simp), l1, rfl⟩
  have eB : PE X (.BinOp (.Call (.Attribute (.Name f pf2) "get" ap) [.Name a pa2, .Constant (.int 0) kk pc] [] cp) .Add (.Name b pb2) pbin) _ := pe_op op_add (pe_dgetX c.u1 (c.pv 1 v1) (c.pv 2 v2) pe_int MT) (c.pv 3 v3)
  have sB : PS X (.Assign [.Subscript (.Name f pf1) (.Name a pa1) ps] (.BinOp (.Call (.Attribute (.Name f pf2) "get" ap) [.Name a pa2, .Constant (.int 0) kk pc] [] cp) .Add (.Name b pb2) pbin) pasg) _ := ps_asg eB (pg_sub (c.pv 1 v1) (c.pv 2 v2) (set_X c.u1) (asg_sub rfl)) (sole_sub rfl) stores_sub rfl
  have tg : DG g w0.N X (.Tuple [.Name a pa, .Name b pb] kt pt) _ _ := c.tg (n := 2) (dgs_cons (dg_name (c.pg fa 2 h2)) (dgs_cons (dg_name (c.pg fa 3 h3)) dgs_nil rfl) rfl) (fun _ => rfl) (fun _ => rfl)
  have eR : PE X (.Call (.Name "tuple" pt1) [.Call (.Name "sorted" ps1) [.Call (.Attribute (.Name f pf3) "items" ap2) [] [] cp2] [] cs] [] ct) _ :=
    pe_blt (isT "tuple") (c.blt (B _ ht) hgt bb_tuple (by decide)) call_tuple_of rfl (pa_cons (pe_blt (isB "sorted") (c.blt (B _ hs) hgs bb_sorted (by decide)) (cr_sortedX c.ok.calm c.u64) rfl (pa_cons (pe_itemsX (c.pv 1 v1) rfl l2) pa_nil rfl)) pa_nil rfl)
  refine PSs.imp (pss_cons (ps_set c.nd g1 g2 pe_dnewX (swaps_no rfl) (.inl (fa f))) (pss_cons (ps_for po.po c.ok.calm (di_for (Wx := Wx) (N0 := w0.N) hK (c.v 0 v0)) tg (pss_one sB) (fun _ => rfl)) (pss_one (ps_ret eR)))) fun E σ H ⟨w, env, S, ee, st, qq⟩ => ?_
  subst ee
  intro p hp
  rcases mrgB_ok (env := env) (S := S) with eb | ⟨d, ds, qs, hl, hd, hi, hds, hz, eb⟩
  · rw [eb] at qq; exact qq.elim
  rw [eb] at qq
  -- the state behind found = {}
  have k0 := keep_newN (o := DXO X.prog X.w p []) hp
  have sr0 := st.sr.newN (o := DXO X.prog X.w p []) hp
  have er0 : ER g w0.N ⟨upd w.H p (DXO X.prog X.w p []), p :: w.N, w.m⟩ (env.set 1 .no) (σ.set 1 (some (.ref p))) := (st.er.keep k0).set_no
  have hsl : σ.length = 4 := by rw [st.er.len]; exact hl
  have no0 : w0.H p = none := by
    cases e : w0.H p with
    | none => rfl
    | some o =>
      by_cases hm : p ∈ w0.m
      · obtain ⟨i, hi⟩ := List.mem_iff_getElem?.mp hm
        have := st.kp.mp i p hi
        exact (st.sr.notnone (st.sr.sub p (List.mem_of_getElem? this)) hp).elim
      · have := st.kp.kp p o e hm
        rw [this] at hp; cases hp
  have stx : StX g X.prog X.w w0 p ⟨upd w.H p (DXO X.prog X.w p []), p :: w.N, w.m⟩ (env.set 1 .no) S (σ.set 1 (some (.ref p))) [] :=
    ⟨⟨er0, sr0, st.kp.trans k0⟩, List.getElem?_set_self (by omega), upd_same, List.mem_cons_self, fun z => st.sr.notnone (st.sr.sub p z) hp, no0, fun _ z => by cases z⟩
  have hd1 : (env.set 1 .no)[0]? = some (.val d) := by rw [List.getElem?_set_ne (by decide)]; exact hd
  refine tr_intro er0 sr0 ?_
  have e1 : (do let x ← rd 0 (env.set 1 .no); itemsM x : M (List D)) S = .ok ds S := by
    rw [bind_ok (show rd 0 (env.set 1 .no) S = .ok d S by unfold rd; rw [hd1]; rfl)]
    unfold itemsM
    rw [hi]
    rfl
  rw [e1]
  intro w1 J k1 s1 it
  have stx1 := stx.step k1 s1
  refine ⟨fun i m σ H => i + m = ds.length ∧ ∃ w' env' L, w'.H = H ∧ Mono w1 w' ∧ env'.length = 4 ∧ StX g X.prog X.w w0 p w' env' S σ L ∧ L.map pairE = (qs.take i).foldl stepQ [], ⟨ds.length, by omega, w1, _, [], rfl, Mono.refl _, by simpa using hl, stx1, rfl⟩, ?_⟩
  rintro i m σ' H ⟨em, w', env', L, rfl, mo, hl', sx, hL⟩
  have hdl : ds.length = qs.length := by rw [hds, List.length_map]
  have hLl : L.length ≤ i := by
    have h1 : (L.map pairE).length ≤ (qs.take i).length := by
      rw [hL]
      have := foldQ_len (qs.take i) []
      simpa using this
    rw [List.length_map, List.length_take] at h1
    omega
  by_cases hil : i < ds.length
  · refine .inr ⟨it.go w' i mo hil, fun σ H => ∃ w' env' L, w'.H = H ∧ Mono w1 w' ∧ env'.length = 4 ∧ StX g X.prog X.w w0 p w' env' S σ L ∧ L.map pairE = (qs.take (i + 1)).foldl stepQ [], fun σ2 H2 z => ⟨m - 1, by omega, by omega, z⟩, fun x H' y => ?_⟩
    obtain ⟨w2, dd, rfl, k2, s2, hdd, rx⟩ := it.yld w' S i x H' mo sx.st.sr hil y
    have sx2 := sx.step k2 s2
    have hqi : i < qs.length := by omega
    have edd : dd = encP qs[i] := by
      rw [hds, List.getElem?_map, List.getElem?_eq_getElem hqi] at hdd
      exact (Option.some.inj hdd).symm
    subst edd
    have htk : qs.take (i + 1) = qs.take i ++ [qs[i]] := by rw [List.take_succ_eq_append_getElem hqi]
    generalize qs[i] = pi at rx htk
    obtain ⟨ns, n⟩ := pi
    refine ⟨w2, env', S, encP (ns, n), (env'.set 2 (.val (tupI ns))).set 3 (.val (.int n)), rfl, sx2.st.er, s2, rx, rfl, fun σ2 er2 same2 len2 => ?_⟩
    have hs1 : σ2[1]? = some (some (.ref p)) := by rw [same2 1 (by simp)]; exact sx2.self
    obtain ⟨va, e2, ra⟩ := er2.val 2 (tupI ns) (by rw [List.getElem?_set_ne (by decide), List.getElem?_set_self (by omega)])
    obtain ⟨vb, e3, rb⟩ := er2.val 3 (.int n) (by rw [List.getElem?_set_self (by rw [List.length_set]; omega)])
    cases rb
    obtain ⟨b', us, rfl, hb1, hb2⟩ := (RepV.tup (.inl ra) : ∃ a vs, va = .ref a ∧ SqT g.K w2.H a vs ∧ RepL g w2 vs (ns.map D.int))
    rw [hb2.int_inv] at hb1
    have ktX : KeysT X.K w2.H L := by rw [hK]; exact sx2.kt
    have sqX : SqT X.K w2.H b' (ns.map V.int) := by rw [hK]; exact hb1
    refine ⟨.ref p, hs1, p, L, rfl, sx2.at_, ktX, .ref b', e2, b', ns, 0, sx2.at_, ktX, rfl, sqX, rfl, .int n, e3, _, _, rfl, rfl, .ref p, hs1, .ref b', e2, p, L, b', ns, _, rfl, rfl, rfl, sx2.at_, ktX, sqX, by rw [sizeLine_eq]; omega, ?_⟩
    have mo2 := mono_own (w := w2) (o := DXO X.prog X.w p (putX L ns b' ((valX L ns).getD 0 + n))) sx2.at_ (fun _ z => (by cases z)) (fun _ _ z => (by cases z)) sx2.inN
    refine ⟨⟨upd w2.H p (DXO X.prog X.w p (putX L ns b' ((valX L ns).getD 0 + n))), w2.N, w2.m⟩, _, _, rfl, (mo.trans k2.toMono).trans mo2, by simpa using hl', ⟨⟨er2.upd_ext sx2.at_ sx2.inN, s2.own sx2.at_ (fun _ z => (by cases z)) (fun _ _ z => (by cases z)) sx2.inN sx2.nm, ?_⟩, hs1, upd_same, sx2.inN, sx2.nm, no0, fun e he => mo2.sqT ?_⟩, ?_⟩
    · refine ⟨sx2.st.kp.toMono.trans mo2, fun b o e hb => ?_, sx2.st.kp.sub, sx2.st.kp.newm⟩
      show upd w2.H p _ b = some o
      rw [upd_ne (ne_of_none e no0)]
      exact sx2.st.kp.kp b o e hb
    · unfold putX at he
      split at he
      · obtain ⟨x, hx, rfl⟩ := List.mem_map.mp he
        have := sx2.kt x hx
        by_cases hxs : x.1 = ns
        · rw [if_pos hxs]; exact this
        · rw [if_neg hxs]; exact this
      · rcases List.mem_append.mp he with he | he
        · exact sx2.kt e he
        · rw [List.mem_singleton.mp he]; exact hb1
    · rw [putX_Q, htk, List.foldl_append, ← hL, valX_Q]
      rfl
  · have hie : i = ds.length := by omega
    refine .inl ⟨it.stop w' i mo hie, ?_⟩
    have hLf : L.map pairE = mrg qs := by rw [hL, List.take_of_length_le (by omega)]; rfl
    refine ⟨.ref p, sx.self, p, L, rfl, sx.at_, by rw [hK]; exact sx.kt, fun v hv => ?_⟩
    have kv := keep_new (w := w') (o := L2.DX.itemsO v p) hv
    refine ⟨v, p, L, rfl, upd_same, kv.kp p _ sx.at_ sx.nm, fun e he => by rw [hK]; exact kv.toMono.sqT (sx.kt e he), by omega, fun H' lst zs gr pm ez ln lh zt => ?_⟩
    have gr2 : ∀ b o, w'.H b = some o → H' b = some o := fun b o e => gr b o (by rw [upd_ne (ne_of_none e hv)]; exact e)
    refine ⟨lst, _, rfl, .inl ⟨.inl (.inl lh), fun t ht => ?_⟩⟩
    have gr3 : ∀ b o, w'.H b = some o → upd H' t (.tup (zs.map fun z => V.ref z.1)) b = some o := fun b o e => by
      rw [upd_ne (ne_of_none (gr2 b o e) ht)]; exact gr2 b o e
    have mo3 : Mono w' ⟨upd H' t (.tup (zs.map fun z => V.ref z.1)), w'.N, w'.m⟩ := ⟨fun _ _ e => e, fun b o e _ => gr3 b o e, fun b o e => gr3 b _ e, fun b o u e => gr3 b _ e, fun b e => .inl e⟩
    have e9 : (sortP (mrg qs)).map encP = zs.map fun z => encP (pairE z.2) := by
      rw [← hLf, ← ez, List.map_map]
      rfl
    rw [e9] at qq
    refine qq ⟨upd H' t (.tup (zs.map fun z => V.ref z.1)), w'.N, w'.m⟩ (.ref t) ⟨sx.st.kp.toMono.trans mo3, fun b o e n => gr3 b o (sx.st.kp.kp b o e n), sx.st.kp.sub, sx.st.kp.newm⟩ (sx.st.sr.mono_at mo3 rfl sx.st.sr.sub (fun b hb => ?_) fun b hb => ?_) (.tup (.inl (.inl upd_same)) ?_)
    · obtain ⟨o, e⟩ := sx.st.sr.here b hb
      exact ⟨o, gr3 b o e⟩
    · obtain ⟨o, e⟩ := sx.st.sr.here b (sx.st.sr.sub b hb)
      rw [e]
      exact gr3 b o e
    · have all : ∀ (ys : List (Addr × Ent)), (∀ z ∈ ys, z ∈ zs) → RepL g ⟨upd H' t (.tup (zs.map fun z => V.ref z.1)), w'.N, w'.m⟩ (ys.map fun z => V.ref z.1) (ys.map fun z => encP (pairE z.2)) := by
        intro ys
        induction ys with
        | nil => intro _; exact .nil
        | cons z ys ih =>
          intro hy
          have hz := hy z List.mem_cons_self
          have hzH := zt z hz
          have hzL : z.2 ∈ L := pm.mem_iff.mp (List.mem_map_of_mem (f := fun z => z.2) hz)
          refine .cons (.tup (vs := [.ref z.2.2.1, .int z.2.2.2]) (.inl (.inl ?_)) (.cons (.tup (mo3.sqT (sx.kt z.2 hzL)) (RepL.ints _)) (.cons (.int _) .nil))) (ih fun y h => hy y (List.mem_cons_of_mem _ h))
          show upd H' t _ z.1 = _
          rw [upd_ne (ne_of_none hzH ht)]
          exact hzH
      exact all zs fun _ h => h
end
theorem w_mrgB {S : Store} {E : XQ} {env : Ev} {d : D} {ds : List D} {ps : List (List Int × Int)} {Q : Out → Store → Prop} (hl : env.length = 4) (h0 : env[0]? = some (.val d)) (hi : itemsD d = some ds) (hd : ds = ps.map encP) (hz : ps.length ≤ 1000000) (q : Q (.rt (.tup ((mergeP ps).map encP))) S) : Wp (mrgB env) S E Q := by
  unfold mrgB
  refine wp_bind.mpr (w_rd d h0 (wp_bind.mpr (w_ofO (a := .tup ((mergeP ps).map encP)) ?_ (wp_pure.mpr q))))
  rw [if_pos hl]
  unfold mrgD
  rw [hi, hd, Option.bind_some, pairsOf_map, Option.bind_some, if_pos hz, mrg_sort]
end Pc

set_option Elab.async false
set_option linter.all false
set_option autoImplicit false
set_option maxRecDepth 100000
set_option maxHeartbeats 4000000
/-! Pc, part Zt: [e for a in x for b in y]. -/
namespace Pc
open PySem PySem.Spec PyProof.Rows L2
def noOwnB (env : Ev) : Bool := env.all fun s => !s.isOwn
theorem ER.monoN {g : Gc} {N0 : List Addr} {w w' : Wd} {env : Ev} {σ : L2.St} (e : ER g N0 w env σ) (h : noOwnB env = true) (k : Mono w w') : ER g N0 w' env σ := by
  have no : ∀ (i : Nat) s, env[i]? = some s → s.isOwn = true → False := fun i s e1 e2 => by
    have := List.all_eq_true.mp h s (List.mem_of_getElem? e1)
    rw [e2] at this
    cases this
  refine ⟨e.len, fun i d h => ?_, fun i xs h => (no i _ h rfl).elim, fun i xs h => (no i _ h rfl).elim, e.ap⟩
  obtain ⟨v, a, b⟩ := e.val i d h
  exact ⟨v, a, b.mono k⟩
section
variable (fg : D → Ev → Option Ev) (fi1 : Ev → M (List D)) (fg1 : D → Ev → Option Ev) (fe : Ev → M D) (base : Ev) (vs1 : List Nat)
def comp2M : List D → M (List D)
  | [] => pure []
  | d :: ds => match fg d base with
    | none => fail
    | some env => do
      let es ← noEx (fi1 env)
      let ys ← (if es.length ≤ 1000 ∧ noOwnB env = true then compM fg1 (fun _ => pure true) fe (wipeE env vs1) es else fail)
      let zs ← comp2M ds
      pure (ys ++ zs)
def left2 (done ds : List D) : M (List D) := do
  let ys ← comp2M fg fi1 fg1 fe base vs1 ds
  pure (done ++ ys)
def left1 (b1 : Ev) (done es ds : List D) : M (List D) := do
  let ys ← compM fg1 (fun _ => pure true) fe b1 es
  let zs ← comp2M fg fi1 fg1 fe base vs1 ds
  pure (done ++ (ys ++ zs))
end
section
variable {fg : D → Ev → Option Ev} {fi1 : Ev → M (List D)} {fg1 : D → Ev → Option Ev} {fe : Ev → M D} {base b1 : Ev} {vs1 : List Nat} {done ds es : List D} {d e : D} {S : Store}
theorem left2_nil : left2 fg fi1 fg1 fe base vs1 done [] S = .ok done S := by
  show R.ok (done ++ []) S = _
  rw [List.append_nil]
theorem left1_nil : left1 fg fi1 fg1 fe base vs1 b1 done [] ds S = left2 fg fi1 fg1 fe base vs1 done ds S := by
  unfold left1 left2
  rw [bind_ok (show compM fg1 (fun _ => pure true) fe b1 [] S = .ok [] S from rfl)]
  rfl
theorem left1_cons : left1 fg fi1 fg1 fe base vs1 b1 done (e :: es) ds S = match fg1 e b1 with
    | none => .bad
    | some env => (match fe env S with
      | .ok y S2 => left1 fg fi1 fg1 fe base vs1 b1 (done ++ [y]) es ds S2
      | _ => .bad) := by
  unfold left1
  cases e1 : fg1 e b1 with
  | none => rw [bind_bad (show compM fg1 (fun _ => pure true) fe b1 (e :: es) S = .bad by simp only [compM, e1]; rfl)]
  | some env =>
    have hb : compM fg1 (fun _ => pure true) fe b1 (e :: es) S = (noEx (fe env) >>= fun y => compM fg1 (fun _ => pure true) fe b1 es >>= fun ys => pure (y :: ys)) S := by
      simp only [compM, e1]
      rw [bind_ok (show noEx ((fun _ => pure true : Ev → M Bool) env) S = .ok true S from rfl), if_pos rfl]
    cases e2 : fe env S with
    | bad =>
      rw [bind_bad (hb.trans (bind_bad (by simp only [noEx, e2])))]
      simp only [e2]
    | ex c fs S2 =>
      rw [bind_bad (hb.trans (bind_bad (by simp only [noEx, e2])))]
      simp only [e2]
    | ok y S2 =>
      simp only [e2]
      have h3 := hb.trans (bind_ok (show noEx (fe env) S = .ok y S2 by simp only [noEx, e2]))
      cases e3 : compM fg1 (fun _ => pure true) fe b1 es S2 with
      | bad => rw [bind_bad (h3.trans (bind_bad e3)), bind_bad e3]
      | ex c fs S3 => rw [bind_ex (h3.trans (bind_ex e3)), bind_ex e3]
      | ok ys S3 =>
        rw [bind_ok (h3.trans (bind_ok e3)), bind_ok e3]
        show (comp2M fg fi1 fg1 fe base vs1 ds >>= fun zs => pure (done ++ (y :: ys ++ zs))) S3 = (comp2M fg fi1 fg1 fe base vs1 ds >>= fun zs => pure (done ++ [y] ++ (ys ++ zs))) S3
        congr 1
        simp
theorem left2_cons : left2 fg fi1 fg1 fe base vs1 done (d :: ds) S = match fg d base with
    | none => .bad
    | some env => (match fi1 env S with
      | .ok es S1 => if es.length ≤ 1000 ∧ noOwnB env = true then left1 fg fi1 fg1 fe base vs1 (wipeE env vs1) done es ds S1 else .bad
      | _ => .bad) := by
  unfold left2
  cases e1 : fg d base with
  | none => rw [bind_bad (show comp2M fg fi1 fg1 fe base vs1 (d :: ds) S = .bad by simp only [comp2M, e1]; rfl)]
  | some env =>
    have hb : comp2M fg fi1 fg1 fe base vs1 (d :: ds) S = (noEx (fi1 env) >>= fun es => (if es.length ≤ 1000 ∧ noOwnB env = true then compM fg1 (fun _ => pure true) fe (wipeE env vs1) es else fail) >>= fun ys => comp2M fg fi1 fg1 fe base vs1 ds >>= fun zs => pure (ys ++ zs)) S := by
      simp only [comp2M, e1]
    cases e2 : fi1 env S with
    | bad =>
      rw [bind_bad (hb.trans (bind_bad (by simp only [noEx, e2])))]
      simp only [e2]
    | ex c fs S2 =>
      rw [bind_bad (hb.trans (bind_bad (by simp only [noEx, e2])))]
      simp only [e2]
    | ok es S2 =>
      simp only [e2]
      have h3 := hb.trans (bind_ok (show noEx (fi1 env) S = .ok es S2 by simp only [noEx, e2]))
      by_cases hl : es.length ≤ 1000 ∧ noOwnB env = true
      · rw [if_pos hl]
        rw [if_pos hl] at h3
        unfold left1
        cases e3 : compM fg1 (fun _ => pure true) fe (wipeE env vs1) es S2 with
        | bad => rw [bind_bad (h3.trans (bind_bad e3)), bind_bad e3]
        | ex c fs S3 => rw [bind_ex (h3.trans (bind_ex e3)), bind_ex e3]
        | ok ys S3 =>
          rw [bind_ok e3]
          have h4 := h3.trans (bind_ok e3)
          cases e4 : comp2M fg fi1 fg1 fe base vs1 ds S3 with
          | bad => rw [bind_bad (h4.trans (bind_bad e4)), bind_bad e4]
          | ex c fs S4 => rw [bind_ex (h4.trans (bind_ex e4)), bind_ex e4]
          | ok zs S4 => rw [bind_ok (h4.trans (bind_ok e4)), bind_ok e4]
      · rw [if_neg hl]
        rw [if_neg hl] at h3
        rw [bind_bad (h3.trans (bind_bad rfl))]
end
section
variable {g : Gc} {N0 : List Addr} {Wx : WX} {X : Cx}
structure Acc (g : Gc) (w1 w : Wd) (S : Store) (Da : Addr) (done : List D) : Prop where
  kp : Keep w1 w
  sr : SR g w S
  ex : ∃ acc, w.H Da = some (.lst acc) ∧ RepL g w acc done
  inN : Da ∈ w.N
  nm : Da ∉ w.m
theorem Acc.step {w1 w w' : Wd} {S S' : Store} {Da : Addr} {done : List D} (a : Acc g w1 w S Da done) (k : Keep w w') (s : SR g w' S') : Acc g w1 w' S' Da done := by
  obtain ⟨acc, h1, h2⟩ := a.ex
  refine ⟨a.kp.trans k, s, ⟨acc, k.kp Da _ h1 a.nm, h2.mono k.toMono⟩, k.sub Da a.inN, fun z => ?_⟩
  rcases k.newm Da z with z | z
  · exact a.nm z
  · rw [z] at h1; cases h1
theorem tr_lc2 {us us1 vs1 : List Nat} {own : List (Str × Nat)} {fi : Ev → M (List D)} {fg : D → Ev → Option Ev} {fi1 : Ev → M (List D)} {fg1 : D → Ev → Option Ev} {fe : Ev → M D} (sub : ∀ i ∈ us, i ∈ own.map (·.2)) (sub1 : ∀ i ∈ us1, i ∈ vs1) {σ : L2.St} {H : Hp} {Q : VK}
    (h : tr g N0 Wx (NewL g) (fun env => do let ds ← fi env; (if ds.length ≤ 1000 then comp2M fg fi1 fg1 fe (wipeE env (own.map (·.2))) vs1 ds else fail)) σ H Q) :
    tLc2 (tr g N0 Wx (rlI g Keep) fi) (trG g N0 us fg) (tr g N0 noW rlB fun _ => pure true) (tr g N0 noW (rlI g Mono) fi1) (trG g N0 us1 fg1) (tr g N0 noW rlB fun _ => pure true) (tr g N0 noW (rl g) fe) (own.map (·.2)) vs1 σ H Q := by
  obtain ⟨w, env, S, ee, er, sr, q⟩ := h
  subst ee
  refine tr_intro er sr (pst_imp (pst_bind (relA := rlI g Keep) (fun _ _ _ _ k z => z.base k) q) fun J H1 ⟨w1, ds, S1, e1, k1, s1, it, q1⟩ => ?_)
  subst e1
  intro Da hD
  have er1 := er.keep k1
  by_cases hl : ds.length ≤ 1000
  · rw [if_pos hl] at q1
    refine ⟨fun i m H => i + m = ds.length ∧ ∃ w' S' done, w'.H = H ∧ Acc g w1 w' S' Da done ∧ done.length ≤ i * 1000 ∧ Pst g Wx σ (NewL g) w1 (left2 fg fi1 fg1 fe (wipeE env (own.map (·.2))) vs1 done (ds.drop i) S') Q,
      ⟨ds.length, by omega, ⟨upd w1.H Da (.lst []), Da :: w1.N, w1.m⟩, S1, [], rfl, ⟨keep_newN hD, s1.newN hD, ⟨[], upd_same, .nil⟩, List.mem_cons_self, fun z => s1.notnone (s1.sub Da z) hD⟩, by simp, ?_⟩, ?_⟩
    · have e : left2 fg fi1 fg1 fe (wipeE env (own.map (·.2))) vs1 [] (ds.drop 0) S1 = comp2M fg fi1 fg1 fe (wipeE env (own.map (·.2))) vs1 ds S1 := by
        show M.bind _ _ S1 = _
        unfold M.bind
        rw [List.drop_zero]
        cases comp2M fg fi1 fg1 fe (wipeE env (own.map (·.2))) vs1 ds S1 <;> rfl
      rw [e]
      exact q1
    · rintro i m H ⟨em, w', S', done, rfl, ac, hdl, p⟩
      by_cases hi : i < ds.length
      · refine .inr ⟨it.go w' i ac.kp hi, fun H' => ∃ w' S' done, w'.H = H' ∧ Acc g w1 w' S' Da done ∧ done.length ≤ (i + 1) * 1000 ∧ Pst g Wx σ (NewL g) w1 (left2 fg fi1 fg1 fe (wipeE env (own.map (·.2))) vs1 done (ds.drop (i + 1)) S') Q,
          fun H' z => ⟨m - 1, by omega, by omega, z⟩, fun x H' y => ?_⟩
        obtain ⟨w2, d, rfl, k2, s2, hd, rx⟩ := it.yld w' S' i x H' ac.kp ac.sr hi y
        have hdrop : ds.drop i = d :: ds.drop (i + 1) := by
          rw [List.drop_eq_getElem_cons hi]
          rw [List.getElem?_eq_getElem hi] at hd
          rw [Option.some.inj hd]
        rw [hdrop, left2_cons] at p
        have ac2 := ac.step k2 s2
        cases eg : fg d (wipeE env (own.map (·.2))) with
        | none => rw [eg] at p; exact p.elim
        | some env1 =>
          rw [eg] at p
          refine ⟨w2, wipeE env (own.map (·.2)), S', d, env1, rfl, ((er1.keep ac.kp).keep k2).wipe _, s2, rx, eg, fun σ2 er2 same2 len2 => ⟨wipe_ext (us := us) (by rw [len2, wipe_length]) sub same2, ?_⟩⟩
          refine tr_intro er2 s2 ?_
          intro w3 b k3 s3 eb
          have eb' : b = true := eb
          subst eb'
          rw [if_pos rfl]
          have ac3 := ac2.step k3 s3
          have er3 := er2.keep k3
          refine tr_intro er3 s3 ?_
          cases ef : fi1 env1 S' with
          | bad => simp only [ef] at p; exact p.elim
          | ex c fs S2 => simp only [ef] at p; exact p.elim
          | ok es S2 =>
            simp only [ef] at p
            by_cases hel : es.length ≤ 1000 ∧ noOwnB env1 = true
            · rw [if_pos hel] at p
              intro w4 J1 k4 s4 it1
              have ac4 := ac3.step k4 s4
              refine ⟨fun j k H => j + k = es.length ∧ ∃ w' S' done, w'.H = H ∧ Mono w4 w' ∧ Acc g w1 w' S' Da done ∧ done.length ≤ i * 1000 + j ∧ Pst g Wx σ (NewL g) w1 (left1 fg fi1 fg1 fe (wipeE env (own.map (·.2))) vs1 (wipeE env1 vs1) done (es.drop j) (ds.drop (i + 1)) S') Q,
                ⟨es.length, by omega, w4, S2, done, rfl, Mono.refl _, ac4, by omega, by rw [List.drop_zero]; exact p⟩, ?_⟩
              rintro j k H ⟨ek, w5, S5, done5, rfl, k5, ac5, hd5, p5⟩
              by_cases hj : j < es.length
              · refine .inr ⟨it1.go w5 j k5 hj, fun H' => ∃ w' S' done, w'.H = H' ∧ Mono w4 w' ∧ Acc g w1 w' S' Da done ∧ done.length ≤ i * 1000 + (j + 1) ∧ Pst g Wx σ (NewL g) w1 (left1 fg fi1 fg1 fe (wipeE env (own.map (·.2))) vs1 (wipeE env1 vs1) done (es.drop (j + 1)) (ds.drop (i + 1)) S') Q,
                  fun H' z => ⟨k - 1, by omega, by omega, z⟩, fun x1 H' y1 => ?_⟩
                obtain ⟨w6, d1, rfl, k6, s6, hd1, rx1⟩ := it1.yld w5 S5 j x1 H' k5 ac5.sr hj y1
                have hdrop1 : es.drop j = d1 :: es.drop (j + 1) := by
                  rw [List.drop_eq_getElem_cons hj]
                  rw [List.getElem?_eq_getElem hj] at hd1
                  rw [Option.some.inj hd1]
                rw [hdrop1, left1_cons] at p5
                have ac6 := ac5.step k6 s6
                cases eg1 : fg1 d1 (wipeE env1 vs1) with
                | none => rw [eg1] at p5; exact p5.elim
                | some env2 =>
                  rw [eg1] at p5
                  refine ⟨w6, wipeE env1 vs1, S5, d1, env2, rfl, ((er3.keep k4).monoN hel.2 (k5.trans k6.toMono)).wipe _, s6, rx1, eg1, fun σ3 er6 same6 len6 => ⟨wipe_ext (us := us1) (by rw [len6, wipe_length]) sub1 same6, ?_⟩⟩
                  refine tr_intro er6 s6 ?_
                  intro w7 b k7 s7 eb
                  have eb' : b = true := eb
                  subst eb'
                  rw [if_pos rfl]
                  have ac7 := ac6.step k7 s7
                  refine tr_intro (er6.keep k7) s7 ?_
                  cases efe : fe env2 S5 with
                  | bad => simp only [efe] at p5; exact p5.elim
                  | ex c fs S8 => simp only [efe] at p5; exact p5.elim
                  | ok yv S8 =>
                    simp only [efe] at p5
                    intro w8 v8 k8 s8 r8
                    have ac8 := ac7.step k8 s8
                    obtain ⟨acc, hA, rA⟩ := ac8.ex
                    have mo := mono_own (o := .lst (acc ++ [v8])) hA (fun _ z => by cases z) (fun _ _ z => by cases z) ac8.inN
                    have acn : Acc g w1 ⟨upd w8.H Da (.lst (acc ++ [v8])), w8.N, w8.m⟩ S8 Da (done5 ++ [yv]) := by
                      refine ⟨⟨ac8.kp.toMono.trans mo, fun a o e n => ?_, ac8.kp.sub, ac8.kp.newm⟩, s8.own hA (fun _ z => by cases z) (fun _ _ z => by cases z) ac8.inN ac8.nm, ⟨_, upd_same, (rA.append (.cons r8 .nil)).mono mo⟩, ac8.inN, ac8.nm⟩
                      show upd w8.H Da _ a = some o
                      rw [upd_ne (ne_of_none e hD)]
                      exact ac8.kp.kp a o e n
                    refine ⟨acc, hA, ?_, ?_⟩
                    · rw [rA.length, sizeLine_eq]
                      have : i * 1000 ≤ 1000 * 1000 := Nat.mul_le_mul_right _ (by omega)
                      omega
                    · exact ⟨_, S8, done5 ++ [yv], rfl, (((k5.trans k6.toMono).trans k7.toMono).trans k8.toMono).trans mo, acn, by rw [List.length_append, List.length_singleton]; omega, p5⟩
              · have ee : es.drop j = [] := List.drop_eq_nil_of_le (by omega)
                rw [ee, left1_nil] at p5
                refine .inl ⟨it1.stop w5 j k5 (by omega), w5, S5, done5, rfl, ac5, by omega, p5⟩
            · rw [if_neg hel] at p; exact p.elim
      · have e : ds.drop i = [] := List.drop_eq_nil_of_le (by omega)
        rw [e, left2_nil] at p
        obtain ⟨acc, hA, rA⟩ := ac.ex
        refine .inl ⟨it.stop w' i ac.kp (by omega), p w' (.ref Da) ac.kp ac.sr ⟨Da, acc, rfl, hA, ac.inN, ac.nm, fun z => s1.notnone z hD, rA⟩⟩
  · rw [if_neg hl] at q1; exact q1.elim
end
namespace Cn
variable {g : Gc} {G : Ge} {k : Nat} {N : List Str} {sc : Scope} {X : Cx} {N0 : List Addr} {Wx : WX} {w0 : Wd}
variable {elt tg iter tg1 iter1 : Expr} {scope : Scope} {us us1 : List Nat} {pos : Pos} {fi fi1 : Ev → M (List D)} {fg fg1 : D → Ev → Option Ev} {fe : Ev → M D}
theorem comp2 (c : Cn g G k N sc X) (own own1 : List (Str × Nat)) (hi : DI g N0 Wx Keep X tg iter fi) (ok : blkB N sc scope own = true) (hg : ∀ X', Cn g G k N (relS scope sc) X' → DG g N0 X' tg us fg)
    (hi1 : ∀ X', Cn g G k N (relS scope sc) X' → DI g N0 noW Mono X' tg1 iter1 fi1) (hg1 : ∀ X', Cn g G k N (relS scope sc) X' → DG g N0 X' tg1 us1 fg1) (he : ∀ X', Cn g G k N (relS scope sc) X' → DE g N0 noW X' elt fe)
    (sub : subB us own = true) (sub1 : subB us1 own1 = true) (sub2 : (own1.all fun p => own.any fun q => q.2 == p.2) = true) (hs : ∀ env x, foldedSetIterable iter env x = pure x) (hs1 : ∀ env x, foldedSetIterable iter1 env x = pure x) :
    DL g N0 Wx X (.ListComp elt [⟨tg, iter, [], 0⟩, ⟨tg1, iter1, [], 0⟩] scope pos) (fun env => do let ds ← fi env; (if ds.length ≤ 1000 then comp2M fg fi1 fg1 fe (wipeE env (own.map (·.2))) (own1.map (·.2)) ds else fail)) :=
  PE.imp (pe_lc2 (vs1 := own1.map (·.2)) c.ok.calm c.nd hi (by rw [c.hN, c.hs]; exact blkB_ok ok) (fun i hi => by
      obtain ⟨p, hp, rfl⟩ := List.mem_map.mp hi
      obtain ⟨q, hq, e⟩ := List.any_eq_true.mp (List.all_eq_true.mp sub2 p hp)
      exact List.mem_map.mpr ⟨q, hq, eq_of_beq e⟩) (fun s H C cl fp => hg _ (c.blk s H scope cl C fp)) (fun s H C cl fp => dts_nil) (fun s H C cl fp => hi1 _ (c.blk s H scope cl C fp)) (fun s H C cl fp => hg1 _ (c.blk s H scope cl C fp)) (fun s H C cl fp => dts_nil) (fun s H C cl fp => he _ (c.blk s H scope cl C fp)) (hs _) hs1)
    fun σ H Q h => tr_lc2 (subB_ok sub) (subB_ok sub1) h
end Cn
/-- a pure one -/
theorem w_comp2 {γ δ : Type} {fg : D → Ev → Option Ev} {fi1 : Ev → M (List D)} {fg1 : D → Ev → Option Ev} {fe : Ev → M D} {base : Ev} {vs1 : List Nat} {S : Store} {E : XQ} {Q : List D → Store → Prop} (xs : List γ) (enc : γ → D) (ys : γ → List δ) (enc1 : γ → δ → D) (F : γ → δ → D) (hl : ∀ x ∈ xs, (ys x).length ≤ 1000)
    (hs : ∀ x ∈ xs, ∃ env, fg (enc x) base = some env ∧ noOwnB env = true ∧ Still (fi1 env) S ((ys x).map (enc1 x)) ∧ ∀ y ∈ ys x, ∃ env2, fg1 (enc1 x y) (wipeE env vs1) = some env2 ∧ Still (fe env2) S (F x y)) (q : Q (xs.flatMap fun x => (ys x).map (F x)) S) : Wp (comp2M fg fi1 fg1 fe base vs1 (xs.map enc)) S E Q := by
  have h : ∀ {xs : List γ}, (∀ x ∈ xs, (ys x).length ≤ 1000) → (∀ x ∈ xs, ∃ env, fg (enc x) base = some env ∧ noOwnB env = true ∧ Still (fi1 env) S ((ys x).map (enc1 x)) ∧ ∀ y ∈ ys x, ∃ env2, fg1 (enc1 x y) (wipeE env vs1) = some env2 ∧ Still (fe env2) S (F x y)) → comp2M fg fi1 fg1 fe base vs1 (xs.map enc) S = .ok (xs.flatMap fun x => (ys x).map (F x)) S := by
    intro xs
    induction xs with
    | nil => exact fun _ _ => rfl
    | cons x xs ih =>
      intro h0 h
      obtain ⟨env, e1, e2, e3, e4⟩ := h x List.mem_cons_self
      have ih' := ih (fun y hy => h0 y (List.mem_cons_of_mem _ hy)) fun y hy => h y (List.mem_cons_of_mem _ hy)
      have hc : compM fg1 (fun _ => pure true) fe (wipeE env vs1) ((ys x).map (enc1 x)) S = .ok ((ys x).map (F x)) S := by
        have := w_compA (fg := fg1) (fe := fe) (base := wipeE env vs1) (S := S) (E := fun _ _ _ => False) (Q := fun zs S' => zs = (ys x).map (F x) ∧ S' = S) (ys x) (enc1 x) (F x) e4 ⟨rfl, rfl⟩
        exact Still.eq this
      simp only [List.map_cons, comp2M, e1]
      rw [bind_ok (show noEx (fi1 env) S = .ok ((ys x).map (enc1 x)) S by simp only [noEx, e3.eq]), if_pos ⟨by rw [List.length_map]; exact h0 x List.mem_cons_self, e2⟩, bind_ok hc, bind_ok ih']
      rfl
  exact wp_of (h hl hs) q
end Pc

set_option Elab.async false
set_option linter.all false
set_option autoImplicit false
set_option maxRecDepth 100000
set_option maxHeartbeats 4000000
/-! Pc, part Zu: exceptions: try / except C as n. -/
namespace Pc
open PySem PySem.Spec PyProof.Rows L2

/-- the wish of a try's body: the slots' number is known -/
def lenW (X : Cx) (W : WX) : WX := fun c d σ H => σ.length = X.N.length → W c d σ H
theorem takesLen {X : Cx} {W : WX} (tk : Takes X W) : Takes X (lenW X W) := fun u s' x => by
  obtain ⟨a, B, sI, pins, σ, H, cls, d, h1, I, h3, h4, h5, h6, h7, h8, w⟩ := x
  exact tk u s' ⟨a, B, sI, pins, σ, H, cls, d, h1, I, h3, h4, h5, h6, h7, h8, w I.len⟩

/-- all slots unknown but the caught error's -/
def excE (n i : Nat) (a : Addr) (d : Option Addr) (c : Nat) (fs : List (Str × D)) : Ev := (List.replicate n Sl.no).set i (.val (.exn a d c fs))
/-- behind the suite: the error's name goes -/
def outNo (i : Nat) : Out → Out
  | .nx e => .nx (e.set i .no)
  | .rt d => .rt d
  | .bk e => .bk (e.set i .no)
  | .ct e => .ct (e.set i .no)
open Classical in
/-- the one outcome for all places of the error -/
noncomputable def allR {α : Type} (fs : List (Str × D)) (f : Addr → Option Addr → R α) : R α := if h : ∃ r, ∀ a d, (d = none → fs = []) → f a d = r then h.choose else .bad
theorem allR_eq {α : Type} {fs : List (Str × D)} {f : Addr → Option Addr → R α} {r : R α} (h : ∀ a d, (d = none → fs = []) → f a d = r) : allR fs f = r := by
  have e : ∃ r, ∀ a d, (d = none → fs = []) → f a d = r := ⟨r, h⟩
  unfold allR
  rw [dif_pos e]
  exact (e.choose_spec 0 (some 0) (fun z => by cases z)).symm.trans (h 0 (some 0) (fun z => by cases z))
theorem allR_at {α : Type} {fs : List (Str × D)} {f : Addr → Option Addr → R α} (h : allR fs f ≠ .bad) (a : Addr) (d : Option Addr) (hd : d = none → fs = []) : f a d = allR fs f := by
  unfold allR at h ⊢
  by_cases e : ∃ r, ∀ a d, (d = none → fs = []) → f a d = r
  · rw [dif_pos e]; exact e.choose_spec a d hd
  · rw [dif_neg e] at h; exact absurd rfl h
/-- try: body, except (classes by ct) as slot i: suite -/
noncomputable def tryM (n i : Nat) (ct : Nat → Option Bool) (fb : Ev → M Out) (fS : Addr → Option Addr → Nat → Ev → M Out) : Ev → M Out := fun env S => match fb env S with
  | .ok o S' => .ok o S'
  | .ex c fs S' => match ct c with
    | some true => allR fs fun a d => match fS a d c (excE n i a d c fs) S' with
      | .ok o S'' => .ok (outNo i o) S''
      | _ => .bad
    | some false => .ex c fs S'
    | none => .bad
  | .bad => .bad
section
variable {g : Gc} {Wx : WX} {w0 : Wd} {X : Cx}
theorem er_no {N0 : List Addr} {w : Wd} {n : Nat} {σ : L2.St} (h : σ.length = n) : ER g N0 w (List.replicate n .no) σ := by
  have no : ∀ (i : Nat) s, (List.replicate n Sl.no)[i]? = some s → s = .no := fun i s e => by
    rw [List.getElem?_replicate] at e
    split at e
    · cases e; rfl
    · cases e
  refine ⟨by simp [h], fun i d e => ?_, fun i d e => ?_, fun i d e => ?_, fun i j _ q => ?_⟩
  · cases no i _ e
  · cases no i _ e
  · cases no i _ e
  · obtain ⟨s, e, o⟩ := q
    cases no i _ e
    cases o
theorem ds_try {x n : Str} {cv : Value} {i : Nat} {body suite : List Stmt} {b₀ : Stmt} {np pos pos' : Pos} {ct : Nat → Option Bool} {fb : Ev → M Out} {fS : Addr → Option Addr → Nat → Ev → M Out}
    (hK : X.K = g.K) (po : Po X) (hN : X.N.Nodup) (hi : X.N[i]? = some n) (hln : X.env.kindOf n = some .local) (hc : Names X x cv) (tk : Takes X Wx)
    (hct : ∀ c b, ct c = some b → PySem.W.exmOne g.K (.ref (g.cl c)) cv = some b)
    (hb : ∀ (W : WX) (pn : List (Addr × Obj)) (xe : Value → Shared → Prop), Takes (X.tr pn xe) W → Po (X.tr pn xe) → DSs g W w0 (X.tr pn xe) body fb)
    (hsu : ∀ (a : Addr) (oe : Obj) (c : Nat) (d : Option Addr) (pn : List (Addr × Obj)), Zc (.ref (g.cl c)) d oe → (∃ vs, oe.data = .fields vs) → DSs g noW w0 (X.suite a ((a, oe) :: pn)) (b₀ :: suite) (fS a d c)) :
    DS g Wx w0 X (.Try body [.ExceptHandler (some (.Name x np)) (some n) (b₀ :: suite) pos'] [] [] pos) (tryM X.N.length i ct fb fS) := by
  refine PS.imp (ps_try_as (tb := fun W => trS g (lenW X W) w0 fb) (ts := fun a cls d E σ H => ∃ c, cls = .ref (g.cl c) ∧ trS g noW w0 (fS a d c) E σ H) (Wout := Wx) po.hs po.hf hN hi hln hc tk
    (fun W pn xe tk' pa => hb (lenW X W) pn xe (takesLen tk') ⟨pa, po.hs, po.hf⟩) fun a oe cls d pn hz hf => ⟨fun pins s σ H E I ⟨c, ec, q⟩ => ?_⟩) fun E σ H ⟨w, env, S, ee, st, q⟩ => ?_
  · subst ec
    exact (hsu a oe c d pn hz hf).run pins s σ H E I q
  subst ee
  refine ⟨w, env, S, rfl, st, ?_⟩
  unfold tryM at q
  cases e : fb env S with
  | ok o S1 => simp only [e] at q; cases o <;> exact q
  | bad => simp only [e] at q; exact q
  | ex c fs S1 =>
    simp only [e] at q
    intro w' σ' cls dd mo kp sr xr hl
    obtain ⟨rfl, fvs, x1, x2, x3⟩ := xr
    cases ec : ct c with
    | none => simp only [ec] at q; exact q.elim
    | some b =>
      refine ⟨b, by rw [hK]; exact hct c b ec, fun hbt a na => ?_, fun hbf => ?_⟩
      · subst hbt
        simp only [ec] at q
        have hnb : allR fs (fun a d => match fS a d c (excE X.N.length i a d c fs) S1 with
          | .ok o S'' => .ok (outNo i o) S''
          | _ => .bad) ≠ .bad := fun z => by rw [z] at q; exact q
        have ea := allR_at hnb a dd (fun z => by
          have := x2 z
          subst this
          cases x3
          rfl)
        rw [← ea] at q
        refine ⟨c, rfl, w', excE X.N.length i a dd c fs, S1, rfl, ⟨(er_no hl).set_val (.exn x1 x3), sr, kp⟩, ?_⟩
        cases ef : fS a dd c (excE X.N.length i a dd c fs) S1 with
        | ok o S2 =>
          simp only [ef] at q
          cases o with
          | nx e1 => exact fun w2 σ2 m2 st2 => q w2 _ (mo.trans m2) ⟨st2.er.set_no, st2.sr, st2.kp⟩
          | bk e1 => exact fun w2 σ2 m2 st2 => q w2 _ (mo.trans m2) ⟨st2.er.set_no, st2.sr, st2.kp⟩
          | ct e1 => exact fun w2 σ2 m2 st2 => q w2 _ (mo.trans m2) ⟨st2.er.set_no, st2.sr, st2.kp⟩
          | rt d1 => exact q
        | ex c2 fs2 S2 => simp only [ef] at q; exact q.elim
        | bad => simp only [ef] at q; exact q.elim
      · subst hbf
        simp only [ec] at q
        exact q w' σ' _ dd mo kp sr ⟨rfl, fvs, x1, x2, x3⟩
end
end Pc

set_option Elab.async false
set_option linter.all false
set_option autoImplicit false
set_option maxRecDepth 100000
set_option maxHeartbeats 4000000
/-! Pc, part Zv: raise C(..), C an own error over ValueError whose __init__ keeps its values. -/
namespace Pc
open PySem PySem.Spec PyProof.Rows L2
/-- what the __init__ of an error with these fields does -/
def spE1 (C : Addr) (f : Str) : Sp := fun vs H Q _ => ∃ x y, vs = [.ref x, y] ∧ H x = some (exo x C none) ∧ ∀ dx, H dx = none → dx ≠ x → Q .non (upd (upd H dx (exd dx [(f, y)])) x (exo x C (some dx)))
def spE2 (C : Addr) (f1 f2 : Str) : Sp := fun vs H Q _ => ∃ x y z, vs = [.ref x, y, z] ∧ H x = some (exo x C none) ∧ ∀ dx, H dx = none → dx ≠ x → Q .non (upd (upd (upd H dx (exd dx [(f1, y)])) x (exo x C (some dx))) dx (exd dx [(f2, z), (f1, y)]))
section
variable {g : Gc} {P : Program} {w : World} {mg : Str → Option Value} {base : Heap} {k : Nat} {f C : Addr} {name qual : Str} {params : Arguments} {scope : Scope} {dV kV doc pm cdv ct oc : Value} {an od : Option Addr} {osl : Array (Option Value)} {s y z f1 f2 : Str} {p1 p2 p3 pos p4 p5 p6 pos2 : Pos}
theorem fnE1 (lk : g.K.lookup f = some ⟨oc, od, .func (PySem.W.fnOf name qual params [.Assign [.Attribute (.Name s p1) f1 p2] (.Name y p3) pos] scope dV kV doc pm an cdv ct), osl⟩) (hcd : PySem.W.codeIn g.K cdv qual = true) (S : FnScope [s, y] [s, y] scope)
    (v0 : visB [s, y] scope s 0 = true) (v1 : visB [s, y] scope y 1 = true) (T : OexC g.K C) (n1 : PySem.W.findIn g.K (.ref C) f1 = some none) :
    FnOk P w g.K mg base (L2.CX P w) (k + 1) f (PySem.W.fnOf name qual params [.Assign [.Attribute (.Name s p1) f1 p2] (.Name y p3) pos] scope dV kV doc pm an cdv ct) [s, y] (spE1 C f1) := by
  refine fn_of lk hcd S (fun vs H Q E ⟨x, y, e, _⟩ => by subst e; rfl) fun A outer s H vs Q E hr ⟨x, yv, e, hx, q⟩ => ?_
  subst e
  have c : Cn g ⟨P, w, mg, base, false⟩ k [_, _] scope (cxOf (L2.CX P w) P w g.K mg base [_, _] qual scope f cdv A outer s H E) := ⟨rfl, rfl, rfl, rfl, rfl, rfl, ⟨rfl, rfl, S.nd, hr, fun z => by cases z⟩⟩
  refine ⟨_, pss_one (ps_ost (c.pv 0 v0) (c.pv 1 v1) (swaps_no rfl)), yv, rfl, .ref x, rfl, x, C, rfl, T, n1, .inl ⟨hx, q⟩⟩
theorem fnE2 (lk : g.K.lookup f = some ⟨oc, od, .func (PySem.W.fnOf name qual params [.Assign [.Attribute (.Name s p1) f1 p2] (.Name y p3) pos, .Assign [.Attribute (.Name s p4) f2 p5] (.Name z p6) pos2] scope dV kV doc pm an cdv ct), osl⟩) (hcd : PySem.W.codeIn g.K cdv qual = true) (S : FnScope [s, y, z] [s, y, z] scope)
    (v0 : visB [s, y, z] scope s 0 = true) (v1 : visB [s, y, z] scope y 1 = true) (v2 : visB [s, y, z] scope z 2 = true) (T : OexC g.K C) (n1 : PySem.W.findIn g.K (.ref C) f1 = some none) (n2 : PySem.W.findIn g.K (.ref C) f2 = some none) :
    FnOk P w g.K mg base (L2.CX P w) (k + 1) f (PySem.W.fnOf name qual params [.Assign [.Attribute (.Name s p1) f1 p2] (.Name y p3) pos, .Assign [.Attribute (.Name s p4) f2 p5] (.Name z p6) pos2] scope dV kV doc pm an cdv ct) [s, y, z] (spE2 C f1 f2) := by
  refine fn_of lk hcd S (fun vs H Q E ⟨x, y, z, e, _⟩ => by subst e; rfl) fun A outer s H vs Q E hr ⟨x, yv, zv, e, hx, q⟩ => ?_
  subst e
  have c : Cn g ⟨P, w, mg, base, false⟩ k [_, _, _] scope (cxOf (L2.CX P w) P w g.K mg base [_, _, _] qual scope f cdv A outer s H E) := ⟨rfl, rfl, rfl, rfl, rfl, rfl, ⟨rfl, rfl, S.nd, hr, fun z => by cases z⟩⟩
  refine ⟨_, pss_cons (ps_ost (c.pv 0 v0) (c.pv 1 v1) (swaps_no rfl)) (pss_one (ps_ost (c.pv 0 v0) (c.pv 2 v2) (swaps_no rfl))), yv, rfl, .ref x, rfl, x, C, rfl, T, n1, .inl ⟨hx, fun dx h1 h2 => ?_⟩⟩
  refine ⟨zv, rfl, .ref x, rfl, x, C, rfl, T, n2, .inr ⟨dx, [(f1, yv)], upd_same, ?_, by simp, q dx h1 h2⟩⟩
  rw [upd_ne h2]; exact upd_same
end
/-- an error class of the module by its name: its fields -/
structure Xmk (g : Gc) (G : Ge) (k : Nat) (x : Str) (c : Nat) (fl : List Str) : Prop where
  ex : ∃ (f : Addr) (fd : FuncData) (ps : List Str) (sp : Sp) (j : Nat), j + 1 ≤ k ∧ FnOk G.P G.w g.K G.mg G.base (L2.CX G.P G.w) j f fd ps sp ∧ OexC g.K (g.cl c) ∧ PySem.W.findIn g.K (.ref (g.cl c)) "__init__" = some (some (.ref f)) ∧
    PySem.W.typeIn g.K (.ref f) = some (.type "function") ∧ G.mg x = some (.ref (g.cl c)) ∧ Binds g.K fd ps [] ∧
    ∀ (H : Hp) (a : Addr) (vs : List V) (Q : VK) (E : XK), vs.length = fl.length → H a = some (exo a (g.cl c) none) →
      (∀ d H2, H d = none → d ≠ a → (∀ b, b ≠ a → b ≠ d → H2 b = H b) → H2 a = some (exo a (g.cl c) (some d)) → H2 d = some (exd d (fl.zip vs).reverse) → Q .non H2) → sp (.ref a :: vs) H Q E
theorem Xmk.mono {g : Gc} {G : Ge} {j k c : Nat} {x : Str} {fl : List Str} (F : Xmk g G j x c fl) (h : j ≤ k) : Xmk g G k x c fl := by
  obtain ⟨f, fd, ps, sp, i, h1, h2⟩ := F.ex
  exact ⟨⟨f, fd, ps, sp, i, Nat.le_trans h1 h, h2⟩⟩
def thrM {α : Type} (c : Nat) (fs : List (Str × D)) : M α := fun S => .ex c fs S
/-- raise C(..) -/
def raiseM (c : Nat) (fl : List Str) (fa : Ev → M (List D)) : Ev → M Out := fun env => do
  let ds ← fa env
  if ds.length = fl.length then thrM c (fl.zip ds).reverse else fail
theorem repF_zip {g : Gc} {w : Wd} : ∀ {fl : List Str} {vs : List V} {ds : List D}, RepL g w vs ds → RepF g w (fl.zip vs) (fl.zip ds)
  | [], _, _, _ => .nil
  | _ :: _, _, _, .nil => .nil
  | _ :: _, _, _, .cons r t => .cons r (repF_zip t)
theorem repF_app {g : Gc} {w : Wd} : ∀ {a b : List (Str × V)} {c d : List (Str × D)}, RepF g w a c → RepF g w b d → RepF g w (a ++ b) (c ++ d)
  | _, _, _, _, .nil, h => h
  | _, _, _, _, .cons r t, h => .cons r (repF_app t h)
theorem repF_rev {g : Gc} {w : Wd} : ∀ {a : List (Str × V)} {c : List (Str × D)}, RepF g w a c → RepF g w a.reverse c.reverse
  | _, _, .nil => .nil
  | _, _, .cons r t => by
    rw [List.reverse_cons, List.reverse_cons]
    exact repF_app (repF_rev t) (.cons r .nil)
theorem Cn.raise {g : Gc} {G : Ge} {k c : Nat} {N : List Str} {sc : Scope} {X : Cx} {Wx : WX} {w0 : Wd} {x : Str} {fl : List Str} {e : Expr} {es : List Expr} {fa : Ev → M (List D)} {p pos pos' : Pos} (cn : Cn g G k N sc X) (F : Xmk g G k x c fl) (hz : fl.length ≤ 1000) (hg : glB sc x = true) (tk : Takes X Wx) (hs : (e :: es).all notStar = true)
    (ha : DA g w0.N Wx X (e :: es) fa) : DS g Wx w0 X (.Raise (some (.Call (.Name x p) (e :: es) [] pos)) none pos') (raiseM c fl fa) := by
  obtain ⟨f, fd, ps, sp, j, hj, FO, T, iC, tI, hm, hb, hsp⟩ := F.ex
  have hK := cn.ok.K
  rw [← cn.hP, ← cn.hw, ← cn.hm, ← cn.hb, ← hK] at FO
  rw [← hK] at T iC tI hb
  rw [← cn.hm] at hm
  simp only [List.all_cons, Bool.and_eq_true] at hs
  refine PS.imp (ps_raise cn.ok.calm tk (pmk_oex (dvs := []) T iC tI FO (cn.ok.room.mono hj) hb .nil (passes_call tk fun _ _ _ _ z => z.elim) (cn.gl hg).1 hm ha (cn.gl hg).2 (star_cons hs.1) (star_any hs.2))) fun E σ H ⟨w, env, S, ee, st, q⟩ => ?_
  subst ee
  refine tr_intro st.er st.sr (pst_of st q fun w1 ds S1 vs e1 k1 s1 r1 q1 => ?_)
  by_cases hl : ds.length = fl.length
  · rw [if_pos hl] at q1
    have hlv : vs.length = fl.length := r1.length.trans hl
    refine ⟨by omega, fun a na => ?_⟩
    rw [List.append_nil]
    refine hsp _ a vs _ _ hlv upd_same fun d H2 nd nda hoth ha2 hd2 => ⟨rfl, d, _, ha2, hd2, ?_, ?_⟩
    · rw [upd_ne nda] at nd; exact nd
    · rw [upd_ne nda] at nd
      have eq : upd (del H2 a) d (.xd (fl.zip vs).reverse) = upd w1.H d (.xd (fl.zip vs).reverse) := by
        funext b
        by_cases hbd : b = d
        · subst hbd; rw [upd_same, upd_same]
        · rw [upd_ne hbd, upd_ne hbd]
          by_cases hba : b = a
          · subst hba; rw [del_same, na]
          · rw [del_ne hba, hoth b hba hbd, upd_ne hba]
      rw [eq]
      have kn := keep_new (w := w1) (o := .xd (fl.zip vs).reverse) nd
      refine q1 ⟨upd w1.H d (.xd (fl.zip vs).reverse), w1.N, w1.m⟩ σ _ (some d) kn.toMono ((st.kp.trans k1).trans kn) (s1.new nd) ⟨rfl, _, fun y ey => ?_, (fun z => by cases z), repF_rev (repF_zip (r1.mono kn.toMono))⟩
      cases ey
      exact ⟨upd_same, fun z => s1.notnone z nd⟩
  · rw [if_neg hl] at q1; exact q1.elim
section
variable {g : Gc} {G : Ge} {k c : Nat} {f : Addr} {fd : FuncData} {x name qual : Str} {params : Arguments} {sc : Scope} {kws : List (Str × V)} {s y z f1 f2 : Str} {p1 p2 p3 pos p4 p5 p6 pos2 : Pos}
theorem xmk1_of (F : FunD g.K name qual params [.Assign [.Attribute (.Name s p1) f1 p2] (.Name y p3) pos] sc [] kws f fd) (T : OexC g.K (g.cl c)) (iC : PySem.W.findIn g.K (.ref (g.cl c)) "__init__" = some (some (.ref f))) (tI : PySem.W.typeIn g.K (.ref f) = some (.type "function")) (hx : G.mg x = some (.ref (g.cl c)))
    (S : scB [s, y] [s, y] sc = true) (v0 : visB [s, y] sc s 0 = true) (v1 : visB [s, y] sc y 1 = true) (n1 : PySem.W.findIn g.K (.ref (g.cl c)) f1 = some none) (hbd : Binds g.K fd [s, y] []) : Xmk g G (k + 2) x c [f1] := by
  obtain ⟨⟨oc, od, dV, kV, doc, pm, an, cdv, ct, osl, rfl, lk, hcd, _, _⟩, _⟩ := F
  refine ⟨⟨f, _, _, _, k + 1, Nat.le_refl _, fnE1 lk hcd (scB_ok S) v0 v1 T n1, T, iC, tI, hx, hbd, fun H a vs Q E hl ha q => ?_⟩⟩
  match vs, hl with
  | [y], _ => exact ⟨a, y, rfl, ha, fun dx h1 h2 => q dx _ h1 h2 (fun b hb hd => by rw [upd_ne hb, upd_ne hd]) upd_same (by rw [upd_ne h2]; exact upd_same)⟩
theorem xmk2_of (F : FunD g.K name qual params [.Assign [.Attribute (.Name s p1) f1 p2] (.Name y p3) pos, .Assign [.Attribute (.Name s p4) f2 p5] (.Name z p6) pos2] sc [] kws f fd) (T : OexC g.K (g.cl c)) (iC : PySem.W.findIn g.K (.ref (g.cl c)) "__init__" = some (some (.ref f))) (tI : PySem.W.typeIn g.K (.ref f) = some (.type "function")) (hx : G.mg x = some (.ref (g.cl c)))
    (S : scB [s, y, z] [s, y, z] sc = true) (v0 : visB [s, y, z] sc s 0 = true) (v1 : visB [s, y, z] sc y 1 = true) (v2 : visB [s, y, z] sc z 2 = true) (n1 : PySem.W.findIn g.K (.ref (g.cl c)) f1 = some none) (n2 : PySem.W.findIn g.K (.ref (g.cl c)) f2 = some none) (hbd : Binds g.K fd [s, y, z] []) : Xmk g G (k + 2) x c [f1, f2] := by
  obtain ⟨⟨oc, od, dV, kV, doc, pm, an, cdv, ct, osl, rfl, lk, hcd, _, _⟩, _⟩ := F
  refine ⟨⟨f, _, _, _, k + 1, Nat.le_refl _, fnE2 lk hcd (scB_ok S) v0 v1 v2 T n1 n2, T, iC, tI, hx, hbd, fun H a vs Q E hl ha q => ?_⟩⟩
  match vs, hl with
  | [y, z], _ => exact ⟨a, y, z, rfl, ha, fun dx h1 h2 => q dx _ h1 h2 (fun b hb hd => by rw [upd_ne hd, upd_ne hb, upd_ne hd]) (by rw [upd_ne (Ne.symm h2)]; exact upd_same) upd_same⟩
end
end Pc

set_option Elab.async false
set_option linter.all false
set_option autoImplicit false
set_option maxRecDepth 100000
set_option maxHeartbeats 4000000
/-! Pc, part Zw: an error class, asked by a Bool. -/
namespace Pc
open PySem PySem.Spec PyProof.Rows L2
def excLB (K : PySem.W.Frag) (C : Addr) : Bool := match K.lookup C with
  | some ⟨.type t, _, .cls ⟨_, _, .ref c :: bm, _, _, true, _, _, _, _, false⟩, ⟨[_, _, _, _, some (.builtin n), _]⟩⟩ => t == "type" && (decide (c = C) && (PySem.HandSPX.refsVE bm && n == "ValueError.__new__"))
  | _ => false
def oexB (K : PySem.W.Frag) (C : Addr) : Bool := excLB K C && (decide (PySem.W.findIn K (.ref C) "__setattr__" = some (some (.builtin "object.__setattr__"))) && (decide (PySem.W.subIn K (.ref C) (.type "BaseException") = some true) && (decide (PySem.W.typeIn K (.ref C) = some (.type "type")) && PySem.W.keepIn K (.ref C))))
theorem excLB_ok {K : PySem.W.Frag} {C : Addr} (h : excLB K C = true) : ∃ nm q N bs bm sn sub ab col dd k0 k1 k2 k3 k5, K.lookup C = some (excClassObj nm q C N bs bm true sn sub ab col dd k0 k1 k2 k3 k5 "ValueError.__new__") ∧ PySem.HandSPX.refsVE bm = true := by
  unfold excLB at h
  split at h
  · rename_i t dd nm bs c bm N q sn sub ab col k0 k1 k2 k3 n k5 e
    simp only [Bool.and_eq_true, beq_iff_eq, decide_eq_true_eq] at h
    obtain ⟨rfl, rfl, h3, rfl⟩ := h
    exact ⟨_, _, _, _, _, _, _, _, _, _, _, _, _, _, _, e, h3⟩
  · cases h
theorem oexB_ok {K : PySem.W.Frag} {C : Addr} (h : oexB K C = true) : OexC K C := by
  unfold oexB at h
  simp only [Bool.and_eq_true, decide_eq_true_eq] at h
  obtain ⟨h1, h2, h3, h4, h5⟩ := h
  exact ⟨excLB_ok h1, h2, h3, h4, h5⟩
end Pc

set_option Elab.async false
set_option linter.all false
set_option autoImplicit false
set_option maxRecDepth 100000
set_option maxHeartbeats 4000000
/-! Pc, part Zx: isinstance of a caught error that has its dict. -/
namespace Pc
open PySem PySem.Spec PyProof.Rows L2
def rIsX (K : PySem.W.Frag) (D a dx : Addr) : List V → Hp → VK → Prop := fun xs H Q => ∃ (c : V) (cv : Value) (b : Bool) (fvs : List (Str × V)), xs = [.ref a, c] ∧ (∀ u, RelV c u → u = cv) ∧ PySem.W.kitOne K (.ref D) cv = some b ∧ H dx = some (.xd fvs) ∧ Q (.bl b) H
theorem call_isX {X : Cx} {a D dx : Addr} {oe : Obj} {pn : List (Addr × Obj)} (C : ExcC X.K D) (hz : Zc (.ref D) (some dx) oe) (hf : ∃ vs, oe.data = .fields vs) : CallR (X.suite a ((a, oe) :: pn)) (.builtin "isinstance") (rIsX X.K D a dx) := by
  intro pins s σ H xs us Q I r h
  obtain ⟨c, cv, b, fvs, rfl, hcv, e, hd, q⟩ := h
  cases r with
  | cons rx rr =>
    cases rr with
    | cons rt rr =>
      cases rr
      cases rx
      have ec := hcv _ rt
      subst ec
      obtain ⟨hget, _⟩ := I.pin (a, oe) (List.mem_append.mpr (.inl List.mem_cons_self))
      obtain ⟨vs, hv⟩ := hf
      have hx : ObjOk X.prog X.w H s.heap dx (.xd fvs) := I.hok dx _ hd
      obtain ⟨mA, hns, hr⟩ := hx
      obtain ⟨od, ho, hl⟩ := lookIn_ns hns
      have J : PySem.W.InstAt s.heap a oe D (some od) := ⟨hget, hz.1, by unfold PySem.W.notCls; rw [hv] <;> rfl, by rw [hz.2]; exact ho⟩
      have hcl : (PySem.W.clsIn X.K D).isSome = true := by
        obtain ⟨cd, hc, _⟩ := PySem.W.any_some C.hd
        rw [hc]; rfl
      exact PySem.W.kia_one (PySem.W.kitx_exc hcl C.hg C.hk C.hs C.ha C.hn C.ht C.hm) I.kIn J e (fun z => nomatch z) fun tk => ⟨.bl b, H, I.kept (t' := tk) fun _ _ z => z, rfl, q⟩
end Pc

set_option Elab.async false
set_option linter.all false
set_option autoImplicit false
set_option maxRecDepth 100000
set_option maxHeartbeats 4000000
/-! Pc, part Zy: the contexts of try and of except suites. -/
namespace Pc
open PySem PySem.Spec PyProof.Rows L2
theorem Cn.tr {g : Gc} {G : Ge} {k : Nat} {N : List Str} {sc : Scope} {X : Cx} (c : Cn g G k N sc X) (pn : List (Addr × Obj)) (xe : Value → Shared → Prop) : Cn g G k N sc (X.tr pn xe) :=
  ⟨c.hP, c.hw, c.hm, c.hb, c.hs, c.hN, ⟨c.ok.K, c.ok.calm, c.ok.nd, c.ok.room, c.ok.gd⟩⟩
/-- a context where nothing of the own defs is called -/
structure Cs (g : Gc) (G : Ge) (N : List Str) (sc : Scope) (X : Cx) : Prop where
  hm : X.mg = G.mg
  hs : X.env.scope = sc
  hN : X.N = N
  K : X.K = g.K
  nd : X.N.Nodup
theorem Cn.suite {g : Gc} {G : Ge} {k : Nat} {N : List Str} {sc : Scope} {X : Cx} (c : Cn g G k N sc X) (a : Addr) (pn : List (Addr × Obj)) : Cs g G N sc (X.suite a pn) := ⟨c.hm, c.hs, c.hN, c.ok.K, c.ok.nd⟩
namespace Cs
variable {g : Gc} {G : Ge} {N : List Str} {sc : Scope} {X : Cx} {N0 : List Addr} {Wx : WX} {w0 : Wd}
theorem vis {i : Nat} {x : Str} (c : Cs g G N sc X) (h : visB N sc x i = true) : X.N[i]? = some x ∧ Vis X.env.scope x ∧ (x == ("__debug__" : Str)) = false ∧ (x == ("__classdict__" : Str)) = false := by
  unfold visB at h
  simp only [Bool.and_eq_true, decide_eq_true_eq, Bool.not_eq_true'] at h
  obtain ⟨⟨⟨h1, h2⟩, h3⟩, h4⟩ := h
  refine ⟨by rw [c.hN]; exact h1, ?_, h3, h4⟩
  obtain ⟨q, hq, e⟩ := kindB_eq h2
  rw [c.hs]
  simp at hq
  rcases hq with rfl | rfl | rfl
  · exact .inl e
  · exact .inr (.inl e)
  · exact .inr (.inr e)
theorem loc {i : Nat} {x : Str} (c : Cs g G N sc X) (h : locB N sc x i = true) : X.N[i]? = some x ∧ Loc X.env.scope x := by
  unfold locB at h
  simp only [Bool.and_eq_true, decide_eq_true_eq] at h
  refine ⟨by rw [c.hN]; exact h.1, ?_⟩
  obtain ⟨q, hq, e⟩ := kindB_eq h.2
  rw [c.hs]
  simp at hq
  rcases hq with rfl | rfl
  · exact .inl e
  · exact .inr e
theorem gl {x : Str} (c : Cs g G N sc X) (h : glB sc x = true) : Gl X x ∧ (x == ("__debug__" : Str)) = false := by
  unfold glB at h
  simp only [Bool.and_eq_true, Bool.not_eq_true'] at h
  refine ⟨?_, h.2⟩
  obtain ⟨q, hq, e⟩ := kindB_eq h.1
  simp at hq
  subst hq
  show X.env.scope.names.lookup x = _
  rw [c.hs]
  exact e
theorem pv {x : Str} {p : Pos} (c : Cs g G N sc X) (i : Nat) (h : visB N sc x i = true) : PE X (.Name x p) (tVar i) := by
  obtain ⟨h1, h2, h3, h4⟩ := c.vis h
  exact pe_var h1 h2 h3 h4
theorem v {x : Str} {p : Pos} (c : Cs g G N sc X) (i : Nat) (h : visB N sc x i = true) : DE g N0 Wx X (.Name x p) (rd i) := de_var (c.pv i h)
theorem vB {x : Str} {p : Pos} (c : Cs g G N sc X) (i : Nat) (h : visB N sc x i = true) : DW g N0 Wx X (.Name x p) (rdB i) := dw_var (c.pv i h)
theorem set {i : Nat} {x : Str} {e : Expr} {f : Ev → M Sl} {pos pos' : Pos} (c : Cs g G N sc X) (fa : ∀ x, X.fn x = true) (h : locB N sc x i = true) (hc : notComp e = true) (d : DX g w0.N Wx X e f) : DS g Wx w0 X (.Assign [.Name x pos'] e pos) (setM i f) := by
  obtain ⟨h1, h2⟩ := c.loc h
  exact ds_set c.nd h1 h2 (fa x) hc d
theorem int {i : Int} {j : Nat} {p : Pos} (c : Cs g G N sc X) : DE g N0 Wx X (.Constant (.int i) j p) (fun _ => pure (.int i)) := de_con pe_int fun w => .int i
theorem str {i : Str} {j : Nat} {p : Pos} (c : Cs g G N sc X) : DE g N0 Wx X (.Constant (.str i) j p) (fun _ => pure (.str i)) := de_con pe_str fun w => .str i
theorem bl {i : Bool} {j : Nat} {p : Pos} (c : Cs g G N sc X) : DE g N0 Wx X (.Constant (.bool i) j p) (fun _ => pure (.bl i)) := de_con pe_bl fun w => .bl i
theorem non {j : Nat} {p : Pos} (c : Cs g G N sc X) : DE g N0 Wx X (.Constant .none j p) (fun _ => pure .non) := de_con pe_non fun w => .non
end Cs
end Pc

set_option Elab.async false
set_option linter.all false
set_option autoImplicit false
set_option maxRecDepth 100000
set_option maxHeartbeats 4000000
/-! Pc, part Zz: error.f, isinstance(error, C) in a suite. -/
namespace Pc
open PySem PySem.Spec PyProof.Rows L2
/-- the fields of the caught error -/
def exF (a : Addr) (d : Option Addr) (c : Nat) (x : D) : Option (List (Str × D)) := match d, x with
  | some y, .exn a' d' c' fs => if a' = a ∧ d' = some y ∧ c' = c then some fs else none
  | _, _ => none
theorem exF_rep {g : Gc} {w : Wd} {a : Addr} {d : Option Addr} {c : Nat} {x : D} {v : V} {fs : List (Str × D)} (r : Rep g w v x) (h : exF a d c x = some fs) : v = .ref a ∧ ∃ dd fvs, d = some dd ∧ w.H dd = some (.xd fvs) ∧ RepF g w fvs fs := by
  unfold exF at h
  split at h
  · rename_i y a' d' c' fs'
    split at h
    · rename_i hh
      obtain ⟨rfl, rfl, rfl⟩ := hh
      cases h
      cases r with
      | exn h1 h2 => exact ⟨rfl, y, _, rfl, (h1 y rfl).1, h2⟩
    · cases h
  · cases h
def fldX (a : Addr) (d : Option Addr) (c : Nat) (f : Str) (x : D) : M D := ofO ((exF a d c x).bind fun fs => fs.lookup f)
section
variable {g : Gc} {N0 : List Addr} {Wx : WX} {X : Cx} {a : Addr} {oe : Obj} {d : Option Addr} {c : Nat} {pn : List (Addr × Obj)}
theorem de_fldX {e : Expr} {fe : Ev → M D} {f : Str} {pos : Pos} (hK : X.K = g.K) (T : XfC g.K (g.cl c)) (hno : PySem.W.findIn g.K (.ref (g.cl c)) f = some none) (hz : Zc (.ref (g.cl c)) d oe) (hf : ∃ vs, oe.data = .fields vs) (hb : baseOk e = true)
    (h : DE g N0 Wx (X.suite a ((a, oe) :: pn)) e fe) : DE g N0 Wx (X.suite a ((a, oe) :: pn)) (.Attribute e f pos) (fun env => do let x ← fe env; fldX a d c f x) := by
  rw [← hK] at T hno
  refine PE.imp (pe_xf T hno hz hf h (base_ok hb)) fun σ H Q ⟨w, env, S, ee, er, sr, q⟩ => ?_
  subst ee
  refine tr_intro er sr (pst_imp (pst_bind (relA := rl g) (fun _ _ _ _ _ z => z) q) fun x H1 ⟨w1, dd, S1, e1, k1, s1, r1, q1⟩ => ?_)
  subst e1
  unfold fldX at q1
  cases ef : exF a d c dd with
  | none => rw [ef] at q1; exact q1.elim
  | some fs =>
    rw [ef] at q1
    obtain ⟨ev, d1, fvs, ed, hd, rf⟩ := exF_rep r1 ef
    cases el : fs.lookup f with
    | none => simp only [Option.bind_some, el] at q1; exact q1.elim
    | some y =>
      simp only [Option.bind_some, el] at q1
      obtain ⟨v, hv, rv⟩ := rf.lookup el
      exact ⟨ev, rfl, d1, fvs, v, ed, hd, hv, q1 w1 v (Keep.refl w1) s1 rv⟩
end
end Pc

set_option Elab.async false
set_option linter.all false
set_option autoImplicit false
set_option maxRecDepth 100000
set_option maxHeartbeats 4000000
/-! Pc, part Zza: error.f, isinstance(error, C) by tables over the classes. -/
namespace Pc
open PySem PySem.Spec PyProof.Rows L2
def fldXT (ok : Nat → Bool) (a : Addr) (d : Option Addr) (c : Nat) (f : Str) (fe : Ev → M D) : Ev → M D := if ok c = true then (fun env => do let x ← fe env; fldX a d c f x) else fun _ => fail
def isXM (a : Addr) (d : Option Addr) (c : Nat) (b : Bool) (x : D) : M D := ofO ((exF a d c x).map fun _ => .bl b)
def isXT (tb : Nat → Option Bool) (a : Addr) (d : Option Addr) (c : Nat) (fe : Ev → M D) : Ev → M D := match d, tb c with
  | some y, some b => fun env => do let x ← fe env; isXM a (some y) c b x
  | _, _ => fun _ => fail
section
variable {g : Gc} {N0 : List Addr} {Wx : WX} {X : Cx} {a : Addr} {oe : Obj} {d : Option Addr} {c : Nat} {pn : List (Addr × Obj)}
theorem de_fldXT {ok : Nat → Bool} {e : Expr} {fe : Ev → M D} {f : Str} {pos : Pos} (hK : X.K = g.K) (T : ∀ c, ok c = true → XfC g.K (g.cl c) ∧ PySem.W.findIn g.K (.ref (g.cl c)) f = some none) (hz : Zc (.ref (g.cl c)) d oe) (hf : ∃ vs, oe.data = .fields vs) (hb : baseOk e = true)
    (h : DE g N0 Wx (X.suite a ((a, oe) :: pn)) e fe) : DE g N0 Wx (X.suite a ((a, oe) :: pn)) (.Attribute e f pos) (fldXT ok a d c f fe) := by
  unfold fldXT
  split
  · rename_i ho
    exact de_fldX hK (T c ho).1 (T c ho).2 hz hf hb h
  · exact de_never
theorem de_isX {ea ec : Expr} {fe : Ev → M D} {vc : V} {cv : Value} {tb : Nat → Option Bool} {p pos : Pos} (hK : X.K = g.K) (T : ∀ c b, tb c = some b → ExcC g.K (g.cl c) ∧ PySem.W.kitOne g.K (.ref (g.cl c)) cv = some b) (hz : Zc (.ref (g.cl c)) d oe) (hf : ∃ vs, oe.data = .fields vs)
    (bl : Blt (X.suite a ((a, oe) :: pn)) "isinstance" (.builtin "isinstance")) (hcv : ∀ u, RelV vc u → u = cv) (hs : [ea, ec].all notStar = true) (hE : PE (X.suite a ((a, oe) :: pn)) ec (tC vc)) (h : DE g N0 Wx (X.suite a ((a, oe) :: pn)) ea fe) :
    DE g N0 Wx (X.suite a ((a, oe) :: pn)) (.Call (.Name "isinstance" p) [ea, ec] [] pos) (isXT tb a d c fe) := by
  unfold isXT
  split
  · rename_i y b et
    obtain ⟨C, kit⟩ := T c b et
    rw [← hK] at C kit
    have hs' := hs
    simp only [List.all_cons, Bool.and_eq_true] at hs'
    refine PE.imp (pe_blt (.inl ⟨_, rfl⟩) bl (call_isX C hz hf) hs (pa_cons h (pa_cons hE pa_nil (star_cons hs'.2.1)) (star_cons hs'.1))) fun σ H Q ⟨w, env, S, ee, er, sr, q⟩ => ?_
    subst ee
    refine tr_intro er sr (pst_imp (pst_bind (relA := rl g) (fun _ _ _ _ _ z => z) q) fun v H1 ⟨w1, x, S1, e1, k1, s1, r1, q1⟩ => ?_)
    subst e1
    unfold isXM at q1
    cases ef : exF a (some y) c x with
    | none => rw [ef] at q1; exact q1.elim
    | some fs =>
      rw [ef] at q1
      obtain ⟨ev, d1, fvs, ed, hd, rf⟩ := exF_rep r1 ef
      cases ed
      subst ev
      exact ⟨vc, cv, b, fvs, rfl, hcv, kit, hd, q1 w1 _ (Keep.refl w1) s1 (.bl _)⟩
  · exact de_never
end
end Pc

set_option Elab.async false
set_option linter.all false
set_option autoImplicit false
set_option maxRecDepth 100000
set_option maxHeartbeats 4000000
/-! Pc, part Zzb: try and suites by the module's own error classes; tables over class numbers. -/
namespace Pc
open PySem PySem.Spec PyProof.Rows L2
def tab (l : List (Nat × Bool)) (c : Nat) : Option Bool := l.lookup c
theorem tab_nil {P : Nat → Bool → Prop} : ∀ c b, tab [] c = some b → P c b := fun c b h => by cases h
theorem tab_cons {P : Nat → Bool → Prop} {c0 : Nat} {b0 : Bool} {l : List (Nat × Bool)} (h0 : P c0 b0) (ht : ∀ c b, tab l c = some b → P c b) : ∀ c b, tab ((c0, b0) :: l) c = some b → P c b := fun c b h => by
  unfold tab at h
  rw [List.lookup_cons] at h
  split at h
  · rename_i e
    cases h
    rw [beq_iff_eq] at e
    subst e
    exact h0
  · exact ht c b h
def okT (l : List Nat) (c : Nat) : Bool := l.elem c
theorem okT_nil {P : Nat → Prop} : ∀ c, okT [] c = true → P c := fun c h => by cases h
theorem okT_cons {P : Nat → Prop} {c0 : Nat} {l : List Nat} (h0 : P c0) (ht : ∀ c, okT l c = true → P c) : ∀ c, okT (c0 :: l) c = true → P c := fun c h => by
  unfold okT at h
  rw [List.elem_cons] at h
  by_cases e : c = c0
  · subst e; exact h0
  · have e2 : (c == c0) = false := by simpa using e
    rw [e2] at h
    exact ht c h
def exccB (K : PySem.W.Frag) (D : Addr) : Bool := decide (PySem.W.findIn K (.ref D) "__getattribute__" = some (some (.builtin "BaseException.__getattribute__"))) && (decide (PySem.W.findIn K (.ref D) "__getattr__" = some none) && (decide (PySem.W.subIn K (.ref D) (.type "BaseException") = some true) &&
  (PySem.W.hasDictIn K D && (decide (PySem.W.findIn K (.ref D) "__class__" = some (some (.builtin "object.__class__"))) && (decide (PySem.W.specialIn K (.builtin "object.__class__") "__get__" = some (some (.builtin "getset_descriptor.__get__"))) &&
  (decide (PySem.W.takesIn K (.builtin "object.__class__") = some true) && decide (PySem.W.mroIn K D (.type "object") = some true)))))))
theorem exccB_ok {K : PySem.W.Frag} {C : Addr} (h : exccB K C = true) : ExcC K C := by
  obtain ⟨h1, h⟩ := He.ba h
  obtain ⟨h2, h⟩ := He.ba h
  obtain ⟨h3, h⟩ := He.ba h
  obtain ⟨h4, h⟩ := He.ba h
  obtain ⟨h5, h⟩ := He.ba h
  obtain ⟨h6, h⟩ := He.ba h
  obtain ⟨h7, h8⟩ := He.ba h
  exact ⟨of_decide_eq_true h1, of_decide_eq_true h2, of_decide_eq_true h3, h4, of_decide_eq_true h5, of_decide_eq_true h6, of_decide_eq_true h7, of_decide_eq_true h8⟩
/-- a class that an except clause names: what it catches -/
structure Xcl (g : Gc) (G : Ge) (x : Str) (l : List (Nat × Bool)) : Prop where
  ex : ∃ cv, (G.mg x = some cv ∨ (G.mg x = none ∧ bootBuiltins x = some cv ∧ x ≠ "__name__")) ∧ ∀ c b, tab l c = some b → PySem.W.exmOne g.K (.ref (g.cl c)) cv = some b
theorem Xcl.lo {g : Gc} {P : Program} {w : World} {mg : Str → Option Value} {base : Heap} {b b' : Bool} {x : Str} {l : List (Nat × Bool)} (F : Xcl g ⟨P, w, mg, base, b⟩ x l) : Xcl g ⟨P, w, mg, base, b'⟩ x l := ⟨F.ex⟩
/-- a field of the caught errors -/
structure Xfd (g : Gc) (f : Str) (l : List Nat) : Prop where
  ok : ∀ c, okT l c = true → XfC g.K (g.cl c) ∧ PySem.W.findIn g.K (.ref (g.cl c)) f = some none
/-- a class that isinstance asks for -/
structure Xis (g : Gc) (G : Ge) (x : Str) (l : List (Nat × Bool)) : Prop where
  ex : (∃ c0, G.mg x = some (.ref (g.cl c0)) ∧ ∀ c b, tab l c = some b → ExcC g.K (g.cl c) ∧ PySem.W.kitOne g.K (.ref (g.cl c)) (.ref (g.cl c0)) = some b) ∨
    (∃ T, G.mg x = none ∧ bootBuiltins x = some (.type T) ∧ x ≠ "__name__" ∧ ∀ c b, tab l c = some b → ExcC g.K (g.cl c) ∧ PySem.W.kitOne g.K (.ref (g.cl c)) (.type T) = some b)
theorem Xis.lo {g : Gc} {P : Program} {w : World} {mg : Str → Option Value} {base : Heap} {b b' : Bool} {x : Str} {l : List (Nat × Bool)} (F : Xis g ⟨P, w, mg, base, b⟩ x l) : Xis g ⟨P, w, mg, base, b'⟩ x l := ⟨F.ex⟩
theorem Xmk.lo {g : Gc} {P : Program} {w : World} {mg : Str → Option Value} {base : Heap} {b b' : Bool} {k c : Nat} {x : Str} {fl : List Str} (F : Xmk g ⟨P, w, mg, base, b⟩ k x c fl) : Xmk g ⟨P, w, mg, base, b'⟩ k x c fl := ⟨F.ex⟩
section
variable {g : Gc} {G : Ge} {k : Nat} {N : List Str} {sc : Scope} {X : Cx} {Wx : WX} {w0 : Wd} {N0 : List Addr}
theorem Cn.try_ {x n : Str} {l : List (Nat × Bool)} {i : Nat} {body suite : List Stmt} {b₀ : Stmt} {np pos pos' : Pos} {fb : Ev → M Out} {fS : Addr → Option Addr → Nat → Ev → M Out} (c : Cn g G k N sc X) (po : Po X) (F : Xcl g G x l) (hl : plocB N sc n i = true) (hg : glB sc x = true) (tk : Takes X Wx)
    (hb : ∀ (W : WX) (pn : List (Addr × Obj)) (xe : Value → Shared → Prop), Cn g G k N sc (X.tr pn xe) → Takes (X.tr pn xe) W → Po (X.tr pn xe) → DSs g W w0 (X.tr pn xe) body fb)
    (hsu : ∀ (a : Addr) (oe : Obj) (c : Nat) (d : Option Addr) (pn : List (Addr × Obj)), Cs g G N sc (X.suite a ((a, oe) :: pn)) → Zc (.ref (g.cl c)) d oe → (∃ vs, oe.data = .fields vs) → DSs g noW w0 (X.suite a ((a, oe) :: pn)) (b₀ :: suite) (fS a d c)) :
    DS g Wx w0 X (.Try body [.ExceptHandler (some (.Name x np)) (some n) (b₀ :: suite) pos'] [] [] pos) (tryM N.length i (tab l) fb fS) := by
  obtain ⟨cv, h1, h2⟩ := F.ex
  have hN := c.hN
  unfold plocB at hl
  obtain ⟨l1, l2⟩ := He.ba hl
  obtain ⟨q, hq, e⟩ := kindB_eq l2
  simp at hq
  subst hq
  have t := ds_try (g := g) (Wx := Wx) (w0 := w0) (X := X) (x := x) (n := n) (cv := cv) (i := i) (body := body) (suite := suite) (b₀ := b₀) (np := np) (pos := pos) (pos' := pos') (ct := tab l) (fb := fb) (fS := fS) c.ok.K po c.ok.nd (by rw [hN]; exact of_decide_eq_true l1)
    (by show X.env.scope.names.lookup n = _; rw [c.hs]; exact e) ⟨(c.gl hg).1, (c.gl hg).2, by rw [c.hm]; exact h1⟩ tk h2 (fun W pn xe tk po => hb W pn xe (c.tr pn xe) tk po) (fun a oe cc d pn hz hf => hsu a oe cc d pn (c.suite a _) hz hf)
  rw [hN] at t
  exact t
variable {a : Addr} {oe : Obj} {d : Option Addr} {c : Nat} {pn : List (Addr × Obj)}
theorem Cs.fld {f : Str} {l : List Nat} {e : Expr} {fe : Ev → M D} {pos : Pos} (cs : Cs g G N sc (X.suite a ((a, oe) :: pn))) (F : Xfd g f l) (hz : Zc (.ref (g.cl c)) d oe) (hf : ∃ vs, oe.data = .fields vs) (hb : baseOk e = true) (h : DE g N0 Wx (X.suite a ((a, oe) :: pn)) e fe) :
    DE g N0 Wx (X.suite a ((a, oe) :: pn)) (.Attribute e f pos) (fldXT (okT l) a d c f fe) := de_fldXT cs.K F.ok hz hf hb h
theorem Cs.isX {x : Str} {l : List (Nat × Bool)} {ls : List Str} {ea : Expr} {fe : Ev → M D} {p p2 pos : Pos} (cs : Cs g G N sc (X.suite a ((a, oe) :: pn))) (B : Bts ls G) (F : Xis g G x l) (hb : hasB ls "isinstance" = true) (hg : glB sc "isinstance" = true) (hg2 : glB sc x = true) (hz : Zc (.ref (g.cl c)) d oe) (hf : ∃ vs, oe.data = .fields vs) (hs : notStar ea = true)
    (h : DE g N0 Wx (X.suite a ((a, oe) :: pn)) ea fe) : DE g N0 Wx (X.suite a ((a, oe) :: pn)) (.Call (.Name "isinstance" p) [ea, .Name x p2] [] pos) (isXT (tab l) a d c fe) := by
  have bl : Blt (X.suite a ((a, oe) :: pn)) "isinstance" (.builtin "isinstance") := ⟨(cs.gl hg).1, by rw [cs.hm]; exact B _ hb, Cn.bb_isi, by decide, (cs.gl hg).2⟩
  have hss : [ea, Expr.Name x p2].all notStar = true := by rw [List.all_cons, hs]; rfl
  rcases F.ex with ⟨c0, m, T⟩ | ⟨T0, m, bb, hn, T⟩
  · exact de_isX cs.K T hz hf bl (fun u r => by cases r; rfl) hss (pe_glob (v := .ref (g.cl c0)) (cs.gl hg2).1 (by rw [cs.hm]; exact m) rfl (cs.gl hg2).2) h
  · exact de_isX cs.K T hz hf bl (fun u r => by cases r; rfl) hss (pe_bltn (v := .ty T0) (cs.gl hg2).1 (by rw [cs.hm]; exact m) bb rfl hn (cs.gl hg2).2) h
end
end Pc

set_option Elab.async false
set_option linter.all false
set_option autoImplicit false
set_option maxRecDepth 100000
set_option maxHeartbeats 4000000
/-! Pc, part Zzc: an own list is frozen between two statements. -/
namespace Pc
open PySem PySem.Spec PyProof.Rows L2
def frzM (i : Nat) : Ev → M Ev := fun env => match env[i]? with
  | some (.own xs) => pure (env.set i (.val (.lst xs)))
  | _ => fail
def frzS (i : Nat) (f : Ev → M Out) : Ev → M Out := fun env => do
  let e ← frzM i env
  f e
section
variable {g : Gc} {Wx : WX} {w0 : Wd} {X : Cx}
theorem pstS_mono {w w' : Wd} {r : R Out} {E : Ends} (m : Mono w w') (h : PstS g Wx w0 w r E) : PstS g Wx w0 w' r E := by
  unfold PstS at h ⊢
  cases r with
  | ok o S =>
    cases o with
    | nx e => exact fun w2 σ m2 st => h w2 σ (m.trans m2) st
    | bk e => exact fun w2 σ m2 st => h w2 σ (m.trans m2) st
    | ct e => exact fun w2 σ m2 st => h w2 σ (m.trans m2) st
    | rt d => exact h
  | ex c fs S => exact fun w2 σ cls dd m2 => h w2 σ cls dd (m.trans m2)
  | bad => exact h
theorem ER.frz {w : Wd} {env : Ev} {σ : L2.St} {N0 : List Addr} {i : Nat} {xs : List D} {p : Addr} {N' : List Addr} (e : ER g N0 w env σ) (hi : env[i]? = some (.own xs)) (hp : σ[i]? = some (some (.ref p))) (sub : ∀ a ∈ N', a ∈ w.N) (inn : ∀ a, a ≠ p → a ∈ w.N → a ∈ N') (r : Rep g ⟨w.H, N', w.m⟩ (.ref p) (.lst xs)) : ER g N0 ⟨w.H, N', w.m⟩ (env.set i (.val (.lst xs))) σ := by
  have ne : ∀ (j : Nat) (s : Sl), (env.set i (.val (.lst xs)))[j]? = some s → (j = i ∧ s = .val (.lst xs)) ∨ (j ≠ i ∧ env[j]? = some s) := fun j s h => by
    rw [List.getElem?_set] at h
    split at h
    · rename_i q
      subst q
      split at h
      · cases h; exact .inl ⟨rfl, rfl⟩
      · cases h
    · rename_i q
      exact .inr ⟨fun z => q z.symm, h⟩
  have oth : ∀ j a, j ≠ i → ownAt env j → σ[j]? = some (some (.ref a)) → a ≠ p := fun j a hj ho hs ea => by
    subst ea
    exact e.ap j i hj ho ⟨_, hi, rfl⟩ (hs.trans hp.symm)
  refine ⟨by rw [e.len, List.length_set], fun j d h => ?_, fun j ys h => ?_, fun j ys h => ?_, fun j k hjk h1 h2 => ?_⟩
  · rcases ne j _ h with ⟨rfl, q⟩ | ⟨hj, q⟩
    · cases q
      exact ⟨_, hp, r⟩
    · obtain ⟨v, a, b⟩ := e.val j d q
      exact ⟨v, a, b.mono (mono_less sub)⟩
  · rcases ne j _ h with ⟨rfl, q⟩ | ⟨hj, q⟩
    · cases q
    · obtain ⟨a, vs, h1, h2, h3, h4, h5, h6⟩ := e.own j ys q
      exact ⟨a, vs, h1, h2, inn a (oth j a hj ⟨_, q, rfl⟩ h1) h3, h4, h5, h6.mono (mono_less sub)⟩
  · rcases ne j _ h with ⟨rfl, q⟩ | ⟨hj, q⟩
    · cases q
    · obtain ⟨a, vs, h1, h2, h3, h4, h5, h6⟩ := e.owd j ys q
      exact ⟨a, vs, h1, h2, inn a (oth j a hj ⟨_, q, rfl⟩ h1) h3, h4, h5, h6.mono (mono_less sub)⟩
  · obtain ⟨s1, e1, o1⟩ := h1
    obtain ⟨s2, e2, o2⟩ := h2
    rcases ne j _ e1 with ⟨rfl, q1⟩ | ⟨hj, q1⟩
    · subst q1; cases o1
    · rcases ne k _ e2 with ⟨rfl, q2⟩ | ⟨hk, q2⟩
      · subst q2; cases o2
      · exact e.ap j k hjk ⟨_, q1, o1⟩ ⟨_, q2, o2⟩
theorem dss_frz {ss : List Stmt} {f : Ev → M Out} (i : Nat) (h : DSs g Wx w0 X ss f) : DSs g Wx w0 X ss (frzS i f) := by
  refine PSs.imp h fun E σ H ⟨w, env, S, ee, st, q⟩ => ?_
  subst ee
  unfold frzS at q
  cases hi : env[i]? with
  | none =>
    have e : frzM i env S = .bad := by unfold frzM; rw [hi]; rfl
    rw [bind_bad e] at q; exact q.elim
  | some sl =>
    cases sl with
    | own xs =>
      have e : frzM i env S = .ok (env.set i (.val (.lst xs))) S := by unfold frzM; rw [hi]; rfl
      rw [bind_ok e] at q
      obtain ⟨p, vs, h1, h2, h3, h4, h5, h6⟩ := st.er.own i xs hi
      have sub : ∀ a ∈ w.N.filter (fun a => decide (a ≠ p)), a ∈ w.N := fun a ha => (List.mem_filter.mp ha).1
      have out : p ∉ w.N.filter (fun a => decide (a ≠ p)) := fun ha => by
        have := (List.mem_filter.mp ha).2
        exact absurd rfl (of_decide_eq_true this)
      have inn : ∀ a, a ≠ p → a ∈ w.N → a ∈ w.N.filter (fun a => decide (a ≠ p)) := fun a n ha => List.mem_filter.mpr ⟨ha, decide_eq_true n⟩
      have r : Rep g ⟨w.H, w.N.filter (fun a => decide (a ≠ p)), w.m⟩ (.ref p) (.lst xs) := .lst (.inl h2) out (h6.mono (mono_less sub))
      refine ⟨⟨w.H, w.N.filter (fun a => decide (a ≠ p)), w.m⟩, env.set i (.val (.lst xs)), S, rfl, ⟨st.er.frz hi h1 sub inn r, ?_, ?_⟩, pstS_mono (mono_less sub) q⟩
      · exact st.sr.less sub fun a ha => inn a (fun e => h4 (by rw [← e]; exact ha)) (st.sr.sub a ha)
      · exact keep_less st.kp sub fun a ha => inn a (fun e => h5 (by rw [← e]; exact ha)) (st.kp.sub a ha)
    | _ =>
      have e : frzM i env S = .bad := by unfold frzM; rw [hi]; rfl
      rw [bind_bad e] at q; exact q.elim
end
end Pc

set_option Elab.async false
set_option linter.all false
set_option autoImplicit false
set_option maxRecDepth 100000
set_option maxHeartbeats 4000000
/-! Pc, part Zzd: error classes from the head. -/
namespace Pc
open PySem PySem.Spec PyProof.Rows L2
section
variable {g : Gc} {G : Ge} {k c : Nat} {f : Addr} {fd : FuncData} {x name qual : Str} {params : Arguments} {sc : Scope} {kws : List (Str × V)} {s y z f1 f2 : Str} {p1 p2 p3 pos p4 p5 p6 pos2 : Pos} {body : List Stmt}
theorem xmk1_at (hb : body = [.Assign [.Attribute (.Name s p1) f1 p2] (.Name y p3) pos]) (F : FunD g.K name qual params body sc [] kws f fd) (T : OexC g.K (g.cl c)) (M : Meth g.K (g.cl c) "__init__" f) (hx : G.mg x = some (.ref (g.cl c)))
    (S : scB [s, y] [s, y] sc = true) (v0 : visB [s, y] sc s 0 = true) (v1 : visB [s, y] sc y 1 = true) (n1 : NoAttr g.K (g.cl c) f1) (hbd : Binds g.K fd [s, y] []) : Xmk g G (k + 2) x c [f1] := by
  subst hb
  exact xmk1_of F T M.at_ (eq_of_beq M.fn) hx S v0 v1 n1 hbd
theorem xmk2_at (hb : body = [.Assign [.Attribute (.Name s p1) f1 p2] (.Name y p3) pos, .Assign [.Attribute (.Name s p4) f2 p5] (.Name z p6) pos2]) (F : FunD g.K name qual params body sc [] kws f fd) (T : OexC g.K (g.cl c)) (M : Meth g.K (g.cl c) "__init__" f) (hx : G.mg x = some (.ref (g.cl c)))
    (S : scB [s, y, z] [s, y, z] sc = true) (v0 : visB [s, y, z] sc s 0 = true) (v1 : visB [s, y, z] sc y 1 = true) (v2 : visB [s, y, z] sc z 2 = true) (n1 : NoAttr g.K (g.cl c) f1) (n2 : NoAttr g.K (g.cl c) f2) (hbd : Binds g.K fd [s, y, z] []) : Xmk g G (k + 2) x c [f1, f2] := by
  subst hb
  exact xmk2_of F T M.at_ (eq_of_beq M.fn) hx S v0 v1 v2 n1 n2 hbd
end
end Pc

set_option Elab.async false
set_option linter.all false
set_option autoImplicit false
set_option maxRecDepth 100000
set_option maxHeartbeats 4000000
/-! Pc, part Zze: Wp of raise, try, the caught error. -/
namespace Pc
open PySem PySem.Spec PyProof.Rows L2
section
variable {S : Store} {E : XQ}
theorem w_raise {c : Nat} {fl : List Str} {fa : Ev → M (List D)} {env : Ev} {Q : Out → Store → Prop} (h : Wp (fa env) S E fun ds S' => ds.length = fl.length ∧ E c (fl.zip ds).reverse S') : Wp (raiseM c fl fa env) S E Q := by
  unfold raiseM
  refine wp_bind.mpr (wp_mono h fun ds S' hh => ?_)
  obtain ⟨h1, h2⟩ := hh
  rw [if_pos h1]
  exact h2
theorem w_try {n i : Nat} {ct : Nat → Option Bool} {fb : Ev → M Out} {fS : Addr → Option Addr → Nat → Ev → M Out} {env : Ev} {Q : Out → Store → Prop}
    (h : Wp (fb env) S (fun c fs S' => (ct c = some true ∧ ∃ o S'', (∀ a d, (d = none → fs = []) → Wp (fS a d c (excE n i a d c fs)) S' (fun _ _ _ => False) fun o' S1 => outNo i o' = o ∧ S1 = S'') ∧ Q o S'') ∨ (ct c = some false ∧ E c fs S')) Q) : Wp (tryM n i ct fb fS env) S E Q := by
  unfold Wp at h ⊢
  unfold tryM
  cases e : fb env S with
  | ok o S1 => rw [e] at h; exact h
  | bad => rw [e] at h; exact h
  | ex c fs S1 =>
    rw [e] at h
    dsimp only at h ⊢
    rcases h with ⟨h1, o, S2, h2, h3⟩ | ⟨h1, h2⟩
    · rw [h1]
      dsimp only
      generalize hx : allR fs _ = r
      have ea : r = .ok o S2 := by
        rw [← hx]
        refine allR_eq fun a d hd => ?_
        have := h2 a d hd
        unfold Wp at this
        cases ef : fS a d c (excE n i a d c fs) S1 with
        | ok o' S3 => rw [ef] at this; obtain ⟨z1, z2⟩ := this; subst z2; simp only [z1]
        | ex _ _ _ => rw [ef] at this; exact this.elim
        | bad => rw [ef] at this; exact this.elim
      rw [ea]
      exact h3
    · rw [h1]
      exact h2
theorem w_fldXT {ok : Nat → Bool} {a : Addr} {d : Option Addr} {c : Nat} {f : Str} {fe : Ev → M D} {env : Ev} {fs : List (Str × D)} {v : D} {Q : D → Store → Prop} (ho : ok c = true) (hd : d = none → fs = []) (hf : fs.lookup f = some v)
    (h : Wp (fe env) S E fun x S' => x = .exn a d c fs ∧ Q v S') : Wp (fldXT ok a d c f fe env) S E Q := by
  unfold fldXT
  rw [if_pos ho]
  refine wp_bind.mpr (wp_mono h fun x S' hh => ?_)
  obtain ⟨rfl, q⟩ := hh
  cases d with
  | none =>
    rw [hd rfl] at hf
    cases hf
  | some y =>
    have e : fldX a (some y) c f (.exn a (some y) c fs) = ofO (some v) := by
      unfold fldX
      rw [show exF a (some y) c (.exn a (some y) c fs) = some fs from if_pos ⟨rfl, rfl, rfl⟩]
      rw [Option.bind_some, hf]
    rw [e]
    exact q
theorem w_isXT {tb : Nat → Option Bool} {a : Addr} {d : Option Addr} {c : Nat} {fe : Ev → M D} {env : Ev} {fs : List (Str × D)} {b : Bool} {Q : D → Store → Prop} (ho : tb c = some b) (hd : d ≠ none)
    (h : Wp (fe env) S E fun x S' => x = .exn a d c fs ∧ Q (.bl b) S') : Wp (isXT tb a d c fe env) S E Q := by
  cases d with
  | none => exact absurd rfl hd
  | some y =>
    unfold isXT
    rw [ho]
    refine wp_bind.mpr (wp_mono h fun x S' hh => ?_)
    obtain ⟨rfl, q⟩ := hh
    have e : isXM a (some y) c b (.exn a (some y) c fs) = ofO (some (.bl b)) := by
      unfold isXM
      rw [show exF a (some y) c (.exn a (some y) c fs) = some fs from if_pos ⟨rfl, rfl, rfl⟩]
      rfl
    rw [e]
    exact q
theorem w_frz {i : Nat} {f : Ev → M Out} {env : Ev} {xs : List D} {Q : Out → Store → Prop} (hi : env[i]? = some (.own xs)) (h : Wp (f (env.set i (.val (.lst xs)))) S E Q) : Wp (frzS i f env) S E Q := by
  unfold frzS
  refine wp_bind.mpr ?_
  unfold frzM
  rw [hi]
  exact h
end
end Pc

set_option Elab.async false
set_option linter.all false
set_option autoImplicit false
set_option maxRecDepth 100000
set_option maxHeartbeats 4000000
/-! Pc, part Zzf: own errors over LookupError, with one field. -/
namespace Pc
open PySem PySem.Spec PyProof.Rows L2
abbrev leTail : List Value := [.type "LookupError", .type "Exception", .type "BaseException", .type "object"]
/-- what is asked of an own class over LookupError -/
structure OexL (K : PySem.W.Frag) (C : Addr) : Prop where
  cls : ∃ nm q N bs bm sn sub ab col dd k0 k1 k2 k3 k5, K.lookup C = some (excClassObj nm q C N bs bm true sn sub ab col dd k0 k1 k2 k3 k5 "LookupError.__new__") ∧ PySem.W.excTail leTail bm = true
  sa : PySem.W.findIn K (.ref C) "__setattr__" = some (some (.builtin "object.__setattr__"))
  exC : PySem.W.subIn K (.ref C) (.type "BaseException") = some true
  tyC : PySem.W.typeIn K (.ref C) = some (.type "type")
  kC : PySem.W.keepIn K (.ref C) = true
def lexLB (K : PySem.W.Frag) (C : Addr) : Bool := match K.lookup C with
  | some ⟨.type t, _, .cls ⟨_, _, .ref c :: bm, _, _, true, _, _, _, _, false⟩, ⟨[_, _, _, _, some (.builtin n), _]⟩⟩ => t == "type" && (decide (c = C) && (PySem.W.excTail leTail bm && n == "LookupError.__new__"))
  | _ => false
def oexLB (K : PySem.W.Frag) (C : Addr) : Bool := lexLB K C && (decide (PySem.W.findIn K (.ref C) "__setattr__" = some (some (.builtin "object.__setattr__"))) && (decide (PySem.W.subIn K (.ref C) (.type "BaseException") = some true) && (decide (PySem.W.typeIn K (.ref C) = some (.type "type")) && PySem.W.keepIn K (.ref C))))
theorem oexLB_ok {K : PySem.W.Frag} {C : Addr} (h : oexLB K C = true) : OexL K C := by
  unfold oexLB at h
  simp only [Bool.and_eq_true, decide_eq_true_eq] at h
  obtain ⟨h1, h2, h3, h4, h5⟩ := h
  refine ⟨?_, h2, h3, h4, h5⟩
  unfold lexLB at h1
  split at h1
  · rename_i t dd nm bs c bm N q sn sub ab col k0 k1 k2 k3 n k5 e
    simp only [Bool.and_eq_true, beq_iff_eq, decide_eq_true_eq] at h1
    obtain ⟨rfl, rfl, h3, rfl⟩ := h1
    exact ⟨_, _, _, _, _, _, _, _, _, _, _, _, _, _, _, e, h3⟩
  · cases h1
section
open Builtin Builtin.ObjectAttr
theorem osaL {prog : Program} {w : World} {A : Around} {R : Result → Shared → Prop} {hp : Heap} {g : Array GenState} {d : Drawn} {t : Nat} {os : OsState} {K : PySem.W.Frag} {name : Str} {tk : Tok} {v : Value} {x C : Addr} {fv : Array Value} {cd : ClassData}
    (X : K.In hp) (hx : hp.get? x = some { cls := .ref C, data := .fields fv }) (hcd : PySem.W.clsIn K C = some cd) (ho : PySem.W.excOver K C leTail = true) (hh : cd.hasDict = true) (ha : PySem.W.findIn K (.ref C) name = some none)
    (hq : ∀ h' tk' dx, (∀ b o, b ≠ x → hp.get? b = some o → h'.get? b = some o) → hp.objs.size ≤ dx → dx ≠ x → h'.get? x = some { cls := .ref C, dict := some dx, data := .fields fv } →
      h'.Ns1 dx (fun y => if y = name then some v else none) → R (.ok (.ret .none)) ⟨h', g, d, tk', os⟩) :
    codeAny (model prog w) A (.call (.builtin "object.__setattr__") ⟨[.ref x, .str name tk, v], []⟩) R ⟨hp, g, d, t, os⟩ := by
  have I : PySem.W.InstAt hp x { cls := .ref C, data := .fields fv } C none := ⟨hx, rfl, rfl, trivial⟩
  have hxs : x ≠ hp.objs.size := Nat.ne_of_lt (Heap.lt_size hx)
  have hcls : PySem.W.Looks (model prog w) hp (classData C) cd := PySem.W.looks_clsIn X hcd
  refine PySem.W.osa_openX (r := none) F.store_LookupError X I ho (by unfold PySem.W.takerIn; rw [ha]; rfl) fun bb => ?_
  show wpAny _ _ (storeInOwnDict (.ref x) (.ref C) (.str name tk) name v bb) _ _ _
  obtain ⟨nm, bs, mro, ns, qn, hd, sn, sb, ab, col, del⟩ := cd
  dsimp only at hh
  subst hh
  unfold storeInOwnDict ownDictForStores
  repeat (first | with_reducible refine PySem.HandSPX.store_in_new ?_ ?_ | with_reducible refine wpAny_loadPart_at hx ?_ | with_reducible refine hcls.at ?_ | wp_step)
  · exact ⟨_, #[], _, (Heap.get?_update_ne _ _ _ _ hxs.symm).trans (Heap.get?_push_at rfl rfl), rfl, fun e he => absurd he (by simp), fun _ => rfl⟩
  · intro h' tk' hn' hs
    have hx₁ : (hp.push { cls := .type "dict", data := .dict #[] }).get? x = some { cls := .ref C, data := .fields fv } := Heap.get?_push_of_some _ hx
    refine hq h' tk' hp.objs.size (fun b o hb ho => ?_) (Nat.le_refl _) hxs.symm ?_ hn'
    · exact (hs.2 b (Nat.ne_of_lt (Heap.lt_size ho))).trans ((Heap.get?_update_ne _ _ _ _ hb).trans (Heap.get?_push_of_some _ ho))
    · exact (hs.2 x hxs).trans (Heap.get?_update_self _ hx₁ rfl)
end
section
variable {X : Cx} {pins : List (Addr × Obj)} {σ : L2.St} {H : Hp} {s : Shared} {a C : Addr} {f : Str} {y : V} {u : Value} {Q : Unit → Shared → Prop} {E : Value → Shared → Prop} {A : Around}
theorem ostL (T : OexL X.K C) (I : Inv X pins σ H s) (e : H a = some (exo a C none)) (hno : PySem.W.findIn X.K (.ref C) f = some none) (ry : RelV y u)
    (h : ∀ dx s', H dx = none → dx ≠ a → Inv X pins σ (upd (upd H dx (exd dx [(f, y)])) a (exo a C (some dx))) s' → Q () s') : wpAny (model X.prog X.w) A (setAttr (.ref a) f u) Q E s := by
  obtain ⟨nm, q, N, bs, bm, sn, sub, ab, col, dd, k0, k1, k2, k3, k5, hC, hbm⟩ := T.cls
  have hcl : PySem.W.clsIn X.K C = some { name := nm, bases := bs, mro := .ref C :: bm, ns := N, qualname := q, hasDict := true, slotNames := sn, subclasses := sub, abstract := ab, collection := col, hasDel := false } := by unfold PySem.W.clsIn; rw [hC] <;> rfl
  have hov : PySem.W.excOver X.K C leTail = true := by
    unfold PySem.W.excOver
    rw [hcl]
    show ((C == C) && PySem.W.excTail leTail bm) = true
    rw [hbm, beq_self_eq_true]
    rfl
  obtain ⟨t1, ho⟩ := exo_at I.hok e
  obtain ⟨hp, g, d, t, os⟩ := s
  refine PySem.W.set_plain I.kIn (ox := { cls := .ref C, dict := none, data := .fields #[.ref t1, .none, .none, .none, .bool false, .none] }) (od := none) ⟨ho, rfl, rfl, trivial⟩ T.sa ?_
  refine osaL I.kIn ho hcl hov rfl hno (fun h' tk' dx k dn dne hx hn => ?_)
  have hnd : H dx = none := I.hok.fresh dn
  have nd : ∀ {b : Addr} {o : Obj}, hp.get? b = some o → b ≠ dx := fun {b o} q => Nat.ne_of_lt (Nat.lt_of_lt_of_le (Heap.lt_size q) dn)
  have na : ∀ {b : Addr}, H b = none → b ≠ a := fun {b} n z => by
    rw [z, e] at n
    cases n
  have Un1 : Un X.fs [] H (upd (upd H dx (exd dx [(f, y)])) a (exo a C (some dx))) hp h' := {
    keep := fun b o q n _ _ => k b o (na n) q
    slot := fun b o q n _ _ => ⟨o.slots, k b o (na n) q⟩
    free := fun b o q n _ => by rw [upd_ne (na n), upd_ne (nd q)]; exact n
    there := fun b o q _ => by
      by_cases hb : b = a
      · exact ⟨_, by rw [hb]; exact hx⟩
      · exact ⟨o, k b o hb q⟩
    tups := fun b xs q => by rw [upd_ne (at_ne e q exo_tup), upd_ne (ne_of_none q hnd)]; exact q
    frzs := fun b o v q => by rw [upd_ne (at_ne e q exo_frz), upd_ne (ne_of_none q hnd)]; exact q
    tbls := fun b ps q => ⟨#[], by rw [upd_ne (at_ne e q exo_tbl), upd_ne (ne_of_none q hnd), q]; simp⟩ }
  refine h dx _ hnd dne (I.un (t' := tk') Un1 fun b o q => ?_)
  by_cases hb : b = a
  · subst hb
    rw [upd_same] at q
    cases q
    exact exo_ok hx
  · rw [upd_ne hb] at q
    by_cases hd : b = dx
    · subst hd
      rw [upd_same] at q
      cases q
      exact exd_ok hn (relO_put (fs := []) ry fun g => True.intro)
    · rw [upd_ne hd] at q
      exact (I.hok b o q).stay (fun c v hc z => k c v (by
          rcases hc with hc | hc
          · rw [hc]
            exact hb
          · exact at_ne e hc exo_own) z)
        (fun c hc => by rw [upd_ne (at_ne e hc exo_own), upd_ne (ne_of_none hc hnd)]; exact hc) (fun c xs hc => by rw [upd_ne (at_ne e hc exo_tup), upd_ne (ne_of_none hc hnd)]; exact hc)
end
/-- self.f = e, the first field -/
def tOstL (K : PySem.W.Frag) (f : Str) (to te : TE) : TS := fun D σ H => te σ H fun y H1 => to σ H1 fun x H2 => ∃ a C : Addr, x = .ref a ∧ OexL K C ∧ PySem.W.findIn K (.ref C) f = some none ∧
  H2 a = some (exo a C none) ∧ ∀ dx, H2 dx = none → dx ≠ a → D.nx σ (upd (upd H2 dx (exd dx [(f, y)])) a (exo a C (some dx)))
theorem ps_ostL {X : Cx} {o e : Expr} {to te : TE} {f : Str} {p' pos : Pos} (ho : PE X o to) (he : PE X e te) (hs : swapsWith e (some (.Attribute o f p')) pos.line X.env = pure false := by rfl) : PS X (.Assign [.Attribute o f p'] e pos) (tOstL X.K f to te) := by
  refine ⟨fun pins s σ H D I h => ?_⟩
  refine plainObj_wpAny_Assign_Attribute (thn (he.run pins s σ H _ I h) fun v s1 ⟨y, H1, I1, r1, q1⟩ => thn (ho.run pins s1 σ H1 _ I1 q1) fun u s2 ⟨x, H2, I2, r2, a, C, ex, T, hno, ea, q⟩ => ?_) hs
  subst ex
  obtain rfl : u = Value.ref a := r2
  exact ostL T I2 ea hno r1 fun dx s' n ne J => ⟨σ, _, J, q dx n ne⟩
section
variable {X : Cx} {e : Expr} {es : List Expr} {ta : TA} {p pos : Pos}
theorem pmk_oexL {CX : CXT} {x : Str} {C fI : Addr} {k : Nat} {fd : FuncData} {ps : List Str} {sp : Sp} {ds : List Value} {dvs : List V} (T : OexL X.K C) (iC : PySem.W.findIn X.K (.ref C) "__init__" = some (some (.ref fI))) (tI : PySem.W.typeIn X.K (.ref fI) = some (.type "function"))
    (F1 : FnOk X.prog X.w X.K X.mg X.base CX k fI fd ps sp) (hr : Room (k + 1) X.A) (hb : Binds X.K fd ps ds) (hd : Vals dvs ds) (hx : Passes CX X (fun _ _ _ => False)) (hg : Gl X x) (hm : X.mg x = some (.ref C)) (ha : PA X (e :: es) ta)
    (hdb : (x == ("__debug__" : Str)) = false := by decide) (he : starEach (e :: es) X.env = (false, eval e X.env) :: starEach es X.env := by rfl) (hpl : (backTo pos (starEach es X.env)).any (·.1) = false := by rfl) :
    PMk X (.Call (.Name x p) (e :: es) [] pos) (tMkO C sp dvs ta) := by
  intro pins s σ H Q I h
  obtain ⟨nm, q, N, bs, bm, sn, sub, ab, col, dd, k0, k1, k2, k3, k5, hC, hbm⟩ := T.cls
  refine wpAny_Call_Name_kw (ld_glob I hg hm ?_ hdb)
  refine PySem.W.callWith_K (h₀ := X.base) I.ok.mod.kin T.kC (thn (ha.run pos pins s σ H _ I h) fun us s1 ⟨vs, H1, I1, r1, hz, q1⟩ => ⟨I1.kIn, ?_⟩) he hpl
  show wpAny _ _ (call (.ref C) us) _ _ _
  obtain ⟨hp, g, dr, tk, os⟩ := s1
  have hsz : hp.objs.size ≤ hp.objs.size + 1 := Nat.le_succ _
  have hn : H1 (hp.objs.size + 1) = none := I1.hok.fresh hsz
  have hq := q1 (hp.objs.size + 1) hn
  have kk : ∀ b o, hp.get? b = some o → ((hp.push (PySem.W.kdv_tup us)).push (PySem.HandSPX.excO C hp.objs.size)).get? b = some o := fun b o e => Heap.get?_push_of_some _ (Heap.get?_push_of_some _ e)
  have hget : ((hp.push (PySem.W.kdv_tup us)).push (PySem.HandSPX.excO C hp.objs.size)).get? (hp.objs.size + 1) = some (PySem.HandSPX.excO C hp.objs.size) := by heap_get
  have I2 : Inv X pins σ (upd H1 (hp.objs.size + 1) (exo (hp.objs.size + 1) C none)) ⟨(hp.push (PySem.W.kdv_tup us)).push (PySem.HandSPX.excO C hp.objs.size), g, dr, tk, os⟩ :=
    I1.laid (t' := tk) (a := hp.objs.size + 1) (o := exo (hp.objs.size + 1) C none) (h' := (hp.push (PySem.W.kdv_tup us)).push (PySem.HandSPX.excO C hp.objs.size)) kk hsz (exo_ok hget)
  have r2 : Vals (V.ref (hp.objs.size + 1) :: (vs ++ dvs)) (Value.ref (hp.objs.size + 1) :: (us ++ ds)) := .cons rfl (r1.append hd)
  have hl : (Value.ref (hp.objs.size + 1) :: us ++ ds).length = ps.length := by
    have e := r2.length
    rw [F1.len _ _ _ _ hq] at e
    exact e.symm
  have hus : us.length ≤ sizeLine := by
    rw [← Paired.length r1, sizeLine_eq]
    omega
  refine wpAny_call (PySem.HandSPX.call_own F.excBase_LookupError (fun Y => PySem.W.excTail_contains Y bm hbm) (I1.kIn _ _ hC) (PySem.W.looks_findIn I1.kIn iC) (fun self => PySem.W.bind_fn I1.kIn self tI) hus
    (codeAny_mono (F1.run _ X.stack _ _ ⟨Value.ref (hp.objs.size + 1) :: us, []⟩ (Value.ref (hp.objs.size + 1) :: (us ++ ds)) _ _ (fun _ _ _ => False) (hr.make C us []) (I2.env0.make C us []) (hb _ (Value.ref (hp.objs.size + 1) :: us) I2.kIn hl) r2 hq) fun r s' hq' => ?_))
  cases r with
  | error er => exact hx pins σ _ _ er s' I2 hq'
  | ok fl =>
    cases fl with
    | ret u =>
      obtain ⟨v, H2, os2, bare2, un2, hok2, rv, ev, d, fs, ea, ed, hd1, q2⟩ := hq'
      subst ev
      obtain ⟨h2, g2, d2, t2, os'⟩ := s'
      exact ⟨rv, mk_end (raises_own T.exC T.tyC) I1 hsz kk un2 hok2 os2 bare2 ea ed hd1 q2⟩
    | next => exact False.elim hq'
    | brk => exact False.elim hq'
    | cont => exact False.elim hq'
end
end Pc

set_option Elab.async false
set_option linter.all false
set_option autoImplicit false
set_option maxRecDepth 100000
set_option maxHeartbeats 4000000
/-! Pc, part Zzg: raise C(x), C an own error over LookupError with one field. -/
namespace Pc
open PySem PySem.Spec PyProof.Rows L2
section
variable {g : Gc} {P : Program} {w : World} {mg : Str → Option Value} {base : Heap} {k : Nat} {f C : Addr} {name qual : Str} {params : Arguments} {scope : Scope} {dV kV doc pm cdv ct oc : Value} {an od : Option Addr} {osl : Array (Option Value)} {s y f1 : Str} {p1 p2 p3 pos : Pos}
theorem fnE1L (lk : g.K.lookup f = some ⟨oc, od, .func (PySem.W.fnOf name qual params [.Assign [.Attribute (.Name s p1) f1 p2] (.Name y p3) pos] scope dV kV doc pm an cdv ct), osl⟩) (hcd : PySem.W.codeIn g.K cdv qual = true) (S : FnScope [s, y] [s, y] scope)
    (v0 : visB [s, y] scope s 0 = true) (v1 : visB [s, y] scope y 1 = true) (T : OexL g.K C) (n1 : PySem.W.findIn g.K (.ref C) f1 = some none) :
    FnOk P w g.K mg base (L2.CX P w) (k + 1) f (PySem.W.fnOf name qual params [.Assign [.Attribute (.Name s p1) f1 p2] (.Name y p3) pos] scope dV kV doc pm an cdv ct) [s, y] (spE1 C f1) := by
  refine fn_of lk hcd S (fun vs H Q E ⟨x, y, e, _⟩ => by subst e; rfl) fun A outer s H vs Q E hr ⟨x, yv, e, hx, q⟩ => ?_
  subst e
  have c : Cn g ⟨P, w, mg, base, false⟩ k [_, _] scope (cxOf (L2.CX P w) P w g.K mg base [_, _] qual scope f cdv A outer s H E) := ⟨rfl, rfl, rfl, rfl, rfl, rfl, ⟨rfl, rfl, S.nd, hr, fun z => by cases z⟩⟩
  refine ⟨_, pss_one (ps_ostL (c.pv 0 v0) (c.pv 1 v1) (swaps_no rfl)), yv, rfl, .ref x, rfl, x, C, rfl, T, n1, hx, q⟩
end
/-- an error class over LookupError by its name: its field -/
structure XmkL (g : Gc) (G : Ge) (k : Nat) (x : Str) (c : Nat) (fl : List Str) : Prop where
  ex : ∃ (f : Addr) (fd : FuncData) (ps : List Str) (sp : Sp) (j : Nat), j + 1 ≤ k ∧ FnOk G.P G.w g.K G.mg G.base (L2.CX G.P G.w) j f fd ps sp ∧ OexL g.K (g.cl c) ∧ PySem.W.findIn g.K (.ref (g.cl c)) "__init__" = some (some (.ref f)) ∧
    PySem.W.typeIn g.K (.ref f) = some (.type "function") ∧ G.mg x = some (.ref (g.cl c)) ∧ Binds g.K fd ps [] ∧
    ∀ (H : Hp) (a : Addr) (vs : List V) (Q : VK) (E : XK), vs.length = fl.length → H a = some (exo a (g.cl c) none) →
      (∀ d H2, H d = none → d ≠ a → (∀ b, b ≠ a → b ≠ d → H2 b = H b) → H2 a = some (exo a (g.cl c) (some d)) → H2 d = some (exd d (fl.zip vs).reverse) → Q .non H2) → sp (.ref a :: vs) H Q E
theorem XmkL.mono {g : Gc} {G : Ge} {j k c : Nat} {x : Str} {fl : List Str} (F : XmkL g G j x c fl) (h : j ≤ k) : XmkL g G k x c fl := by
  obtain ⟨f, fd, ps, sp, i, h1, h2⟩ := F.ex
  exact ⟨⟨f, fd, ps, sp, i, Nat.le_trans h1 h, h2⟩⟩
theorem XmkL.lo {g : Gc} {P : Program} {w : World} {mg : Str → Option Value} {base : Heap} {b b' : Bool} {k c : Nat} {x : Str} {fl : List Str} (F : XmkL g ⟨P, w, mg, base, b⟩ k x c fl) : XmkL g ⟨P, w, mg, base, b'⟩ k x c fl := ⟨F.ex⟩
theorem Cn.raiseL {g : Gc} {G : Ge} {k c : Nat} {N : List Str} {sc : Scope} {X : Cx} {Wx : WX} {w0 : Wd} {x : Str} {fl : List Str} {e : Expr} {es : List Expr} {fa : Ev → M (List D)} {p pos pos' : Pos} (cn : Cn g G k N sc X) (F : XmkL g G k x c fl) (hz : fl.length ≤ 1000) (hg : glB sc x = true) (tk : Takes X Wx) (hs : (e :: es).all notStar = true)
    (ha : DA g w0.N Wx X (e :: es) fa) : DS g Wx w0 X (.Raise (some (.Call (.Name x p) (e :: es) [] pos)) none pos') (raiseM c fl fa) := by
  obtain ⟨f, fd, ps, sp, j, hj, FO, T, iC, tI, hm, hb, hsp⟩ := F.ex
  have hK := cn.ok.K
  rw [← cn.hP, ← cn.hw, ← cn.hm, ← cn.hb, ← hK] at FO
  rw [← hK] at T iC tI hb
  rw [← cn.hm] at hm
  simp only [List.all_cons, Bool.and_eq_true] at hs
  refine PS.imp (ps_raise cn.ok.calm tk (pmk_oexL (dvs := []) T iC tI FO (cn.ok.room.mono hj) hb .nil (passes_call tk fun _ _ _ _ z => z.elim) (cn.gl hg).1 hm ha (cn.gl hg).2 (star_cons hs.1) (star_any hs.2))) fun E σ H ⟨w, env, S, ee, st, q⟩ => ?_
  subst ee
  refine tr_intro st.er st.sr (pst_of st q fun w1 ds S1 vs e1 k1 s1 r1 q1 => ?_)
  by_cases hl : ds.length = fl.length
  · rw [if_pos hl] at q1
    have hlv : vs.length = fl.length := r1.length.trans hl
    refine ⟨by omega, fun a na => ?_⟩
    rw [List.append_nil]
    refine hsp _ a vs _ _ hlv upd_same fun d H2 nd nda hoth ha2 hd2 => ⟨rfl, d, _, ha2, hd2, ?_, ?_⟩
    · rw [upd_ne nda] at nd; exact nd
    · rw [upd_ne nda] at nd
      have eq : upd (del H2 a) d (.xd (fl.zip vs).reverse) = upd w1.H d (.xd (fl.zip vs).reverse) := by
        funext b
        by_cases hbd : b = d
        · subst hbd; rw [upd_same, upd_same]
        · rw [upd_ne hbd, upd_ne hbd]
          by_cases hba : b = a
          · subst hba; rw [del_same, na]
          · rw [del_ne hba, hoth b hba hbd, upd_ne hba]
      rw [eq]
      have kn := keep_new (w := w1) (o := .xd (fl.zip vs).reverse) nd
      refine q1 ⟨upd w1.H d (.xd (fl.zip vs).reverse), w1.N, w1.m⟩ σ _ (some d) kn.toMono ((st.kp.trans k1).trans kn) (s1.new nd) ⟨rfl, _, fun y ey => ?_, (fun z => by cases z), repF_rev (repF_zip (r1.mono kn.toMono))⟩
      cases ey
      exact ⟨upd_same, fun z => s1.notnone z nd⟩
  · rw [if_neg hl] at q1; exact q1.elim
section
variable {g : Gc} {G : Ge} {k c : Nat} {f : Addr} {fd : FuncData} {x name qual : Str} {params : Arguments} {sc : Scope} {kws : List (Str × V)} {s y f1 : Str} {p1 p2 p3 pos : Pos} {body : List Stmt}
theorem xmk1L_at (hb : body = [.Assign [.Attribute (.Name s p1) f1 p2] (.Name y p3) pos]) (F : FunD g.K name qual params body sc [] kws f fd) (T : OexL g.K (g.cl c)) (M : Meth g.K (g.cl c) "__init__" f) (hx : G.mg x = some (.ref (g.cl c)))
    (S : scB [s, y] [s, y] sc = true) (v0 : visB [s, y] sc s 0 = true) (v1 : visB [s, y] sc y 1 = true) (n1 : NoAttr g.K (g.cl c) f1) (hbd : Binds g.K fd [s, y] []) : XmkL g G (k + 2) x c [f1] := by
  subst hb
  obtain ⟨⟨oc, od, dV, kV, doc, pm, an, cdv, ct, osl, rfl, lk, hcd, _, _⟩, _⟩ := F
  refine ⟨⟨f, _, _, _, k + 1, Nat.le_refl _, fnE1L lk hcd (scB_ok S) v0 v1 T n1, T, M.at_, eq_of_beq M.fn, hx, hbd, fun H a vs Q E hl ha q => ?_⟩⟩
  match vs, hl with
  | [y], _ => exact ⟨a, y, rfl, ha, fun dx h1 h2 => q dx _ h1 h2 (fun b hb hd => by rw [upd_ne hb, upd_ne hd]) upd_same (by rw [upd_ne h2]; exact upd_same)⟩
end
end Pc

set_option Elab.async false
set_option linter.all false
set_option autoImplicit false
set_option maxRecDepth 100000
set_option maxHeartbeats 4000000
/-! Pc, part Zzh: o[n] by the class's own rule. -/
namespace Pc
open PySem PySem.Spec PyProof.Rows L2
def getB (K : PySem.W.Frag) (C : Addr) : Bool := match PySem.W.findIn K (.ref C) "__getitem__" with
  | some (some (.ref f)) => PySem.W.fnIn K f
  | _ => false
/-- a class's own o[n] -/
structure Gti (g : Gc) (G : Ge) (k : Nat) (c : Nat) (sem : List D → M D) : Prop where
  ex : ∃ j, j + 1 ≤ k ∧ Mtd g G j c "__getitem__" 2 sem
  fn : getB g.K (g.cl c) = true
section
variable {g : Gc} {N0 : List Addr} {Wx : WX} {X : Cx} {w0 : Wd}
theorem Gti.mono {G : Ge} {j k c : Nat} {sem : List D → M D} (F : Gti g G j c sem) (h : j ≤ k) : Gti g G k c sem := by
  obtain ⟨i, h1, h2⟩ := F.ex
  exact ⟨⟨i, Nat.le_trans h1 h, h2⟩, F.fn⟩
theorem Mtd.gti {G : Ge} {k c : Nat} {sem : List D → M D} (F : Mtd g G k c "__getitem__" 2 sem) (h : getB g.K (g.cl c) = true) : Gti g G (k + 1) c sem := ⟨⟨k, Nat.le_refl _, F⟩, h⟩
def getIM (c : Nat) (sem : List D → M D) (x y : D) : M D := do
  isC c x
  callN 2 sem [x, y]
theorem Cn.getI {G : Ge} {k c : Nat} {N : List Str} {sc : Scope} {o : Expr} {n : Str} {p2 pos : Pos} {sem : List D → M D} {fo fi : Ev → M D} (cn : Cn g G k N sc X) (F : Gti g G k c sem) (tk : Takes X Wx) (ho : DE g N0 Wx X o fo) (hi : DE g N0 Wx X (.Name n p2) fi) :
    DE g N0 Wx X (.Subscript o (.Name n p2) pos) (fun env => do let x ← fo env; let y ← fi env; getIM c sem x y) := by
  obtain ⟨j, hj, M⟩ := F.ex
  obtain ⟨f, fd, ps, hn, G', hm, hbd⟩ := M.ex
  have hfn : PySem.W.fnIn g.K f = true := by
    have := F.fn
    unfold getB at this
    rw [hm.at_] at this
    exact this
  have hK := cn.ok.K
  have hmX : Meth X.K (g.cl c) "__getitem__" f := by rw [hK]; exact hm
  rw [← cn.hP, ← cn.hw, ← cn.hm, ← cn.hb] at G'
  refine ⟨fun pins s σ H Q I ⟨w, env, S, ee, er, sr, q⟩ => ?_⟩
  subst ee
  refine Subscript_ (thn (ho.run pins s σ w.H _ I (tr_intro er sr (pst_bind (relA := rl g) (fun _ _ _ _ _ z => z) q))) fun u s1 ⟨x, H1, I1, rx, w1, d, S1, e1, k1, s1', r1, q1⟩ => ?_)
  subst e1
  refine thn (hi.run pins s1 σ w1.H _ I1 (tr_intro (er.keep k1) s1' (pst_bind (relA := rl g) (fun _ _ _ _ _ z => z) q1))) fun v s2 ⟨y, H2, I2, ry, w2, d2, S2, e2, k2, s2', r2, q2⟩ => ?_
  subst e2
  unfold getIM at q2
  have r1' := r1.mono k2.toMono
  rcases isC_cases c d S2 with h | ⟨h, fs, ev⟩
  · rw [bind_bad h] at q2; exact q2.elim
  · rw [bind_ok h] at q2
    obtain ⟨a, dx, vs, rfl, h1, h2⟩ := r1'.viewI s2' ev
    obtain rfl : u = Value.ref a := rx
    obtain ⟨mA, J, _⟩ := ins_get I2.hok h1
    obtain ⟨od, J, _⟩ := J.look
    obtain ⟨m, hF⟩ := I2.fr
    refine PySem.W.sub_K hF I.ok.mod.kin J hmX.at_ (by rw [hK]; exact hfn) hmX.fn ?_
    have q3 : Pst g Wx σ (rl g) w2 (sem [d, d2] S2) Q := q2
    have hsp := sp_of_pst (n := ps.length) (vs := [.ref a, y]) (ds := [d, d2]) hn.symm (.cons r1' (.cons r2 .nil)) s2' q3
    have bt := (show Binds X.K fd ps [] by rw [hK]; exact hbd) s2 [.ref a, v] I2.kIn (by simpa using hn.symm)
    rw [List.append_nil] at bt
    have e0 := I2.env0.in1
    rw [hK] at e0
    refine wpAny_call (codeAny_mono (G'.run X.A.in1 X.stack s2 w2.H ⟨[.ref a, v], []⟩ [.ref a, v] [.ref a, y] Q _ (cn.ok.room.mono hj).in1 (fun z => by cases z) e0 bt (.cons rfl (.cons ry .nil)) hsp) fun rr s' hq => ?_)
    cases rr with
    | error e => exact tk e s' (XE.of_call I2 (fun _ _ _ z => z) hq)
    | ok fl =>
      cases fl with
      | ret u => exact I2.after hq
      | next => exact hq.elim
      | brk => exact hq.elim
      | cont => exact hq.elim
end
end Pc

set_option Elab.async false
set_option linter.all false
set_option autoImplicit false
set_option maxRecDepth 100000
set_option maxHeartbeats 4000000
/-! Pc, part Zzi: str(o) by the class's own rule. -/
namespace Pc
open PySem PySem.Spec PyProof.Rows L2
section
open PySem.W Builtin Builtin.Str
theorem strC {prog : Program} {w : World} {A : Around} {E : Value → Shared → Prop} {s : Shared} {K : Frag} {x C f : Addr} {ox : Obj} {od : Option Obj} {Q : Value → Shared → Prop} (hu : A.in1.in1.units < cLine) (X : K.In s.heap) (I : InstAt s.heap x ox C od) (hs : findIn K (.ref C) "__str__" = some (some (.ref f))) (hf : isFn K (.ref f) = true)
    (h : wpAny (model prog w) A.in1.in1 (call (.ref f) [.ref x]) (fun r s' => ∃ y u, r = .str y u ∧ Q r s') E s) : wpAny (model prog w) A (call (.type "str") [.ref x]) Q E s := by
  refine callType_codes (T := "str") (Bi := Builtin.«object.__init__») (Q₁ := fun r s₁ => ∃ y u, r = .str y u ∧ Q r s₁) PySem.F.called_str (PySem.F.typeCall_str_1 _) PySem.F.entry_object_init ?_ ?_
  · refine codeAny_of_tree ?_
    show wpAny _ A.in1.in1 (do checkBuiltinCall "str.__new__" ⟨[.type "str", .ref x], []⟩; again (.builtin "str.__new__" ⟨[.type "str", .ref x], []⟩)) _ _ s
    refine wpAny_bind (wpAny_of_eq (PySem.F.newCall_str_1 _) (wpAny_pure ⟨plainId_quiet (by decide +kernel) _, codeAny_builtin PySem.F.entry_str_new ?_⟩))
    rw [Around.under_plainId (by decide +kernel) _]
    rw [str_new_tree]
    refine wpAny_bind (wpAny_pure ?_)
    refine wpAny_bind (wpAny_of_eq isSubtype_str_str ?_)
    have key : wpAny (model prog w) A.in1.in1 (PySem.Builtin.Str.strOf (.ref x)) (fun r s₁ => ∃ y u, r = .str y u ∧ Q r s₁) E s := by
      unfold PySem.Builtin.Str.strOf
      rw [show isExactStr (.ref x) = false from rfl]
      refine wpAny_bind (m := cRoomFor _ _) (wpAny_cRoomFor hu ?_)
      refine wpAny_bind (m := callSpecial? (.ref x) (Str.ofString "__str__")) (special_fn X I hs (beq_iff_eq.mp hf) (wpAny_mono h (fun r s' z => ?_) fun _ _ y => y))
      obtain ⟨y, u, rfl, z⟩ := z
      exact wpAny_pure ⟨_, _, rfl, z⟩
    exact wpAny_bind (wpAny_mono key (fun r s₁ hr => wpAny_pure hr) fun _ _ y => y)
  · rintro obj s₁ ⟨y, u, rfl, hq⟩
    exact ⟨typeIs_str _ _ _, PySem.F.args_object_init_2 _ _, object_init_meets PySem.F.called_str.init.lookup PySem.F.called_str.made (by decide) prog w A.in1 _ s₁ ⟨typeIs_str _ _ _, rfl, hq⟩⟩
end
section
variable {X : Cx} {CX : CXT} {k : Nat} {C a dx f : Addr} {fs : List (Str × V)} {fd : FuncData} {ps : List Str} {sp : Sp} {E : XK}
theorem call_strF (hm : Meth X.K C "__str__" f) (F : FnOk X.prog X.w X.K X.mg X.base CX k f fd ps sp) (hr : Room (k + 2) X.A) (hb : Binds X.K fd ps []) (hx : Passes CX X.nox E) :
    CallR X (.type "str") (fun vs H Q => ∃ a dx fs, vs = [.ref a] ∧ H a = some (.ins C dx fs) ∧ sp [.ref a] H (fun v H' => ∃ y : Str, v = .str y ∧ Q v H') E) := by
  intro pins s σ H vs us Q I r ⟨a, dx, fs, e, ea, h⟩
  subst e
  rw [Vals.ref1 r]
  obtain ⟨mA, J, _⟩ := ins_get I.hok ea
  obtain ⟨od, J, _⟩ := J.look
  have hl : ([Value.ref a] ++ []).length = ps.length := (F.len _ _ _ _ h).symm ▸ rfl
  have un := hr.in1.in1.un
  refine strC (by omega) I.kIn J hm.at_ hm.fn (wpAny_call ?_)
  refine codeAny_mono (F.run X.A.in1.in1 X.stack s H ⟨[.ref a], []⟩ [.ref a] [.ref a] _ E hr.in1.in1 I.env0.in1.in1 (hb _ [.ref a] I.kIn hl) (.cons rfl .nil) h) fun r s' hq => ?_
  cases r with
  | error er => exact False.elim (hx pins σ H s er s' (I.wish _) hq)
  | ok fl =>
    cases fl with
    | ret u =>
      obtain ⟨v, H', I3, rv, y, rfl, q3⟩ := I.after hq
      obtain ⟨t, rfl⟩ := rv
      exact ⟨y, t, rfl, .str y, H', I3, ⟨_, rfl⟩, q3⟩
    | next => exact False.elim hq
    | brk => exact False.elim hq
    | cont => exact False.elim hq
end
section
variable {g : Gc} {N0 : List Addr} {Wx : WX} {X : Cx} {w0 : Wd}
def strIM (c : Nat) (sem : List D → M D) (x : D) : M D := do
  isC c x
  let y ← noEx (sem [x])
  match y with
  | .str z => pure (.str z)
  | _ => fail
structure Snr (g : Gc) (G : Ge) (k : Nat) (c : Nat) (sem : List D → M D) : Prop where
  ex : ∃ j, j + 2 ≤ k ∧ Mtd g G j c "__str__" 1 sem
theorem Snr.mono {G : Ge} {j k c : Nat} {sem : List D → M D} (F : Snr g G j c sem) (h : j ≤ k) : Snr g G k c sem := by
  obtain ⟨i, h1, h2⟩ := F.ex
  exact ⟨i, Nat.le_trans h1 h, h2⟩
theorem Mtd.snr {G : Ge} {k c : Nat} {sem : List D → M D} (F : Mtd g G k c "__str__" 1 sem) : Snr g G (k + 2) c sem := ⟨k, Nat.le_refl _, F⟩
theorem Cn.strI {G : Ge} {k c : Nat} {N : List Str} {sc : Scope} {e : Expr} {p pos : Pos} {l : List Str} {sem : List D → M D} {fe : Ev → M D} (cn : Cn g G k N sc X) (B : Bts l G) (F : Snr g G k c sem) (hB : hasB l "str" = true) (hg : glB sc "str" = true) (hs : [e].all notStar = true) (he : DE g N0 Wx X e fe) :
    DE g N0 Wx X (.Call (.Name "str" p) [e] [] pos) (fun env => do let x ← fe env; strIM c sem x) := by
  obtain ⟨j, hj, F⟩ := F.ex
  obtain ⟨f, fd, ps, hn, G', hm, hbd⟩ := F.ex
  have hK := cn.ok.K
  rw [← cn.hP, ← cn.hw, ← cn.hm, ← cn.hb] at G'
  have FO := G'.okF
  rw [← hK] at FO
  have pas : Passes (L2.CX X.prog X.w) X.nox (fun _ _ _ => False) := fun _ _ _ _ _ _ _ h => by
    obtain ⟨_, _, _, _, _, _, _, _, _, _, _, _, z⟩ := h
    exact z.elim
  have hs1 : notStar e = true := by simpa using hs
  refine PE.imp (pe_blt (isT "str") (cn.blt (B "str" hB) hg bb_str (by decide)) (call_strF (by rw [hK]; exact hm) FO (cn.ok.room.mono hj) (by rw [hK]; exact hbd) pas) hs (pa_cons he pa_nil (star_cons hs1))) fun σ H Q ⟨w, env, S, ee, er, sr, q⟩ => ?_
  subst ee
  refine tr_intro er sr (pst_imp (pst_bind (relA := rl g) (fun _ _ _ _ _ z => z) q) fun x H1 ⟨w1, d, S1, e1, k1, s1, r1, q1⟩ => ?_)
  subst e1
  show ∃ a dx fs, [x] = [.ref a] ∧ _
  unfold strIM at q1
  rcases isC_cases c d S1 with h | ⟨h, fs, ev⟩
  · rw [bind_bad h] at q1; exact q1.elim
  · rw [bind_ok h] at q1
    obtain ⟨a, dx, vs, rfl, h1, h2⟩ := r1.viewI s1 ev
    refine ⟨a, dx, vs, rfl, h1, w1, [d], S1, rfl, hn.symm, .cons r1 .nil, s1, ?_⟩
    cases e : sem [d] S1 with
    | ok y S2 =>
      rw [bind_ok (show noEx (sem [d]) S1 = .ok y S2 by unfold noEx; rw [e])] at q1
      intro w' v kp sr' rv
      cases y with
      | str z =>
        cases rv
        exact ⟨z, rfl, q1 w' _ kp sr' (.str z)⟩
      | _ => exact q1.elim
    | ex c' fs' S2 => rw [bind_bad (show noEx (sem [d]) S1 = .bad by unfold noEx; rw [e])] at q1; exact q1.elim
    | bad => rw [bind_bad (show noEx (sem [d]) S1 = .bad by unfold noEx; rw [e])] at q1; exact q1.elim
end
/-! ### f-strings -/
def fmtD : D → Option D
  | .int i => if i.natAbs.log2 < 1920 then some (.str (toString i)) else none
  | .str y => if y.length ≤ sizeLine then some (.str y) else none
  | _ => none
def joinFM : List (Ev → M D) → Str → Ev → M D
  | [], acc, _ => pure (.str acc)
  | f :: r, acc, env => do
    let x ← f env
    match x with
    | .str y => if (acc ++ y).length ≤ sizeLine then joinFM r (acc ++ y) env else fail
    | _ => fail
section
variable {g : Gc} {N0 : List Addr} {Wx : WX} {X : Cx} {w0 : Wd}
theorem de_fmt {e : Expr} {fe : Ev → M D} {pos : Pos} (he : DE g N0 Wx X e fe) : DE g N0 Wx X (.FormattedValue e (-1) none pos) (fun env => do let x ← fe env; ofO (fmtD x)) := by
  refine PE.imp (pe_fmt he) fun σ H Q ⟨w, env, S, ee, er, sr, q⟩ => ?_
  subst ee
  refine tr_intro er sr (pst_imp (pst_bind (relA := rl g) (fun _ _ _ _ _ z => z) q) fun x H1 ⟨w1, d, S1, e1, k1, s1, r1, q1⟩ => ?_)
  subst e1
  cases d with
  | int i =>
    cases r1
    by_cases h : i.natAbs.log2 < 1920
    · have e : fmtD (.int i) = some (.str (toString i)) := if_pos h
      rw [e] at q1
      exact .inr ⟨i, rfl, h, q1 w1 _ (Keep.refl _) s1 (.str _)⟩
    · have e : fmtD (.int i) = none := if_neg h
      rw [e] at q1
      exact q1.elim
  | str y =>
    cases r1
    by_cases h : y.length ≤ sizeLine
    · have e : fmtD (.str y) = some (.str y) := if_pos h
      rw [e] at q1
      exact .inl ⟨y, rfl, h, q1 w1 _ (Keep.refl _) s1 (.str _)⟩
    · have e : fmtD (.str y) = none := if_neg h
      rw [e] at q1
      exact q1.elim
  | _ => exact q1.elim
/-- the parts of an f-string -/
inductive DJ (g : Gc) (N0 : List Addr) (Wx : WX) (X : Cx) : List Expr → List (Ev → M D) → Prop where
  | nil : DJ g N0 Wx X [] []
  | cons {e : Expr} {f : Ev → M D} {es : List Expr} {fs : List (Ev → M D)} (h : DE g N0 Wx X e f) (r : DJ g N0 Wx X es fs) : DJ g N0 Wx X (e :: es) (f :: fs)
theorem de_fstr {v1 v2 : Expr} {rest : List Expr} {fs : List (Ev → M D)} {pos : Pos} (h : DJ g N0 Wx X (v1 :: v2 :: rest) fs) : DE g N0 Wx X (.JoinedStr (v1 :: v2 :: rest) pos) (joinFM fs Str.empty) := by
  have key : ∀ {es : List Expr} {fs : List (Ev → M D)}, DJ g N0 Wx X es fs → ∃ ts, PJ X es ts ∧ ∀ (acc : Str) (σ : L2.St) (w : Wd) (env : Ev) (S : Store) (Q : VK), ER g N0 w env σ → SR g w S → Pst g Wx σ (rl g) w (joinFM fs acc env S) Q → tJs ts acc σ w.H fun out H1 => Q (.str out) H1 := by
    intro es fs h
    induction h with
    | nil => exact ⟨[], .nil, fun acc σ w env S Q er sr q => q w _ (Keep.refl _) sr (.str _)⟩
    | cons h r ih =>
      obtain ⟨ts, p, ih⟩ := ih
      refine ⟨_ :: ts, .cons h p, fun acc σ w env S Q er sr q => ?_⟩
      refine tr_intro er sr (pst_imp (pst_bind (relA := rl g) (fun _ _ _ _ _ z => z) q) fun x H1 ⟨w1, d, S1, e1, k1, s1, r1, q1⟩ => ?_)
      subst e1
      cases d with
      | str y =>
        cases r1
        dsimp only at q1
        by_cases hz : (acc ++ y).length ≤ sizeLine
        · rw [if_pos hz] at q1
          exact ⟨y, rfl, hz, ih _ σ w1 env S1 Q (er.keep k1) s1 q1⟩
        · rw [if_neg hz] at q1; exact q1.elim
      | _ => exact q1.elim
  obtain ⟨ts, p, k⟩ := key h
  refine PE.imp (pe_joined p) fun σ H Q ⟨w, env, S, ee, er, sr, q⟩ => ?_
  subst ee
  exact k _ σ w env S Q er sr q
end
end Pc

set_option Elab.async false
set_option linter.all false
set_option autoImplicit false
set_option maxRecDepth 100000
set_option maxHeartbeats 4000000
/-! Pc, part Zzj: o == y, y any value. -/
namespace Pc
open PySem PySem.Spec PyProof.Rows L2
/-- of the class, or plain -/
def isCP (c : Nat) (y : D) : M Unit := fun S => match viewI S y with
  | some (c', _) => if c' = c then .ok () S else .bad
  | none => (match tyN (deref S y) with
    | some _ => .ok () S
    | none => .bad)
def ownCP (c : Nat) (sem : List D → M D) (x y : D) : M D := do
  isC c x
  isCP c y
  let r ← noEx (sem [x, y])
  match r with
  | .bl b => pure (.bl b)
  | _ => fail
section
variable {g : Gc} {Wx : WX} {w0 : Wd} {X : Cx} {N0 : List Addr}
def rOwnP (K : PySem.W.Frag) (C : Addr) (sp : Sp) : R2 := fun x y H Q => ∃ a dx fs, x = .ref a ∧ H a = some (.ins C dx fs) ∧ ((∃ b dy gs, y = .ref b ∧ H b = some (.ins C dy gs)) ∨ ∃ t, TyX K H y (.type t) ∧ PySem.W.subIn K (.type t) (.ref C) = some false) ∧
  sp [.ref a, y] H (fun v H' => (∃ z, v = .bl z) ∧ Q v H') (fun _ _ _ => False)
theorem op_ownP {op : CmpOp} {k : Nat} {C f : Addr} {fd : FuncData} {ps : List Str} {sp : Sp} (hop : compareOp op = richCompare op) (hm : Meth X.K C (cmpInfo op).2.1 f) (F : FnOk X.prog X.w X.K X.mg X.base (L2.CX X.prog X.w) k f fd ps sp) (hr : Room k X.A) (hb : Binds X.K fd ps []) : OpR X (compareOp op) (rOwnP X.K C sp) := by
  intro pins s σ H x y u v Q I rx ry hq
  obtain ⟨a, dx, fs, rfl, ha, hy, hsp⟩ := hq
  cases rx
  rw [hop]
  obtain ⟨mA, J, _⟩ := ins_get I.hok ha
  obtain ⟨od, J, _⟩ := J.look
  obtain ⟨m, hF⟩ := I.fr
  have un := hr.un
  have ht : ∃ tb, PySem.W.Looks (model X.prog X.w) s.heap (typeOf v) tb ∧ PySem.W.notFirst X.K C tb = true := by
    rcases hy with ⟨b, dy, gs, rfl, hb'⟩ | ⟨t, ty, hs⟩
    · cases ry
      obtain ⟨mB, J', _⟩ := ins_get I.hok hb'
      obtain ⟨od', J', _⟩ := J'.look
      exact ⟨.ref C, J'.type, by simp [PySem.W.notFirst]⟩
    · obtain ⟨P, kx, hP, _⟩ := kit_of I ry ty
      exact ⟨.type t, kx.ty _ _ I.kIn hP, by simp [PySem.W.notFirst, hs]⟩
  obtain ⟨tb, h1, h2⟩ := ht
  refine PySem.W.cmp_K (op := op) (tb := tb) (by omega) hF I.ok.mod.kin J h1 h2 hm.at_ hm.fn ?_
  have hl := F.len _ _ _ _ hsp
  have r2 : Vals [V.ref a, y] [Value.ref a, v] := .cons rfl (.cons ry .nil)
  refine wpAny_call (codeAny_mono (F.run X.A X.stack s H ⟨[.ref a, v], []⟩ [.ref a, v] [.ref a, y] _ (fun _ _ _ => False) hr I.env0 (by
    have := hb s [.ref a, v] I.kIn (by simpa using hl)
    simpa using this) r2 hsp) fun r s' hq => ?_)
  cases r with
  | error e =>
    obtain ⟨_, _, _, _, _, _, _, _, _, _, _, _, z⟩ := hq
    exact z.elim
  | ok fl =>
    cases fl with
    | ret w =>
      obtain ⟨z, H', I', rz, ⟨b, ez⟩, q⟩ := I.after hq
      subst ez
      cases rz
      exact ⟨.bl b, H', I', rfl, q⟩
    | next => exact False.elim hq
    | brk => exact False.elim hq
    | cont => exact False.elim hq
theorem sub_of_kit {K : PySem.W.Frag} {t : String} {C : Addr} (h : PySem.W.kitOne K (.type t) (.ref C) = some false) : PySem.W.subIn K (.type t) (.ref C) = some false := by
  unfold PySem.W.kitOne at h
  rw [if_neg (by intro z; cases eq_of_beq z)] at h
  unfold PySem.W.kitCls at h
  dsimp only at h
  split at h
  · exact h
  · cases h
theorem own_pstP {G : Ge} {x0 : Str} {σ : L2.St} {w : Wd} {S : Store} {c n : Nat} {sem : List D → M D} {x y : V} {a b : D} {Q : VK} (F : Isc g G x0 c) (sr : SR g w S) (ra : Rep g w x a) (rb : Rep g w y b) (q : Pst g Wx σ (rl g) w (ownCP c sem a b S) Q) (hn : n = 2) : rOwnP g.K (g.cl c) (spOf g n sem) x y w.H Q := by
  unfold ownCP at q
  rcases isC_cases c a S with h | ⟨h, fs, ea⟩
  · rw [bind_bad h] at q; exact q.elim
  rw [bind_ok h] at q
  obtain ⟨a1, dx, vs, rfl, h1, h2⟩ := ra.viewI sr ea
  have ok := F.ok
  unfold iscB at ok
  obtain ⟨o1, ok⟩ := He.ba ok
  obtain ⟨o2, ok⟩ := He.ba ok
  obtain ⟨o3, ok⟩ := He.ba ok
  obtain ⟨o4, o5⟩ := He.ba ok
  have hy : isCP c b S = .bad ∨ (isCP c b S = .ok () S ∧ ((∃ b dy gs, y = .ref b ∧ w.H b = some (.ins (g.cl c) dy gs)) ∨ ∃ t, TyX g.K w.H y (.type t) ∧ PySem.W.subIn g.K (.type t) (.ref (g.cl c)) = some false)) := by
    unfold isCP
    cases ev : viewI S b with
    | some pr =>
      obtain ⟨c', gs⟩ := pr
      dsimp only
      by_cases hc : c' = c
      · subst hc
        rw [if_pos rfl]
        obtain ⟨a2, dy, us, rfl, h3, h4⟩ := rb.viewI sr ev
        exact .inr ⟨rfl, .inl ⟨a2, dy, us, rfl, h3⟩⟩
      · rw [if_neg hc]; exact .inl rfl
    | none =>
      dsimp only
      cases et : tyN (deref S b) with
      | none => exact .inl rfl
      | some t =>
        have rB : RepB g w y b := .inl rb
        refine .inr ⟨rfl, .inr ⟨t, (rB.view sr).ty et, sub_of_kit (of_decide_eq_true (List.all_eq_true.mp o5 t (tyN_in et)))⟩⟩
  rcases hy with h | ⟨h, hy⟩
  · rw [bind_bad h] at q; exact q.elim
  rw [bind_ok h] at q
  refine ⟨a1, dx, vs, rfl, h1, hy, w, [a, b], S, rfl, hn.symm, .cons ra (.cons rb .nil), sr, ?_⟩
  cases e : sem [a, b] S with
  | ok y S2 =>
    rw [bind_ok (show noEx (sem [a, b]) S = .ok y S2 by unfold noEx; rw [e])] at q
    intro w' v kp sr' rv
    cases y with
    | bl z =>
      cases rv
      exact ⟨⟨z, rfl⟩, q w' _ kp sr' (.bl z)⟩
    | _ => exact q.elim
  | ex c' fs' S2 => rw [bind_bad (show noEx (sem [a, b]) S = .bad by unfold noEx; rw [e])] at q; exact q.elim
  | bad => rw [bind_bad (show noEx (sem [a, b]) S = .bad by unfold noEx; rw [e])] at q; exact q.elim
section
variable {G : Ge} {k c : Nat} {N : List Str} {sc : Scope} {op : CmpOp} {m x0 : Str} {a b : Expr} {fa fb : Ev → M D} {sem : List D → M D} {pos : Pos}
theorem Cn.opOwnP (cn : Cn g G k N sc X) (F : Mtd g G k c m 2 sem) (hop : compareOp op = richCompare op) (hm : (cmpInfo op).2.1 = m) : OpR X (compareOp op) (rOwnP g.K (g.cl c) (spOf g 2 sem)) := by
  obtain ⟨f, fd, ps, hn, G', hmt, hbd⟩ := F.ex
  have hK := cn.ok.K
  rw [← cn.hP, ← cn.hw, ← cn.hm, ← cn.hb] at G'
  have FO := G'.okF
  rw [hn] at FO
  rw [← hK]
  refine op_ownP hop (by rw [hK, hm]; exact hmt) (by rw [hK]; exact FO) cn.ok.room (by rw [hK]; exact hbd)
theorem Cn.cmpP (cn : Cn g G k N sc X) (I : Isc g G x0 c) (F : Mtd g G k c m 2 sem) (hop : compareOp op = richCompare op) (hm : (cmpInfo op).2.1 = m) (ha : DE g N0 Wx X a fa) (hb : DE g N0 Wx X b fb) (hmk : behindInMarks op b = false) :
    DE g N0 Wx X (.Compare a [op] [b] pos) (fun env => do let x ← fa env; let y ← fb env; ownCP c sem x y) := by
  refine PE.imp (pe_cmpR (cn.opOwnP F hop hm) ha hb hmk) fun σ H Q ⟨w, env, S, ee, er, sr, q⟩ => ?_
  subst ee
  refine tr_intro er sr (pst_imp (pst_bind (relA := rl g) (fun _ _ _ _ _ z => z) q) fun x H1 ⟨w1, da, S1, e1, k1, s1, r1, q1⟩ => ?_)
  subst e1
  refine tr_intro (er.keep k1) s1 (pst_imp (pst_bind (relA := rl g) (fun _ _ _ _ _ z => z) q1) fun y H2 ⟨w2, db, S2, e2, k2, s2, r2, q2⟩ => ?_)
  subst e2
  exact own_pstP I s2 (r1.mono k2.toMono) r2 q2 rfl
theorem Cn.tcmpP (cn : Cn g G k N sc X) (I : Isc g G x0 c) (F : Mtd g G k c m 2 sem) (hop : compareOp op = richCompare op) (hm : (cmpInfo op).2.1 = m) (ha : DE g N0 Wx X a fa) (hb : DE g N0 Wx X b fb) (hmk : behindInMarks op b = false) :
    DT g N0 Wx X (.Compare a [op] [b] pos) (fun env => do let x ← fa env; let y ← fb env; let z ← ownCP c sem x y; asB z) := by
  refine PT.imp (pt_cmpR (cn.opOwnP F hop hm) ha hb hmk) fun σ H Q ⟨w, env, S, ee, er, sr, q⟩ => ?_
  subst ee
  refine tr_intro er sr (pst_imp (pst_bind (relA := rl g) (fun _ _ _ _ _ z => z) q) fun x H1 ⟨w1, da, S1, e1, k1, s1, r1, q1⟩ => ?_)
  subst e1
  refine tr_intro (er.keep k1) s1 (pst_imp (pst_bind (relA := rl g) (fun _ _ _ _ _ z => z) q1) fun y H2 ⟨w2, db, S2, e2, k2, s2, r2, q2⟩ => ?_)
  subst e2
  refine own_pstP (Wx := Wx) (σ := σ) I s2 (r1.mono k2.toMono) r2 (pst_imp (pst_bind (x := ownCP c sem da db) (relA := rl g) (fun _ _ _ _ _ z => z) q2) fun z H3 ⟨w3, dc, S3, e3, k3, s3, r3, q3⟩ => ?_) rfl
  subst e3
  cases dc with
  | bl z => cases r3; exact ⟨z, rfl, q3 w3 _ (Keep.refl _) s3 rfl⟩
  | _ => exact q3.elim
end
end
section
variable {S : Store} {E : XQ} {Q : D → Store → Prop}
theorem w_ownP {c : Nat} {sem : List D → M D} {x y : D} {fs : List (Str × D)} (hx : viewI S x = some (c, fs)) (hy : y.pl) (h : Wp (noEx (sem [x, y])) S E fun r S3 => ∃ b, r = .bl b ∧ Q (.bl b) S3) : Wp (ownCP c sem x y) S E Q := by
  unfold ownCP
  refine wp_bind.mpr (wp_of (a := ()) (S' := S) ?_ ?_)
  · unfold isC
    rw [hx]
    dsimp only
    rw [if_pos rfl]
  · refine wp_bind.mpr (wp_of (a := ()) (S' := S) ?_ ?_)
    · unfold isCP
      have e : viewI S y = none := by cases y <;> first | rfl | cases hy
      rw [e]
      dsimp only
      rw [pl_deref hy]
      cases et : tyN y with
      | none => rw [D.pl, et] at hy; cases hy
      | some t => rfl
    · refine wp_bind.mpr (wp_mono h fun r S3 hh => ?_)
      obtain ⟨b, rfl, q⟩ := hh
      exact q
end
end Pc

set_option Elab.async false
set_option linter.all false
set_option autoImplicit false
set_option maxRecDepth 100000
set_option maxHeartbeats 4000000
/-! Pc, part Zzk: x.extend([..]), x an own list. -/
namespace Pc
open PySem PySem.Spec PyProof.Rows L2
def extS (i : Nat) (f : Ev → M (List D)) : Ev → M Out := fun env => match env[i]? with
  | some (.own xs) => do
    let ys ← f env
    if xs.length + ys.length ≤ sizeLine then pure (.nx (env.set i (.own (xs ++ ys)))) else fail
  | _ => fail
theorem mt_extendL {X : Cx} : Mth X "extend" "list.extend" rExtend := ⟨PySem.F.slot_list_extend, by kernel_rfl, mt_extend⟩
section
variable {g : Gc} {Wx : WX} {w0 : Wd} {X : Cx}
theorem ds_ext {i : Nat} {x : Str} {e : Expr} {f : Ev → M (List D)} {p apos cpos pos : Pos} (hv : PE X (.Name x p) (tVar i)) (hl : (apos.endLine == cpos.line) = true) (hs : notStar e = true) (he : DL g w0.N Wx X e f) :
    DS g Wx w0 X (.Expr (.Call (.Attribute (.Name x p) "extend" apos) [e] [] cpos) pos) (extS i f) := by
  have hsA : [e].all notStar = true := by simp [hs]
  have Mt : Mth X "extend" "list.extend" rExtend := mt_extendL
  refine PS.imp (ps_expr (pe_bm PySem.F.plainAttrs_list Mt.slot Mt.ty Mt.mt hv (pa_cons he pa_nil (star_cons hs)) (base_ok rfl) (few_ok hsA (by simp)) hl (star_cons hs) (star_any rfl)) (swaps_no rfl)) fun E σ H ⟨w, env, S, ee, st, q⟩ => ?_
  subst ee
  cases ho : env[i]? with
  | none => simp only [extS, ho] at q; exact q.elim
  | some sl =>
    cases sl with
    | own xs =>
      have q0 : PstS g Wx w0 w ((f env >>= fun ys => if xs.length + ys.length ≤ sizeLine then pure (.nx (env.set i (.own (xs ++ ys)))) else fail) S) E := by
        simp only [extS, ho] at q
        exact q
      obtain ⟨a, vs, h1, h2, h3, h4, h5, h6⟩ := st.er.own i xs ho
      refine ⟨_, h1, .inl ⟨rfl, vs, .inl (.inl h2)⟩, tr_intro st.er st.sr (pst_of st q0 fun w1 ys S1 u e k1 s1 r1 q1 => ?_)⟩
      have st1 := st.step k1 s1
      obtain ⟨a', vs1, g1, g2, g3, g4, g5, g6⟩ := st1.er.own i xs ho
      rw [h1] at g1
      cases g1
      obtain ⟨b, zs, rfl, n2, n3, n4, n5, n6⟩ := r1
      by_cases hz : xs.length + ys.length ≤ sizeLine
      · rw [if_pos hz] at q1
        obtain ⟨mo, st2⟩ := st1.chg ho h1 g2 g3 g4 g5 (g6.append n6)
        exact ⟨a, b, vs1, zs, rfl, rfl, g2, n2, by rw [g6.length, n6.length]; exact hz, q1 ⟨upd w1.H a (.lst (vs1 ++ zs)), w1.N, w1.m⟩ σ mo st2⟩
      · rw [if_neg hz] at q1; exact q1.elim
    | _ => simp only [extS, ho] at q; exact q.elim
end
theorem w_ext {S : Store} {E : XQ} {i : Nat} {f : Ev → M (List D)} {env : Ev} {xs : List D} {Q : Out → Store → Prop} (hi : env[i]? = some (.own xs)) (h : Wp (f env) S E fun ys S' => xs.length + ys.length ≤ sizeLine ∧ Q (.nx (env.set i (.own (xs ++ ys)))) S') : Wp (extS i f env) S E Q := by
  unfold extS
  simp only [hi]
  refine wp_bind.mpr (wp_mono h fun ys S' hh => ?_)
  rw [if_pos hh.1]
  exact hh.2
end Pc

set_option Elab.async false
set_option linter.all false
set_option autoImplicit false
set_option maxRecDepth 100000
set_option maxHeartbeats 4000000
/-! Pc, part Zzl: l.index(x), l a list of data. -/
namespace Pc
open PySem PySem.Spec PyProof.Rows L2
def idxD : D → D → Option D
  | .lst xs, a => if okd 60 a && okdL 60 xs then (xs.findIdx? fun z => eqd z a).map fun (j : Nat) => .int (j : Int) else none
  | _, _ => none
def isLs (x : D) : M Unit := fun S => match deref S x with
  | .lst _ => .ok () S
  | _ => .bad
theorem isLs_cases (x : D) (S : Store) : isLs x S = .bad ∨ (isLs x S = .ok () S ∧ ∃ xs, deref S x = .lst xs) := by
  unfold isLs
  cases deref S x with
  | lst xs => exact .inr ⟨rfl, xs, rfl⟩
  | _ => exact .inl rfl
theorem toPL_get : ∀ (xs : List D) (j : Nat) (z : PyData), (toPL xs)[j]? = some z → ∃ x, xs[j]? = some x ∧ z = x.toP
  | [], j, z, h => by simp [toPL] at h
  | x :: xs, 0, z, h => by
    simp only [toPL, List.getElem?_cons_zero, Option.some.injEq] at h
    exact ⟨x, rfl, h.symm⟩
  | x :: xs, j + 1, z, h => by
    simp only [toPL, List.getElem?_cons_succ] at h
    obtain ⟨y, h1, h2⟩ := toPL_get xs j z h
    exact ⟨y, by simpa using h1, h2⟩
theorem toPL_at : ∀ (xs : List D) (j : Nat) (x : D), xs[j]? = some x → (toPL xs)[j]? = some x.toP
  | [], j, z, h => by simp at h
  | x :: xs, 0, z, h => by
    simp only [List.getElem?_cons_zero, Option.some.injEq] at h
    subst h
    rfl
  | x :: xs, j + 1, z, h => by
    simp only [List.getElem?_cons_succ] at h
    simp only [toPL, List.getElem?_cons_succ]
    exact toPL_at xs j z h
section
variable {g : Gc} {Wx : WX} {w0 : Wd} {X : Cx} {N0 : List Addr}
theorem Cn.index {G : Ge} {k : Nat} {N : List Str} {sc : Scope} {o e : Expr} {fo fe : Ev → M D} {apos cpos : Pos} (cn : Cn g G k N sc X) (hb : baseOk o = true) (hl : (apos.endLine == cpos.line) = true) (hs : notStar e = true) (ho : DW g N0 Wx X o fo) (he : DE g N0 Wx X e fe) :
    DE g N0 Wx X (.Call (.Attribute o "index" apos) [e] [] cpos) (fun env => do let x ← fo env; let _ ← isLs x; let y ← fe env; op2 idxD x y) := by
  have hK := cn.ok.K
  have hsA : [e].all notStar = true := by simp [hs]
  have Mt : Mth X "index" "list.index" (rIndexD X.K) := ⟨PySem.F.slot_list_index, by kernel_rfl, mt_indexD cn.u65⟩
  refine PE.imp (pe_bm PySem.F.plainAttrs_list Mt.slot Mt.ty Mt.mt ho (pa_cons he pa_nil (star_cons hs)) (base_ok hb) (few_ok hsA (by simp)) hl (star_cons hs) (star_any rfl)) fun σ H Q ⟨w, env, S, ee, er, sr, q⟩ => ?_
  subst ee
  refine tr_intro er sr (pst_imp (pst_bind (relA := rlW g) (fun _ _ _ _ _ z => z) q) fun x H1 ⟨w1, da, S1, e1, k1, s1, r1, q1⟩ => ?_)
  subst e1
  rcases isLs_cases da S1 with h | ⟨h, xs, ev⟩
  · rw [bind_bad h] at q1; exact q1.elim
  · rw [bind_ok h] at q1
    have rv := r1.view s1
    rw [ev] at rv
    obtain ⟨p, vs, rfl, h1, h2⟩ := rv.lst
    refine ⟨.inl ⟨rfl, vs, by rw [hK]; exact h1⟩, tr_intro (er.keep k1) s1 (pst_imp (pst_bind (relA := rl g) (fun _ _ _ _ _ z => z) q1) fun y H2 ⟨w2, db, S2, e2, k2, s2, r2, q2⟩ => ?_)⟩
    subst e2
    unfold op2 at q2
    cases ei : idxD (deref S2 da) (deref S2 db) with
    | none => rw [ei] at q2; exact q2.elim
    | some dd =>
      rw [ei] at q2
      have rv2 := (r1.keep k2).view s2
      have rb : RepB g w2 y db := .inl r2
      have ry := rb.view s2
      cases ez : deref S2 da with
      | lst zs =>
        rw [ez] at ei
        have ei' : (if okd 60 (deref S2 db) && okdL 60 zs then (zs.findIdx? fun z => eqd z (deref S2 db)).map fun (j : Nat) => D.int (j : Int) else none) = some dd := ei
        split at ei'
        · rename_i hok
          rw [Bool.and_eq_true] at hok
          obtain ⟨j, hj, ed⟩ := Option.map_eq_some_iff.mp ei'
          subst ed
          rw [ez] at rv2
          obtain ⟨p2, vs2, ep, h3, h4⟩ := rv2.lst
          cases ep
          rw [List.findIdx?_eq_some_iff_getElem] at hj
          obtain ⟨hjl, hj1, hj2⟩ := hj
          refine ⟨p, y, (deref S2 db).toP, toPL zs, j, zs[j].toP, rfl, rfl, by rw [hK]; exact .lst h3 (h4.dp hok.2), by rw [hK]; exact ry.dp hok.1, shaped_L hok.2 (by decide), okd_shaped hok.1 (by decide), toPL_at _ _ _ (List.getElem?_eq_getElem hjl), ?_, fun m z hm hz => ?_, q2 w2 _ (Keep.refl _) s2 (.int _)⟩
          · rw [eqd_ok 60 60 _ _ (okdL_mem hok.2 (List.getElem_mem hjl)) hok.1]
            exact hj1
          · obtain ⟨x, hx, rfl⟩ := toPL_get _ _ _ hz
            obtain ⟨hml, e⟩ := List.getElem?_eq_some_iff.mp hx
            rw [eqd_ok 60 60 _ _ (okdL_mem hok.2 (List.mem_of_getElem? hx)) hok.1, ← e]
            have := hj2 m hm
            simpa using this
        · cases ei'
      | _ => rw [ez] at ei; cases ei
end
end Pc

set_option Elab.async false
set_option linter.all false
set_option autoImplicit false
set_option maxRecDepth 100000
set_option maxHeartbeats 4000000
/-! Pc, part Zzm: texts: split, join, int. -/
namespace Pc
open PySem PySem.Spec PyProof.Rows L2
def isSt (x : D) : M Unit := match x with
  | .str _ => pure ()
  | _ => fail
def strsOf : List D → Option (List Str)
  | [] => some []
  | .str y :: r => (strsOf r).map (y :: ·)
  | _ :: _ => none
theorem strsOf_eq : ∀ {ds : List D} {ys : List Str}, strsOf ds = some ys → ds = ys.map D.str
  | [], _, h => by cases h; rfl
  | .str y :: r, ys, h => by
    simp only [strsOf] at h
    obtain ⟨zs, h1, rfl⟩ := Option.map_eq_some_iff.mp h
    rw [strsOf_eq h1]
    rfl
  | .non :: _, _, h => by cases h
  | .bl _ :: _, _, h => by cases h
  | .int _ :: _, _, h => by cases h
  | .tup _ :: _, _, h => by cases h
  | .lst _ :: _, _, h => by cases h
  | .dct _ :: _, _, h => by cases h
  | .ins _ _ :: _, _, h => by cases h
  | .obj _ :: _, _, h => by cases h
  | .ext _ :: _, _, h => by cases h
  | .exn _ _ _ _ :: _, _, h => by cases h
theorem strsOf_map : ∀ ys : List Str, strsOf (ys.map D.str) = some ys
  | [] => rfl
  | y :: r => by simp only [List.map_cons, strsOf, strsOf_map r]; rfl
def splitD (x y : D) : Option (List D) := match x, y with
  | .str a, .str b => if (b.length == 0) = false ∧ a.length + 2 ≤ sizeLine then some ((Txt.split a b).map D.str) else none
  | _, _ => none
def joinD (x y : D) : Option D := match x, y with
  | .str a, .lst ds => (strsOf ds).bind fun ys => if (ys.map (·.length)).sum + ys.length * a.length ≤ 16777216 then some (.str (Txt.join a ys)) else none
  | .str a, .tup ds => (strsOf ds).bind fun ys => if (ys.map (·.length)).sum + ys.length * a.length ≤ 16777216 then some (.str (Txt.join a ys)) else none
  | _, _ => none
def intT : List D → Option D
  | [.str a] => if a.length ≤ 640 then (PySem.intText? a).map D.int else none
  | _ => none
section
variable {g : Gc} {Wx : WX} {w0 : Wd} {X : Cx} {N0 : List Addr}
theorem repL_strs {w : Wd} : ∀ ys : List Str, RepL g w (ys.map V.str) (ys.map D.str)
  | [] => .nil
  | y :: r => .cons (.str y) (repL_strs r)
theorem repL_strs_eq {w : Wd} : ∀ {ys : List Str} {vs : List V}, RepL g w vs (ys.map D.str) → vs = ys.map V.str
  | [], _, .nil => rfl
  | y :: r, _, .cons h t => by
    cases h
    rw [repL_strs_eq t]
    rfl
theorem dl_split {o e : Expr} {fo fe : Ev → M D} {apos cpos : Pos} (hb : baseOk o = true) (hl : (apos.endLine == cpos.line) = true) (hs : notStar e = true) (ho : DE g N0 Wx X o fo) (he : DE g N0 Wx X e fe) :
    DL g N0 Wx X (.Call (.Attribute o "split" apos) [e] [] cpos) (fun env => do let x ← fo env; let _ ← isSt x; let y ← fe env; ofO (splitD x y)) := by
  have hsA : [e].all notStar = true := by simp [hs]
  refine PE.imp (pe_bm PySem.F.plainAttrs_str PySem.F.slot_str_split (by kernel_rfl) mt_split ho (pa_cons he pa_nil (star_cons hs)) (base_ok hb) (few_ok hsA (by simp)) hl (star_cons hs) (star_any rfl)) fun σ H Q ⟨w, env, S, ee, er, sr, q⟩ => ?_
  subst ee
  refine tr_intro er sr (pst_imp (pst_bind (relA := rl g) (fun _ _ _ _ k z => z.base k) q) fun v H1 ⟨w1, d, S1, e1, k1, s1, r1, q1⟩ => ?_)
  subst e1
  cases d with
  | str a =>
    cases r1
    have q1' : Pst g Wx σ (NewL g) w1 ((fe env >>= fun y => ofO (splitD (.str a) y)) S1) Q := q1
    refine ⟨rfl, tr_intro (er.keep k1) s1 (pst_imp (pst_bind (relA := rl g) (fun _ _ _ _ k z => z.base k) q1') fun y H2 ⟨w2, d2, S2, e2, k2, s2, r2, q2⟩ => ?_)⟩
    subst e2
    cases d2 with
    | str b =>
      cases r2
      by_cases h : (b.length == 0) = false ∧ a.length + 2 ≤ sizeLine
      · have e : splitD (.str a) (.str b) = some ((Txt.split a b).map D.str) := if_pos h
        rw [e] at q2
        exact ⟨a, b, rfl, rfl, h.1, h.2, fun p hp => q2 ⟨upd w2.H p _, p :: w2.N, w2.m⟩ _ (keep_newN hp) (s2.newN hp) (new_l s2 hp (repL_strs _))⟩
      · have e : splitD (.str a) (.str b) = none := if_neg h
        rw [e] at q2
        exact q2.elim
    | _ => exact q2.elim
  | _ => exact q1.elim
theorem de_join {o e : Expr} {fo fe : Ev → M D} {apos cpos : Pos} (hK : X.K = g.K) (hb : baseOk o = true) (hl : (apos.endLine == cpos.line) = true) (hs : notStar e = true) (ho : DE g N0 Wx X o fo) (he : DW g N0 Wx X e fe) :
    DE g N0 Wx X (.Call (.Attribute o "join" apos) [e] [] cpos) (fun env => do let x ← fo env; let _ ← isSt x; let y ← fe env; op2 joinD x y) := by
  have hsA : [e].all notStar = true := by simp [hs]
  refine PE.imp (pe_bm PySem.F.plainAttrs_str PySem.F.slot_str_join (by kernel_rfl) mt_join ho (pa_cons he pa_nil (star_cons hs)) (base_ok hb) (few_ok hsA (by simp)) hl (star_cons hs) (star_any rfl)) fun σ H Q ⟨w, env, S, ee, er, sr, q⟩ => ?_
  subst ee
  refine tr_intro er sr (pst_imp (pst_bind (relA := rl g) (fun _ _ _ _ _ z => z) q) fun v H1 ⟨w1, d, S1, e1, k1, s1, r1, q1⟩ => ?_)
  subst e1
  cases d with
  | str a =>
    cases r1
    have q1' : Pst g Wx σ (rl g) w1 ((fe env >>= fun y => op2 joinD (.str a) y) S1) Q := q1
    refine ⟨rfl, tr_intro (er.keep k1) s1 (pst_imp (pst_bind (relA := rlW g) (fun _ _ _ _ _ z => z) q1') fun y H2 ⟨w2, d2, S2, e2, k2, s2, r2, q2⟩ => ?_)⟩
    subst e2
    unfold op2 at q2
    have rv := r2.view s2
    have fin : ∀ (p : Addr) (ds : List D) (vs : List V) (dd : D), RepL g w2 vs ds → (SqL X.K w2.H p vs ∨ SqT X.K w2.H p vs) → ((strsOf ds).bind fun ys => if (ys.map (·.length)).sum + ys.length * a.length ≤ 16777216 then some (D.str (Txt.join a ys)) else none) = some dd → Pst g Wx σ (rl g) w2 (ofO (some dd) S2) Q →
        ∃ a_1 p_1, ∃ ys : List Str, V.str a = .str a_1 ∧ [V.ref p] = [.ref p_1] ∧ (SqL X.K w2.H p_1 (ys.map V.str) ∨ SqT X.K w2.H p_1 (ys.map V.str)) ∧ (ys.map (·.length)).sum + ys.length * a_1.length ≤ 16777216 ∧ Q (.str (Txt.join a_1 ys)) w2.H := by
      intro p ds vs dd rr sq e qq
      obtain ⟨ys, h1, h2⟩ := Option.bind_eq_some_iff.mp e
      have ed := strsOf_eq h1
      subst ed
      have ev := repL_strs_eq rr
      subst ev
      split at h2
      · rename_i hz
        cases h2
        exact ⟨a, p, ys, rfl, rfl, sq, hz, qq w2 _ (Keep.refl _) s2 (.str _)⟩
      · cases h2
    cases ez : deref S2 d2 with
    | lst ds =>
      rw [ez] at q2 rv
      obtain ⟨p, vs, rfl, h1, h2⟩ := rv.lst
      cases ej : joinD (deref S2 (.str a)) (.lst ds) with
      | none => rw [ej] at q2; exact q2.elim
      | some dd => rw [ej] at q2; exact fin p ds vs dd h2 (.inl (by rw [hK]; exact h1)) ej q2
    | tup ds =>
      rw [ez] at q2 rv
      obtain ⟨p, vs, rfl, h1, h2⟩ := rv.tup
      cases ej : joinD (deref S2 (.str a)) (.tup ds) with
      | none => rw [ej] at q2; exact q2.elim
      | some dd => rw [ej] at q2; exact fin p ds vs dd h2 (.inr (by rw [hK]; exact h1)) ej q2
    | _ => rw [ez] at q2; exact q2.elim
  | _ => exact q1.elim
theorem cs_intT : CallS g X (.type "int") intT := by
  refine ⟨_, call_int_str, fun w S vs ds d Q e sr ra q => ?_⟩
  unfold intT at e
  split at e
  · split at e
    · rename_i a h
      obtain ⟨n, h1, rfl⟩ := Option.map_eq_some_iff.mp e
      obtain ⟨v, rfl, r⟩ := ra.one
      exact ⟨a, n, by rw [r.str], h1, h, q w _ (Keep.refl w) sr (.int _)⟩
    · cases e
  · cases e
end
end Pc

set_option Elab.async false
set_option linter.all false
set_option autoImplicit false
set_option maxRecDepth 100000
set_option maxHeartbeats 4000000
/-! Pc, part Zzn: a sign in a text. -/
namespace Pc
open PySem PySem.Spec PyProof.Rows L2
def inSD : D → D → Option D
  | .str x, .str z => (match x.cps.toList with
    | [c] => some (.bl (decide (c ∈ z.cps.toList)))
    | _ => none)
  | _, _ => none
def ninSD : D → D → Option D
  | .str x, .str z => (match x.cps.toList with
    | [c] => some (.bl (!decide (c ∈ z.cps.toList)))
    | _ => none)
  | _, _ => none
theorem one_cp {x : Str} {c : Nat} (h : x.cps.toList = [c]) : x = ⟨#[c]⟩ := by
  obtain ⟨a⟩ := x
  congr 1
  exact Array.toList_inj.mp h
section
variable {g : Gc} {X : Cx}
theorem ops_inS : OpS g X (compareOp .In) inSD := by
  refine ⟨_, op_inS, fun w S x y a b d Q e sr ra rb q => ?_⟩
  unfold inSD at e
  split at e
  · rename_i x1 z1
    split at e
    · rename_i c hc
      cases e
      have e1 := ra.str
      have e2 := rb.str
      subst e1 e2
      exact ⟨c, z1, by rw [one_cp hc], rfl, q w _ (Keep.refl w) sr (.bl _)⟩
    · cases e
  · cases e
theorem ops_ninS : OpS g X (compareOp .NotIn) ninSD := by
  refine ⟨_, op_notInS, fun w S x y a b d Q e sr ra rb q => ?_⟩
  unfold ninSD at e
  split at e
  · rename_i x1 z1
    split at e
    · rename_i c hc
      cases e
      have e1 := ra.str
      have e2 := rb.str
      subst e1 e2
      exact ⟨c, z1, by rw [one_cp hc], rfl, q w _ (Keep.refl w) sr (.bl _)⟩
    · cases e
  · cases e
end
end Pc

set_option Elab.async false
set_option linter.all false
set_option autoImplicit false
set_option maxRecDepth 100000
set_option maxHeartbeats 4000000
/-! Pc, part Zzo: text * n. -/
namespace Pc
open PySem PySem.Spec PyProof.Rows L2
def repS (a : Str) (n : Int) : Str := if n = 1 then a else ⟨(List.replicate n.toNat a.cps).foldl (· ++ ·) #[]⟩
def mulSD : D → D → Option D
  | .str a, .int n => if 1 ≤ n ∧ n ≤ 1000 ∧ 1 ≤ a.length ∧ a.length ≤ 1000 then some (.str (repS a n)) else none
  | _, _ => none
theorem fold_size (c : Array Nat) : ∀ (k : Nat) (acc : Array Nat), ((List.replicate k c).foldl (· ++ ·) acc).size = acc.size + k * c.size
  | 0, acc => by simp
  | k + 1, acc => by
    rw [List.replicate_succ, List.foldl_cons, fold_size c k, Array.size_append, Nat.succ_mul]
    omega
section
variable {g : Gc} {X : Cx}
theorem op_mulS : OpR X (binaryOp .Mult) (fun x y H Q => ∃ (a : Str) (n : Int), x = .str a ∧ y = .int n ∧ 1 ≤ n ∧ n ≤ 1000 ∧ 1 ≤ a.length ∧ a.length ≤ 1000 ∧ Q (.str (repS a n)) H) := by
  intro pins s σ H x y v u Q I rx ry h
  obtain ⟨a, n, rfl, rfl, h1, h2, h3, h4, q⟩ := h
  obtain ⟨t, rfl⟩ := rx
  obtain ⟨t2, rfl⟩ := ry
  have hb : ¬ ((a.length : Int) > (2 ^ 63 - 1) / n) := by
    have : (1000 : Int) ≤ (2 ^ 63 - 1) / n := by
      rw [Int.le_ediv_iff_mul_le (by omega)]
      omega
    omega
  have hlen : a.length * n.toNat ≤ 1000000 := Nat.le_trans (Nat.mul_le_mul h4 (show n.toNat ≤ 1000 by omega)) (by decide)
  refine PySem.P.mul_str (by
    have c1 : ¬ n < -(2 ^ 63 : Int) := by omega
    have c2 : ¬ n ≥ 2 ^ 63 := by omega
    rw [decide_eq_false c1, decide_eq_false c2]; rfl) (fun _ _ => hb) (fun _ _ => ?_) ?_
  · unfold Builtin.Str.tooLong
    exact decide_eq_false (by rw [sizeLine_eq]; omega)
  · rw [if_neg (by omega)]
    by_cases e1 : n = 1
    · subst e1
      rw [if_pos (by simp)]
      exact ⟨.str a, H, I, ⟨_, rfl⟩, q⟩
    · rw [if_neg (by
        have : (n == 1) = false := by simpa using e1
        have h0 : (a.length == 0) = false := by rw [beq_eq_false_iff_ne]; omega
        rw [this, h0]; simp)]
      have er : repS a n = ⟨(List.replicate n.toNat a.cps).foldl (· ++ ·) #[]⟩ := if_neg e1
      rw [er] at q
      refine ⟨?_, .str _, H, I.tok _, ⟨_, rfl⟩, q⟩
      show ((List.replicate n.toNat a.cps).foldl (· ++ ·) #[]).size ≤ sizeLine
      rw [fold_size]
      have e0 : (#[] : Array Nat).size = 0 := rfl
      have e2 : a.cps.size = a.length := rfl
      rw [e0, e2, sizeLine_eq, Nat.mul_comm]
      omega
theorem ops_mulS : OpS g X (binaryOp .Mult) mulSD := by
  refine ⟨_, op_mulS, fun w S x y a b d Q e sr ra rb q => ?_⟩
  unfold mulSD at e
  split at e
  · rename_i a n
    split at e
    · rename_i h
      cases e
      have e1 := ra.str
      have e2 := rb.int
      subst e1 e2
      exact ⟨a, n, rfl, rfl, h.1, h.2.1, h.2.2.1, h.2.2.2, q w _ (Keep.refl w) sr (.str _)⟩
    · cases e
  · cases e
end
end Pc

set_option Elab.async false
set_option linter.all false
set_option autoImplicit false
set_option maxRecDepth 100000
set_option maxHeartbeats 4000000
/-! Pc, part Zzp: isinstance(x, T), T built in, x a value or an own instance. -/
namespace Pc
open PySem PySem.Spec PyProof.Rows L2
def isiOM (c : Nat) (T : String) (x : D) : M D := fun S => match viewI S x with
  | some (c', _) => if c' = c then .ok (.bl false) S else .bad
  | none => isiM T x S
section
variable {g : Gc} {Wx : WX} {w0 : Wd} {X : Cx} {N0 : List Addr}
theorem Cn.isiO {G : Ge} {k c : Nat} {N : List Str} {sc : Scope} {l : List Str} {a : Expr} {T : String} {x x0 : Str} {fa : Ev → M D} {p p2 pos : Pos} (cn : Cn g G k N sc X) (B : Bts l G) (F : Isc g G x0 c) (hk : PySem.W.kitOne g.K (.ref (g.cl c)) (.type T) = some false) (hb : hasB l "isinstance" = true) (hg : glB sc "isinstance" = true) (hb2 : hasB l x = true) (hg2 : glB sc x = true) (bb : bootBuiltins x = some (.type T)) (hn : decide (x ≠ "__name__") = true) (hT : decide (T ∈ tyTs) = true) (hs : notStar a = true) (ha : DW g N0 Wx X a fa) :
    DE g N0 Wx X (.Call (.Name "isinstance" p) [a, .Name x p2] [] pos) (fun env => do let d ← fa env; isiOM c T d) := by
  have hK := cn.ok.K
  have ok := F.ok
  unfold iscB at ok
  obtain ⟨o1, ok⟩ := He.ba ok
  obtain ⟨o2, ok⟩ := He.ba ok
  obtain ⟨o3, ok⟩ := He.ba ok
  obtain ⟨o4, o5⟩ := He.ba ok
  have BT := cn.blt (B _ hb2) hg2 bb (of_decide_eq_true hn)
  refine PE.imp (pe_blt (.inl ⟨_, rfl⟩) (cn.blt (B _ hb) hg Cn.bb_isi (by decide)) call_isi (by rw [List.all_cons, hs]; rfl) (pa_cons ha (pa_cons (pe_bltn (v := .ty T) BT.gl BT.mg BT.bt rfl BT.nn BT.nd) pa_nil rfl) (star_cons hs))) fun σ H Q ⟨w, env, S, ee, er, sr, q⟩ => ?_
  subst ee
  refine tr_intro er sr (pst_imp (pst_bind (relA := rlW g) (fun _ _ _ _ _ z => z) q) fun v H1 ⟨w1, d, S1, e1, k1, s1, r1, q1⟩ => ?_)
  subst e1
  unfold isiOM at q1
  cases ev : viewI S1 d with
  | some pr =>
    obtain ⟨c', fs⟩ := pr
    rw [ev] at q1
    dsimp only at q1
    by_cases hc : c' = c
    · rw [if_pos hc] at q1
      subst hc
      obtain ⟨b, dx, vs, rfl, h1, h2⟩ := r1.viewI s1 ev
      refine ⟨.ref b, .ty T, .ref (g.cl c'), .type T, false, rfl, .ty T, ?_, ?_, q1 w1 _ (Keep.refl _) s1 (.bl _)⟩
      · rw [hK]
        exact .base (.ins h1 F.cls (of_decide_eq_true o1) (of_decide_eq_true o2) (of_decide_eq_true o3) (of_decide_eq_true o4))
      · rw [hK]
        exact hk
    · rw [if_neg hc] at q1; exact q1.elim
  | none =>
    rw [ev] at q1
    dsimp only at q1
    unfold isiM at q1
    cases eo : isiD T (deref S1 d) with
    | none => rw [eo] at q1; exact q1.elim
    | some y =>
      rw [eo] at q1
      unfold isiD at eo
      obtain ⟨t, et, rfl⟩ := Option.map_eq_some_iff.mp eo
      refine ⟨v, .ty T, .type t, .type T, _, rfl, .ty T, ?_, kit_ty (isT2_ok t (tyN_in et) T (of_decide_eq_true hT)), q1 w1 _ (Keep.refl _) s1 (.bl _)⟩
      rw [hK]
      exact (r1.view s1).ty et
end
theorem w_isiOI {S : Store} {E : XQ} {Q : D → Store → Prop} {c : Nat} {T : String} {x : D} {fs : List (Str × D)} (h : viewI S x = some (c, fs)) (q : Q (.bl false) S) : Wp (isiOM c T x) S E Q := by
  refine wp_of (a := .bl false) (S' := S) ?_ q
  unfold isiOM
  rw [h]
  dsimp only
  rw [if_pos rfl]
theorem w_isiOP {S : Store} {E : XQ} {Q : D → Store → Prop} {c : Nat} {T : String} {x : D} (hx : x.pl) (h : Wp (isiM T x) S E Q) : Wp (isiOM c T x) S E Q := by
  have e : viewI S x = none := by cases x <;> first | rfl | cases hx
  have e2 : isiOM c T x S = isiM T x S := by
    unfold isiOM
    rw [e]
  unfold Wp at h ⊢
  rw [e2]
  exact h
end Pc

set_option Elab.async false
set_option linter.all false
set_option maxRecDepth 100000
set_option maxHeartbeats 4000000
namespace Hd
open PySem PySem.Spec PyProof.Rows L2 Pc
def top (i : Nat) : Stmt := PySem.Challenge.pw_poolcounts_k36_texts_of_counts.main.body.getD i (.Pass ⟨0, 0, 0, 0⟩)
def bnames : List PySem.Str := ["abs", "all", "any", "bool", "enumerate", "int", "isinstance", "len", "list", "range", "repr", "sorted", "str", "sum", "tuple", "zip"]
abbrev c_PoolError : Nat := 0
abbrev c_BadHouse : Nat := 1
abbrev c_BadText : Nat := 2
abbrev c_NoPool : Nat := 3
abbrev c_House : Nat := 4
def N__law_draw : List PySem.Str := ["_law_bag_here", "_law_limit", "_law_mixed", "_law_digit"]
noncomputable def b__law_draw : { f : Ev → M Out // ∀ (g : Gc) (G : Ge) (k : Nat) (X : Cx) (Wx : WX) (w0 : Wd), Bts bnames G → Cn g G k N__law_draw (defScope (top 25)) X → (∀ x, X.fn x = true) → Takes X Wx → Po X → DSs g Wx w0 X (defBody (top 25)) f } :=
  ⟨_, fun g G k X Wx w0 B c fa tk po =>
    (dss_cons (ds_if (dt_cmp (dw_of (c.sub (by kernel_rfl) (c.vB 0 (by kernel_rfl)) (dw_of c.int))) (dw_of c.int) ops_gt (by kernel_rfl)) (dss_cons (c.set (i := 3) fa (by kernel_rfl) (by kernel_rfl) (dx_val (de_bin (dw_of (c.bf B (by kernel_rfl) (by kernel_rfl) bb_int (isT _) (by kernel_rfl) c.s_int (by kernel_rfl) (db_cons (by kernel_rfl) (dw_of (c.sub (by kernel_rfl) (c.vB 0 (by kernel_rfl)) (dw_of c.int))) db_nil))) (c.vB 1 (by kernel_rfl)) ops_mod)))
    (dss_cons (ds_subH (by kernel_rfl) (by kernel_rfl) (de_bin (dw_of (c.sub (by kernel_rfl) (c.vB 0 (by kernel_rfl)) (dw_of c.int))) (c.vB 1 (by kernel_rfl)) ops_fdiv) (c.v 0 (by kernel_rfl)) c.int)
    (dss_one (ds_ret (c.v 3 (by kernel_rfl)))))) dss_nil)
    (dss_cons (ds_subH (by kernel_rfl) (by kernel_rfl) (de_bin (dw_of (c.sub (by kernel_rfl) (c.vB 0 (by kernel_rfl)) (dw_of c.int))) (dw_of c.int) c.add) (c.v 0 (by kernel_rfl)) c.int)
    (dss_cons (c.set (i := 2) fa (by kernel_rfl) (by kernel_rfl) (dx_val (de_bin (dw_of (de_bin (dw_of (c.sub (by kernel_rfl) (c.vB 0 (by kernel_rfl)) (dw_of c.int))) (dw_of c.int) ops_mul)) (dw_of (de_bin (dw_of c.int) (dw_of (c.sub (by kernel_rfl) (c.vB 0 (by kernel_rfl)) (dw_of c.int))) ops_mul)) c.add)))
    (dss_cons (ds_subH (by kernel_rfl) (by kernel_rfl) (de_bin (dw_of (c.bf B (by kernel_rfl) (by kernel_rfl) bb_int (isT _) (by kernel_rfl) c.s_int (by kernel_rfl) (db_cons (by kernel_rfl) (c.vB 2 (by kernel_rfl)) db_nil))) (dw_of c.int) ops_mod) (c.v 0 (by kernel_rfl)) c.int)
    (dss_one (ds_ret (de_bin (dw_of (de_bin (dw_of (de_bin (dw_of (c.bf B (by kernel_rfl) (by kernel_rfl) bb_int (isT _) (by kernel_rfl) c.s_int (by kernel_rfl) (db_cons (by kernel_rfl) (dw_of (de_bin (dw_of (c.sub (by kernel_rfl) (c.vB 0 (by kernel_rfl)) (dw_of c.int))) (dw_of (c.sub (by kernel_rfl) (c.vB 0 (by kernel_rfl)) (dw_of c.int))) ops_mul)) db_nil))) (dw_of c.int) ops_mod)) (dw_of c.int) ops_fdiv)) (c.vB 1 (by kernel_rfl)) ops_mod)))))))⟩
noncomputable def s__law_draw : List D → M D := bodyM 4 b__law_draw.1

def N__law_pick : List PySem.Str := ["_law_bag_here", "_law_row"]
noncomputable def b__law_pick : { f : Ev → M Out // ∀ (g : Gc) (G : Ge) (k : Nat) (X : Cx) (Wx : WX) (w0 : Wd), Bts bnames G → Dfn g G k "_law_draw" 2 s__law_draw → Cn g G k N__law_pick (defScope (top 26)) X → (∀ x, X.fn x = true) → Takes X Wx → Po X → DSs g Wx w0 X (defBody (top 26)) f } :=
  ⟨_, fun g G k X Wx w0 B h__law_draw c fa tk po =>
    (dss_one (ds_ret (c.sub (by kernel_rfl) (c.vB 1 (by kernel_rfl)) (dw_of (c.call h__law_draw (by kernel_rfl) tk (by kernel_rfl) (da_cons (by kernel_rfl) (c.v 0 (by kernel_rfl)) (da_cons (by kernel_rfl) (c.bf B (by kernel_rfl) (by kernel_rfl) bb_len (isB _) (by kernel_rfl) c.s_len (by kernel_rfl) (db_cons (by kernel_rfl) (c.vB 1 (by kernel_rfl)) db_nil)) da_nil)))))))⟩
noncomputable def s__law_pick : List D → M D := bodyM 2 b__law_pick.1

def N__law_odd : List PySem.Str := ["_law_bag_here", "_law_some"]
noncomputable def b__law_odd : { f : Ev → M Out // ∀ (g : Gc) (G : Ge) (k : Nat) (X : Cx) (Wx : WX) (w0 : Wd), Bts bnames G → Dfn g G k "_law_pick" 2 s__law_pick → Cn g G k N__law_odd (defScope (top 28)) X → (∀ x, X.fn x = true) → Takes X Wx → Po X → DSs g Wx w0 X (defBody (top 28)) f } :=
  ⟨_, fun g G k X Wx w0 B h__law_pick c fa tk po =>
    (dss_cons (c.set (i := 1) fa (by kernel_rfl) (by kernel_rfl) (dx_val (de_frz (dl_list (da_cons (by kernel_rfl) c.non (da_cons (by kernel_rfl) c.bl (da_cons (by kernel_rfl) c.bl (da_cons (by kernel_rfl) c.int (da_cons (by kernel_rfl) c.int (da_cons (by kernel_rfl) (de_neg c.int) (da_cons (by kernel_rfl) c.int (da_cons (by kernel_rfl) (de_bin (dw_of c.int) (dw_of c.int) ops_pow) (da_cons (by kernel_rfl) c.str (da_cons (by kernel_rfl) c.str (da_cons (by kernel_rfl) c.str (da_cons (by kernel_rfl) (de_tup da_nil) (da_cons (by kernel_rfl) (de_frz (dl_list da_nil)) (da_cons (by kernel_rfl) (de_tup (da_cons (by kernel_rfl) c.int da_nil)) (da_cons (by kernel_rfl) (de_tup (da_cons (by kernel_rfl) c.int (da_cons (by kernel_rfl) c.int da_nil))) (da_cons (by kernel_rfl) (de_frz (dl_list (da_cons (by kernel_rfl) c.int da_nil))) (da_cons (by kernel_rfl) (de_tup (da_cons (by kernel_rfl) c.int (da_cons (by kernel_rfl) c.bl da_nil))) (da_cons (by kernel_rfl) (de_frzD dd_nil) da_nil))))))))))))))))))))))
    (dss_one (ds_ret (c.call h__law_pick (by kernel_rfl) tk (by kernel_rfl) (da_cons (by kernel_rfl) (c.v 0 (by kernel_rfl)) (da_cons (by kernel_rfl) (de_frz (dl_cat c.ok.K (c.vB 1 (by kernel_rfl)) (dw_of (de_frz (dl_list (da_cons (by kernel_rfl) (de_tup (da_cons (by kernel_rfl) c.non da_nil)) (da_cons (by kernel_rfl) (de_tup (da_cons (by kernel_rfl) c.str (da_cons (by kernel_rfl) c.int da_nil))) (da_cons (by kernel_rfl) (de_tup (da_cons (by kernel_rfl) (de_tup (da_cons (by kernel_rfl) c.int da_nil)) (da_cons (by kernel_rfl) c.int da_nil))) (da_cons (by kernel_rfl) (de_tup (da_cons (by kernel_rfl) c.int (da_cons (by kernel_rfl) c.int da_nil))) (da_cons (by kernel_rfl) (de_frz (dl_list (da_cons (by kernel_rfl) (de_tup (da_cons (by kernel_rfl) c.int (da_cons (by kernel_rfl) c.int da_nil))) da_nil))) (da_cons (by kernel_rfl) (de_frzD (dd_disp (by kernel_rfl) (by kernel_rfl) (dp_cons c.str c.int dp_nil))) (da_cons (by kernel_rfl) (de_tup (da_cons (by kernel_rfl) (de_tup (da_cons (by kernel_rfl) c.int da_nil)) (da_cons (by kernel_rfl) c.int (da_cons (by kernel_rfl) c.int da_nil)))) (da_cons (by kernel_rfl) (de_tup (da_cons (by kernel_rfl) c.int da_nil)) (da_cons (by kernel_rfl) c.int da_nil)))))))))))))) da_nil))))))⟩
noncomputable def s__law_odd : List D → M D := bodyM 2 b__law_odd.1

def N_are_figures : List PySem.Str := ["word", "sign"]
noncomputable def b_are_figures : { f : Ev → M Out // ∀ (g : Gc) (G : Ge) (k : Nat) (X : Cx) (Wx : WX) (w0 : Wd), Bts bnames G → Con g G "FIGURES" (.str "0123456789") → Cn g G k N_are_figures (defScope (top 19)) X → (∀ x, X.fn x = true) → Takes X Wx → Po X → DSs g Wx w0 X (defBody (top 19)) f } :=
  ⟨_, fun g G k X Wx w0 B C_FIGURES c fa tk po =>
    (dss_one (ds_ret (de_and (de_cmp (c.vB 0 (by kernel_rfl)) (dw_of c.str) c.ne (by kernel_rfl)) (de_one (c.bf B (by kernel_rfl) (by kernel_rfl) bb_all (isB _) (by kernel_rfl) c.s_all (by kernel_rfl) (db_cons (by kernel_rfl) (dw_of (de_frz (c.compx [("sign", 1)] (di_comp c.ok.K (c.vB 0 (by kernel_rfl))) (by kernel_rfl) (fun X c cf => (dg_name (c.pgl 1 (by kernel_rfl)))) (fun X c => dts_nil) (fun X c => (de_cmp (c.vB 1 (by kernel_rfl)) (dw_of (c.con C_FIGURES (by kernel_rfl))) ops_inS (by kernel_rfl))) (by kernel_rfl) (fun _ _ => (by kernel_rfl))))) db_nil))))))⟩
noncomputable def s_are_figures : List D → M D := bodyM 2 b_are_figures.1

def N_number_in : List PySem.Str := ["word"]
noncomputable def b_number_in : { f : Ev → M Out // ∀ (g : Gc) (G : Ge) (k : Nat) (X : Cx) (Wx : WX) (w0 : Wd), Bts bnames G → Con g G "MOST_FIGURES" (.int 31) → Dfn g G k "are_figures" 1 s_are_figures → Cn g G k N_number_in (defScope (top 20)) X → (∀ x, X.fn x = true) → Takes X Wx → Po X → DSs g Wx w0 X (defBody (top 20)) f } :=
  ⟨_, fun g G k X Wx w0 B C_MOST_FIGURES h_are_figures c fa tk po =>
    (dss_cons (ds_if (dt_of_w (dw_or (dt_not (dt_val (by kernel_rfl) (c.call h_are_figures (by kernel_rfl) tk (by kernel_rfl) (da_cons (by kernel_rfl) (c.v 0 (by kernel_rfl)) da_nil)))) (dw_or1 (dt_cmp (dw_of (c.bf B (by kernel_rfl) (by kernel_rfl) bb_len (isB _) (by kernel_rfl) c.s_len (by kernel_rfl) (db_cons (by kernel_rfl) (c.vB 0 (by kernel_rfl)) db_nil))) (dw_of (c.con C_MOST_FIGURES (by kernel_rfl))) ops_gt (by kernel_rfl))))) (dss_one (ds_ret c.non)) dss_nil)
    (dss_one (ds_ret (de_if (dt_of_w (dw_and (dt_cmp (dw_of (c.sub (by kernel_rfl) (c.vB 0 (by kernel_rfl)) (dw_of c.int))) (dw_of c.str) c.eq (by kernel_rfl)) (dw_and1 (dt_cmp (c.vB 0 (by kernel_rfl)) (dw_of c.str) c.ne (by kernel_rfl))))) c.non (c.bf B (by kernel_rfl) (by kernel_rfl) bb_int (isT _) (by kernel_rfl) cs_intT (by kernel_rfl) (db_cons (by kernel_rfl) (c.vB 0 (by kernel_rfl)) db_nil))))))⟩
noncomputable def s_number_in : List D → M D := bodyM 1 b_number_in.1

def N_words_of : List PySem.Str := ["text", "word"]
noncomputable def b_words_of : { f : Ev → M Out // ∀ (g : Gc) (G : Ge) (k : Nat) (X : Cx) (Wx : WX) (w0 : Wd), Bts bnames G → Cn g G k N_words_of (defScope (top 18)) X → (∀ x, X.fn x = true) → Takes X Wx → Po X → DSs g Wx w0 X (defBody (top 18)) f } :=
  ⟨_, fun g G k X Wx w0 B c fa tk po =>
    (dss_one (ds_ret (de_frz (c.compx [("word", 1)] (di_comp c.ok.K (dw_of (de_frz (dl_split (by kernel_rfl) (by kernel_rfl) (by kernel_rfl) (c.v 0 (by kernel_rfl)) c.str)))) (by kernel_rfl) (fun X c cf => (dg_name (c.pgl 1 (by kernel_rfl)))) (fun X c => dts_one (dt_cmp (c.vB 1 (by kernel_rfl)) (dw_of c.str) c.ne (by kernel_rfl))) (fun X c => (c.v 1 (by kernel_rfl))) (by kernel_rfl) (fun _ _ => (by kernel_rfl))))))⟩
noncomputable def s_words_of : List D → M D := bodyM 2 b_words_of.1

def N_House_kinds : List PySem.Str := ["self"]
noncomputable def b_House_kinds : { f : Ev → M Out // ∀ (g : Gc) (G : Ge) (k : Nat) (X : Cx) (Wx : WX) (w0 : Wd), Bts bnames G → Fld g 4 "size" → Cn g G k N_House_kinds (defScope (mth (top 14) 1)) X → (∀ x, X.fn x = true) → Takes X Wx → Po X → DSs g Wx w0 X (defBody (mth (top 14) 1)) f } :=
  ⟨_, fun g G k X Wx w0 B F_House_size c fa tk po =>
    (dss_one (ds_ret (c.fld F_House_size (by kernel_rfl) (c.v 0 (by kernel_rfl)))))⟩
noncomputable def s_House_kinds : List D → M D := bodyM 1 b_House_kinds.1

def N_read_counts : List PySem.Str := ["house", "value", "words", "found", "place", "word"]
noncomputable def b_read_counts : { f : Ev → M Out // ∀ (g : Gc) (G : Ge) (k : Nat) (X : Cx) (Wx : WX) (w0 : Wd), Bts bnames G → Dfn g G k "number_in" 1 s_number_in → Dfn g G k "words_of" 1 s_words_of → Prp g G k 4 "kinds" s_House_kinds → Xmk g G k "BadText" 2 ["number"] → Isc g G "House" 4 → PySem.W.kitOne g.K (.ref (g.cl 4)) (.type "str") = some false → Cn g G k N_read_counts (defScope (top 22)) X → (∀ x, X.fn x = true) → Takes X Wx → Po X → DSs g Wx w0 X (defBody (top 22)) f } :=
  ⟨_, fun g G k X Wx w0 B h_number_in h_words_of P_House_kinds E_BadText I_House O_House_str c fa tk po =>
    (dss_cons (ds_if (dt_not (dt_val (by kernel_rfl) (c.isiO B I_House O_House_str (by kernel_rfl) (by kernel_rfl) (by kernel_rfl) (by kernel_rfl) bb_str (by kernel_rfl) (by kernel_rfl) (by kernel_rfl) (c.vB 1 (by kernel_rfl))))) (dss_one (c.raise E_BadText (by decide) (by kernel_rfl) tk (by kernel_rfl) (da_cons (by kernel_rfl) c.non da_nil))) dss_nil)
    (dss_cons (c.par2 (i := 2) (j := 3) (by kernel_rfl) (by kernel_rfl) (by kernel_rfl) (dxs_cons (by kernel_rfl) (dx_val (c.call h_words_of (by kernel_rfl) tk (by kernel_rfl) (da_cons (by kernel_rfl) (c.v 1 (by kernel_rfl)) da_nil))) (dxs_cons (by kernel_rfl) (dx_own (dl_list da_nil)) dxs_nil)) (by kernel_rfl) (by kernel_rfl))
    (dss_cons (ds_for po c.ok.calm (c.enF B (by kernel_rfl) (by kernel_rfl) (by kernel_rfl) (da_cons (by kernel_rfl) (c.v 2 (by kernel_rfl)) da_nil)) (c.tg (n := 2) (dgs_cons (dg_name (c.pg fa 4 (by kernel_rfl))) (dgs_cons (dg_name (c.pg fa 5 (by kernel_rfl))) dgs_nil (by kernel_rfl)) (by kernel_rfl)) (fun _ => (by kernel_rfl)) (fun _ => (by kernel_rfl))) (dss_cons (ds_chg c.ok.K (c.pv 3 (by kernel_rfl)) mt_appendL ch_app (by kernel_rfl) (by kernel_rfl) (by decide) (da_cons (by kernel_rfl) (c.call h_number_in (by kernel_rfl) tk (by kernel_rfl) (da_cons (by kernel_rfl) (c.v 5 (by kernel_rfl)) da_nil)) da_nil))
    (dss_one (ds_if (dt_of_w (dw_or (dt_cmp (dw_of (c.sub (by kernel_rfl) (c.vB 3 (by kernel_rfl)) (dw_of (de_neg c.int)))) (dw_of c.non) ops_is (by kernel_rfl)) (dw_or1 (dt_cmp (c.vB 4 (by kernel_rfl)) (dw_of (c.prop P_House_kinds (by kernel_rfl) (c.v 0 (by kernel_rfl)))) c.eq (by kernel_rfl))))) (dss_one (c.raise E_BadText (by decide) (by kernel_rfl) tk (by kernel_rfl) (da_cons (by kernel_rfl) (c.v 4 (by kernel_rfl)) da_nil))) dss_nil))) (fun _ => (by kernel_rfl)))
    (dss_cons (ds_if (dt_cmp (dw_of (c.bf B (by kernel_rfl) (by kernel_rfl) bb_len (isB _) (by kernel_rfl) c.s_len (by kernel_rfl) (db_cons (by kernel_rfl) (c.vB 2 (by kernel_rfl)) db_nil))) (dw_of (c.prop P_House_kinds (by kernel_rfl) (c.v 0 (by kernel_rfl)))) ops_lt (by kernel_rfl)) (dss_one (c.raise E_BadText (by decide) (by kernel_rfl) tk (by kernel_rfl) (da_cons (by kernel_rfl) (c.bf B (by kernel_rfl) (by kernel_rfl) bb_len (isB _) (by kernel_rfl) c.s_len (by kernel_rfl) (db_cons (by kernel_rfl) (c.vB 2 (by kernel_rfl)) db_nil)) da_nil))) dss_nil)
    (dss_one (ds_ret (c.bf B (by kernel_rfl) (by kernel_rfl) bb_tuple (isT _) (by kernel_rfl) c.s_tuple (by kernel_rfl) (db_cons (by kernel_rfl) (c.vB 3 (by kernel_rfl)) db_nil))))))))⟩
noncomputable def s_read_counts : List D → M D := bodyM 6 b_read_counts.1

def N__law_told : List PySem.Str := ["_law_house_here", "_law_value", "error"]
noncomputable def b__law_told : { f : Ev → M Out // ∀ (g : Gc) (G : Ge) (k : Nat) (X : Cx) (Wx : WX) (w0 : Wd), Bts bnames G → Dfn g G k "read_counts" 2 s_read_counts → Xcl g G "PoolError" [(1, true), (2, true), (3, false)] → Xis g G "BadText" [(1, false), (2, true), (3, false)] → Xfd g "number" [1, 2, 3] → Cn g G k N__law_told (defScope (top 38)) X → (∀ x, X.fn x = true) → Takes X Wx → Po X → DSs g Wx w0 X (defBody (top 38)) f } :=
  ⟨_, fun g G k X Wx w0 B h_read_counts X_PoolError J_BadText V_number c fa tk po =>
    (dss_one (c.try_ (i := 2) po X_PoolError (by kernel_rfl) (by kernel_rfl) tk (fun W pn xe c tk po => (dss_one (ds_ret (c.call h_read_counts (by kernel_rfl) tk (by kernel_rfl) (da_cons (by kernel_rfl) (c.v 0 (by kernel_rfl)) (da_cons (by kernel_rfl) (c.v 1 (by kernel_rfl)) da_nil))))))
    (fun a oe cc d pn c hz hf => (dss_one (ds_ret (de_if (dt_val (by kernel_rfl) (c.isX B J_BadText (by kernel_rfl) (by kernel_rfl) (by kernel_rfl) hz hf (by kernel_rfl) (c.v 2 (by kernel_rfl)))) (de_frz (dl_list (da_cons (by kernel_rfl) c.str (da_cons (by kernel_rfl) (c.fld V_number hz hf (by kernel_rfl) (c.v 2 (by kernel_rfl))) da_nil)))) (de_frz (dl_list (da_cons (by kernel_rfl) c.str da_nil)))))))))⟩
noncomputable def s__law_told : List D → M D := bodyM 3 b__law_told.1

def N__law_is_number : List PySem.Str := ["_law_word", "_law_sign"]
noncomputable def b__law_is_number : { f : Ev → M Out // ∀ (g : Gc) (G : Ge) (k : Nat) (X : Cx) (Wx : WX) (w0 : Wd), Bts bnames G → Cn g G k N__law_is_number (defScope (top 33)) X → (∀ x, X.fn x = true) → Takes X Wx → Po X → DSs g Wx w0 X (defBody (top 33)) f } :=
  ⟨_, fun g G k X Wx w0 B c fa tk po =>
    (dss_cons (ds_if (dt_of_w (dw_or (dt_not (dt_chain ops_le ops_le (dw_of c.int) (dw_of (c.bf B (by kernel_rfl) (by kernel_rfl) bb_len (isB _) (by kernel_rfl) c.s_len (by kernel_rfl) (db_cons (by kernel_rfl) (c.vB 0 (by kernel_rfl)) db_nil))) (dw_of c.int) (by kernel_rfl))) (dw_or1 (dt_cmp (dw_of (de_frz (c.compx [("_law_sign", 1)] (di_comp c.ok.K (c.vB 0 (by kernel_rfl))) (by kernel_rfl) (fun X c cf => (dg_name (c.pgl 1 (by kernel_rfl)))) (fun X c => dts_one (dt_cmp (c.vB 1 (by kernel_rfl)) (dw_of c.str) ops_ninS (by kernel_rfl))) (fun X c => (c.v 1 (by kernel_rfl))) (by kernel_rfl) (fun _ _ => (by kernel_rfl))))) (dw_of (de_frz (dl_list da_nil))) c.ne (by kernel_rfl))))) (dss_one (ds_ret c.bl)) dss_nil)
    (dss_one (ds_ret (de_cmp (dw_of (c.sub (by kernel_rfl) (c.vB 0 (by kernel_rfl)) (dw_of c.int))) (dw_of c.str) c.ne (by kernel_rfl)))))⟩
noncomputable def s__law_is_number : List D → M D := bodyM 2 b__law_is_number.1

def N__law_words : List PySem.Str := ["_law_line", "_law_word"]
noncomputable def b__law_words : { f : Ev → M Out // ∀ (g : Gc) (G : Ge) (k : Nat) (X : Cx) (Wx : WX) (w0 : Wd), Bts bnames G → Cn g G k N__law_words (defScope (top 32)) X → (∀ x, X.fn x = true) → Takes X Wx → Po X → DSs g Wx w0 X (defBody (top 32)) f } :=
  ⟨_, fun g G k X Wx w0 B c fa tk po =>
    (dss_one (ds_ret (de_frz (c.compx [("_law_word", 1)] (di_comp c.ok.K (dw_of (de_frz (dl_split (by kernel_rfl) (by kernel_rfl) (by kernel_rfl) (c.v 0 (by kernel_rfl)) c.str)))) (by kernel_rfl) (fun X c cf => (dg_name (c.pgl 1 (by kernel_rfl)))) (fun X c => dts_one (dt_cmp (c.vB 1 (by kernel_rfl)) (dw_of c.str) c.ne (by kernel_rfl))) (fun X c => (c.v 1 (by kernel_rfl))) (by kernel_rfl) (fun _ _ => (by kernel_rfl))))))⟩
noncomputable def s__law_words : List D → M D := bodyM 2 b__law_words.1

def N__law_due : List PySem.Str := ["_law_kinds", "_law_value", "_law_words_here", "_law_k", "_law_word"]
noncomputable def b__law_due : { f : Ev → M Out // ∀ (g : Gc) (G : Ge) (k : Nat) (X : Cx) (Wx : WX) (w0 : Wd), Bts bnames G → Dfn g G k "_law_is_number" 1 s__law_is_number → Dfn g G k "_law_words" 1 s__law_words → Isc g G "House" 4 → PySem.W.kitOne g.K (.ref (g.cl 4)) (.type "str") = some false → Cn g G k N__law_due (defScope (top 37)) X → (∀ x, X.fn x = true) → Takes X Wx → Po X → DSs g Wx w0 X (defBody (top 37)) f } :=
  ⟨_, fun g G k X Wx w0 B h__law_is_number h__law_words I_House O_House_str c fa tk po =>
    (dss_cons (ds_if (dt_not (dt_val (by kernel_rfl) (c.isiO B I_House O_House_str (by kernel_rfl) (by kernel_rfl) (by kernel_rfl) (by kernel_rfl) bb_str (by kernel_rfl) (by kernel_rfl) (by kernel_rfl) (c.vB 1 (by kernel_rfl))))) (dss_one (ds_ret (de_frz (dl_list (da_cons (by kernel_rfl) c.str (da_cons (by kernel_rfl) c.non da_nil)))))) dss_nil)
    (dss_cons (c.set (i := 2) fa (by kernel_rfl) (by kernel_rfl) (dx_val (c.call h__law_words (by kernel_rfl) tk (by kernel_rfl) (da_cons (by kernel_rfl) (c.v 1 (by kernel_rfl)) da_nil))))
    (dss_cons (ds_for po c.ok.calm (c.enF B (by kernel_rfl) (by kernel_rfl) (by kernel_rfl) (da_cons (by kernel_rfl) (c.v 2 (by kernel_rfl)) da_nil)) (c.tg (n := 2) (dgs_cons (dg_name (c.pg fa 3 (by kernel_rfl))) (dgs_cons (dg_name (c.pg fa 4 (by kernel_rfl))) dgs_nil (by kernel_rfl)) (by kernel_rfl)) (fun _ => (by kernel_rfl)) (fun _ => (by kernel_rfl))) (dss_one (ds_if (dt_of_w (dw_or (dt_cmp (c.vB 3 (by kernel_rfl)) (c.vB 0 (by kernel_rfl)) c.eq (by kernel_rfl)) (dw_or1 (dt_of_w (dw_and (dt_not (dt_val (by kernel_rfl) (c.call h__law_is_number (by kernel_rfl) tk (by kernel_rfl) (da_cons (by kernel_rfl) (c.v 4 (by kernel_rfl)) da_nil)))) (dw_and1 (dt_cmp (c.vB 4 (by kernel_rfl)) (dw_of c.str) c.ne (by kernel_rfl)))))))) (dss_one (ds_ret (de_frz (dl_list (da_cons (by kernel_rfl) c.str (da_cons (by kernel_rfl) (c.v 3 (by kernel_rfl)) da_nil)))))) dss_nil)) (fun _ => (by kernel_rfl)))
    (dss_one (ds_ret (de_if (dt_cmp (dw_of (c.bf B (by kernel_rfl) (by kernel_rfl) bb_len (isB _) (by kernel_rfl) c.s_len (by kernel_rfl) (db_cons (by kernel_rfl) (c.vB 2 (by kernel_rfl)) db_nil))) (c.vB 0 (by kernel_rfl)) ops_lt (by kernel_rfl)) (de_frz (dl_list (da_cons (by kernel_rfl) c.str (da_cons (by kernel_rfl) (c.bf B (by kernel_rfl) (by kernel_rfl) bb_len (isB _) (by kernel_rfl) c.s_len (by kernel_rfl) (db_cons (by kernel_rfl) (c.vB 2 (by kernel_rfl)) db_nil)) da_nil)))) (c.bf B (by kernel_rfl) (by kernel_rfl) bb_tuple (isT _) (by kernel_rfl) c.s_tuple (by kernel_rfl) (db_cons (by kernel_rfl) (dw_of (de_frz (c.compx [("_law_word", 4)] (di_comp c.ok.K (c.vB 2 (by kernel_rfl))) (by kernel_rfl) (fun X c cf => (dg_name (c.pgl 4 (by kernel_rfl)))) (fun X c => dts_nil) (fun X c => (c.bf B (by kernel_rfl) (by kernel_rfl) bb_int (isT _) (by kernel_rfl) cs_intT (by kernel_rfl) (db_cons (by kernel_rfl) (c.vB 4 (by kernel_rfl)) db_nil))) (by kernel_rfl) (fun _ _ => (by kernel_rfl))))) db_nil))))))))⟩
noncomputable def s__law_due : List D → M D := bodyM 5 b__law_due.1

def N__law_blanks : List PySem.Str := ["_law_bag_here", "_law_words_here", "_law_line"]
noncomputable def b__law_blanks : { f : Ev → M Out // ∀ (g : Gc) (G : Ge) (k : Nat) (X : Cx) (Wx : WX) (w0 : Wd), Bts bnames G → Dfn g G k "_law_pick" 2 s__law_pick → Cn g G k N__law_blanks (defScope (top 34)) X → (∀ x, X.fn x = true) → Takes X Wx → Po X → DSs g Wx w0 X (defBody (top 34)) f } :=
  ⟨_, fun g G k X Wx w0 B h__law_pick c fa tk po =>
    (dss_cons (c.set (i := 2) fa (by kernel_rfl) (by kernel_rfl) (dx_val (de_join c.ok.K (by kernel_rfl) (by kernel_rfl) (by kernel_rfl) (c.call h__law_pick (by kernel_rfl) tk (by kernel_rfl) (da_cons (by kernel_rfl) (c.v 0 (by kernel_rfl)) (da_cons (by kernel_rfl) (de_frz (dl_list (da_cons (by kernel_rfl) c.str (da_cons (by kernel_rfl) c.str (da_cons (by kernel_rfl) c.str (da_cons (by kernel_rfl) c.str da_nil)))))) da_nil))) (c.vB 1 (by kernel_rfl)))))
    (dss_one (ds_ret (de_bin (dw_of (de_bin (dw_of (c.call h__law_pick (by kernel_rfl) tk (by kernel_rfl) (da_cons (by kernel_rfl) (c.v 0 (by kernel_rfl)) (da_cons (by kernel_rfl) (de_frz (dl_list (da_cons (by kernel_rfl) c.str (da_cons (by kernel_rfl) c.str (da_cons (by kernel_rfl) c.str (da_cons (by kernel_rfl) c.str da_nil)))))) da_nil)))) (c.vB 2 (by kernel_rfl)) c.add)) (dw_of (c.call h__law_pick (by kernel_rfl) tk (by kernel_rfl) (da_cons (by kernel_rfl) (c.v 0 (by kernel_rfl)) (da_cons (by kernel_rfl) (de_frz (dl_list (da_cons (by kernel_rfl) c.str (da_cons (by kernel_rfl) c.str (da_cons (by kernel_rfl) c.str da_nil))))) da_nil)))) c.add))))⟩
noncomputable def s__law_blanks : List D → M D := bodyM 3 b__law_blanks.1

def N__law_spoilt : List PySem.Str := ["_law_bag_here", "_law_words_here", "_law_odd_here", "_law_way", "_law_at", "_law_piece"]
noncomputable def b__law_spoilt : { f : Ev → M Out // ∀ (g : Gc) (G : Ge) (k : Nat) (X : Cx) (Wx : WX) (w0 : Wd), Bts bnames G → Dfn g G k "_law_pick" 2 s__law_pick → Dfn g G k "_law_draw" 2 s__law_draw → Cn g G k N__law_spoilt (defScope (top 35)) X → (∀ x, X.fn x = true) → Takes X Wx → Po X → DSs g Wx w0 X (defBody (top 35)) f } :=
  ⟨_, fun g G k X Wx w0 B h__law_pick h__law_draw c fa tk po =>
    (dss_cons (c.par3 (i := 3) (j := 4) (l := 5) (by kernel_rfl) (by kernel_rfl) (by kernel_rfl) (by kernel_rfl) (dxs_cons (by kernel_rfl) (dx_val (c.call h__law_draw (by kernel_rfl) tk (by kernel_rfl) (da_cons (by kernel_rfl) (c.v 0 (by kernel_rfl)) (da_cons (by kernel_rfl) c.int da_nil)))) (dxs_cons (by kernel_rfl) (dx_val (c.call h__law_draw (by kernel_rfl) tk (by kernel_rfl) (da_cons (by kernel_rfl) (c.v 0 (by kernel_rfl)) (da_cons (by kernel_rfl) (de_bin (dw_of (c.bf B (by kernel_rfl) (by kernel_rfl) bb_len (isB _) (by kernel_rfl) c.s_len (by kernel_rfl) (db_cons (by kernel_rfl) (c.vB 1 (by kernel_rfl)) db_nil))) (dw_of c.int) c.add) da_nil)))) (dxs_cons (by kernel_rfl) (dx_val (c.call h__law_pick (by kernel_rfl) tk (by kernel_rfl) (da_cons (by kernel_rfl) (c.v 0 (by kernel_rfl)) (da_cons (by kernel_rfl) (c.v 2 (by kernel_rfl)) da_nil)))) dxs_nil))) (by kernel_rfl))
    (dss_cons (ds_if (dt_cmp (c.vB 3 (by kernel_rfl)) (dw_of c.int) ops_lt (by kernel_rfl)) (dss_one (ds_ret (de_frz (dl_cat c.ok.K (dw_of (de_frz (dl_cat c.ok.K (dw_of (de_slice c.ok.K (c.vB 1 (by kernel_rfl)) do_none (do_some (c.v 4 (by kernel_rfl))))) (dw_of (de_frz (dl_list (da_cons (by kernel_rfl) (c.v 5 (by kernel_rfl)) da_nil))))))) (dw_of (de_slice c.ok.K (c.vB 1 (by kernel_rfl)) (do_some (de_bin (c.vB 4 (by kernel_rfl)) (c.vB 3 (by kernel_rfl)) c.add)) do_none)))))) dss_nil)
    (dss_cons (ds_if (dt_cmp (c.vB 3 (by kernel_rfl)) (dw_of c.int) c.eq (by kernel_rfl)) (dss_one (ds_ret (de_frz (dl_cat c.ok.K (dw_of (de_slice c.ok.K (c.vB 1 (by kernel_rfl)) do_none (do_some (c.v 4 (by kernel_rfl))))) (dw_of (de_slice c.ok.K (c.vB 1 (by kernel_rfl)) (do_some (de_bin (c.vB 4 (by kernel_rfl)) (dw_of c.int) c.add)) do_none)))))) dss_nil)
    (dss_one (ds_ret (de_if (dt_cmp (c.vB 3 (by kernel_rfl)) (dw_of c.int) c.eq (by kernel_rfl)) (de_frz (dl_cat c.ok.K (dw_of (de_frz (dl_cat c.ok.K (dw_of (de_slice c.ok.K (c.vB 1 (by kernel_rfl)) do_none (do_some (c.v 4 (by kernel_rfl))))) (dw_of (de_slice c.ok.K (c.vB 1 (by kernel_rfl)) (do_some (c.v 4 (by kernel_rfl))) (do_some (de_bin (c.vB 4 (by kernel_rfl)) (dw_of c.int) c.add))))))) (dw_of (de_slice c.ok.K (c.vB 1 (by kernel_rfl)) (do_some (c.v 4 (by kernel_rfl))) do_none)))) (c.v 1 (by kernel_rfl))))))))⟩
noncomputable def s__law_spoilt : List D → M D := bodyM 6 b__law_spoilt.1

def N_counts_text : List PySem.Str := ["counts", "one"]
noncomputable def b_counts_text : { f : Ev → M Out // ∀ (g : Gc) (G : Ge) (k : Nat) (X : Cx) (Wx : WX) (w0 : Wd), Bts bnames G → Cn g G k N_counts_text (defScope (top 21)) X → (∀ x, X.fn x = true) → Takes X Wx → Po X → DSs g Wx w0 X (defBody (top 21)) f } :=
  ⟨_, fun g G k X Wx w0 B c fa tk po =>
    (dss_one (ds_ret (de_join c.ok.K (by kernel_rfl) (by kernel_rfl) (by kernel_rfl) c.str (dw_of (de_frz (c.compx [("one", 1)] (di_comp c.ok.K (c.vB 0 (by kernel_rfl))) (by kernel_rfl) (fun X c cf => (dg_name (c.pgl 1 (by kernel_rfl)))) (fun X c => dts_nil) (fun X c => (c.bf B (by kernel_rfl) (by kernel_rfl) bb_str (isT _) (by kernel_rfl) c.s_str (by kernel_rfl) (db_cons (by kernel_rfl) (c.vB 1 (by kernel_rfl)) db_nil))) (by kernel_rfl) (fun _ _ => (by kernel_rfl))))))))⟩
noncomputable def s_counts_text : List D → M D := bodyM 2 b_counts_text.1

def N__law_counts_text : List PySem.Str := ["_law_counts", "_law_number"]
noncomputable def b__law_counts_text : { f : Ev → M Out // ∀ (g : Gc) (G : Ge) (k : Nat) (X : Cx) (Wx : WX) (w0 : Wd), Bts bnames G → Cn g G k N__law_counts_text (defScope (top 36)) X → (∀ x, X.fn x = true) → Takes X Wx → Po X → DSs g Wx w0 X (defBody (top 36)) f } :=
  ⟨_, fun g G k X Wx w0 B c fa tk po =>
    (dss_one (ds_ret (de_join c.ok.K (by kernel_rfl) (by kernel_rfl) (by kernel_rfl) c.str (dw_of (de_frz (c.compx [("_law_number", 1)] (di_comp c.ok.K (c.vB 0 (by kernel_rfl))) (by kernel_rfl) (fun X c cf => (dg_name (c.pgl 1 (by kernel_rfl)))) (fun X c => dts_nil) (fun X c => (c.bf B (by kernel_rfl) (by kernel_rfl) bb_str (isT _) (by kernel_rfl) c.s_str (by kernel_rfl) (db_cons (by kernel_rfl) (c.vB 1 (by kernel_rfl)) db_nil))) (by kernel_rfl) (fun _ _ => (by kernel_rfl))))))))⟩
noncomputable def s__law_counts_text : List D → M D := bodyM 2 b__law_counts_text.1

def N__law_far : List PySem.Str := ["_law_bag_here", "_law_limit", "_law_found"]
noncomputable def b__law_far : { f : Ev → M Out // ∀ (g : Gc) (G : Ge) (k : Nat) (X : Cx) (Wx : WX) (w0 : Wd), Bts bnames G → Dfn g G k "_law_draw" 2 s__law_draw → Cn g G k N__law_far (defScope (top 27)) X → (∀ x, X.fn x = true) → Takes X Wx → Po X → DSs g Wx w0 X (defBody (top 27)) f } :=
  ⟨_, fun g G k X Wx w0 B h__law_draw c fa tk po =>
    (dss_cons (c.set (i := 2) fa (by kernel_rfl) (by kernel_rfl) (dx_val (de_bin (dw_of (de_bin (dw_of (c.call h__law_draw (by kernel_rfl) tk (by kernel_rfl) (da_cons (by kernel_rfl) (c.v 0 (by kernel_rfl)) (da_cons (by kernel_rfl) (de_bin (dw_of c.int) (dw_of c.int) ops_pow) da_nil)))) (dw_of (de_bin (dw_of c.int) (dw_of c.int) ops_pow)) ops_mul)) (dw_of (c.call h__law_draw (by kernel_rfl) tk (by kernel_rfl) (da_cons (by kernel_rfl) (c.v 0 (by kernel_rfl)) (da_cons (by kernel_rfl) (de_bin (dw_of c.int) (dw_of c.int) ops_pow) da_nil)))) c.add)))
    (dss_one (ds_ret (de_bin (dw_of (c.bf B (by kernel_rfl) (by kernel_rfl) bb_int (isT _) (by kernel_rfl) c.s_int (by kernel_rfl) (db_cons (by kernel_rfl) (c.vB 2 (by kernel_rfl)) db_nil))) (c.vB 1 (by kernel_rfl)) ops_mod))))⟩
noncomputable def s__law_far : List D → M D := bodyM 3 b__law_far.1

def N__law_places : List PySem.Str := ["_law_bag_here", "_law_great"]
noncomputable def b__law_places : { f : Ev → M Out // ∀ (g : Gc) (G : Ge) (k : Nat) (X : Cx) (Wx : WX) (w0 : Wd), Bts bnames G → Dfn g G k "_law_draw" 2 s__law_draw → Dfn g G k "_law_far" 2 s__law_far → Dfn g G k "_law_pick" 2 s__law_pick → Cn g G k N__law_places (defScope (top 30)) X → (∀ x, X.fn x = true) → Takes X Wx → Po X → DSs g Wx w0 X (defBody (top 30)) f } :=
  ⟨_, fun g G k X Wx w0 B h__law_draw h__law_far h__law_pick c fa tk po =>
    (dss_cons (ds_if (dt_of_w (dw_and (dt_val (by kernel_rfl) (c.v 1 (by kernel_rfl))) (dw_and1 (dt_cmp (dw_of (c.call h__law_draw (by kernel_rfl) tk (by kernel_rfl) (da_cons (by kernel_rfl) (c.v 0 (by kernel_rfl)) (da_cons (by kernel_rfl) c.int da_nil)))) (dw_of c.int) c.eq (by kernel_rfl))))) (dss_one (ds_ret (de_bin (dw_of c.int) (dw_of (c.call h__law_far (by kernel_rfl) tk (by kernel_rfl) (da_cons (by kernel_rfl) (c.v 0 (by kernel_rfl)) (da_cons (by kernel_rfl) (c.call h__law_pick (by kernel_rfl) tk (by kernel_rfl) (da_cons (by kernel_rfl) (c.v 0 (by kernel_rfl)) (da_cons (by kernel_rfl) (de_frz (dl_list (da_cons (by kernel_rfl) (de_bin (dw_of c.int) (dw_of c.int) ops_pow) (da_cons (by kernel_rfl) (de_bin (dw_of c.int) (dw_of c.int) ops_pow) (da_cons (by kernel_rfl) (de_bin (dw_of c.int) (dw_of c.int) ops_pow) (da_cons (by kernel_rfl) (de_bin (dw_of c.int) (dw_of c.int) ops_pow) da_nil)))))) da_nil))) da_nil)))) c.add))) dss_nil)
    (dss_one (ds_ret (de_bin (dw_of c.int) (dw_of (c.call h__law_draw (by kernel_rfl) tk (by kernel_rfl) (da_cons (by kernel_rfl) (c.v 0 (by kernel_rfl)) (da_cons (by kernel_rfl) c.int da_nil)))) c.add))))⟩
noncomputable def s__law_places : List D → M D := bodyM 2 b__law_places.1

def N__law_sets : List PySem.Str := ["_law_kinds", "_law_found", "_law_kind", "_law_one"]
noncomputable def b__law_sets : { f : Ev → M Out // ∀ (g : Gc) (G : Ge) (k : Nat) (X : Cx) (Wx : WX) (w0 : Wd), Bts bnames G → Cn g G k N__law_sets (defScope (top 29)) X → (∀ x, X.fn x = true) → Takes X Wx → Po X → DSs g Wx w0 X (defBody (top 29)) f } :=
  ⟨_, fun g G k X Wx w0 B c fa tk po =>
    (dss_cons (c.set (i := 1) fa (by kernel_rfl) (by kernel_rfl) (dx_val (de_frz (dl_list (da_cons (by kernel_rfl) (de_tup da_nil) da_nil)))))
    (dss_cons (ds_for po c.ok.calm (c.rng1 B (by kernel_rfl) (by kernel_rfl) (by kernel_rfl) (db_cons (by kernel_rfl) (c.vB 0 (by kernel_rfl)) db_nil)) (dg_name (c.pg fa 2 (by kernel_rfl))) (dss_one (c.set (i := 1) fa (by kernel_rfl) (by kernel_rfl) (dx_val (de_frz (dl_cat c.ok.K (c.vB 1 (by kernel_rfl)) (dw_of (de_frz (c.compx [("_law_one", 3)] (di_comp c.ok.K (c.vB 1 (by kernel_rfl))) (by kernel_rfl) (fun X c cf => (dg_name (c.pgl 3 (by kernel_rfl)))) (fun X c => dts_nil) (fun X c => (de_bin (c.vB 3 (by kernel_rfl)) (dw_of (de_tup (da_cons (by kernel_rfl) (c.v 2 (by kernel_rfl)) da_nil))) c.add)) (by kernel_rfl) (fun _ _ => (by kernel_rfl)))))))))) (fun _ => (by kernel_rfl)))
    (dss_one (ds_ret (de_frz (c.bn B (by kernel_rfl) (by kernel_rfl) bb_sorted (isB _) (by kernel_rfl) c.n_sorted (by kernel_rfl) (db_cons (by kernel_rfl) (dw_of (de_slice c.ok.K (c.vB 1 (by kernel_rfl)) (do_some c.int) do_none)) db_nil)))))))⟩
noncomputable def s__law_sets : List D → M D := bodyM 4 b__law_sets.1

def N__law_house : List PySem.Str := ["_law_bag_here", "_law_great", "_law_k", "_law_kind", "_law_kinds", "_law_pools", "_law_own", "_law_places_here"]
noncomputable def b__law_house : { f : Ev → M Out // ∀ (g : Gc) (G : Ge) (k : Nat) (X : Cx) (Wx : WX) (w0 : Wd), Bts bnames G → Dfn g G k "_law_places" 2 s__law_places → Dfn g G k "_law_draw" 2 s__law_draw → Dfn g G k "_law_pick" 2 s__law_pick → Dfn g G k "_law_sets" 1 s__law_sets → Cn g G k N__law_house (defScope (top 31)) X → (∀ x, X.fn x = true) → Takes X Wx → Po X → DSs g Wx w0 X (defBody (top 31)) f } :=
  ⟨_, fun g G k X Wx w0 B h__law_places h__law_draw h__law_pick h__law_sets c fa tk po =>
    (dss_cons (c.par2 (i := 4) (j := 5) (by kernel_rfl) (by kernel_rfl) (by kernel_rfl) (dxs_cons (by kernel_rfl) (dx_val (de_bin (dw_of c.int) (dw_of (c.call h__law_draw (by kernel_rfl) tk (by kernel_rfl) (da_cons (by kernel_rfl) (c.v 0 (by kernel_rfl)) (da_cons (by kernel_rfl) c.int da_nil)))) c.add)) (dxs_cons (by kernel_rfl) (dx_val (de_tup da_nil)) dxs_nil)) (by kernel_rfl) (by kernel_rfl))
    (dss_cons (ds_for po c.ok.calm (c.rng1 B (by kernel_rfl) (by kernel_rfl) (by kernel_rfl) (db_cons (by kernel_rfl) (dw_of (de_bin (dw_of c.int) (dw_of (c.call h__law_draw (by kernel_rfl) tk (by kernel_rfl) (da_cons (by kernel_rfl) (c.v 0 (by kernel_rfl)) (da_cons (by kernel_rfl) c.int da_nil)))) c.add)) db_nil)) (dg_name (c.pg fa 2 (by kernel_rfl))) (dss_one (c.set (i := 5) fa (by kernel_rfl) (by kernel_rfl) (dx_val (de_bin (c.vB 5 (by kernel_rfl)) (dw_of (de_tup (da_cons (by kernel_rfl) (de_tup (da_cons (by kernel_rfl) (c.call h__law_pick (by kernel_rfl) tk (by kernel_rfl) (da_cons (by kernel_rfl) (c.v 0 (by kernel_rfl)) (da_cons (by kernel_rfl) (c.call h__law_sets (by kernel_rfl) tk (by kernel_rfl) (da_cons (by kernel_rfl) (c.v 4 (by kernel_rfl)) da_nil)) da_nil))) (da_cons (by kernel_rfl) (c.call h__law_places (by kernel_rfl) tk (by kernel_rfl) (da_cons (by kernel_rfl) (c.v 0 (by kernel_rfl)) (da_cons (by kernel_rfl) (c.v 1 (by kernel_rfl)) da_nil))) da_nil))) da_nil))) c.add)))) (fun _ => (by kernel_rfl)))
    (dss_cons (ds_for po c.ok.calm (c.rng1 B (by kernel_rfl) (by kernel_rfl) (by kernel_rfl) (db_cons (by kernel_rfl) (c.vB 4 (by kernel_rfl)) db_nil)) (dg_name (c.pg fa 3 (by kernel_rfl))) (dss_one (ds_if (dt_cmp (dw_of (de_frz (c.compx [("_law_own", 6), ("_law_places_here", 7)] (di_comp c.ok.K (c.vB 5 (by kernel_rfl))) (by kernel_rfl) (fun X c cf => (c.tg (n := 2) (dgs_cons (dg_name (c.pgl 6 (by kernel_rfl))) (dgs_cons (dg_name (c.pgl 7 (by kernel_rfl))) dgs_nil (by kernel_rfl)) (by kernel_rfl)) (fun _ => (by kernel_rfl)) (fun _ => (by kernel_rfl)))) (fun X c => dts_one (dt_cmp (c.vB 3 (by kernel_rfl)) (c.vB 6 (by kernel_rfl)) c.isin (by kernel_rfl))) (fun X c => (c.v 6 (by kernel_rfl))) (by kernel_rfl) (fun _ _ => (by kernel_rfl))))) (dw_of (de_frz (dl_list da_nil))) c.eq (by kernel_rfl)) (dss_one (c.set (i := 5) fa (by kernel_rfl) (by kernel_rfl) (dx_val (de_bin (c.vB 5 (by kernel_rfl)) (dw_of (de_tup (da_cons (by kernel_rfl) (de_tup (da_cons (by kernel_rfl) (de_tup (da_cons (by kernel_rfl) (c.v 3 (by kernel_rfl)) da_nil)) (da_cons (by kernel_rfl) (c.call h__law_places (by kernel_rfl) tk (by kernel_rfl) (da_cons (by kernel_rfl) (c.v 0 (by kernel_rfl)) (da_cons (by kernel_rfl) (c.v 1 (by kernel_rfl)) da_nil))) da_nil))) da_nil))) c.add)))) dss_nil)) (fun _ => (by kernel_rfl)))
    (dss_one (ds_ret (de_tup (da_cons (by kernel_rfl) (c.v 4 (by kernel_rfl)) (da_cons (by kernel_rfl) (c.v 5 (by kernel_rfl)) da_nil))))))))⟩
noncomputable def s__law_house : List D → M D := bodyM 8 b__law_house.1

def N__law_bag : List PySem.Str := ["_law_script", "_law_cell", "_law_great", "_law_small"]
noncomputable def b__law_bag : { f : Ev → M Out // ∀ (g : Gc) (G : Ge) (k : Nat) (X : Cx) (Wx : WX) (w0 : Wd), Bts bnames G → Cn g G k N__law_bag (defScope (top 24)) X → (∀ x, X.fn x = true) → Takes X Wx → Po X → DSs g Wx w0 X (defBody (top 24)) f } :=
  ⟨_, fun g G k X Wx w0 B c fa tk po =>
    (dss_cons (c.par2 (i := 2) (j := 3) (by kernel_rfl) (by kernel_rfl) (by kernel_rfl) (dxs_cons (by kernel_rfl) (dx_val c.int) (dxs_cons (by kernel_rfl) (dx_val (de_bin (dw_of c.int) (dw_of (de_bin (dw_of c.int) (dw_of (c.bf B (by kernel_rfl) (by kernel_rfl) bb_len (isB _) (by kernel_rfl) c.s_len (by kernel_rfl) (db_cons (by kernel_rfl) (c.vB 0 (by kernel_rfl)) db_nil))) ops_mul)) c.add)) dxs_nil)) (by kernel_rfl) (by kernel_rfl))
    (dss_cons (ds_for po c.ok.calm (di_for c.ok.K (de_slice c.ok.K (c.vB 0 (by kernel_rfl)) do_none (do_some c.int))) (dg_name (c.pg fa 1 (by kernel_rfl))) (dss_one (ds_if (dt_cmp (c.vB 1 (by kernel_rfl)) (dw_of (de_bin (dw_of c.int) (dw_of c.int) ops_pow)) ops_ge (by kernel_rfl)) (dss_one (c.set (i := 2) fa (by kernel_rfl) (by kernel_rfl) (dx_val (de_bin (dw_of (de_bin (dw_of (de_bin (c.vB 2 (by kernel_rfl)) (dw_of c.int) ops_mul)) (c.vB 1 (by kernel_rfl)) c.add)) (dw_of (de_bin (dw_of c.int) (dw_of c.int) ops_pow)) ops_sub)))) (dss_cons (c.set (i := 3) fa (by kernel_rfl) (by kernel_rfl) (dx_val (de_bin (dw_of (de_bin (dw_of (de_bin (c.vB 3 (by kernel_rfl)) (dw_of c.int) ops_mul)) (dw_of (de_bin (dw_of c.int) (dw_of (c.bf B (by kernel_rfl) (by kernel_rfl) bb_abs (isB _) (by kernel_rfl) c.s_abs (by kernel_rfl) (db_cons (by kernel_rfl) (c.vB 1 (by kernel_rfl)) db_nil))) ops_mul)) c.add)) (dw_of (c.bf B (by kernel_rfl) (by kernel_rfl) bb_int (isT _) (by kernel_rfl) c.s_int (by kernel_rfl) (db_cons (by kernel_rfl) (dw_of (de_cmp (c.vB 1 (by kernel_rfl)) (dw_of c.int) ops_lt (by kernel_rfl))) db_nil))) c.add)))
    (dss_one (c.set (i := 3) fa (by kernel_rfl) (by kernel_rfl) (dx_val (de_bin (dw_of (c.bf B (by kernel_rfl) (by kernel_rfl) bb_int (isT _) (by kernel_rfl) c.s_int (by kernel_rfl) (db_cons (by kernel_rfl) (c.vB 3 (by kernel_rfl)) db_nil))) (dw_of c.int) ops_mod))))))) (fun _ => (by kernel_rfl)))
    (dss_one (ds_ret (de_mut (dl_list (da_cons (by kernel_rfl) (c.v 2 (by kernel_rfl)) (da_cons (by kernel_rfl) (c.v 3 (by kernel_rfl)) (da_cons (by kernel_rfl) c.int da_nil)))))))))⟩
noncomputable def s__law_bag : List D → M D := bodyM 4 b__law_bag.1

def N_is_integer : List PySem.Str := ["value", "low", "high"]
noncomputable def b_is_integer : { f : Ev → M Out // ∀ (g : Gc) (G : Ge) (k : Nat) (X : Cx) (Wx : WX) (w0 : Wd), Bts bnames G → Cn g G k N_is_integer (defScope (top 10)) X → (∀ x, X.fn x = true) → Takes X Wx → Po X → DSs g Wx w0 X (defBody (top 10)) f } :=
  ⟨_, fun g G k X Wx w0 B c fa tk po =>
    (dss_one (ds_ret (de_and (c.isi B (by kernel_rfl) (by kernel_rfl) (by kernel_rfl) (by kernel_rfl) bb_int (by kernel_rfl) (by kernel_rfl) (by kernel_rfl) (c.vB 0 (by kernel_rfl))) (de_and (de_not (c.isi B (by kernel_rfl) (by kernel_rfl) (by kernel_rfl) (by kernel_rfl) bb_bool (by kernel_rfl) (by kernel_rfl) (by kernel_rfl) (c.vB 0 (by kernel_rfl)))) (de_one (de_chain ops_le ops_le (c.vB 1 (by kernel_rfl)) (c.vB 0 (by kernel_rfl)) (c.vB 2 (by kernel_rfl)) (by kernel_rfl)))))))⟩
noncomputable def s_is_integer : List D → M D := bodyM 3 b_is_integer.1

def N_is_set : List PySem.Str := ["kinds", "value", "kind", "one", "other"]
noncomputable def b_is_set : { f : Ev → M Out // ∀ (g : Gc) (G : Ge) (k : Nat) (X : Cx) (Wx : WX) (w0 : Wd), Bts bnames G → Dfn g G k "is_integer" 3 s_is_integer → Cn g G k N_is_set (defScope (top 11)) X → (∀ x, X.fn x = true) → Takes X Wx → Po X → DSs g Wx w0 X (defBody (top 11)) f } :=
  ⟨_, fun g G k X Wx w0 B h_is_integer c fa tk po =>
    (dss_cons (ds_if (dt_of_w (dw_or (dt_not (dt_val (by kernel_rfl) (c.isi B (by kernel_rfl) (by kernel_rfl) (by kernel_rfl) (by kernel_rfl) bb_tuple (by kernel_rfl) (by kernel_rfl) (by kernel_rfl) (c.vB 1 (by kernel_rfl))))) (dw_or1 (dt_cmp (c.vB 1 (by kernel_rfl)) (dw_of (de_tup da_nil)) c.eq (by kernel_rfl))))) (dss_one (ds_ret c.bl)) dss_nil)
    (dss_cons (ds_if (dt_not (dt_val (by kernel_rfl) (c.bf B (by kernel_rfl) (by kernel_rfl) bb_all (isB _) (by kernel_rfl) c.s_all (by kernel_rfl) (db_cons (by kernel_rfl) (dw_of (de_frz (c.compx [("kind", 2)] (di_comp c.ok.K (c.vB 1 (by kernel_rfl))) (by kernel_rfl) (fun X c cf => (dg_name (c.pgl 2 (by kernel_rfl)))) (fun X c => dts_nil) (fun X c => (c.call h_is_integer (by kernel_rfl) takes_no (by kernel_rfl) (da_cons (by kernel_rfl) (c.v 2 (by kernel_rfl)) (da_cons (by kernel_rfl) c.int (da_cons (by kernel_rfl) (de_bin (c.vB 0 (by kernel_rfl)) (dw_of c.int) ops_sub) da_nil))))) (by kernel_rfl) (fun _ _ => (by kernel_rfl))))) db_nil)))) (dss_one (ds_ret c.bl)) dss_nil)
    (dss_one (ds_ret (c.bf B (by kernel_rfl) (by kernel_rfl) bb_all (isB _) (by kernel_rfl) c.s_all (by kernel_rfl) (db_cons (by kernel_rfl) (dw_of (de_frz (c.compx [("one", 3), ("other", 4)] (c.zpC B (by kernel_rfl) (by kernel_rfl) (by kernel_rfl) (by kernel_rfl) (da_cons (by kernel_rfl) (c.v 1 (by kernel_rfl)) (da_cons (by kernel_rfl) (de_slice c.ok.K (c.vB 1 (by kernel_rfl)) (do_some c.int) do_none) da_nil))) (by kernel_rfl) (fun X c cf => (c.tg (n := 2) (dgs_cons (dg_name (c.pgl 3 (by kernel_rfl))) (dgs_cons (dg_name (c.pgl 4 (by kernel_rfl))) dgs_nil (by kernel_rfl)) (by kernel_rfl)) (fun _ => (by kernel_rfl)) (fun _ => (by kernel_rfl)))) (fun X c => dts_nil) (fun X c => (de_cmp (c.vB 3 (by kernel_rfl)) (c.vB 4 (by kernel_rfl)) ops_lt (by kernel_rfl))) (by kernel_rfl) (fun _ _ => (by kernel_rfl))))) db_nil))))))⟩
noncomputable def s_is_set : List D → M D := bodyM 5 b_is_set.1

def N_pool_word : List PySem.Str := ["kinds", "value"]
noncomputable def b_pool_word : { f : Ev → M Out // ∀ (g : Gc) (G : Ge) (k : Nat) (X : Cx) (Wx : WX) (w0 : Wd), Bts bnames G → Con g G "MAX_PLACES" (.int 1000000000000000000000000000000) → Dfn g G k "is_integer" 3 s_is_integer → Dfn g G k "is_set" 2 s_is_set → Cn g G k N_pool_word (defScope (top 12)) X → (∀ x, X.fn x = true) → Takes X Wx → Po X → DSs g Wx w0 X (defBody (top 12)) f } :=
  ⟨_, fun g G k X Wx w0 B C_MAX_PLACES h_is_integer h_is_set c fa tk po =>
    (dss_cons (ds_if (dt_of_w (dw_or (dt_not (dt_val (by kernel_rfl) (c.isi B (by kernel_rfl) (by kernel_rfl) (by kernel_rfl) (by kernel_rfl) bb_tuple (by kernel_rfl) (by kernel_rfl) (by kernel_rfl) (c.vB 1 (by kernel_rfl))))) (dw_or1 (dt_cmp (dw_of (c.bf B (by kernel_rfl) (by kernel_rfl) bb_len (isB _) (by kernel_rfl) c.s_len (by kernel_rfl) (db_cons (by kernel_rfl) (c.vB 1 (by kernel_rfl)) db_nil))) (dw_of c.int) c.ne (by kernel_rfl))))) (dss_one (ds_ret c.str)) dss_nil)
    (dss_cons (ds_if (dt_not (dt_val (by kernel_rfl) (c.call h_is_set (by kernel_rfl) tk (by kernel_rfl) (da_cons (by kernel_rfl) (c.v 0 (by kernel_rfl)) (da_cons (by kernel_rfl) (c.sub (by kernel_rfl) (c.vB 1 (by kernel_rfl)) (dw_of c.int)) da_nil))))) (dss_one (ds_ret c.str)) dss_nil)
    (dss_one (ds_ret (de_if (dt_val (by kernel_rfl) (c.call h_is_integer (by kernel_rfl) tk (by kernel_rfl) (da_cons (by kernel_rfl) (c.sub (by kernel_rfl) (c.vB 1 (by kernel_rfl)) (dw_of c.int)) (da_cons (by kernel_rfl) c.int (da_cons (by kernel_rfl) (c.con C_MAX_PLACES (by kernel_rfl)) da_nil))))) c.non c.str)))))⟩
noncomputable def s_pool_word : List D → M D := bodyM 2 b_pool_word.1

def N_check_pools : List PySem.Str := ["kinds", "pools", "kind", "number", "pool", "word"]
noncomputable def b_check_pools : { f : Ev → M Out // ∀ (g : Gc) (G : Ge) (k : Nat) (X : Cx) (Wx : WX) (w0 : Wd), Bts bnames G → Con g G "MAX_PLACES" (.int 1000000000000000000000000000000) → Con g G "MAX_POOLS" (.int 15) → Con g G "MAX_KINDS" (.int 4) → Dfn g G k "pool_word" 2 s_pool_word → Dfn g G k "is_integer" 3 s_is_integer → Xmk g G k "BadHouse" 1 ["number", "word"] → Cn g G k N_check_pools (defScope (top 13)) X → (∀ x, X.fn x = true) → Takes X Wx → Po X → DSs g Wx w0 X (defBody (top 13)) f } :=
  ⟨_, fun g G k X Wx w0 B C_MAX_PLACES C_MAX_POOLS C_MAX_KINDS h_pool_word h_is_integer E_BadHouse c fa tk po =>
    (dss_cons (ds_if (dt_not (dt_val (by kernel_rfl) (c.call h_is_integer (by kernel_rfl) tk (by kernel_rfl) (da_cons (by kernel_rfl) (c.v 0 (by kernel_rfl)) (da_cons (by kernel_rfl) c.int (da_cons (by kernel_rfl) (c.con C_MAX_KINDS (by kernel_rfl)) da_nil)))))) (dss_one (c.raise E_BadHouse (by decide) (by kernel_rfl) tk (by kernel_rfl) (da_cons (by kernel_rfl) c.non (da_cons (by kernel_rfl) c.str da_nil)))) dss_nil)
    (dss_cons (ds_if (dt_of_w (dw_or (dt_not (dt_val (by kernel_rfl) (c.isi B (by kernel_rfl) (by kernel_rfl) (by kernel_rfl) (by kernel_rfl) bb_tuple (by kernel_rfl) (by kernel_rfl) (by kernel_rfl) (c.vB 1 (by kernel_rfl))))) (dw_or1 (dt_not (dt_chain ops_le ops_le (dw_of c.int) (dw_of (c.bf B (by kernel_rfl) (by kernel_rfl) bb_len (isB _) (by kernel_rfl) c.s_len (by kernel_rfl) (db_cons (by kernel_rfl) (c.vB 1 (by kernel_rfl)) db_nil))) (dw_of (c.con C_MAX_POOLS (by kernel_rfl))) (by kernel_rfl)))))) (dss_one (c.raise E_BadHouse (by decide) (by kernel_rfl) tk (by kernel_rfl) (da_cons (by kernel_rfl) c.non (da_cons (by kernel_rfl) c.str da_nil)))) dss_nil)
    (dss_cons (ds_for po c.ok.calm (c.enF B (by kernel_rfl) (by kernel_rfl) (by kernel_rfl) (da_cons (by kernel_rfl) (c.v 1 (by kernel_rfl)) da_nil)) (c.tg (n := 2) (dgs_cons (dg_name (c.pg fa 3 (by kernel_rfl))) (dgs_cons (dg_name (c.pg fa 4 (by kernel_rfl))) dgs_nil (by kernel_rfl)) (by kernel_rfl)) (fun _ => (by kernel_rfl)) (fun _ => (by kernel_rfl))) (dss_cons (c.set (i := 5) fa (by kernel_rfl) (by kernel_rfl) (dx_val (c.call h_pool_word (by kernel_rfl) tk (by kernel_rfl) (da_cons (by kernel_rfl) (c.v 0 (by kernel_rfl)) (da_cons (by kernel_rfl) (c.v 4 (by kernel_rfl)) da_nil)))))
    (dss_one (ds_if (dt_cmp (c.vB 5 (by kernel_rfl)) (dw_of c.non) ops_isnt (by kernel_rfl)) (dss_one (c.raise E_BadHouse (by decide) (by kernel_rfl) tk (by kernel_rfl) (da_cons (by kernel_rfl) (c.v 3 (by kernel_rfl)) (da_cons (by kernel_rfl) (c.v 5 (by kernel_rfl)) da_nil)))) dss_nil))) (fun _ => (by kernel_rfl)))
    (dss_cons (ds_if (dt_cmp (dw_of (c.bf B (by kernel_rfl) (by kernel_rfl) bb_sum (isB _) (by kernel_rfl) c.s_sum (by kernel_rfl) (db_cons (by kernel_rfl) (dw_of (de_frz (c.compx [("pool", 4)] (di_comp c.ok.K (c.vB 1 (by kernel_rfl))) (by kernel_rfl) (fun X c cf => (dg_name (c.pgl 4 (by kernel_rfl)))) (fun X c => dts_nil) (fun X c => (c.sub (by kernel_rfl) (c.vB 4 (by kernel_rfl)) (dw_of c.int))) (by kernel_rfl) (fun _ _ => (by kernel_rfl))))) db_nil))) (dw_of (c.con C_MAX_PLACES (by kernel_rfl))) ops_gt (by kernel_rfl)) (dss_one (c.raise E_BadHouse (by decide) (by kernel_rfl) tk (by kernel_rfl) (da_cons (by kernel_rfl) c.non (da_cons (by kernel_rfl) c.str da_nil)))) dss_nil)
    (dss_one (ds_for po c.ok.calm (c.rng1 B (by kernel_rfl) (by kernel_rfl) (by kernel_rfl) (db_cons (by kernel_rfl) (c.vB 0 (by kernel_rfl)) db_nil)) (dg_name (c.pg fa 2 (by kernel_rfl))) (dss_one (ds_if (dt_not (dt_val (by kernel_rfl) (c.bf B (by kernel_rfl) (by kernel_rfl) bb_any (isB _) (by kernel_rfl) c.s_any (by kernel_rfl) (db_cons (by kernel_rfl) (dw_of (de_frz (c.compx [("pool", 4)] (di_comp c.ok.K (c.vB 1 (by kernel_rfl))) (by kernel_rfl) (fun X c cf => (dg_name (c.pgl 4 (by kernel_rfl)))) (fun X c => dts_nil) (fun X c => (de_cmp (c.vB 2 (by kernel_rfl)) (dw_of (c.sub (by kernel_rfl) (c.vB 4 (by kernel_rfl)) (dw_of c.int))) c.isin (by kernel_rfl))) (by kernel_rfl) (fun _ _ => (by kernel_rfl))))) db_nil)))) (dss_one (c.raise E_BadHouse (by decide) (by kernel_rfl) tk (by kernel_rfl) (da_cons (by kernel_rfl) (c.v 2 (by kernel_rfl)) (da_cons (by kernel_rfl) c.str da_nil)))) dss_nil)) (fun _ => (by kernel_rfl))))))))⟩
noncomputable def s_check_pools : List D → M D := bodyM 6 b_check_pools.1

def N_House___init__ : List PySem.Str := ["self", "kinds", "pools"]
noncomputable def b_House___init__ : { f : Ev → List (PySem.Str × D) → FM // ∀ (g : Gc) (G : Ge) (k : Nat) (X : Cx) (Wx : WX) (w0 : Wd) (x dx : Addr), Bts bnames G → Dfn g G k "check_pools" 2 s_check_pools → Fld g 4 "row" → Fld g 4 "size" → Cn g G k N_House___init__ (defScope (mth (top 14) 0)) X → (∀ x, X.fn x = true) → Takes X Wx → Po X → PSs X (defBody (mth (top 14) 0)) (trI g 4 Wx w0 x dx f) } :=
  ⟨_, fun g G k X Wx w0 x dx B h_check_pools F_House_row F_House_size c fa tk po =>
    (dI_expr (by kernel_rfl) (c.call h_check_pools (by kernel_rfl) tk (by kernel_rfl) (da_cons (by kernel_rfl) (c.v 1 (by kernel_rfl)) (da_cons (by kernel_rfl) (c.v 2 (by kernel_rfl)) da_nil)))
    (c.ifld F_House_size (by kernel_rfl) (by kernel_rfl) (c.v 1 (by kernel_rfl))
    (c.ifld F_House_row (by kernel_rfl) (by kernel_rfl) (c.v 2 (by kernel_rfl))
    dI_nil)))⟩
noncomputable def i_House : List D → FM := initM 3 b_House___init__.1

def N_law : List PySem.Str := ["_law_script", "_law_bag_here", "_law_odd_here", "_law_turn", "_law_house_here", "_law_counts", "_law_text", "_law_again", "_law_value", "_law_kinds", "_law_pools", "_law_words_here", "_law_k"]
noncomputable def b_law : { f : Ev → M Out // ∀ (g : Gc) (G : Ge) (k : Nat) (X : Cx) (Wx : WX) (w0 : Wd), Bts bnames G → G.gr = true → Sy g.K → Dfn g G k "_law_odd" 1 s__law_odd → Dfn g G k "_law_told" 2 s__law_told → Dfn g G k "_law_due" 2 s__law_due → Dfn g G k "_law_blanks" 2 s__law_blanks → Dfn g G k "_law_spoilt" 3 s__law_spoilt → Dfn g G k "_law_words" 1 s__law_words → Dfn g G k "read_counts" 2 s_read_counts → Dfn g G k "counts_text" 1 s_counts_text → Dfn g G k "_law_counts_text" 1 s__law_counts_text → Dfn g G k "_law_far" 2 s__law_far → Dfn g G k "_law_pick" 2 s__law_pick → Dfn g G k "_law_house" 2 s__law_house → Dfn g G k "_law_bag" 1 s__law_bag → Mkr g G k "House" 4 2 i_House → Cn g G k N_law (defScope (top 39)) X → (∀ x, X.fn x = true) → Takes X Wx → Po X → DSs g Wx w0 X (defBody (top 39)) f } :=
  ⟨_, fun g G k X Wx w0 B hgr hY h__law_odd h__law_told h__law_due h__law_blanks h__law_spoilt h__law_words h_read_counts h_counts_text h__law_counts_text h__law_far h__law_pick h__law_house h__law_bag K_House c fa tk po =>
    (dss_cons (c.set (i := 1) fa (by kernel_rfl) (by kernel_rfl) (dx_val (c.call h__law_bag (by kernel_rfl) tk (by kernel_rfl) (da_cons (by kernel_rfl) (c.v 0 (by kernel_rfl)) da_nil))))
    (dss_cons (c.set (i := 2) fa (by kernel_rfl) (by kernel_rfl) (dx_val (de_frz (dl_list (da_cons (by kernel_rfl) c.str (da_cons (by kernel_rfl) c.str (da_cons (by kernel_rfl) c.str (da_cons (by kernel_rfl) c.str (da_cons (by kernel_rfl) c.str (da_cons (by kernel_rfl) c.str (da_cons (by kernel_rfl) c.str (da_cons (by kernel_rfl) c.str (da_cons (by kernel_rfl) c.str (da_cons (by kernel_rfl) c.str (da_cons (by kernel_rfl) c.str (da_cons (by kernel_rfl) c.str (da_cons (by kernel_rfl) c.str (da_cons (by kernel_rfl) c.str (da_cons (by kernel_rfl) c.str (da_cons (by kernel_rfl) c.str da_nil))))))))))))))))))))
    (dss_cons (c.set (i := 2) fa (by kernel_rfl) (by kernel_rfl) (dx_val (de_frz (dl_cat c.ok.K (c.vB 2 (by kernel_rfl)) (dw_of (de_frz (dl_list (da_cons (by kernel_rfl) (de_bin (dw_of c.str) (dw_of c.int) ops_mulS) (da_cons (by kernel_rfl) (de_bin (dw_of c.str) (dw_of c.int) ops_mulS) (da_cons (by kernel_rfl) (de_bin (dw_of c.str) (dw_of c.int) ops_mulS) (da_cons (by kernel_rfl) (de_bin (dw_of c.str) (dw_of (de_bin (dw_of c.str) (dw_of c.int) ops_mulS)) c.add) (da_cons (by kernel_rfl) (de_bin (dw_of c.str) (dw_of c.int) ops_mulS) da_nil))))))))))))
    (dss_cons (ds_for po c.ok.calm (c.rng1 B (by kernel_rfl) (by kernel_rfl) (by kernel_rfl) (db_cons (by kernel_rfl) (dw_of c.int) db_nil)) (dg_name (c.pg fa 3 (by kernel_rfl))) (dss_cons (ds_unp (by kernel_rfl) (c.call h__law_house (by kernel_rfl) tk (by kernel_rfl) (da_cons (by kernel_rfl) (c.v 1 (by kernel_rfl)) (da_cons (by kernel_rfl) c.bl da_nil))) (c.tg (n := 2) (dgs_cons (dg_name (c.pg fa 9 (by kernel_rfl))) (dgs_cons (dg_name (c.pg fa 10 (by kernel_rfl))) dgs_nil (by kernel_rfl)) (by kernel_rfl)) (fun _ => (by kernel_rfl)) (fun _ => (by kernel_rfl))))
    (dss_cons (c.set (i := 4) fa (by kernel_rfl) (by kernel_rfl) (dx_val (de_frzI (c.make K_House (by kernel_rfl) tk (by kernel_rfl) (da_cons (by kernel_rfl) (c.v 9 (by kernel_rfl)) (da_cons (by kernel_rfl) (c.v 10 (by kernel_rfl)) da_nil))))))
    (dss_cons (c.set (i := 5) fa (by kernel_rfl) (by kernel_rfl) (dx_val (c.bf B (by kernel_rfl) (by kernel_rfl) bb_tuple (isT _) (by kernel_rfl) c.s_tuple (by kernel_rfl) (db_cons (by kernel_rfl) (dw_of (de_frz (c.compx [("_law_k", 12)] (c.rng1 B (by kernel_rfl) (by kernel_rfl) (by kernel_rfl) (db_cons (by kernel_rfl) (c.vB 9 (by kernel_rfl)) db_nil)) (by kernel_rfl) (fun X c cf => (dg_name (c.pgl 12 (by kernel_rfl)))) (fun X c => dts_nil) (fun X c => (c.call h__law_far (by kernel_rfl) takes_no (by kernel_rfl) (da_cons (by kernel_rfl) (c.v 1 (by kernel_rfl)) (da_cons (by kernel_rfl) (c.call h__law_pick (by kernel_rfl) takes_no (by kernel_rfl) (da_cons (by kernel_rfl) (c.v 1 (by kernel_rfl)) (da_cons (by kernel_rfl) (de_frz (dl_list (da_cons (by kernel_rfl) c.int (da_cons (by kernel_rfl) c.int (da_cons (by kernel_rfl) (de_bin (dw_of c.int) (dw_of c.int) ops_pow) (da_cons (by kernel_rfl) (de_bin (dw_of c.int) (dw_of c.int) ops_pow) da_nil)))))) da_nil))) da_nil)))) (by kernel_rfl) (fun _ _ => (by kernel_rfl))))) db_nil))))
    (dss_cons (c.set (i := 6) fa (by kernel_rfl) (by kernel_rfl) (dx_val (c.call h__law_counts_text (by kernel_rfl) tk (by kernel_rfl) (da_cons (by kernel_rfl) (c.v 5 (by kernel_rfl)) da_nil))))
    (dss_cons (ds_if (dt_cmp (dw_of (c.bf B (by kernel_rfl) (by kernel_rfl) bb_repr (isB _) (by kernel_rfl) (c.s_reprD hgr hY) (by kernel_rfl) (db_cons (by kernel_rfl) (dw_of (de_frz (dl_list (da_cons (by kernel_rfl) (c.call h_counts_text (by kernel_rfl) tk (by kernel_rfl) (da_cons (by kernel_rfl) (c.v 5 (by kernel_rfl)) da_nil)) (da_cons (by kernel_rfl) (c.call h_read_counts (by kernel_rfl) tk (by kernel_rfl) (da_cons (by kernel_rfl) (c.v 4 (by kernel_rfl)) (da_cons (by kernel_rfl) (c.v 6 (by kernel_rfl)) da_nil))) da_nil))))) db_nil))) (dw_of (c.bf B (by kernel_rfl) (by kernel_rfl) bb_repr (isB _) (by kernel_rfl) (c.s_reprD hgr hY) (by kernel_rfl) (db_cons (by kernel_rfl) (dw_of (de_frz (dl_list (da_cons (by kernel_rfl) (c.v 6 (by kernel_rfl)) (da_cons (by kernel_rfl) (c.v 5 (by kernel_rfl)) da_nil))))) db_nil))) c.ne (by kernel_rfl)) (dss_one (ds_ret c.bl)) dss_nil)
    (dss_cons (ds_for po c.ok.calm (c.rng1 B (by kernel_rfl) (by kernel_rfl) (by kernel_rfl) (db_cons (by kernel_rfl) (dw_of c.int) db_nil)) (dg_name (c.pg fa 7 (by kernel_rfl))) (dss_cons (c.set (i := 11) fa (by kernel_rfl) (by kernel_rfl) (dx_val (c.call h__law_spoilt (by kernel_rfl) tk (by kernel_rfl) (da_cons (by kernel_rfl) (c.v 1 (by kernel_rfl)) (da_cons (by kernel_rfl) (c.call h__law_spoilt (by kernel_rfl) tk (by kernel_rfl) (da_cons (by kernel_rfl) (c.v 1 (by kernel_rfl)) (da_cons (by kernel_rfl) (c.call h__law_words (by kernel_rfl) tk (by kernel_rfl) (da_cons (by kernel_rfl) (c.v 6 (by kernel_rfl)) da_nil)) (da_cons (by kernel_rfl) (c.v 2 (by kernel_rfl)) da_nil)))) (da_cons (by kernel_rfl) (c.v 2 (by kernel_rfl)) da_nil))))))
    (dss_cons (c.set (i := 8) fa (by kernel_rfl) (by kernel_rfl) (dx_val (c.call h__law_blanks (by kernel_rfl) tk (by kernel_rfl) (da_cons (by kernel_rfl) (c.v 1 (by kernel_rfl)) (da_cons (by kernel_rfl) (c.v 11 (by kernel_rfl)) da_nil)))))
    (dss_one (ds_if (dt_cmp (dw_of (c.bf B (by kernel_rfl) (by kernel_rfl) bb_repr (isB _) (by kernel_rfl) (c.s_reprD hgr hY) (by kernel_rfl) (db_cons (by kernel_rfl) (dw_of (c.call h__law_told (by kernel_rfl) tk (by kernel_rfl) (da_cons (by kernel_rfl) (c.v 4 (by kernel_rfl)) (da_cons (by kernel_rfl) (c.v 8 (by kernel_rfl)) da_nil)))) db_nil))) (dw_of (c.bf B (by kernel_rfl) (by kernel_rfl) bb_repr (isB _) (by kernel_rfl) (c.s_reprD hgr hY) (by kernel_rfl) (db_cons (by kernel_rfl) (dw_of (c.call h__law_due (by kernel_rfl) tk (by kernel_rfl) (da_cons (by kernel_rfl) (c.v 9 (by kernel_rfl)) (da_cons (by kernel_rfl) (c.v 8 (by kernel_rfl)) da_nil)))) db_nil))) c.ne (by kernel_rfl)) (dss_one (ds_ret c.bl)) dss_nil)))) (fun _ => (by kernel_rfl)))
    (dss_one (ds_for po c.ok.calm (di_for c.ok.K (de_frz (dl_list (da_cons (by kernel_rfl) (c.call h__law_odd (by kernel_rfl) tk (by kernel_rfl) (da_cons (by kernel_rfl) (c.v 1 (by kernel_rfl)) da_nil)) (da_cons (by kernel_rfl) (c.v 5 (by kernel_rfl)) (da_cons (by kernel_rfl) (de_frz (c.bn B (by kernel_rfl) (by kernel_rfl) bb_list (isT _) (by kernel_rfl) c.n_list (by kernel_rfl) (db_cons (by kernel_rfl) (c.vB 5 (by kernel_rfl)) db_nil))) (da_cons (by kernel_rfl) (c.v 4 (by kernel_rfl)) (da_cons (by kernel_rfl) c.str (da_cons (by kernel_rfl) c.str (da_cons (by kernel_rfl) (de_bin (dw_of c.str) (c.vB 9 (by kernel_rfl)) ops_mulS) (da_cons (by kernel_rfl) (de_bin (dw_of c.str) (dw_of c.int) ops_mulS) (da_cons (by kernel_rfl) c.str (da_cons (by kernel_rfl) c.str da_nil))))))))))))) (dg_name (c.pg fa 8 (by kernel_rfl))) (dss_one (ds_if (dt_cmp (dw_of (c.bf B (by kernel_rfl) (by kernel_rfl) bb_repr (isB _) (by kernel_rfl) (c.s_reprD hgr hY) (by kernel_rfl) (db_cons (by kernel_rfl) (dw_of (c.call h__law_told (by kernel_rfl) tk (by kernel_rfl) (da_cons (by kernel_rfl) (c.v 4 (by kernel_rfl)) (da_cons (by kernel_rfl) (c.v 8 (by kernel_rfl)) da_nil)))) db_nil))) (dw_of (c.bf B (by kernel_rfl) (by kernel_rfl) bb_repr (isB _) (by kernel_rfl) (c.s_reprD hgr hY) (by kernel_rfl) (db_cons (by kernel_rfl) (dw_of (c.call h__law_due (by kernel_rfl) tk (by kernel_rfl) (da_cons (by kernel_rfl) (c.v 9 (by kernel_rfl)) (da_cons (by kernel_rfl) (c.v 8 (by kernel_rfl)) da_nil)))) db_nil))) c.ne (by kernel_rfl)) (dss_one (ds_ret c.bl)) dss_nil)) (fun _ => (by kernel_rfl)))))))))) (fun _ => (by kernel_rfl)))
    (dss_one (ds_ret c.bl))))))⟩
noncomputable def s_law : List D → M D := bodyM 13 b_law.1

def d0 : He.DefD := ⟨("_law_draw", none), "_law_draw", "_law_draw", (defArgs (top 25)), (defBody (top 25)), (defScope (top 25)), [], []⟩
def d1 : He.DefD := ⟨("_law_pick", none), "_law_pick", "_law_pick", (defArgs (top 26)), (defBody (top 26)), (defScope (top 26)), [], []⟩
def d2 : He.DefD := ⟨("_law_odd", none), "_law_odd", "_law_odd", (defArgs (top 28)), (defBody (top 28)), (defScope (top 28)), [], []⟩
def d3 : He.DefD := ⟨("are_figures", none), "are_figures", "are_figures", (defArgs (top 19)), (defBody (top 19)), (defScope (top 19)), [], []⟩
def d4 : He.DefD := ⟨("number_in", none), "number_in", "number_in", (defArgs (top 20)), (defBody (top 20)), (defScope (top 20)), [], []⟩
def d5 : He.DefD := ⟨("words_of", none), "words_of", "words_of", (defArgs (top 18)), (defBody (top 18)), (defScope (top 18)), [], []⟩
def d6 : He.DefD := ⟨("read_counts", none), "read_counts", "read_counts", (defArgs (top 22)), (defBody (top 22)), (defScope (top 22)), [], []⟩
def d7 : He.DefD := ⟨("_law_told", none), "_law_told", "_law_told", (defArgs (top 38)), (defBody (top 38)), (defScope (top 38)), [], []⟩
def d8 : He.DefD := ⟨("_law_is_number", none), "_law_is_number", "_law_is_number", (defArgs (top 33)), (defBody (top 33)), (defScope (top 33)), [], []⟩
def d9 : He.DefD := ⟨("_law_words", none), "_law_words", "_law_words", (defArgs (top 32)), (defBody (top 32)), (defScope (top 32)), [], []⟩
def d10 : He.DefD := ⟨("_law_due", none), "_law_due", "_law_due", (defArgs (top 37)), (defBody (top 37)), (defScope (top 37)), [], []⟩
def d11 : He.DefD := ⟨("_law_blanks", none), "_law_blanks", "_law_blanks", (defArgs (top 34)), (defBody (top 34)), (defScope (top 34)), [], []⟩
def d12 : He.DefD := ⟨("_law_spoilt", none), "_law_spoilt", "_law_spoilt", (defArgs (top 35)), (defBody (top 35)), (defScope (top 35)), [], []⟩
def d13 : He.DefD := ⟨("counts_text", none), "counts_text", "counts_text", (defArgs (top 21)), (defBody (top 21)), (defScope (top 21)), [], []⟩
def d14 : He.DefD := ⟨("_law_counts_text", none), "_law_counts_text", "_law_counts_text", (defArgs (top 36)), (defBody (top 36)), (defScope (top 36)), [], []⟩
def d15 : He.DefD := ⟨("_law_far", none), "_law_far", "_law_far", (defArgs (top 27)), (defBody (top 27)), (defScope (top 27)), [], []⟩
def d16 : He.DefD := ⟨("_law_places", none), "_law_places", "_law_places", (defArgs (top 30)), (defBody (top 30)), (defScope (top 30)), [], []⟩
def d17 : He.DefD := ⟨("_law_sets", none), "_law_sets", "_law_sets", (defArgs (top 29)), (defBody (top 29)), (defScope (top 29)), [], []⟩
def d18 : He.DefD := ⟨("_law_house", none), "_law_house", "_law_house", (defArgs (top 31)), (defBody (top 31)), (defScope (top 31)), [], []⟩
def d19 : He.DefD := ⟨("_law_bag", none), "_law_bag", "_law_bag", (defArgs (top 24)), (defBody (top 24)), (defScope (top 24)), [], []⟩
def d20 : He.DefD := ⟨("is_integer", none), "is_integer", "is_integer", (defArgs (top 10)), (defBody (top 10)), (defScope (top 10)), [], []⟩
def d21 : He.DefD := ⟨("is_set", none), "is_set", "is_set", (defArgs (top 11)), (defBody (top 11)), (defScope (top 11)), [], []⟩
def d22 : He.DefD := ⟨("pool_word", none), "pool_word", "pool_word", (defArgs (top 12)), (defBody (top 12)), (defScope (top 12)), [], []⟩
def d23 : He.DefD := ⟨("check_pools", none), "check_pools", "check_pools", (defArgs (top 13)), (defBody (top 13)), (defScope (top 13)), [], []⟩
def d24 : He.DefD := ⟨("House", some "__init__"), "__init__", "House.__init__", (defArgs (mth (top 14) 0)), (defBody (mth (top 14) 0)), (defScope (mth (top 14) 0)), [], []⟩
def d25 : He.DefD := ⟨("law", none), "law", "law", (defArgs (top 39)), (defBody (top 39)), (defScope (top 39)), [], []⟩
def d26 : He.DefD := ⟨("BadText", some "__init__"), "__init__", "BadText.__init__", (defArgs (mth (top 4) 0)), (defBody (mth (top 4) 0)), (defScope (mth (top 4) 0)), [], []⟩
def d27 : He.DefD := ⟨("BadHouse", some "__init__"), "__init__", "BadHouse.__init__", (defArgs (mth (top 3) 0)), (defBody (mth (top 3) 0)), (defScope (mth (top 3) 0)), [], []⟩
def p0 : PrD := ⟨"House", "kinds", ⟨("", none), "kinds", "House.kinds", (defArgs (mth (top 14) 1)), (defBody (mth (top 14) 1)), (defScope (mth (top 14) 1)), [], []⟩⟩
def fn : List He.DefD := [d0, d1, d2, d3, d4, d5, d6, d7, d8, d9, d10, d11, d12, d13, d14, d15, d16, d17, d18, d19, d20, d21, d22, d23, d24, d25, d26, d27]
def prs : List PrD := [p0]
def cnames : List PySem.Str := ["PoolError", "BadHouse", "BadText", "NoPool", "House"]
def fa : List He.Fa := [.glo "_law_draw", .glo "_law_pick", .glo "_law_odd", .glo "are_figures", .glo "number_in", .glo "words_of", .glo "read_counts", .glo "_law_told", .glo "_law_is_number", .glo "_law_words", .glo "_law_due", .glo "_law_blanks", .glo "_law_spoilt", .glo "counts_text", .glo "_law_counts_text", .glo "_law_far", .glo "_law_places", .glo "_law_sets", .glo "_law_house", .glo "_law_bag", .glo "is_integer", .glo "is_set", .glo "pool_word", .glo "check_pools", .glo "law", .free "abs", .free "all", .free "any", .free "bool", .free "enumerate", .free "int", .free "isinstance", .free "len", .free "list", .free "range", .free "repr", .free "sorted", .free "str", .free "sum", .free "tuple", .free "zip", .str "FIGURES" "0123456789", .int "MOST_FIGURES" (31), .int "MAX_PLACES" (1000000000000000000000000000000), .int "MAX_POOLS" (15), .int "MAX_KINDS" (4), .glo "House", .cls "House", .noat "House" "size", .noat "House" "row", .glo "BadHouse", .glo "BadText", .glo "NoPool", .glo "PoolError", .exm "BadHouse" "PoolError" true, .exm "BadText" "PoolError" true, .exm "NoPool" "PoolError" false, .noat "BadHouse" "number", .noat "BadHouse" "word", .noat "BadText" "number", .noat "NoPool" "number", .meth "BadText" "__init__", .meth "BadHouse" "__init__", .mkr "House"]
def loose : List PySem.Str := "_wall" :: "PoolError" :: "BadHouse" :: "BadText" :: "NoPool" :: "MAX_KINDS" :: "MAX_PLACES" :: "MAX_POOLS" :: "is_integer" :: "is_set" :: "pool_word" :: "check_pools" :: "House" :: "FIGURES" :: "MOST_FIGURES" :: "words_of" :: "are_figures" :: "number_in" :: "counts_text" :: "read_counts" :: "_law_bag" :: "_law_draw" :: "_law_pick" :: "_law_far" :: "_law_odd" :: "_law_sets" :: "_law_places" :: "_law_house" :: "_law_words" :: "_law_is_number" :: "_law_blanks" :: "_law_spoilt" :: "_law_counts_text" :: "_law_due" :: "_law_told" :: []
def exK : PySem.W.Frag → Bool := fun K => (iscB K (He.ga K "House") && (oexB K (He.ga K "BadText") && (oexB K (He.ga K "BadHouse") && (decide (PySem.W.kitOne K (.ref (He.ga K "House")) (.type "str") = some false) && (L2.xfB K (He.ga K "BadHouse") && (L2.xfB K (He.ga K "BadText") && (L2.xfB K (He.ga K "NoPool") && (exccB K (He.ga K "BadHouse") && (exccB K (He.ga K "BadText") && (exccB K (He.ga K "NoPool") && (decide (PySem.W.kitOne K (.ref (He.ga K "BadHouse")) (.ref (He.ga K "BadText")) = some false) && (decide (PySem.W.kitOne K (.ref (He.ga K "BadText")) (.ref (He.ga K "BadText")) = some true) && (decide (PySem.W.kitOne K (.ref (He.ga K "NoPool")) (.ref (He.ga K "BadText")) = some false) && true)))))))))))))
abbrev R : PySem.W.OpenRow := PySem.W.OpenLaw.row PySem.Challenge.rw_poolcounts_k36_texts_of_counts
abbrev hk : PySem.W.Hook := hookY 7 fa fn prs exK
def ob (s : PySem.W.SharedT) : AlY := obsY 7 fa fn prs exK (HandSHeadRun.getT s)
theorem ob_eq (s : PySem.W.SharedT) : ob s = hk.obs s.abs := obsY_eq (HandSHeadRun.getT_eq s)
theorem run (w : World) : HandSHeadRun.RunEq R (PySem.W.view R.prog [39]) hk ob 20000 loose w := by
  intro os
  kernel_rfl
def gcOf (K : PySem.W.Frag) : Gc := ⟨K, fun c => He.ga K (cnames.getD c "")⟩
theorem facts (P : Program) (w : World) (mg : PySem.Str → Option Value) {K : PySem.W.Frag} {h : Heap} {f : Addr} (X : K.In h) (G : h.Ns mainGlobals mg) (hf : mg ("law" : PySem.Str) = some (.ref f)) (cy : SaysY fa fn prs exK K) :
    ∃ fd : FuncData, (∀ (s : Shared) (v : Value), BindsTo s fd ⟨[v], []⟩ [("_law_script", v)]) ∧ ∀ base : Heap, FnG (gcOf K) P w mg base true 7 f fd ["_law_script"] s_law := by
  have c := cy.d
  obtain ⟨fd0, F0⟩ := c.def_ 0 (d := d0) rfl
  obtain ⟨fd1, F1⟩ := c.def_ 1 (d := d1) rfl
  obtain ⟨fd2, F2⟩ := c.def_ 2 (d := d2) rfl
  obtain ⟨fd3, F3⟩ := c.def_ 3 (d := d3) rfl
  obtain ⟨fd4, F4⟩ := c.def_ 4 (d := d4) rfl
  obtain ⟨fd5, F5⟩ := c.def_ 5 (d := d5) rfl
  obtain ⟨fd6, F6⟩ := c.def_ 6 (d := d6) rfl
  obtain ⟨fd7, F7⟩ := c.def_ 7 (d := d7) rfl
  obtain ⟨fd8, F8⟩ := c.def_ 8 (d := d8) rfl
  obtain ⟨fd9, F9⟩ := c.def_ 9 (d := d9) rfl
  obtain ⟨fd10, F10⟩ := c.def_ 10 (d := d10) rfl
  obtain ⟨fd11, F11⟩ := c.def_ 11 (d := d11) rfl
  obtain ⟨fd12, F12⟩ := c.def_ 12 (d := d12) rfl
  obtain ⟨fd13, F13⟩ := c.def_ 13 (d := d13) rfl
  obtain ⟨fd14, F14⟩ := c.def_ 14 (d := d14) rfl
  obtain ⟨fd15, F15⟩ := c.def_ 15 (d := d15) rfl
  obtain ⟨fd16, F16⟩ := c.def_ 16 (d := d16) rfl
  obtain ⟨fd17, F17⟩ := c.def_ 17 (d := d17) rfl
  obtain ⟨fd18, F18⟩ := c.def_ 18 (d := d18) rfl
  obtain ⟨fd19, F19⟩ := c.def_ 19 (d := d19) rfl
  obtain ⟨fd20, F20⟩ := c.def_ 20 (d := d20) rfl
  obtain ⟨fd21, F21⟩ := c.def_ 21 (d := d21) rfl
  obtain ⟨fd22, F22⟩ := c.def_ 22 (d := d22) rfl
  obtain ⟨fd23, F23⟩ := c.def_ 23 (d := d23) rfl
  obtain ⟨fd24, F24⟩ := c.def_ 24 (d := d24) rfl
  obtain ⟨fd25, F25⟩ := c.def_ 25 (d := d25) rfl
  obtain ⟨fd26, F26⟩ := c.def_ 26 (d := d26) rfl
  obtain ⟨fd27, F27⟩ := c.def_ 27 (d := d27) rfl
  obtain ⟨Q0, fp0, FP0⟩ := cy.prop 0 (p := p0) rfl
  have ef := hf.symm.trans (He.glo_ok X G (c.fact 24 (f := .glo "law") (by kernel_rfl)))
  cases ef
  have bA := FunD.bindsA (ps := ["_law_script"]) F25 fun _ _ _ _ _ _ us hl => match us, hl with | [_], _ => rfl
  refine ⟨fd25, fun s v => bA s [v] rfl, fun base => ?_⟩
  have B : Bts bnames ⟨P, w, mg, base, true⟩ := bts_all X G c 25 (by kernel_rfl)
  have BL : Bts bnames ⟨P, w, mg, base, false⟩ := B
  have hex0 := cy.ex
  unfold exK at hex0
  obtain ⟨ex_House, hex1⟩ := He.ba hex0
  obtain ⟨ex_o_BadText, hex2⟩ := He.ba hex1
  obtain ⟨ex_o_BadHouse, hex3⟩ := He.ba hex2
  obtain ⟨ex_q_House_str, hex4⟩ := He.ba hex3
  obtain ⟨ex_f_BadHouse, hex5⟩ := He.ba hex4
  obtain ⟨ex_f_BadText, hex6⟩ := He.ba hex5
  obtain ⟨ex_f_NoPool, hex7⟩ := He.ba hex6
  obtain ⟨ex_e_BadHouse, hex8⟩ := He.ba hex7
  obtain ⟨ex_e_BadText, hex9⟩ := He.ba hex8
  obtain ⟨ex_e_NoPool, hex10⟩ := He.ba hex9
  obtain ⟨ex_k_BadHouse_BadText, hex11⟩ := He.ba hex10
  obtain ⟨ex_k_BadText_BadText, hex12⟩ := He.ba hex11
  obtain ⟨ex_k_NoPool_BadText, hex13⟩ := He.ba hex12
  have C_FIGURES : Con (gcOf K) ⟨P, w, mg, base, true⟩ "FIGURES" (.str "0123456789") := by
    obtain ⟨t, e⟩ := He.str_ok X G (c.fact 41 (f := .str "FIGURES" "0123456789") (by kernel_rfl))
    exact con_str e
  have C_MOST_FIGURES : Con (gcOf K) ⟨P, w, mg, base, true⟩ "MOST_FIGURES" (.int 31) := by
    obtain ⟨t, e⟩ := He.int_ok X G (c.fact 42 (f := .int "MOST_FIGURES" (31)) (by kernel_rfl))
    exact con_int e
  have C_MAX_PLACES : Con (gcOf K) ⟨P, w, mg, base, true⟩ "MAX_PLACES" (.int 1000000000000000000000000000000) := by
    obtain ⟨t, e⟩ := He.int_ok X G (c.fact 43 (f := .int "MAX_PLACES" (1000000000000000000000000000000)) (by kernel_rfl))
    exact con_int e
  have C_MAX_POOLS : Con (gcOf K) ⟨P, w, mg, base, true⟩ "MAX_POOLS" (.int 15) := by
    obtain ⟨t, e⟩ := He.int_ok X G (c.fact 44 (f := .int "MAX_POOLS" (15)) (by kernel_rfl))
    exact con_int e
  have C_MAX_KINDS : Con (gcOf K) ⟨P, w, mg, base, true⟩ "MAX_KINDS" (.int 4) := by
    obtain ⟨t, e⟩ := He.int_ok X G (c.fact 45 (f := .int "MAX_KINDS" (4)) (by kernel_rfl))
    exact con_int e
  have Z_House : Cls (gcOf K).K ((gcOf K).cl 4) := He.cls_ok (c.fact 47 (f := .cls "House") (by kernel_rfl))
  have I_House : Isc (gcOf K) ⟨P, w, mg, base, true⟩ "House" 4 := ⟨Z_House, He.glo_ok X G (c.fact 46 (f := .glo "House") (by kernel_rfl)), ex_House⟩
  have F_House_size : Fld (gcOf K) 4 "size" := ⟨Z_House, He.noat_ok (c.fact 48 (f := .noat "House" "size") (by kernel_rfl))⟩
  have F_House_row : Fld (gcOf K) 4 "row" := ⟨Z_House, He.noat_ok (c.fact 49 (f := .noat "House" "row") (by kernel_rfl))⟩
  have E_BadText : Xmk (gcOf K) ⟨P, w, mg, base, true⟩ 2 "BadText" 2 ["number"] := xmk1_at (g := gcOf K) (k := 0) (s := "self") (y := "number") (f1 := "number") (p1 := ⟨15, 8, 15, 12⟩) (p2 := ⟨15, 8, 15, 19⟩) (p3 := ⟨15, 22, 15, 28⟩) (pos := ⟨15, 8, 15, 28⟩) (by kernel_rfl) F26 (oexB_ok ex_o_BadText) (He.meth_ok (c.fact 61 (f := .meth "BadText" "__init__") (by kernel_rfl))) (He.glo_ok X G (c.fact 51 (f := .glo "BadText") (by kernel_rfl))) (by kernel_rfl) (by kernel_rfl) (by kernel_rfl) (He.noat_ok (c.fact 59 (f := .noat "BadText" "number") (by kernel_rfl)))
    (F26.bindsN fun _ _ _ _ _ _ us hl => match us, hl with | [_, _], _ => rfl)
  have E_BadHouse : Xmk (gcOf K) ⟨P, w, mg, base, true⟩ 2 "BadHouse" 1 ["number", "word"] := xmk2_at (g := gcOf K) (k := 0) (s := "self") (y := "number") (z := "word") (f1 := "number") (f2 := "word") (p1 := ⟨10, 8, 10, 12⟩) (p2 := ⟨10, 8, 10, 19⟩) (p3 := ⟨10, 22, 10, 28⟩) (pos := ⟨10, 8, 10, 28⟩) (p4 := ⟨11, 8, 11, 12⟩) (p5 := ⟨11, 8, 11, 17⟩) (p6 := ⟨11, 20, 11, 24⟩) (pos2 := ⟨11, 8, 11, 24⟩) (by kernel_rfl) F27 (oexB_ok ex_o_BadHouse) (He.meth_ok (c.fact 62 (f := .meth "BadHouse" "__init__") (by kernel_rfl))) (He.glo_ok X G (c.fact 50 (f := .glo "BadHouse") (by kernel_rfl))) (by kernel_rfl) (by kernel_rfl) (by kernel_rfl) (by kernel_rfl) (He.noat_ok (c.fact 57 (f := .noat "BadHouse" "number") (by kernel_rfl))) (He.noat_ok (c.fact 58 (f := .noat "BadHouse" "word") (by kernel_rfl)))
    (F27.bindsN fun _ _ _ _ _ _ us hl => match us, hl with | [_, _, _], _ => rfl)
  have O_House_str : PySem.W.kitOne (gcOf K).K (.ref ((gcOf K).cl 4)) (.type "str") = some false := of_decide_eq_true ex_q_House_str
  have X_PoolError : Xcl (gcOf K) ⟨P, w, mg, base, true⟩ "PoolError" [(1, true), (2, true), (3, false)] := ⟨_, .inl (He.glo_ok X G (c.fact 53 (f := .glo "PoolError") (by kernel_rfl))), (tab_cons (He.exm_ok (c.fact 54 (f := .exm "BadHouse" "PoolError" true) (by kernel_rfl))) (tab_cons (He.exm_ok (c.fact 55 (f := .exm "BadText" "PoolError" true) (by kernel_rfl))) (tab_cons (He.exm_ok (c.fact 56 (f := .exm "NoPool" "PoolError" false) (by kernel_rfl))) tab_nil)))⟩
  have J_BadText : Xis (gcOf K) ⟨P, w, mg, base, true⟩ "BadText" [(1, false), (2, true), (3, false)] := ⟨.inl ⟨2, He.glo_ok X G (c.fact 51 (f := .glo "BadText") (by kernel_rfl)), (tab_cons ⟨exccB_ok ex_e_BadHouse, of_decide_eq_true ex_k_BadHouse_BadText⟩ (tab_cons ⟨exccB_ok ex_e_BadText, of_decide_eq_true ex_k_BadText_BadText⟩ (tab_cons ⟨exccB_ok ex_e_NoPool, of_decide_eq_true ex_k_NoPool_BadText⟩ tab_nil)))⟩⟩
  have V_number : Xfd (gcOf K) "number" [1, 2, 3] := ⟨(okT_cons ⟨L2.xfB_ok ex_f_BadHouse, He.noat_ok (c.fact 57 (f := .noat "BadHouse" "number") (by kernel_rfl))⟩ (okT_cons ⟨L2.xfB_ok ex_f_BadText, He.noat_ok (c.fact 59 (f := .noat "BadText" "number") (by kernel_rfl))⟩ (okT_cons ⟨L2.xfB_ok ex_f_NoPool, He.noat_ok (c.fact 60 (f := .noat "NoPool" "number") (by kernel_rfl))⟩ okT_nil)))⟩
  have D__law_drawl : Dfn (gcOf K) ⟨P, w, mg, base, false⟩ 1 "_law_draw" 2 s__law_draw := dfn_of (g := gcOf K) (G := ⟨P, w, mg, base, false⟩) (k := 0) (N := N__law_draw) (ps := ["_law_bag_here", "_law_limit"]) (fb := b__law_draw.1) F0 (by kernel_rfl) (He.glo_ok X G (c.fact 0 (f := .glo "_law_draw") (by kernel_rfl))) rfl rfl
    (F0.bindsN fun _ _ _ _ _ _ us hl => match us, hl with | [_, _], _ => rfl) fun X Wx w0 c fa tk po => b__law_draw.2 (gcOf K) ⟨P, w, mg, base, false⟩ 0 X Wx w0 BL c fa tk po
  have D__law_draw : Dfn (gcOf K) ⟨P, w, mg, base, true⟩ 1 "_law_draw" 2 s__law_draw := Dfn.up (G := ⟨P, w, mg, base, true⟩) D__law_drawl
  have D__law_pickl : Dfn (gcOf K) ⟨P, w, mg, base, false⟩ 2 "_law_pick" 2 s__law_pick := dfn_of (g := gcOf K) (G := ⟨P, w, mg, base, false⟩) (k := 1) (N := N__law_pick) (ps := ["_law_bag_here", "_law_row"]) (fb := b__law_pick.1) F1 (by kernel_rfl) (He.glo_ok X G (c.fact 1 (f := .glo "_law_pick") (by kernel_rfl))) rfl rfl
    (F1.bindsN fun _ _ _ _ _ _ us hl => match us, hl with | [_, _], _ => rfl) fun X Wx w0 c fa tk po => b__law_pick.2 (gcOf K) ⟨P, w, mg, base, false⟩ 1 X Wx w0 BL (D__law_drawl.mono (by decide)) c fa tk po
  have D__law_pick : Dfn (gcOf K) ⟨P, w, mg, base, true⟩ 2 "_law_pick" 2 s__law_pick := Dfn.up (G := ⟨P, w, mg, base, true⟩) D__law_pickl
  have D__law_oddl : Dfn (gcOf K) ⟨P, w, mg, base, false⟩ 3 "_law_odd" 1 s__law_odd := dfn_of (g := gcOf K) (G := ⟨P, w, mg, base, false⟩) (k := 2) (N := N__law_odd) (ps := ["_law_bag_here"]) (fb := b__law_odd.1) F2 (by kernel_rfl) (He.glo_ok X G (c.fact 2 (f := .glo "_law_odd") (by kernel_rfl))) rfl rfl
    (F2.bindsN fun _ _ _ _ _ _ us hl => match us, hl with | [_], _ => rfl) fun X Wx w0 c fa tk po => b__law_odd.2 (gcOf K) ⟨P, w, mg, base, false⟩ 2 X Wx w0 BL (D__law_pickl.mono (by decide)) c fa tk po
  have D__law_odd : Dfn (gcOf K) ⟨P, w, mg, base, true⟩ 3 "_law_odd" 1 s__law_odd := Dfn.up (G := ⟨P, w, mg, base, true⟩) D__law_oddl
  have D_are_figuresl : Dfn (gcOf K) ⟨P, w, mg, base, false⟩ 1 "are_figures" 1 s_are_figures := dfn_of (g := gcOf K) (G := ⟨P, w, mg, base, false⟩) (k := 0) (N := N_are_figures) (ps := ["word"]) (fb := b_are_figures.1) F3 (by kernel_rfl) (He.glo_ok X G (c.fact 3 (f := .glo "are_figures") (by kernel_rfl))) rfl rfl
    (F3.bindsN fun _ _ _ _ _ _ us hl => match us, hl with | [_], _ => rfl) fun X Wx w0 c fa tk po => b_are_figures.2 (gcOf K) ⟨P, w, mg, base, false⟩ 0 X Wx w0 BL (con_lo C_FIGURES) c fa tk po
  have D_are_figures : Dfn (gcOf K) ⟨P, w, mg, base, true⟩ 1 "are_figures" 1 s_are_figures := Dfn.up (G := ⟨P, w, mg, base, true⟩) D_are_figuresl
  have D_number_inl : Dfn (gcOf K) ⟨P, w, mg, base, false⟩ 2 "number_in" 1 s_number_in := dfn_of (g := gcOf K) (G := ⟨P, w, mg, base, false⟩) (k := 1) (N := N_number_in) (ps := ["word"]) (fb := b_number_in.1) F4 (by kernel_rfl) (He.glo_ok X G (c.fact 4 (f := .glo "number_in") (by kernel_rfl))) rfl rfl
    (F4.bindsN fun _ _ _ _ _ _ us hl => match us, hl with | [_], _ => rfl) fun X Wx w0 c fa tk po => b_number_in.2 (gcOf K) ⟨P, w, mg, base, false⟩ 1 X Wx w0 BL (con_lo C_MOST_FIGURES) (D_are_figuresl.mono (by decide)) c fa tk po
  have D_number_in : Dfn (gcOf K) ⟨P, w, mg, base, true⟩ 2 "number_in" 1 s_number_in := Dfn.up (G := ⟨P, w, mg, base, true⟩) D_number_inl
  have D_words_ofl : Dfn (gcOf K) ⟨P, w, mg, base, false⟩ 1 "words_of" 1 s_words_of := dfn_of (g := gcOf K) (G := ⟨P, w, mg, base, false⟩) (k := 0) (N := N_words_of) (ps := ["text"]) (fb := b_words_of.1) F5 (by kernel_rfl) (He.glo_ok X G (c.fact 5 (f := .glo "words_of") (by kernel_rfl))) rfl rfl
    (F5.bindsN fun _ _ _ _ _ _ us hl => match us, hl with | [_], _ => rfl) fun X Wx w0 c fa tk po => b_words_of.2 (gcOf K) ⟨P, w, mg, base, false⟩ 0 X Wx w0 BL c fa tk po
  have D_words_of : Dfn (gcOf K) ⟨P, w, mg, base, true⟩ 1 "words_of" 1 s_words_of := Dfn.up (G := ⟨P, w, mg, base, true⟩) D_words_ofl
  have P_House_kinds : Prp (gcOf K) ⟨P, w, mg, base, true⟩ 2 4 "kinds" s_House_kinds := prp_of (g := gcOf K) (G := ⟨P, w, mg, base, true⟩) (k := 0) (N := N_House_kinds) (ps := ["self"]) (fb := b_House_kinds.1) FP0 Z_House Q0 (by kernel_rfl) rfl rfl
    (FP0.bindsN fun _ _ _ _ _ _ us hl => match us, hl with | [_], _ => rfl) fun X Wx w0 c fa tk po => b_House_kinds.2 (gcOf K) ⟨P, w, mg, base, false⟩ 0 X Wx w0 BL F_House_size c fa tk po
  have D_read_countsl : Dfn (gcOf K) ⟨P, w, mg, base, false⟩ 3 "read_counts" 2 s_read_counts := dfn_of (g := gcOf K) (G := ⟨P, w, mg, base, false⟩) (k := 2) (N := N_read_counts) (ps := ["house", "value"]) (fb := b_read_counts.1) F6 (by kernel_rfl) (He.glo_ok X G (c.fact 6 (f := .glo "read_counts") (by kernel_rfl))) rfl rfl
    (F6.bindsN fun _ _ _ _ _ _ us hl => match us, hl with | [_, _], _ => rfl) fun X Wx w0 c fa tk po => b_read_counts.2 (gcOf K) ⟨P, w, mg, base, false⟩ 2 X Wx w0 BL (D_number_inl.mono (by decide)) (D_words_ofl.mono (by decide)) (P_House_kinds.lo.mono (by decide)) (E_BadText.lo.mono (by decide)) I_House.lo O_House_str c fa tk po
  have D_read_counts : Dfn (gcOf K) ⟨P, w, mg, base, true⟩ 3 "read_counts" 2 s_read_counts := Dfn.up (G := ⟨P, w, mg, base, true⟩) D_read_countsl
  have D__law_toldl : Dfn (gcOf K) ⟨P, w, mg, base, false⟩ 4 "_law_told" 2 s__law_told := dfn_of (g := gcOf K) (G := ⟨P, w, mg, base, false⟩) (k := 3) (N := N__law_told) (ps := ["_law_house_here", "_law_value"]) (fb := b__law_told.1) F7 (by kernel_rfl) (He.glo_ok X G (c.fact 7 (f := .glo "_law_told") (by kernel_rfl))) rfl rfl
    (F7.bindsN fun _ _ _ _ _ _ us hl => match us, hl with | [_, _], _ => rfl) fun X Wx w0 c fa tk po => b__law_told.2 (gcOf K) ⟨P, w, mg, base, false⟩ 3 X Wx w0 BL (D_read_countsl.mono (by decide)) X_PoolError.lo J_BadText.lo V_number c fa tk po
  have D__law_told : Dfn (gcOf K) ⟨P, w, mg, base, true⟩ 4 "_law_told" 2 s__law_told := Dfn.up (G := ⟨P, w, mg, base, true⟩) D__law_toldl
  have D__law_is_numberl : Dfn (gcOf K) ⟨P, w, mg, base, false⟩ 1 "_law_is_number" 1 s__law_is_number := dfn_of (g := gcOf K) (G := ⟨P, w, mg, base, false⟩) (k := 0) (N := N__law_is_number) (ps := ["_law_word"]) (fb := b__law_is_number.1) F8 (by kernel_rfl) (He.glo_ok X G (c.fact 8 (f := .glo "_law_is_number") (by kernel_rfl))) rfl rfl
    (F8.bindsN fun _ _ _ _ _ _ us hl => match us, hl with | [_], _ => rfl) fun X Wx w0 c fa tk po => b__law_is_number.2 (gcOf K) ⟨P, w, mg, base, false⟩ 0 X Wx w0 BL c fa tk po
  have D__law_is_number : Dfn (gcOf K) ⟨P, w, mg, base, true⟩ 1 "_law_is_number" 1 s__law_is_number := Dfn.up (G := ⟨P, w, mg, base, true⟩) D__law_is_numberl
  have D__law_wordsl : Dfn (gcOf K) ⟨P, w, mg, base, false⟩ 1 "_law_words" 1 s__law_words := dfn_of (g := gcOf K) (G := ⟨P, w, mg, base, false⟩) (k := 0) (N := N__law_words) (ps := ["_law_line"]) (fb := b__law_words.1) F9 (by kernel_rfl) (He.glo_ok X G (c.fact 9 (f := .glo "_law_words") (by kernel_rfl))) rfl rfl
    (F9.bindsN fun _ _ _ _ _ _ us hl => match us, hl with | [_], _ => rfl) fun X Wx w0 c fa tk po => b__law_words.2 (gcOf K) ⟨P, w, mg, base, false⟩ 0 X Wx w0 BL c fa tk po
  have D__law_words : Dfn (gcOf K) ⟨P, w, mg, base, true⟩ 1 "_law_words" 1 s__law_words := Dfn.up (G := ⟨P, w, mg, base, true⟩) D__law_wordsl
  have D__law_duel : Dfn (gcOf K) ⟨P, w, mg, base, false⟩ 2 "_law_due" 2 s__law_due := dfn_of (g := gcOf K) (G := ⟨P, w, mg, base, false⟩) (k := 1) (N := N__law_due) (ps := ["_law_kinds", "_law_value"]) (fb := b__law_due.1) F10 (by kernel_rfl) (He.glo_ok X G (c.fact 10 (f := .glo "_law_due") (by kernel_rfl))) rfl rfl
    (F10.bindsN fun _ _ _ _ _ _ us hl => match us, hl with | [_, _], _ => rfl) fun X Wx w0 c fa tk po => b__law_due.2 (gcOf K) ⟨P, w, mg, base, false⟩ 1 X Wx w0 BL (D__law_is_numberl.mono (by decide)) (D__law_wordsl.mono (by decide)) I_House.lo O_House_str c fa tk po
  have D__law_due : Dfn (gcOf K) ⟨P, w, mg, base, true⟩ 2 "_law_due" 2 s__law_due := Dfn.up (G := ⟨P, w, mg, base, true⟩) D__law_duel
  have D__law_blanksl : Dfn (gcOf K) ⟨P, w, mg, base, false⟩ 3 "_law_blanks" 2 s__law_blanks := dfn_of (g := gcOf K) (G := ⟨P, w, mg, base, false⟩) (k := 2) (N := N__law_blanks) (ps := ["_law_bag_here", "_law_words_here"]) (fb := b__law_blanks.1) F11 (by kernel_rfl) (He.glo_ok X G (c.fact 11 (f := .glo "_law_blanks") (by kernel_rfl))) rfl rfl
    (F11.bindsN fun _ _ _ _ _ _ us hl => match us, hl with | [_, _], _ => rfl) fun X Wx w0 c fa tk po => b__law_blanks.2 (gcOf K) ⟨P, w, mg, base, false⟩ 2 X Wx w0 BL (D__law_pickl.mono (by decide)) c fa tk po
  have D__law_blanks : Dfn (gcOf K) ⟨P, w, mg, base, true⟩ 3 "_law_blanks" 2 s__law_blanks := Dfn.up (G := ⟨P, w, mg, base, true⟩) D__law_blanksl
  have D__law_spoiltl : Dfn (gcOf K) ⟨P, w, mg, base, false⟩ 3 "_law_spoilt" 3 s__law_spoilt := dfn_of (g := gcOf K) (G := ⟨P, w, mg, base, false⟩) (k := 2) (N := N__law_spoilt) (ps := ["_law_bag_here", "_law_words_here", "_law_odd_here"]) (fb := b__law_spoilt.1) F12 (by kernel_rfl) (He.glo_ok X G (c.fact 12 (f := .glo "_law_spoilt") (by kernel_rfl))) rfl rfl
    (F12.bindsN fun _ _ _ _ _ _ us hl => match us, hl with | [_, _, _], _ => rfl) fun X Wx w0 c fa tk po => b__law_spoilt.2 (gcOf K) ⟨P, w, mg, base, false⟩ 2 X Wx w0 BL (D__law_pickl.mono (by decide)) (D__law_drawl.mono (by decide)) c fa tk po
  have D__law_spoilt : Dfn (gcOf K) ⟨P, w, mg, base, true⟩ 3 "_law_spoilt" 3 s__law_spoilt := Dfn.up (G := ⟨P, w, mg, base, true⟩) D__law_spoiltl
  have D_counts_textl : Dfn (gcOf K) ⟨P, w, mg, base, false⟩ 1 "counts_text" 1 s_counts_text := dfn_of (g := gcOf K) (G := ⟨P, w, mg, base, false⟩) (k := 0) (N := N_counts_text) (ps := ["counts"]) (fb := b_counts_text.1) F13 (by kernel_rfl) (He.glo_ok X G (c.fact 13 (f := .glo "counts_text") (by kernel_rfl))) rfl rfl
    (F13.bindsN fun _ _ _ _ _ _ us hl => match us, hl with | [_], _ => rfl) fun X Wx w0 c fa tk po => b_counts_text.2 (gcOf K) ⟨P, w, mg, base, false⟩ 0 X Wx w0 BL c fa tk po
  have D_counts_text : Dfn (gcOf K) ⟨P, w, mg, base, true⟩ 1 "counts_text" 1 s_counts_text := Dfn.up (G := ⟨P, w, mg, base, true⟩) D_counts_textl
  have D__law_counts_textl : Dfn (gcOf K) ⟨P, w, mg, base, false⟩ 1 "_law_counts_text" 1 s__law_counts_text := dfn_of (g := gcOf K) (G := ⟨P, w, mg, base, false⟩) (k := 0) (N := N__law_counts_text) (ps := ["_law_counts"]) (fb := b__law_counts_text.1) F14 (by kernel_rfl) (He.glo_ok X G (c.fact 14 (f := .glo "_law_counts_text") (by kernel_rfl))) rfl rfl
    (F14.bindsN fun _ _ _ _ _ _ us hl => match us, hl with | [_], _ => rfl) fun X Wx w0 c fa tk po => b__law_counts_text.2 (gcOf K) ⟨P, w, mg, base, false⟩ 0 X Wx w0 BL c fa tk po
  have D__law_counts_text : Dfn (gcOf K) ⟨P, w, mg, base, true⟩ 1 "_law_counts_text" 1 s__law_counts_text := Dfn.up (G := ⟨P, w, mg, base, true⟩) D__law_counts_textl
  have D__law_farl : Dfn (gcOf K) ⟨P, w, mg, base, false⟩ 2 "_law_far" 2 s__law_far := dfn_of (g := gcOf K) (G := ⟨P, w, mg, base, false⟩) (k := 1) (N := N__law_far) (ps := ["_law_bag_here", "_law_limit"]) (fb := b__law_far.1) F15 (by kernel_rfl) (He.glo_ok X G (c.fact 15 (f := .glo "_law_far") (by kernel_rfl))) rfl rfl
    (F15.bindsN fun _ _ _ _ _ _ us hl => match us, hl with | [_, _], _ => rfl) fun X Wx w0 c fa tk po => b__law_far.2 (gcOf K) ⟨P, w, mg, base, false⟩ 1 X Wx w0 BL (D__law_drawl.mono (by decide)) c fa tk po
  have D__law_far : Dfn (gcOf K) ⟨P, w, mg, base, true⟩ 2 "_law_far" 2 s__law_far := Dfn.up (G := ⟨P, w, mg, base, true⟩) D__law_farl
  have D__law_placesl : Dfn (gcOf K) ⟨P, w, mg, base, false⟩ 3 "_law_places" 2 s__law_places := dfn_of (g := gcOf K) (G := ⟨P, w, mg, base, false⟩) (k := 2) (N := N__law_places) (ps := ["_law_bag_here", "_law_great"]) (fb := b__law_places.1) F16 (by kernel_rfl) (He.glo_ok X G (c.fact 16 (f := .glo "_law_places") (by kernel_rfl))) rfl rfl
    (F16.bindsN fun _ _ _ _ _ _ us hl => match us, hl with | [_, _], _ => rfl) fun X Wx w0 c fa tk po => b__law_places.2 (gcOf K) ⟨P, w, mg, base, false⟩ 2 X Wx w0 BL (D__law_drawl.mono (by decide)) (D__law_farl.mono (by decide)) (D__law_pickl.mono (by decide)) c fa tk po
  have D__law_places : Dfn (gcOf K) ⟨P, w, mg, base, true⟩ 3 "_law_places" 2 s__law_places := Dfn.up (G := ⟨P, w, mg, base, true⟩) D__law_placesl
  have D__law_setsl : Dfn (gcOf K) ⟨P, w, mg, base, false⟩ 1 "_law_sets" 1 s__law_sets := dfn_of (g := gcOf K) (G := ⟨P, w, mg, base, false⟩) (k := 0) (N := N__law_sets) (ps := ["_law_kinds"]) (fb := b__law_sets.1) F17 (by kernel_rfl) (He.glo_ok X G (c.fact 17 (f := .glo "_law_sets") (by kernel_rfl))) rfl rfl
    (F17.bindsN fun _ _ _ _ _ _ us hl => match us, hl with | [_], _ => rfl) fun X Wx w0 c fa tk po => b__law_sets.2 (gcOf K) ⟨P, w, mg, base, false⟩ 0 X Wx w0 BL c fa tk po
  have D__law_sets : Dfn (gcOf K) ⟨P, w, mg, base, true⟩ 1 "_law_sets" 1 s__law_sets := Dfn.up (G := ⟨P, w, mg, base, true⟩) D__law_setsl
  have D__law_housel : Dfn (gcOf K) ⟨P, w, mg, base, false⟩ 4 "_law_house" 2 s__law_house := dfn_of (g := gcOf K) (G := ⟨P, w, mg, base, false⟩) (k := 3) (N := N__law_house) (ps := ["_law_bag_here", "_law_great"]) (fb := b__law_house.1) F18 (by kernel_rfl) (He.glo_ok X G (c.fact 18 (f := .glo "_law_house") (by kernel_rfl))) rfl rfl
    (F18.bindsN fun _ _ _ _ _ _ us hl => match us, hl with | [_, _], _ => rfl) fun X Wx w0 c fa tk po => b__law_house.2 (gcOf K) ⟨P, w, mg, base, false⟩ 3 X Wx w0 BL (D__law_placesl.mono (by decide)) (D__law_drawl.mono (by decide)) (D__law_pickl.mono (by decide)) (D__law_setsl.mono (by decide)) c fa tk po
  have D__law_house : Dfn (gcOf K) ⟨P, w, mg, base, true⟩ 4 "_law_house" 2 s__law_house := Dfn.up (G := ⟨P, w, mg, base, true⟩) D__law_housel
  have D__law_bagl : Dfn (gcOf K) ⟨P, w, mg, base, false⟩ 1 "_law_bag" 1 s__law_bag := dfn_of (g := gcOf K) (G := ⟨P, w, mg, base, false⟩) (k := 0) (N := N__law_bag) (ps := ["_law_script"]) (fb := b__law_bag.1) F19 (by kernel_rfl) (He.glo_ok X G (c.fact 19 (f := .glo "_law_bag") (by kernel_rfl))) rfl rfl
    (F19.bindsN fun _ _ _ _ _ _ us hl => match us, hl with | [_], _ => rfl) fun X Wx w0 c fa tk po => b__law_bag.2 (gcOf K) ⟨P, w, mg, base, false⟩ 0 X Wx w0 BL c fa tk po
  have D__law_bag : Dfn (gcOf K) ⟨P, w, mg, base, true⟩ 1 "_law_bag" 1 s__law_bag := Dfn.up (G := ⟨P, w, mg, base, true⟩) D__law_bagl
  have D_is_integerl : Dfn (gcOf K) ⟨P, w, mg, base, false⟩ 1 "is_integer" 3 s_is_integer := dfn_of (g := gcOf K) (G := ⟨P, w, mg, base, false⟩) (k := 0) (N := N_is_integer) (ps := ["value", "low", "high"]) (fb := b_is_integer.1) F20 (by kernel_rfl) (He.glo_ok X G (c.fact 20 (f := .glo "is_integer") (by kernel_rfl))) rfl rfl
    (F20.bindsN fun _ _ _ _ _ _ us hl => match us, hl with | [_, _, _], _ => rfl) fun X Wx w0 c fa tk po => b_is_integer.2 (gcOf K) ⟨P, w, mg, base, false⟩ 0 X Wx w0 BL c fa tk po
  have D_is_integer : Dfn (gcOf K) ⟨P, w, mg, base, true⟩ 1 "is_integer" 3 s_is_integer := Dfn.up (G := ⟨P, w, mg, base, true⟩) D_is_integerl
  have D_is_setl : Dfn (gcOf K) ⟨P, w, mg, base, false⟩ 2 "is_set" 2 s_is_set := dfn_of (g := gcOf K) (G := ⟨P, w, mg, base, false⟩) (k := 1) (N := N_is_set) (ps := ["kinds", "value"]) (fb := b_is_set.1) F21 (by kernel_rfl) (He.glo_ok X G (c.fact 21 (f := .glo "is_set") (by kernel_rfl))) rfl rfl
    (F21.bindsN fun _ _ _ _ _ _ us hl => match us, hl with | [_, _], _ => rfl) fun X Wx w0 c fa tk po => b_is_set.2 (gcOf K) ⟨P, w, mg, base, false⟩ 1 X Wx w0 BL (D_is_integerl.mono (by decide)) c fa tk po
  have D_is_set : Dfn (gcOf K) ⟨P, w, mg, base, true⟩ 2 "is_set" 2 s_is_set := Dfn.up (G := ⟨P, w, mg, base, true⟩) D_is_setl
  have D_pool_wordl : Dfn (gcOf K) ⟨P, w, mg, base, false⟩ 3 "pool_word" 2 s_pool_word := dfn_of (g := gcOf K) (G := ⟨P, w, mg, base, false⟩) (k := 2) (N := N_pool_word) (ps := ["kinds", "value"]) (fb := b_pool_word.1) F22 (by kernel_rfl) (He.glo_ok X G (c.fact 22 (f := .glo "pool_word") (by kernel_rfl))) rfl rfl
    (F22.bindsN fun _ _ _ _ _ _ us hl => match us, hl with | [_, _], _ => rfl) fun X Wx w0 c fa tk po => b_pool_word.2 (gcOf K) ⟨P, w, mg, base, false⟩ 2 X Wx w0 BL (con_lo C_MAX_PLACES) (D_is_integerl.mono (by decide)) (D_is_setl.mono (by decide)) c fa tk po
  have D_pool_word : Dfn (gcOf K) ⟨P, w, mg, base, true⟩ 3 "pool_word" 2 s_pool_word := Dfn.up (G := ⟨P, w, mg, base, true⟩) D_pool_wordl
  have D_check_poolsl : Dfn (gcOf K) ⟨P, w, mg, base, false⟩ 4 "check_pools" 2 s_check_pools := dfn_of (g := gcOf K) (G := ⟨P, w, mg, base, false⟩) (k := 3) (N := N_check_pools) (ps := ["kinds", "pools"]) (fb := b_check_pools.1) F23 (by kernel_rfl) (He.glo_ok X G (c.fact 23 (f := .glo "check_pools") (by kernel_rfl))) rfl rfl
    (F23.bindsN fun _ _ _ _ _ _ us hl => match us, hl with | [_, _], _ => rfl) fun X Wx w0 c fa tk po => b_check_pools.2 (gcOf K) ⟨P, w, mg, base, false⟩ 3 X Wx w0 BL (con_lo C_MAX_PLACES) (con_lo C_MAX_POOLS) (con_lo C_MAX_KINDS) (D_pool_wordl.mono (by decide)) (D_is_integerl.mono (by decide)) (E_BadHouse.lo.mono (by decide)) c fa tk po
  have D_check_pools : Dfn (gcOf K) ⟨P, w, mg, base, true⟩ 4 "check_pools" 2 s_check_pools := Dfn.up (G := ⟨P, w, mg, base, true⟩) D_check_poolsl
  have K_House : Mkr (gcOf K) ⟨P, w, mg, base, true⟩ 6 "House" 4 2 i_House := mkr_of (g := gcOf K) (G := ⟨P, w, mg, base, true⟩) (k := 4) (N := N_House___init__) (ps := ["self", "kinds", "pools"]) (fb := b_House___init__.1) F24 (He.mkr_ok (c.fact 63 (f := .mkr "House") (by kernel_rfl))) (He.glo_ok X G (c.fact 46 (f := .glo "House") (by kernel_rfl))) (by kernel_rfl) (by decide) rfl rfl
    (F24.bindsN fun _ _ _ _ _ _ us hl => match us, hl with | [_, _, _], _ => rfl) fun X Wx w0 x dx c fa tk po => b_House___init__.2 (gcOf K) ⟨P, w, mg, base, false⟩ 4 X Wx w0 x dx BL (D_check_poolsl.mono (by decide)) F_House_row F_House_size c fa tk po
  exact fnG_def (g := gcOf K) (G := ⟨P, w, mg, base, true⟩) (k := 6) (N := N_law) (ps := ["_law_script"]) F25 (by kernel_rfl) fun X Wx w0 c fa tk po => b_law.2 (gcOf K) ⟨P, w, mg, base, true⟩ 6 X Wx w0 B rfl cy.sy (D__law_odd.mono (by decide)) (D__law_told.mono (by decide)) (D__law_due.mono (by decide)) (D__law_blanks.mono (by decide)) (D__law_spoilt.mono (by decide)) (D__law_words.mono (by decide)) (D_read_counts.mono (by decide)) (D_counts_text.mono (by decide)) (D__law_counts_text.mono (by decide)) (D__law_far.mono (by decide)) (D__law_pick.mono (by decide)) (D__law_house.mono (by decide)) (D__law_bag.mono (by decide)) (K_House.mono (by decide)) c fa tk po
end Hd
open PySem PySem.W PySem.Calls PyProof.Rows in
theorem Hd.done (mean : ∀ ns : List Int, ns.length ≤ 63 → (∀ z ∈ ns, Builtin.Int.intBits z ≤ 1048576) → ∃ S, Hd.s_law [.lst (ns.map Pc.D.int)] [] = .ok (.bl true) S) : PySem.Challenge.rw_poolcounts_k36_texts_of_counts.Holds := by
  w_on; o_law
  refine HandSHeadRun.head_any (r := Hd.R) (q := view Hd.R.prog [39]) (H := Hd.hk) (ob := Hd.ob) (M := 20000) (loose := Hd.loose) (d := HandSHeadRun.topDef Hd.R.prog 39) (kwd := []) Hd.ob_eq
    (by kernel_rfl) (fun s => by kernel_rfl) Hd.run (by kernel_rfl) (by kernel_rfl) (by kernel_rfl) (by rfl) (by first | assumption | decide +kernel) (by decide +kernel) ⟨rfl, rfl, rfl, rfl, rfl, by decide +kernel⟩ ?hw ?hc
  case hw => w_witness2
  case hc =>
    refine Pc.walkG (l := PySem.Challenge.rw_poolcounts_k36_texts_of_counts) (n := 63) (k := 7) (x := "_law_script") rfl (by decide) (by kernel_rfl) ⟨rfl, by decide, by decide⟩ ?_
    intro w mg fa h Y G hm
    obtain ⟨K, KX, cy⟩ := Y
    have hmg : mg ("law" : PySem.Str) = some (.ref fa) := by
      have e : (HandSHeadRun.topDef Hd.R.prog 39).name = ("law" : PySem.Str) := by kernel_rfl
      rw [← e]
      exact hm
    obtain ⟨fd, hb, hF⟩ := Hd.facts (PySem.Challenge.rw_poolcounts_k36_texts_of_counts).prog w mg KX G hmg cy
    exact ⟨Hd.gcOf K, fd, Hd.s_law, KX, hb, fun base _ _ => hF base, mean⟩

namespace Hd
open PySem PySem.Spec PyProof.Rows L2 Pc
local macro_rules | `(tactic| kln_le) => `(tactic| repeat (first | exact ll_one | exact ll_two | exact ll_nil | apply ll_cut | apply ll_app | apply ll_rev | apply ll_cons | assumption | exact Nat.le_refl _))
local macro_rules | `(tactic| kba_ints) => `(tactic| repeat (first | assumption | apply its_cut | apply its_app | apply its_one | apply its_rev))
local macro_rules | `(tactic| lcg_sub) => `(tactic| repeat (first
  | with_reducible refine wp_bind.mpr ?_
  | with_reducible refine wp_pure.mpr ?_
  | with_reducible refine wp_seq.mpr ?_
  | with_reducible refine wp_set.mpr ?_
  | with_reducible refine wp_subH.mpr ?_
  | with_reducible refine wp_consM.mpr ?_
  | with_reducible refine w_rd _ rfl ?_
  | with_reducible refine w_rdB _ rfl ?_
  | with_reducible refine w_rdO _ rfl ?_
  | with_reducible refine w_asB ?_
  | with_reducible refine w_add ?_
  | with_reducible refine w_sub ?_
  | with_reducible refine w_mulL (by first | assumption | decide) ?_
  | with_reducible refine w_mulR (by first | assumption | decide) ?_
  | with_reducible refine w_pow (by first | decide | assumption) ?_
  | with_reducible refine w_call rfl ?_
  | with_reducible refine w_par ?_
  | with_reducible refine w_unp ?_
  | with_reducible refine wp_consX.mpr ?_
  | with_reducible refine w_tup (by simp only [List.length_cons, List.length_nil]; decide) ?_
  | with_reducible refine w_lst (by simp only [List.length_cons, List.length_nil]; decide) ?_
  | with_reducible refine w_asI ?_
  | with_reducible refine w_new ?_
  | with_reducible refine w_slice rfl ?_
  | with_reducible refine w_items rfl ?_
  | with_reducible refine w_mod (by first | assumption | decide | omega) ?_
  | with_reducible refine w_fdiv (by first | assumption | exact ⟨by assumption, by assumption⟩ | decide) ?_
  | with_reducible refine w_lt ?_
  | with_reducible refine w_le ?_
  | with_reducible refine w_gt ?_
  | with_reducible refine w_ge ?_
  | with_reducible refine w_getM rfl ?_
  | with_reducible refine w_opN rfl ?_
  | with_reducible refine w_put rfl rfl ?_
  | with_reducible refine wp_if.mpr ?_
  | with_reducible refine w_ofO rfl ?_
  | with_reducible refine w_revM rfl ?_
  | with_reducible refine w_fld rfl rfl ?_
  | with_reducible refine w_isC rfl ?_
  | with_reducible refine w_prop ?_
  | with_reducible refine wp_subHD.mpr ?_
  | with_reducible refine w_noEx ?_
  | (with_reducible apply w_addL; (focus kln_le; done); (focus kln_le; done); (focus decide))
  | (with_reducible apply w_catL; (focus kln_le; done); (focus kln_le; done); (focus decide))
  | with_reducible refine w_isiI (by assumption) ?_
  | with_reducible refine w_isiB (by assumption) ?_
  | with_reducible refine w_isiT (by assumption) ?_
  | with_reducible refine w_isiS (by assumption) ?_
  | with_reducible refine w_isiL (by assumption) ?_
  | with_reducible refine w_allB ?_
  | with_reducible refine w_anyB ?_
  | with_reducible refine w_sumI ?_
  | with_reducible refine w_disp ?_
  | with_reducible refine wp_pair.mpr ?_
  | with_reducible refine ex_some rfl ?_))

/-- the bag stands first -/
def BG (S R : Store) : Prop := ∃ a b c : Int, S = .lst [.int a, .int b, .int c] :: R ∧ 0 ≤ b ∧ b < 2 ^ 61 ∧ 0 ≤ c
theorem oki_of {i : Int} (h : -(2 ^ 64) < i) (h2 : i < 2 ^ 64) : oki i = true := by
  unfold oki
  rw [Bool.and_eq_true, decide_eq_true_eq, decide_eq_true_eq]
  exact ⟨h, h2⟩
theorem w_draw {S R : Store} {E : XQ} {m : Int} {Q : D → Store → Prop} (h : BG S R) (hm : 0 < m) (hb : m.natAbs.log2 < 9000) (q : ∀ (i : Int) S', 0 ≤ i → i < m → BG S' R → Q (.int i) S') : Wp (s__law_draw [.obj 0, .int m]) S E Q := by
  obtain ⟨a, b, c, rfl, h1, h2, h3⟩ := h
  have ok1 : oki b = true := oki_of (by omega) (by omega)
  have hx := Int.emod_nonneg (b * 3202034522624059733 + 2862933555 * (c + 1)) (b := 2305843009213693951) (by decide)
  have hy := Int.emod_lt_of_pos (b * 3202034522624059733 + 2862933555 * (c + 1)) (b := 2305843009213693951) (by decide)
  have ok2 : oki ((b * 3202034522624059733 + 2862933555 * (c + 1)) % 2305843009213693951) = true := oki_of (by omega) (by omega)
  unfold s__law_draw
  refine w_body ?_
  dsimp only [b__law_draw]
  lcg_sub
  refine ⟨fun ht => ?_, fun ht => ?_⟩
  · lcg_sub
    exact q _ _ (Int.emod_nonneg _ (by omega)) (Int.emod_lt_of_pos _ hm) ⟨a / m, b, c, rfl, h1, h2, h3⟩
  · lcg_sub
    exact q _ _ (Int.emod_nonneg _ (by omega)) (Int.emod_lt_of_pos _ hm) ⟨a, _, c + 1, rfl, hx, by omega, by omega⟩
theorem w_bag {E : XQ} {ns : List Int} {Q : D → Store → Prop} (hl : ns.length ≤ 63) (q : ∀ S', BG S' [] → Q (.obj 0) S') : Wp (s__law_bag [.lst (ns.map D.int)]) [] E Q := by
  unfold s__law_bag
  refine w_body ?_
  dsimp only [b__law_bag]
  lcg_sub
  refine wp_for (fun i env S => ∃ g s : Int, ∃ x, env = [.val (.lst (ns.map D.int)), x, .val (.int g), .val (.int s)] ∧ S = [] ∧ 0 ≤ s ∧ s < 2 ^ 61) ⟨0, 2942 + 43 * ((ns.map D.int).length : Int), .no, rfl, rfl, by omega, by rw [List.length_map]; omega⟩ ?_ ?_
  · rintro i d env S hd ⟨g, s, x, rfl, rfl, h1, h2⟩
    obtain ⟨z, rfl⟩ : ∃ z : Int, d = .int z := by
      have := List.mem_of_getElem? hd
      unfold Pc.cutD at this
      have := List.mem_of_mem_drop (List.mem_of_mem_take this)
      obtain ⟨z, _, rfl⟩ := List.mem_map.mp this
      exact ⟨z, rfl⟩
    refine ⟨_, rfl, ?_⟩
    have hs : oki s = true := oki_of (by omega) (by omega)
    lcg_sub
    refine ⟨fun ht => ?_, fun ht => ?_⟩
    · lcg_sub
      exact ⟨_, _, _, rfl, rfl, h1, h2⟩
    · lcg_sub
      exact ⟨_, _, _, rfl, rfl, Int.emod_nonneg _ (by decide), Int.lt_of_lt_of_le (Int.emod_lt_of_pos _ (by decide)) (by decide)⟩
  · rintro env S ⟨g, s, x, rfl, rfl, h1, h2⟩
    lcg_sub
    exact q _ ⟨g, s, 0, rfl, h1, h2, by omega⟩
theorem log_len {n : Nat} (h : n ≤ 1000) : ((n : Int)).natAbs.log2 < 9000 := Nat.lt_of_le_of_lt (Nat.log2_le_self _) (by omega)
theorem w_bpick {S R : Store} {E : XQ} {L : List D} {Q : D → Store → Prop} (h : BG S R) (hl : 0 < L.length) (hb : L.length ≤ 1000) (q : ∀ d S', d ∈ L → BG S' R → Q d S') : Wp (s__law_pick [.obj 0, .lst L]) S E Q := by
  unfold s__law_pick
  refine w_body ?_
  dsimp only [b__law_pick]
  lcg_sub
  refine w_draw h (by omega) (log_len hb) fun i S1 i0 i1 h1 => ?_
  lcg_sub
  obtain ⟨j, rfl⟩ := Int.eq_ofNat_of_zero_le i0
  have hj : j < L.length := by omega
  refine w_getM (d := L[j]) ?_ ?_
  · show atI L (j : Int) = _
    unfold atI
    rw [ixN_nat hj]
    simp [hj]
  · lcg_sub
    exact q _ _ (List.getElem_mem hj) h1

/-- all sets of k kinds, ascending -/
def setsL (k : Int) : List (List Int) := if k = 1 then [[0]] else if k = 2 then [[0], [0, 1], [1]] else if k = 3 then [[0], [0, 1], [0, 1, 2], [0, 2], [1], [1, 2], [2]] else
  [[0], [0, 1], [0, 1, 2], [0, 1, 2, 3], [0, 1, 3], [0, 2], [0, 2, 3], [0, 3], [1], [1, 2], [1, 2, 3], [1, 3], [2], [2, 3], [3]]
/-- the law's sets as they are found, () first -/
def found4 (k : Nat) : List (List Int) := (List.range k).foldl (fun acc (i : Nat) => acc ++ acc.map fun s => s ++ [(i : Int)]) [[]]
theorem w_sets {S : Store} {E : XQ} {k : Int} {Q : D → Store → Prop} (hk : 1 ≤ k) (hk2 : k ≤ 4) (q : Q (.lst ((setsL k).map tupI)) S) : Wp (s__law_sets [.int k]) S E Q := by
  unfold s__law_sets
  refine w_body ?_
  dsimp only [b__law_sets]
  lcg_sub
  refine w_ofO (rng1_ok (by omega) (by omega)) ?_
  have key : ∀ (xs : List D) (L : List (List Int)), xs = L.map tupI → L.Perm (setsL k) → (setsL k).Pairwise (fun a b => a ≤ b) → sortD xs = (setsL k).map tupI := fun xs L h0 h3 h4 => by
    rw [h0, sortD_tups, sortT_eq h3 h4]
  have hc : k = 1 ∨ k = 2 ∨ k = 3 ∨ k = 4 := by omega
  rcases hc with rfl | rfl | rfl | rfl
  · refine wp_of (a := .nx [.val (.int 1), .val (.lst ((found4 1).map tupI)), .val (.int 0), .no]) (S' := S) (by kernel_rfl) ?_
    lcg_sub
    exact (congrArg (fun z => Q (D.lst z) S) (key (Pc.cutD ((found4 1).map tupI) (some 1) none) ((found4 1).drop 1) (by kernel_rfl) (by decide +kernel) (by decide +kernel))).mpr q
  · refine wp_of (a := .nx [.val (.int 2), .val (.lst ((found4 2).map tupI)), .val (.int 1), .no]) (S' := S) (by kernel_rfl) ?_
    lcg_sub
    exact (congrArg (fun z => Q (D.lst z) S) (key (Pc.cutD ((found4 2).map tupI) (some 1) none) ((found4 2).drop 1) (by kernel_rfl) (by decide +kernel) (by decide +kernel))).mpr q
  · refine wp_of (a := .nx [.val (.int 3), .val (.lst ((found4 3).map tupI)), .val (.int 2), .no]) (S' := S) (by kernel_rfl) ?_
    lcg_sub
    exact (congrArg (fun z => Q (D.lst z) S) (key (Pc.cutD ((found4 3).map tupI) (some 1) none) ((found4 3).drop 1) (by kernel_rfl) (by decide +kernel) (by decide +kernel))).mpr q
  · refine wp_of (a := .nx [.val (.int 4), .val (.lst ((found4 4).map tupI)), .val (.int 3), .no]) (S' := S) (by kernel_rfl) ?_
    lcg_sub
    exact (congrArg (fun z => Q (D.lst z) S) (key (Pc.cutD ((found4 4).map tupI) (some 1) none) ((found4 4).drop 1) (by kernel_rfl) (by decide +kernel) (by decide +kernel))).mpr q
theorem sets_good {k : Int} (hk : 1 ≤ k) (hk2 : k ≤ 4) : 0 < (setsL k).length ∧ (setsL k).length ≤ 15 ∧ ∀ s ∈ setsL k, s ≠ [] ∧ (∀ i ∈ s, 0 ≤ i ∧ i < k) ∧ s.Pairwise (fun a b => a < b) := by
  have hc : k = 1 ∨ k = 2 ∨ k = 3 ∨ k = 4 := by omega
  rcases hc with rfl | rfl | rfl | rfl <;> decide +kernel
theorem p27 : (10 : Int) ^ (27 : Int).toNat = 1000000000000000000000000000 := by decide +kernel
theorem p28 : (10 : Int) ^ (28 : Int).toNat = 10000000000000000000000000000 := by decide +kernel
theorem p30 : (10 : Int) ^ (30 : Int).toNat = 1000000000000000000000000000000 := by decide +kernel
/-- pools: a set and a number each -/
abbrev encL (p : List Int × Int) : D := .tup [tupI p.1, .int p.2]
abbrev encLs (ps : List (List Int × Int)) : D := .tup (ps.map encL)
/-- a set of kinds below k -/
def SetK (k : Int) (s : List Int) : Prop := s ≠ [] ∧ (∀ i ∈ s, 0 ≤ i ∧ i < k) ∧ s.Pairwise (fun a b => a < b)
def PoolK (k m : Int) (p : List Int × Int) : Prop := SetK k p.1 ∧ 1 ≤ p.2 ∧ p.2 ≤ 6 * 10 ^ 28 ∧ (0 < m → p.2 ≤ m)
structure GP (k m : Int) (c : Nat) (ps : List (List Int × Int)) : Prop where
  lo : 1 ≤ ps.length
  hi : ps.length ≤ c
  ok : ∀ p ∈ ps, PoolK k m p
  cov : ∀ i : Int, 0 ≤ i → i < k → ∃ p ∈ ps, i ∈ p.1
theorem put_nat {xs : List D} {j : Nat} {d : D} (h : j < xs.length) : putI xs (.int (j : Int)) d = some (xs.set j d) := by
  show (ixN xs.length (j : Int)).map (fun n => xs.set n d) = _
  rw [ixN_nat h]
  rfl
theorem asc_len' {hi : Int} : ∀ (s : List Int) (lo : Int), s.Pairwise (fun a b => a < b) → (∀ i ∈ s, lo ≤ i ∧ i < hi) → lo ≤ hi → (s.length : Int) ≤ hi - lo
  | [], lo, _, _, h => by simp; omega
  | a :: s, lo, h1, h2, h => by
    rw [List.pairwise_cons] at h1
    have ha := h2 a List.mem_cons_self
    have := asc_len' s (a + 1) h1.2 (fun i hi => ⟨by have := h1.1 i hi; omega, (h2 i (List.mem_cons_of_mem _ hi)).2⟩) (by omega)
    rw [List.length_cons]
    omega
theorem asc_len {k : Int} {s : List Int} (h1 : s.Pairwise (fun a b => a < b)) (h2 : ∀ i ∈ s, 0 ≤ i ∧ i < k) (hk : k ≤ 4) : s.length ≤ 4 := by
  have := asc_len' (hi := 4) s 0 h1 (fun i hi => by have := h2 i hi; omega) (by omega)
  omega
/-- an integer from lo to hi -/
def isIntB (v : D) (lo hi : Int) : Bool := match v with
  | .int i => decide (lo ≤ i) && decide (i ≤ hi)
  | _ => false
theorem w_isint {S : Store} {E : XQ} {v : D} {lo hi : Int} {Q : D → Store → Prop} (hv : v.pl) (q : Q (.bl (isIntB v lo hi)) S) : Wp (s_is_integer [v, .int lo, .int hi]) S E Q := by
  unfold s_is_integer
  refine w_body ?_
  dsimp only [b_is_integer]
  lcg_sub
  refine wp_andV.mpr ?_
  lcg_sub
  refine ⟨_, rfl, fun h1 => ?_, fun h1 => ?_⟩
  · refine wp_andV.mpr ?_
    lcg_sub
    refine ⟨_, rfl, fun h2 => ?_, fun h2 => ?_⟩
    · cases v with
      | int i =>
        refine w_chain ?_
        lcg_sub
        refine ⟨_, rfl, fun h3 => ?_, fun h3 => ?_⟩
        · lcg_sub
          show Q _ _
          simpa [isIntB, h3] using q
        · lcg_sub
          show Q _ _
          simpa [isIntB, h3] using q
      | bl b => cases h2
      | _ => cases h1
    · lcg_sub
      show Q _ _
      cases v <;> first | exact q | (exfalso; cases h2; done)
  · lcg_sub
    show Q _ _
    cases v <;> first | exact q | (exfalso; cases h1; done)
/-- ascending -/
def ascD : List D → Bool
  | .int a :: .int b :: r => decide (a < b) && ascD (.int b :: r)
  | [_] => true
  | [] => true
  | _ => false
def isSetB (k : Int) (v : D) : Bool := match v with
  | .tup xs => !xs.isEmpty && xs.all (fun x => isIntB x 0 (k - 1)) && ascD xs
  | _ => false
theorem isIntB_int {x : D} {lo hi : Int} (h : isIntB x lo hi = true) : ∃ i, x = .int i ∧ lo ≤ i ∧ i ≤ hi := by
  cases x with
  | int i =>
    simp only [isIntB, Bool.and_eq_true, decide_eq_true_eq] at h
    exact ⟨i, rfl, h.1, h.2⟩
  | _ => cases h
theorem all_int {xs : List D} {lo hi : Int} (h : xs.all (fun x => isIntB x lo hi) = true) : ∃ ns : List Int, xs = ns.map D.int ∧ ∀ i ∈ ns, lo ≤ i ∧ i ≤ hi := by
  induction xs with
  | nil => exact ⟨[], rfl, fun _ z => by cases z⟩
  | cons x xs ih =>
    rw [List.all_cons, Bool.and_eq_true] at h
    obtain ⟨i, rfl, h1, h2⟩ := isIntB_int h.1
    obtain ⟨ns, rfl, h3⟩ := ih h.2
    refine ⟨i :: ns, rfl, fun j hj => ?_⟩
    rcases List.mem_cons.mp hj with rfl | hj
    · exact ⟨h1, h2⟩
    · exact h3 j hj
def ascI : List Int → Bool
  | a :: b :: r => decide (a < b) && ascI (b :: r)
  | _ => true
theorem ascD_ints : ∀ ns : List Int, ascD (ns.map D.int) = ascI ns
  | [] => rfl
  | [_] => rfl
  | a :: b :: r => by
    have := ascD_ints (b :: r)
    simp only [List.map_cons] at this ⊢
    simp only [ascD, ascI, this]
theorem ascI_zip : ∀ ns : List Int, ((ns.zip (ns.drop 1)).all fun p => decide (p.1 < p.2)) = ascI ns
  | [] => rfl
  | [_] => rfl
  | a :: b :: r => by
    have := ascI_zip (b :: r)
    simp only [List.drop_succ_cons, List.drop_zero] at this ⊢
    simp only [List.zip_cons_cons, List.all_cons, ascI, this]
theorem ascI_iff : ∀ ns : List Int, ascI ns = true ↔ ns.Pairwise (fun a b => a < b)
  | [] => by simp [ascI]
  | [_] => by simp [ascI]
  | a :: b :: r => by
    rw [ascI, Bool.and_eq_true, decide_eq_true_eq, ascI_iff (b :: r), List.pairwise_cons (a := a)]
    constructor
    · rintro ⟨h1, h2⟩
      refine ⟨fun x hx => ?_, h2⟩
      rcases List.mem_cons.mp hx with rfl | hx
      · exact h1
      · have := (List.pairwise_cons.mp h2).1 x hx
        omega
    · rintro ⟨h1, h2⟩
      exact ⟨h1 b List.mem_cons_self, h2⟩
theorem cut1 (xs : List D) : Pc.cutD xs (some 1) none = xs.drop 1 := by
  unfold Pc.cutD
  have e1 : HT.sIx xs.length xs.length none = xs.length := rfl
  have e2 : HT.sIx xs.length 0 (some 1) = min 1 xs.length := by
    unfold HT.sIx
    simp
  rw [e1, e2]
  cases xs with
  | nil => simp
  | cons a r =>
    simp
/-- its items can be compared, they are not too many -/
def Tok (v : D) : Prop := ∀ xs, v = .tup xs → okdL 59 xs = true ∧ xs.length ≤ 1000000
theorem zip_ints {a b : List Int} (h : (a.map D.int).length ≤ 1000000) : zipM [.tup (a.map D.int), .tup (b.map D.int)] = some ((a.zip b).map fun p => .tup [.int p.1, .int p.2]) := by
  show (if (a.map D.int).length ≤ sizeLine then some (zipL (a.map D.int) (b.map D.int)) else none) = _
  rw [if_pos (Nat.le_trans h (by rw [sizeLine_eq]; omega))]
  unfold zipL
  rw [List.zip_map, List.map_map]
  rfl
theorem w_isset {S : Store} {E : XQ} {v : D} {k : Int} {Q : D → Store → Prop} (hv : v.pl) (hok : Tok v) (q : Q (.bl (isSetB k v)) S) : Wp (s_is_set [.int k, v]) S E Q := by
  unfold s_is_set
  refine w_body ?_
  dsimp only [b_is_set]
  lcg_sub
  refine wp_orM.mpr ?_
  lcg_sub
  refine ⟨fun h1 => ?_, fun h1 => ?_⟩
  · refine ⟨fun _ => ?_, fun z => by cases z⟩
    lcg_sub
    show Q _ _
    cases v <;> first | exact q | (exfalso; cases h1; done)
  · cases v with
    | tup xs =>
      have ox := (hok xs rfl).1
      lcg_sub
      refine w_op2 (eq_nilT ox) ?_
      lcg_sub
      refine ⟨fun h2 => ?_, fun h2 => ?_⟩
      · lcg_sub
        show Q _ _
        simpa [isSetB, h2] using q
      · lcg_sub
        refine w_compDA (fun x => .bl (isIntB x 0 (k - 1))) (fun x hx => ⟨_, rfl, ?_⟩) ?_
        · lcg_sub
          refine w_isint (okd_pl (okdL_mem ox hx)) ?_
          exact ⟨rfl, rfl⟩
        · lcg_sub
          refine ⟨fun h3 => ?_, fun h3 => ?_⟩
          · lcg_sub
            show Q _ _
            have h3' : xs.all (fun x => isIntB x 0 (k - 1)) = false := by simpa using h3
            simpa [isSetB, h3'] using q
          · have h3' : xs.all (fun x => isIntB x 0 (k - 1)) = true := by simpa using h3
            obtain ⟨ns, rfl, hns⟩ := all_int h3'
            lcg_sub
            rw [cut1, ← List.map_drop]
            refine w_ofO (zip_ints (hok _ rfl).2) ?_
            refine w_compA (ns.zip (ns.drop 1)) (fun p => .tup [.int p.1, .int p.2]) (fun p => .bl (decide (p.1 < p.2))) (fun p hp => ⟨_, rfl, ?_⟩) ?_
            · lcg_sub
              exact ⟨rfl, rfl⟩
            · lcg_sub
              rw [ascI_zip]
              show Q _ _
              have h2' : (ns.map D.int).isEmpty = false := h2
              simpa [isSetB, h2, h3', ascD_ints] using q
    | _ => cases h1

theorem tok_ints {s : List Int} (h : s.length ≤ 1000000) : Tok (tupI s) := fun xs e => by
  cases e
  exact ⟨okd_ints _ _, by simpa using h⟩
theorem isSetB_ints {k : Int} {s : List Int} : isSetB k (tupI s) = true ↔ s ≠ [] ∧ (∀ i ∈ s, 0 ≤ i ∧ i < k) ∧ s.Pairwise (fun a b => a < b) := by
  unfold isSetB
  simp only [Bool.and_eq_true, Bool.not_eq_true', List.isEmpty_eq_false_iff, ne_eq, List.map_eq_nil_iff, List.all_eq_true, List.mem_map, forall_exists_index, and_imp, forall_apply_eq_imp_iff₂, ascD_ints, ascI_iff, isIntB, decide_eq_true_eq]
  constructor
  · rintro ⟨⟨h1, h2⟩, h3⟩
    exact ⟨h1, fun i hi => by have := h2 i hi; omega, h3⟩
  · rintro ⟨h1, h2, h3⟩
    exact ⟨⟨h1, fun i hi => by have := h2 i hi; omega⟩, h3⟩

/-- why a value is no pool -/
def poolWordD (k : Int) (v : D) : D := match v with
  | .tup [s, n] => if isSetB k s then (if isIntB n 1 (10 ^ 30) then .non else .str "places") else .str "set"
  | _ => .str "pool"
theorem w_poolword {S : Store} {E : XQ} {v : D} {k : Int} {Q : D → Store → Prop} (hv : v.pl) (hok : ∀ s n, v = .tup [s, n] → s.pl ∧ Tok s ∧ n.pl) (q : Q (poolWordD k v) S) : Wp (s_pool_word [.int k, v]) S E Q := by
  unfold s_pool_word
  refine w_body ?_
  dsimp only [b_pool_word]
  lcg_sub
  refine wp_orM.mpr ?_
  lcg_sub
  refine ⟨fun h1 => ?_, fun h1 => ?_⟩
  · refine ⟨fun _ => ?_, fun z => by cases z⟩
    lcg_sub
    show Q _ _
    cases v <;> first | exact q | (exfalso; cases h1; done)
  · cases v with
    | tup xs =>
      lcg_sub
      refine w_op2 (d := .bl (!decide ((xs.length : Int) = 2))) rfl ?_
      lcg_sub
      refine ⟨fun h2 => ?_, fun h2 => ?_⟩
      · lcg_sub
        show Q _ _
        match xs, q, h2 with
        | [_, _], _, h2 => simp at h2
        | [], q, _ => exact q
        | [_], q, _ => exact q
        | _ :: _ :: _ :: _, q, _ => exact q
      · match xs, q, hok, h2 with
        | [s, n], q, hok, _ =>
          obtain ⟨o1, o2, o3⟩ := hok s n rfl
          lcg_sub
          refine w_isset o1 o2 ?_
          lcg_sub
          refine ⟨fun h3 => ?_, fun h3 => ?_⟩
          · lcg_sub
            show Q _ _
            have h3' : isSetB k s = false := by simpa using h3
            simpa [poolWordD, h3'] using q
          · have h3' : isSetB k s = true := by simpa using h3
            lcg_sub
            refine w_isint o3 ?_
            lcg_sub
            refine ⟨fun h4 => ?_, fun h4 => ?_⟩
            · lcg_sub
              show Q _ _
              simpa [poolWordD, h3', h4] using q
            · lcg_sub
              show Q _ _
              simpa [poolWordD, h3', h4] using q
        | [], _, _, h2 => simp at h2
        | [_], _, _, h2 => simp at h2
        | _ :: _ :: _ :: _, _, _, h2 => simp at h2; omega
    | _ => cases h1

/-- what makes a house -/
structure Hs (k : Int) (ps : List (List Int × Int)) : Prop where
  k1 : 1 ≤ k
  k4 : k ≤ 4
  lo : 1 ≤ ps.length
  hi : ps.length ≤ 15
  ok : ∀ p ∈ ps, SetK k p.1 ∧ 1 ≤ p.2 ∧ p.2 ≤ 10 ^ 30
  room : (ps.map (·.2)).sum ≤ 10 ^ 30
  cov : ∀ i : Int, 0 ≤ i → i < k → ∃ p ∈ ps, i ∈ p.1
theorem poolWord_ok {k : Int} {p : List Int × Int} (h : SetK k p.1 ∧ 1 ≤ p.2 ∧ p.2 ≤ 10 ^ 30) : poolWordD k (encL p) = .non := by
  obtain ⟨h1, h2, h3⟩ := h
  have e1 : isSetB k (tupI p.1) = true := isSetB_ints.mpr h1
  have e2 : isIntB (.int p.2) 1 (10 ^ 30) = true := by simp only [isIntB, Bool.and_eq_true, decide_eq_true_eq]; exact ⟨h2, h3⟩
  show (if isSetB k (tupI p.1) then (if isIntB (.int p.2) 1 (10 ^ 30) then D.non else D.str "places") else D.str "set") = _
  rw [if_pos e1, if_pos e2]
theorem w_check {S : Store} {E : XQ} {k : Int} {ps : List (List Int × Int)} {Q : D → Store → Prop} (h : Hs k ps) (q : Q .non S) : Wp (s_check_pools [.int k, encLs ps]) S E Q := by
  have hk1 := h.k1
  have hk4 := h.k4
  have hlo := h.lo
  have hhi := h.hi
  unfold s_check_pools
  refine w_body ?_
  dsimp only [b_check_pools]
  lcg_sub
  refine w_isint rfl ?_
  lcg_sub
  have e1 : isIntB (.int k) 1 4 = true := by simp only [isIntB, Bool.and_eq_true, decide_eq_true_eq]; omega
  rw [e1]
  refine ⟨fun z => (by cases z), fun _ => ?_⟩
  lcg_sub
  refine wp_orM.mpr ?_
  lcg_sub
  refine w_isiT rfl ?_
  lcg_sub
  refine ⟨fun z => (by cases z), fun _ => ?_⟩
  lcg_sub
  refine w_chain ?_
  lcg_sub
  rw [List.length_map]
  refine ⟨_, rfl, fun _ => ?_, fun z => ?_⟩
  · lcg_sub
    have e2 : decide ((ps.length : Int) ≤ 15) = true := decide_eq_true (by omega)
    rw [e2]
    refine ⟨fun z => (by cases z), fun _ => ?_⟩
    lcg_sub
    rw [enum_map]
    refine w_for (ps.mapIdx fun i x => (i, x)) (fun p => .tup [.int (p.1 : Int), encL p.2]) (fun i env S' => ∃ x2 x3 x4 x5, env = [.val (.int k), .val (encLs ps), x2, x3, x4, x5] ∧ S' = S) ⟨.no, .no, .no, .no, rfl, rfl⟩ ?_ ?_
    · rintro i ⟨j, p⟩ env S1 hp ⟨x2, x3, x4, x5, rfl, rfl⟩
      have hpm : p ∈ ps := by
        rw [List.getElem?_mapIdx] at hp
        obtain ⟨y, hy, e⟩ := Option.map_eq_some_iff.mp hp
        cases e
        exact List.mem_of_getElem? hy
      have ho := h.ok p hpm
      refine ⟨_, rfl, ?_⟩
      lcg_sub
      refine w_poolword (v := encL p) rfl (fun s n e => ?_) ?_
      · cases e
        exact ⟨rfl, tok_ints (by have := asc_len ho.1.2.2 ho.1.2.1 hk4; omega), rfl⟩
      · rw [poolWord_ok ho]
        lcg_sub
        refine w_op2 (d := .bl false) rfl ?_
        lcg_sub
        refine ⟨fun z => (by cases z), fun _ => ?_⟩
        lcg_sub
        exact ⟨_, _, _, _, rfl, rfl⟩
    · rintro env S1 ⟨x2, x3, x4, x5, rfl, rfl⟩
      lcg_sub
      refine w_compA ps encL (fun p => .int p.2) (fun p hp => ⟨_, rfl, ?_⟩) ?_
      · lcg_sub
        exact ⟨rfl, rfl⟩
      · lcg_sub
        have e3 : decide ((1000000000000000000000000000000 : Int) < (ps.map (·.2)).sum) = false := decide_eq_false (by have := h.room; omega)
        rw [e3]
        refine ⟨fun z => (by cases z), fun _ => ?_⟩
        lcg_sub
        refine w_ofO (rng1_ok (by omega) (by omega)) ?_
        refine w_forR (fun i env S' => ∃ x2 x3 x4 x5, env = [.val (.int k), .val (encLs ps), x2, x3, x4, x5] ∧ S' = S1) ⟨_, _, _, _, rfl, rfl⟩ ?_ ?_
        · rintro i env S2 hi ⟨x2, x3, x4, x5, rfl, rfl⟩
          refine ⟨_, rfl, ?_⟩
          lcg_sub
          refine w_compA ps encL (fun p => .bl (decide ((0 + (i : Int)) ∈ p.1))) (fun p hp => ⟨_, rfl, ?_⟩) ?_
          · lcg_sub
            refine w_op2 (in_tupI _ _) ?_
            exact ⟨rfl, rfl⟩
          · lcg_sub
            have e4 : ps.any (fun p => decide ((0 + (i : Int)) ∈ p.1)) = true := by
              obtain ⟨p, hp, hip⟩ := h.cov i (by omega) (by omega)
              exact List.any_eq_true.mpr ⟨p, hp, decide_eq_true (by simpa using hip)⟩
            rw [e4]
            refine ⟨fun z => (by cases z), fun _ => ?_⟩
            lcg_sub
            exact ⟨_, _, _, _, rfl, rfl⟩
        · rintro env S2 ⟨x2, x3, x4, x5, rfl, rfl⟩
          exact q
  · have := of_decide_eq_false z
    omega
/-- a house as a value -/
abbrev houseD (k : Int) (ps : List (List Int × Int)) : D := .ins c_House [("size", .int k), ("row", encLs ps)]
theorem w_house {S : Store} {E : XQ} {k : Int} {ps : List (List Int × Int)} {Q : List (PySem.Str × D) → Store → Prop} (h : Hs k ps) (q : Q [("size", .int k), ("row", encLs ps)] S) : Wp (i_House [.int k, encLs ps]) S E Q := by
  unfold i_House
  refine w_init ?_
  dsimp only [b_House___init__]
  lcg_sub
  refine w_check h ?_
  lcg_sub
  refine w_fit (by simp) ?_
  lcg_sub
  refine w_fit (by simp [putFD]) ?_
  lcg_sub
  exact q

theorem sh_big {n : Nat} {i : Int} (h0 : -(10 ^ 100) ≤ i) (h1 : i ≤ 10 ^ 100) : Sh n 1921 (.int i) := Sh.int (log_small (Int.lt_of_lt_of_le (by decide +kernel) h0) (Int.lt_of_le_of_lt h1 (by decide +kernel))) (Nat.le_refl _)
theorem sh_ints {xs : List Int} {c : Nat} (h : ∀ i ∈ xs, -(10 ^ 100) ≤ i ∧ i ≤ 10 ^ 100) (hc : xs.length ≤ c) : Sh 1 (c * 1923 + 3) (tupI xs) :=
  Sh.tup (n := 0) (m := 1921) (fun x hx => by
    obtain ⟨i, hi, rfl⟩ := List.mem_map.mp hx
    exact sh_big (h i hi).1 (h i hi).2) (by simpa using hc)
theorem sh_set {k : Int} {s : List Int} (hk2 : k ≤ 4) (h : SetK k s) : Sh 1 7695 (tupI s) :=
  sh_ints (c := 4) (fun i hi => by have := h.2.1 i hi; omega) (asc_len h.2.2 h.2.1 hk2)
theorem sh_encL {k : Int} {p : List Int × Int} (hk2 : k ≤ 4) (h : SetK k p.1) (h0 : 0 ≤ p.2) (h1 : p.2 ≤ 10 ^ 30) : Sh 2 15400 (encL p) :=
  (Sh.tup (n := 1) (m := 7695) (k := 2) (fun x hx => by
    simp only [List.mem_cons, List.not_mem_nil, or_false] at hx
    rcases hx with rfl | rfl
    · exact sh_set hk2 h
    · exact (sh_big (n := 1) (by omega) (by omega)).up (by decide) (by decide)) (Nat.le_refl _)).up (by decide) (by decide)
theorem sh_pools {k : Int} {ps : List (List Int × Int)} (h : Hs k ps) : Sh 3 231100 (encLs ps) :=
  (Sh.tup (n := 2) (m := 15400) (k := 15) (fun x hx => by
    obtain ⟨p, hp, rfl⟩ := List.mem_map.mp hx
    have := h.ok p hp
    exact sh_encL h.k4 this.1 (by omega) this.2.2) (by simpa using h.hi)).up (by decide) (by decide)
theorem sh_lst2 {n m : Nat} {a b : D} (ha : Sh n m a) (hb : Sh n m b) : Sh (n + 1) (2 * (m + 2) + 3) (.lst [a, b]) :=
  Sh.lst (k := 2) (fun x hx => by
    simp only [List.mem_cons, List.not_mem_nil, or_false] at hx
    rcases hx with rfl | rfl
    · exact ha
    · exact hb) (Nat.le_refl _)

theorem get_encs {ps : List (List Int × Int)} {i : Int} (h0 : 0 ≤ i) (h1 : i < ps.length) : ∃ p ∈ ps, getD (encLs ps) (.int i) = some (encL p) := by
  obtain ⟨j, rfl⟩ := Int.eq_ofNat_of_zero_le h0
  have hj : j < ps.length := by omega
  refine ⟨ps[j], List.getElem_mem _, ?_⟩
  show atI (ps.map encL) (j : Int) = _
  unfold atI
  rw [ixN_nat (by simpa using hj)]
  simp [hj]
theorem rep1 {x : D} {v : Int} (h0 : 0 ≤ v) (h1 : v ≤ 1000) : repD [x] (.int v) = some (List.replicate v.toNat x) := by
  unfold repD
  simp only
  rw [if_pos ⟨by omega, by omega, by simp; rw [sizeLine_eq]; omega⟩]
  congr 1
  induction v.toNat with
  | zero => rfl
  | succ n ih => rw [List.replicate_succ, List.flatten_cons, ih]; rfl
theorem okS_int (i : Int) : okS (PySem.Str.ofString (toString i)) = true := by
  unfold okS PyData.strOk
  rw [Array.all_eq_true_iff_forall_mem]
  intro x hx
  rw [decide_eq_true_eq]
  refine Classical.byContradiction fun h => ?_
  exact PyProof.Rows.int_text_free' x ⟨by omega, by omega⟩ i (by simpa using hx)
theorem sh_strI {i : Int} (h : i.natAbs.log2 < 1920) : Sh 0 19300 (.str (toString i)) := by
  refine ⟨okS_int _, ?_⟩
  have : (PySem.Str.ofString (toString i)).length ≤ 1921 := PyProof.Rows.int_text_len_1921 h
  show 10 * (PySem.Str.ofString (toString i)).length + 2 ≤ 19300
  omega
theorem w_strI {S : Store} {E : XQ} {i : Int} {Q : D → Store → Prop} (h : i.natAbs.log2 < 1920) (q : Q (.str (toString i)) S) : Wp (opN strS [.int i]) S E Q := w_opN (d := .str (toString i)) (show (if i.natAbs.log2 < 1920 then some (D.str (toString i)) else none) = _ from if_pos h) q
def ShL (n m : Nat) (xs : List D) : Prop := shwL n xs = true ∧ wtL xs ≤ m
theorem shl_nil {n : Nat} : ShL n 0 [] := ⟨by simp [shwL], by simp [wtL]⟩
theorem shl_cons {n a b : Nat} {x : D} {xs : List D} (h : Sh n a x) (t : ShL n b xs) : ShL n (a + 2 + b) (x :: xs) := ⟨by simp [shwL, h.ok, t.1], by
  have h1 := h.le
  have h2 := t.2
  simp only [wtL]
  omega⟩
theorem shl_tup {n m : Nat} {xs : List D} (h : ShL n m xs) : Sh (n + 1) (m + 3) (.tup xs) := ⟨by simp [shw, h.1], by
  have := h.2
  simp only [wt]
  omega⟩
theorem shl_lst {n m : Nat} {xs : List D} (h : ShL n m xs) : Sh (n + 1) (m + 3) (.lst xs) := ⟨by simp [shw, h.1], by
  have := h.2
  simp only [wt]
  omega⟩
theorem sh_w {x : D} (h : shB 3 8000 x = true) : Sh 3 8000 x := Sh.chk h


def digs : List Nat := (PySem.Str.ofString "0123456789").cps.toList
def figB (y : PySem.Str) : Bool := y.cps.toList.all fun c => decide (c ∈ digs)
theorem ne_strD (x y : PySem.Str) : neD (.str x) (.str y) = some (.bl (!decide (x = y))) := rfl
theorem eq_strD (x y : PySem.Str) : eqD (.str x) (.str y) = some (.bl (decide (x = y))) := rfl
theorem w_figures {S : Store} {E : XQ} {y : PySem.Str} {Q : D → Store → Prop} (hl : y.length ≤ 1000000) (q : Q (.bl (!decide (y = "") && figB y)) S) : Wp (s_are_figures [.str y]) S E Q := by
  have hz : y.cps.size ≤ sizeLine := by
    rw [sizeLine_eq]
    have : y.cps.size = y.length := rfl
    omega
  unfold s_are_figures
  refine w_body ?_
  dsimp only [b_are_figures]
  lcg_sub
  refine wp_andV.mpr ?_
  lcg_sub
  refine w_op2 (ne_strD _ _) ?_
  refine ⟨_, rfl, fun h1 => ?_, fun h1 => ?_⟩
  · lcg_sub
    refine w_items (show itemsD (.str y) = some (y.cps.toList.map fun c => D.str ⟨#[c]⟩) from if_pos hz) ?_
    refine w_compA y.cps.toList (fun c => D.str ⟨#[c]⟩) (fun c => .bl (decide (c ∈ digs))) (fun c hc => ⟨_, rfl, ?_⟩) ?_
    · lcg_sub
      refine w_op2 (d := .bl (decide (c ∈ digs))) rfl ?_
      exact ⟨rfl, rfl⟩
    · lcg_sub
      show Q _ _
      have h1' : decide (y = "") = false := by simpa using h1
      rw [h1'] at q
      simpa [figB] using q
  · lcg_sub
    show Q _ _
    have h1' : decide (y = "") = true := by simpa using h1
    rw [h1'] at q
    simpa using q
/-- a word that is a number -/
def numB (y : PySem.Str) : Bool := !decide (y = "") && figB y && decide (y.length ≤ 31) && !(decide (y.cps.toList.head? = some 48) && !decide (y = "0"))
def valN (y : PySem.Str) : Int := ((PySem.NumText.digitsVal y.cps.toList : Nat) : Int)
theorem get_str0 {y : PySem.Str} {c : Nat} {r : List Nat} (h : y.cps.toList = c :: r) (hl : y.length ≤ 1000000) : getD (.str y) (.int 0) = some (.str ⟨#[c]⟩) := by
  show (if y.length ≤ sizeLine then (atI y.cps.toList 0).map fun c => D.str ⟨#[c]⟩ else none) = _
  rw [if_pos (by rw [sizeLine_eq]; omega), h, at0]
  rfl
theorem sign_eq (c d : Nat) : ((⟨#[c]⟩ : PySem.Str) = ⟨#[d]⟩) ↔ c = d := by
  constructor
  · intro h
    injection h with h
    injection h with h
    injection h
  · intro h
    rw [h]
theorem digs_rng {c : Nat} (h : c ∈ digs) : 48 ≤ c ∧ c ≤ 57 := by
  have e : digs = [48, 49, 50, 51, 52, 53, 54, 55, 56, 57] := by decide +kernel
  rw [e] at h
  simp only [List.mem_cons, List.not_mem_nil, or_false] at h
  omega

theorem len_str {S : Store} {E : XQ} {y : PySem.Str} {Q : D → Store → Prop} (hl : y.length ≤ 1000000) (q : Q (.int (y.length : Int)) S) : Wp (opN lenS [.str y]) S E Q := w_opN (d := .int (y.length : Int)) (show (if y.length ≤ sizeLine then some (D.int (y.length : Int)) else none) = _ from if_pos (by rw [sizeLine_eq]; omega)) q
theorem zero_str : PySem.Str.ofString "0" = ⟨#[48]⟩ := by decide +kernel
theorem int_fig {y : PySem.Str} (h : figB y = true) (hne : y ≠ "") (hl : y.length ≤ 31) : intT [.str y] = some (.int (valN y)) := by
  have ad : PySem.NumText.AllDigits y.cps.toList := fun c hc => digs_rng (of_decide_eq_true (List.all_eq_true.mp h c hc))
  have ne : y.cps.toList ≠ [] := fun e => hne (by
    obtain ⟨a⟩ := y
    have : a = #[] := Array.toList_inj.mp e
    rw [this]
    rfl)
  show (if y.length ≤ 640 then (PySem.intText? y).map D.int else none) = _
  rw [if_pos (by omega), PySem.intText_digits ad ne (by omega)]
  rfl
theorem cps_cons {y : PySem.Str} (hne : y ≠ "") : ∃ c r, y.cps.toList = c :: r := by
  cases e : y.cps.toList with
  | nil =>
    exfalso
    refine hne ?_
    obtain ⟨a⟩ := y
    have : a = #[] := Array.toList_inj.mp e
    rw [this]
    rfl
  | cons c r => exact ⟨c, r, rfl⟩
theorem w_number_in {S : Store} {E : XQ} {y : PySem.Str} {Q : D → Store → Prop} (hl : y.length ≤ 1000000) (q : Q (if numB y then .int (valN y) else .non) S) : Wp (s_number_in [.str y]) S E Q := by
  unfold s_number_in
  refine w_body ?_
  dsimp only [b_number_in]
  lcg_sub
  refine wp_orM.mpr ?_
  lcg_sub
  refine w_figures hl ?_
  lcg_sub
  refine ⟨fun h1 => ?_, fun h1 => ?_⟩
  · refine ⟨fun _ => ?_, fun z => by cases z⟩
    lcg_sub
    show Q _ _
    have hn : numB y = false := by
      unfold numB
      have : (!decide (y = "") && figB y) = false := by simpa only [Bool.not_eq_true'] using h1
      rw [this]
      rfl
    rw [hn] at q
    exact q
  · have h1' : (!decide (y = "") && figB y) = true := by simpa using h1
    obtain ⟨f1, f2⟩ := Bool.and_eq_true_iff.mp h1'
    have hne : y ≠ "" := by simpa using f1
    lcg_sub
    refine len_str hl ?_
    lcg_sub
    refine ⟨fun h2 => ?_, fun h2 => ?_⟩
    · lcg_sub
      show Q _ _
      have hn : numB y = false := by
        unfold numB
        have h2' := of_decide_eq_true h2
        have : decide (y.length ≤ 31) = false := decide_eq_false (by omega)
        rw [this]
        simp
      rw [hn] at q
      exact q
    · have h2' := of_decide_eq_false h2
      have l31 : y.length ≤ 31 := by omega
      obtain ⟨c, r, hc⟩ := cps_cons hne
      lcg_sub
      refine wp_andM.mpr ?_
      lcg_sub
      refine w_getM (get_str0 hc hl) ?_
      lcg_sub
      refine w_op2 (eq_strD _ _) ?_
      lcg_sub
      have e0 : decide ((⟨#[c]⟩ : PySem.Str) = PySem.Str.ofString "0") = decide (c = 48) := by
        rw [zero_str]
        exact decide_eq_decide.mpr (sign_eq c 48)
      have hd : decide (y.cps.toList.head? = some 48) = decide (c = 48) := by
        rw [hc]
        exact decide_eq_decide.mpr (by simp)
      rw [e0]
      have en : numB y = !(decide (c = 48) && !decide (y = "0")) := by
        unfold numB
        rw [f1, f2, decide_eq_true l31, hd]
        rfl
      rw [en] at q
      refine ⟨fun h3 => ?_, fun h3 => ?_⟩
      · rw [h3] at q
        lcg_sub
        refine w_op2 (ne_strD _ _) ?_
        lcg_sub
        refine ⟨fun h4 => ?_, fun h4 => ?_⟩
        · have h4' : decide (y = "0") = false := by simpa using h4
          rw [h4'] at q
          lcg_sub
          exact q
        · have h4' : decide (y = "0") = true := by simpa using h4
          rw [h4'] at q
          lcg_sub
          refine w_opN (int_fig f2 hne l31) ?_
          lcg_sub
          exact q
      · rw [h3] at q
        refine ⟨fun z => (by cases z), fun _ => ?_⟩
        lcg_sub
        refine w_opN (int_fig f2 hne l31) ?_
        lcg_sub
        exact q

def isnB (y : PySem.Str) : Bool := !decide (y = "") && decide (y.length ≤ 31) && figB y && !decide (y.cps.toList.head? = some 48)
theorem num_isn (y : PySem.Str) : numB y = (isnB y || decide (y = "0")) := by
  by_cases h0 : y = "0"
  · subst h0
    decide +kernel
  · have e : decide (y = "0") = false := decide_eq_false h0
    unfold numB isnB
    rw [e]
    cases decide (y = "") <;> cases figB y <;> cases decide (y.length ≤ 31) <;> cases decide (y.cps.toList.head? = some 48) <;> rfl
theorem len_pos {y : PySem.Str} (h : y ≠ "") : 1 ≤ y.length := by
  obtain ⟨c, r, hc⟩ := cps_cons h
  have : y.cps.toList.length = y.length := Array.length_toList
  rw [← this, hc]
  simp
theorem okd_sign {n : Nat} {y : PySem.Str} {c : Nat} (h : okS y = true) (hc : c ∈ y.cps.toList) : okd n (.str ⟨#[c]⟩) = true := by
  have h1 : okS ⟨#[c]⟩ = true := by
    unfold okS PyData.strOk at h ⊢
    rw [Array.all_eq_true_iff_forall_mem] at h ⊢
    intro x hx
    have : x = c := by simpa using hx
    subst this
    exact h x (Array.mem_toList_iff.mp hc)
  cases n <;> simpa [okd] using h1
theorem w_is_number {S : Store} {E : XQ} {y : PySem.Str} {Q : D → Store → Prop} (hok : okS y = true) (hl : y.length ≤ 1000000) (q : Q (.bl (isnB y)) S) : Wp (s__law_is_number [.str y]) S E Q := by
  have hz : y.cps.size ≤ sizeLine := by
    rw [sizeLine_eq]
    have : y.cps.size = y.length := rfl
    omega
  unfold s__law_is_number
  refine w_body ?_
  dsimp only [b__law_is_number]
  lcg_sub
  refine wp_orM.mpr ?_
  lcg_sub
  refine w_chain ?_
  lcg_sub
  refine len_str hl ?_
  lcg_sub
  have bad : isnB y = false → Q (.bl false) S := fun e => by rw [e] at q; exact q
  refine ⟨_, rfl, fun h2 => ?_, fun h2 => ?_⟩
  · have h2' := of_decide_eq_true h2
    lcg_sub
    refine ⟨fun h3 => ?_, fun h3 => ?_⟩
    · refine ⟨fun _ => ?_, fun z => by cases z⟩
      lcg_sub
      refine bad ?_
      have h3' : decide ((y.length : Int) ≤ 31) = false := by simpa only [Bool.not_eq_true'] using h3
      have : decide (y.length ≤ 31) = false := decide_eq_false (by have := of_decide_eq_false h3'; omega)
      unfold isnB
      rw [this]
      simp
    · have h3' : decide ((y.length : Int) ≤ 31) = true := by simpa using h3
      have l31 : y.length ≤ 31 := by have := of_decide_eq_true h3'; omega
      have hne : y ≠ "" := fun e => by
        subst e
        exact absurd h2' (by decide +kernel)
      obtain ⟨c, r, hc⟩ := cps_cons hne
      lcg_sub
      refine w_items (show itemsD (.str y) = some (y.cps.toList.map fun c => D.str ⟨#[c]⟩) from if_pos hz) ?_
      refine w_comp y.cps.toList (fun c => D.str ⟨#[c]⟩) (fun c => !decide (c ∈ digs)) (fun c => D.str ⟨#[c]⟩) (fun c hc => ⟨_, rfl, ?_, fun _ => ?_⟩) ?_
      · lcg_sub
        refine w_op2 (d := .bl (!decide (c ∈ digs))) rfl ?_
        lcg_sub
        exact ⟨rfl, rfl⟩
      · lcg_sub
        exact ⟨rfl, rfl⟩
      · lcg_sub
        refine w_op2 (ne_nil (okd_one _ _ fun x hx => ?_)) ?_
        · obtain ⟨c2, hc2, rfl⟩ := List.mem_map.mp hx
          exact okd_sign hok (List.mem_filter.mp hc2).1
        · lcg_sub
          rw [isEmpty_fm]
          have ef : (y.cps.toList.all fun x => !!decide (x ∈ digs)) = figB y := by
            unfold figB
            congr 1
            funext x
            rw [Bool.not_not]
          rw [ef]
          refine ⟨fun h4 => ?_, fun h4 => ?_⟩
          · have h4' : figB y = false := by simpa using h4
            lcg_sub
            refine bad ?_
            unfold isnB
            rw [h4']
            simp
          · have h4' : figB y = true := by simpa using h4
            lcg_sub
            refine w_getM (get_str0 hc hl) ?_
            lcg_sub
            refine w_op2 (ne_strD _ _) ?_
            lcg_sub
            have e0 : decide ((⟨#[c]⟩ : PySem.Str) = PySem.Str.ofString "0") = decide (c = 48) := by
              rw [zero_str]
              exact decide_eq_decide.mpr (sign_eq c 48)
            have hd : decide (y.cps.toList.head? = some 48) = decide (c = 48) := by
              rw [hc]
              exact decide_eq_decide.mpr (by simp)
            have en : isnB y = !decide (c = 48) := by
              unfold isnB
              rw [decide_eq_false hne, decide_eq_true l31, h4', hd]
              rfl
            rw [en] at q
            rw [e0]
            exact q
  · have h2' := of_decide_eq_false h2
    lcg_sub
    refine ⟨fun _ => ?_, fun z => by cases z⟩
    refine ⟨fun _ => ?_, fun z => by cases z⟩
    lcg_sub
    refine bad ?_
    have e : y = "" := Classical.byContradiction fun hh => h2' (by have := len_pos hh; omega)
    unfold isnB
    rw [decide_eq_true e]
    rfl

def wordsP (y : PySem.Str) : List PySem.Str := (PySem.Txt.split y (PySem.Str.ofString " ")).filter fun w => !decide (w = "")
theorem w_isSt {S : Store} {E : XQ} {y : PySem.Str} {Q : Unit → Store → Prop} (q : Q () S) : Wp (isSt (.str y)) S E Q := q
theorem split_ok {y : PySem.Str} (hl : y.length ≤ 1000000) : splitD (.str y) (.str (PySem.Str.ofString " ")) = some ((PySem.Txt.split y (PySem.Str.ofString " ")).map D.str) := if_pos ⟨by decide +kernel, by rw [sizeLine_eq]; omega⟩
theorem w_words {S : Store} {E : XQ} {y : PySem.Str} {Q : D → Store → Prop} (hl : y.length ≤ 1000000) (q : Q (.lst ((wordsP y).map D.str)) S) : Wp (s_words_of [.str y]) S E Q := by
  unfold s_words_of
  refine w_body ?_
  dsimp only [b_words_of]
  lcg_sub
  refine w_isSt ?_
  lcg_sub
  refine w_ofO (split_ok hl) ?_
  lcg_sub
  refine w_comp (PySem.Txt.split y (PySem.Str.ofString " ")) D.str (fun w => !decide (w = "")) D.str (fun w hw => ⟨_, rfl, ?_, fun _ => ?_⟩) ?_
  · lcg_sub
    refine w_op2 (ne_strD _ _) ?_
    lcg_sub
    exact ⟨rfl, rfl⟩
  · lcg_sub
    exact ⟨rfl, rfl⟩
  · lcg_sub
    exact q
theorem w_lwords {S : Store} {E : XQ} {y : PySem.Str} {Q : D → Store → Prop} (hl : y.length ≤ 1000000) (q : Q (.lst ((wordsP y).map D.str)) S) : Wp (s__law_words [.str y]) S E Q := by
  unfold s__law_words
  refine w_body ?_
  dsimp only [b__law_words]
  lcg_sub
  refine w_isSt ?_
  lcg_sub
  refine w_ofO (split_ok hl) ?_
  lcg_sub
  refine w_comp (PySem.Txt.split y (PySem.Str.ofString " ")) D.str (fun w => !decide (w = "")) D.str (fun w hw => ⟨_, rfl, ?_, fun _ => ?_⟩) ?_
  · lcg_sub
    refine w_op2 (ne_strD _ _) ?_
    lcg_sub
    exact ⟨rfl, rfl⟩
  · lcg_sub
    exact ⟨rfl, rfl⟩
  · lcg_sub
    exact q

/-- the first place where the words are wrong -/
def rdErr (k : Nat) (ws : List PySem.Str) : Option Nat := match (ws.mapIdx fun i w => (i, w)).find? (fun p => !numB p.2 || decide (p.1 = k)) with
  | some p => some p.1
  | none => if ws.length < k then some ws.length else none
theorem rd_some {k i : Nat} {ws : List PySem.Str} {w : PySem.Str} (hw : ws[i]? = some w) (hb : (!numB w || decide (i = k)) = true) (hj : ∀ j u, j < i → ws[j]? = some u → (!numB u || decide (j = k)) = false) : rdErr k ws = some i := by
  unfold rdErr
  have : (ws.mapIdx fun i w => (i, w)).find? (fun p => !numB p.2 || decide (p.1 = k)) = some (i, w) := by
    rw [List.find?_eq_some_iff_getElem]
    obtain ⟨hi, e⟩ := List.getElem?_eq_some_iff.mp hw
    refine ⟨hb, i, by simpa using hi, by simp [e], fun j hji => ?_⟩
    have := hj j _ hji (List.getElem?_eq_getElem (by omega))
    simpa using this
  rw [this]
theorem rd_none {k : Nat} {ws : List PySem.Str} (h : ∀ j u, ws[j]? = some u → (!numB u || decide (j = k)) = false) : rdErr k ws = if ws.length < k then some ws.length else none := by
  unfold rdErr
  have : (ws.mapIdx fun i w => (i, w)).find? (fun p => !numB p.2 || decide (p.1 = k)) = none := by
    rw [List.find?_eq_none]
    rintro ⟨i, x⟩ hx
    obtain ⟨j, hj, e⟩ := List.mem_mapIdx.mp hx
    cases e
    rw [h _ _ (List.getElem?_eq_getElem hj)]
    exact Bool.false_ne_true
  rw [this]
theorem w_pkinds2 {S : Store} {E : XQ} {k row : D} {Q : D → Store → Prop} (q : Q k S) : Wp (s_House_kinds [.ins c_House [("size", k), ("row", row)]]) S E Q := by
  unfold s_House_kinds
  refine w_body ?_
  dsimp only [b_House_kinds]
  lcg_sub
  exact q
theorem eq_intD (i j : Int) : eqD (.int i) (.int j) = some (.bl (decide (i = j))) := by
  show (if okd 60 (.int i) && okd 60 (.int j) then some (D.bl (eqd (.int i) (.int j))) else none) = _
  have : eqd (.int i) (.int j) = decide (i = j) := by
    simp only [eqd]
    exact Bool.beq_eq_decide_eq _ _
  rw [this]
  rfl
theorem at_end (xs : List D) (v : D) : getD (.lst (xs ++ [v])) (.int (-1)) = some v := by
  show atI (xs ++ [v]) (-1) = _
  unfold atI ixN
  have e : ((-1 : Int) + (((xs ++ [v]).length : Nat) : Int)).toNat = xs.length := by
    rw [List.length_append]
    simp only [List.length_cons, List.length_nil]
    omega
  have c1 : ¬ (0 : Int) ≤ -1 := by decide
  simp only [c1, false_and, if_false, e]
  rw [if_pos (by rw [List.length_append]; simp only [List.length_cons, List.length_nil]; omega)]
  simp
theorem w_read {S : Store} {E : XQ} {k : Nat} {row : D} {y : PySem.Str} {Q : D → Store → Prop} (hl : y.length ≤ 1000000) (hn : (wordsP y).length ≤ 1000000) (hw : ∀ w ∈ wordsP y, w.length ≤ 1000000)
    (q0 : rdErr k (wordsP y) = none → Q (.tup ((wordsP y).map fun w => .int (valN w))) S) (q1 : ∀ i : Nat, rdErr k (wordsP y) = some i → E c_BadText [("number", .int (i : Int))] S) :
    Wp (s_read_counts [.ins c_House [("size", .int (k : Int)), ("row", row)], .str y]) S E Q := by
  unfold s_read_counts
  refine w_body ?_
  dsimp only [b_read_counts]
  lcg_sub
  refine w_isiOP rfl (w_isiS rfl ?_)
  lcg_sub
  refine ⟨fun z => (by cases z), fun _ => ?_⟩
  lcg_sub
  refine w_words hl ?_
  lcg_sub
  generalize wordsP y = ws at *
  rw [enum_map]
  refine w_for (ws.mapIdx fun i w => (i, w)) (fun p => .tup [.int (p.1 : Int), .str p.2]) (fun i env S' => (∀ j u, j < i → ws[j]? = some u → (!numB u || decide (j = k)) = false) ∧ ∃ x4 x5, env = [.val (.ins c_House [("size", .int (k : Int)), ("row", row)]), .val (.str y), .val (.lst (ws.map D.str)), .own ((ws.take i).map fun w => .int (valN w)), x4, x5] ∧ S' = S) ⟨fun j u z => absurd z (Nat.not_lt_zero _), .no, .no, rfl, rfl⟩ ?_ ?_
  · rintro i ⟨j, w⟩ env S1 hp ⟨hj, x4, x5, rfl, rfl⟩
    obtain ⟨hpm, rfl⟩ : ws[i]? = some w ∧ j = i := by
      rw [List.getElem?_mapIdx] at hp
      obtain ⟨u, hu, e⟩ := Option.map_eq_some_iff.mp hp
      cases e
      exact ⟨hu, rfl⟩
    have hil := (List.getElem?_eq_some_iff.mp hpm).1
    have htk : ws.take (j + 1) = ws.take j ++ [w] := by
      rw [List.take_succ, hpm]
      rfl
    refine ⟨_, rfl, ?_⟩
    lcg_sub
    refine w_chg rfl ?_
    lcg_sub
    refine w_number_in (hw w (List.mem_of_getElem? hpm)) ?_
    lcg_sub
    refine ⟨_, if_pos (by rw [sizeLine_eq]; simp; omega), ?_⟩
    lcg_sub
    refine wp_orM.mpr ?_
    lcg_sub
    refine w_getM (at_end _ _) ?_
    cases hb : numB w with
    | false =>
      have er := rd_some (k := k) hpm (by rw [hb]; rfl) hj
      refine wp_bind.mpr ?_
      lcg_sub
      rw [if_neg Bool.false_ne_true]
      refine w_op2 (d := .bl true) rfl ?_
      lcg_sub
      refine ⟨fun _ => ?_, fun z => by cases z⟩
      refine ⟨fun _ => ?_, fun z => by cases z⟩
      refine w_raise ?_
      lcg_sub
      exact ⟨rfl, q1 _ er⟩
    | true =>
      lcg_sub
      rw [if_pos rfl]
      refine w_op2 (d := .bl false) rfl ?_
      lcg_sub
      refine ⟨fun z => (by cases z), fun _ => ?_⟩
      lcg_sub
      refine w_pkinds2 ?_
      lcg_sub
      refine w_op2 (eq_intD _ _) ?_
      lcg_sub
      refine ⟨fun h3 => ?_, fun h3 => ?_⟩
      · have h3' : j = k := by have := of_decide_eq_true h3; omega
        have er := rd_some (k := k) hpm (by rw [decide_eq_true h3', Bool.or_true]) hj
        refine w_raise ?_
        lcg_sub
        exact ⟨rfl, q1 _ er⟩
      · have h3' : j ≠ k := by have := of_decide_eq_false h3; omega
        lcg_sub
        refine ⟨fun l u hl2 hu => ?_, .val (.int (j : Int)), .val (.str w), ?_, rfl⟩
        · rcases Nat.lt_succ_iff_lt_or_eq.mp hl2 with hl2 | rfl
          · exact hj l u hl2 hu
          · rw [hpm] at hu
            cases hu
            rw [hb, decide_eq_false h3']
            rfl
        · rw [htk, List.map_append]
          rfl
  · rintro env S1 ⟨hj, x4, x5, rfl, rfl⟩
    have er := rd_none (k := k) (ws := ws) fun j u hu => hj j u (by have := (List.getElem?_eq_some_iff.mp hu).1; simpa using this) hu
    lcg_sub
    refine w_pkinds2 ?_
    lcg_sub
    rw [List.length_map]
    refine ⟨fun h3 => ?_, fun h3 => ?_⟩
    · have h3' : ws.length < k := by have := of_decide_eq_true h3; omega
      rw [if_pos h3'] at er
      refine w_raise ?_
      lcg_sub
      rw [List.length_map]
      exact ⟨rfl, q1 _ er⟩
    · have h3' : ¬ ws.length < k := by have := of_decide_eq_false h3; omega
      rw [if_neg h3'] at er
      lcg_sub
      have e : ws.take (ws.mapIdx fun i w => (i, w)).length = ws := by simp
      rw [e]
      exact q0 er

def dueD (k : Nat) (ws : List PySem.Str) : D := match rdErr k ws with
  | some i => .lst [.str "BadText", .int (i : Int)]
  | none => .tup (ws.map fun w => .int (valN w))
theorem int_num2 {w : PySem.Str} (h : numB w = true) : intT [.str w] = some (.int (valN w)) := by
  unfold numB at h
  simp only [Bool.and_eq_true] at h
  obtain ⟨⟨⟨h1, h2⟩, h3⟩, _⟩ := h
  exact int_fig h2 (by simpa using h1) (of_decide_eq_true h3)
theorem w_ldue {S : Store} {E : XQ} {k : Nat} {y : PySem.Str} {Q : D → Store → Prop} (hl : y.length ≤ 1000000) (hn : (wordsP y).length ≤ 1000000) (hw : ∀ w ∈ wordsP y, okS w = true ∧ w.length ≤ 1000000)
    (q : Q (dueD k (wordsP y)) S) : Wp (s__law_due [.int (k : Int), .str y]) S E Q := by
  unfold s__law_due
  refine w_body ?_
  dsimp only [b__law_due]
  lcg_sub
  refine w_isiOP rfl (w_isiS rfl ?_)
  lcg_sub
  refine ⟨fun z => (by cases z), fun _ => ?_⟩
  lcg_sub
  refine w_lwords hl ?_
  lcg_sub
  generalize wordsP y = ws at *
  rw [enum_map]
  refine w_for (ws.mapIdx fun i w => (i, w)) (fun p => .tup [.int (p.1 : Int), .str p.2]) (fun i env S' => (∀ j u, j < i → ws[j]? = some u → (!numB u || decide (j = k)) = false) ∧ ∃ x3 x4, env = [.val (.int (k : Int)), .val (.str y), .val (.lst (ws.map D.str)), x3, x4] ∧ S' = S) ⟨fun j u z => absurd z (Nat.not_lt_zero _), .no, .no, rfl, rfl⟩ ?_ ?_
  · rintro i ⟨j, w⟩ env S1 hp ⟨hj, x3, x4, rfl, rfl⟩
    obtain ⟨hpm, rfl⟩ : ws[i]? = some w ∧ j = i := by
      rw [List.getElem?_mapIdx] at hp
      obtain ⟨u, hu, e⟩ := Option.map_eq_some_iff.mp hp
      cases e
      exact ⟨hu, rfl⟩
    have ho := hw w (List.mem_of_getElem? hpm)
    have bad : (!numB w || decide (j = k)) = true → Q (.lst [.str "BadText", .int (j : Int)]) S1 := fun hb => by
      have er := rd_some (k := k) hpm hb hj
      unfold dueD at q
      rw [er] at q
      exact q
    have good : (!numB w || decide (j = k)) = false → ∀ l u, l < j + 1 → ws[l]? = some u → (!numB u || decide (l = k)) = false := fun hb l u hl2 hu => by
      rcases Nat.lt_succ_iff_lt_or_eq.mp hl2 with hl2 | rfl
      · exact hj l u hl2 hu
      · rw [hpm] at hu
        cases hu
        exact hb
    refine ⟨_, rfl, ?_⟩
    lcg_sub
    refine wp_orM.mpr ?_
    lcg_sub
    refine w_op2 (eq_intD _ _) ?_
    lcg_sub
    refine ⟨fun h3 => ?_, fun h3 => ?_⟩
    · have h3' : j = k := by have := of_decide_eq_true h3; omega
      refine ⟨fun _ => ?_, fun z => by cases z⟩
      lcg_sub
      exact bad (by rw [decide_eq_true h3', Bool.or_true])
    · have h3' : j ≠ k := by have := of_decide_eq_false h3; omega
      have ek : decide (j = k) = false := decide_eq_false h3'
      lcg_sub
      refine wp_andM.mpr ?_
      lcg_sub
      refine w_is_number ho.1 ho.2 ?_
      lcg_sub
      refine ⟨fun h4 => ?_, fun h4 => ?_⟩
      · have h4' : isnB w = false := by simpa using h4
        lcg_sub
        refine w_op2 (ne_strD _ _) ?_
        lcg_sub
        refine ⟨fun h5 => ?_, fun h5 => ?_⟩
        · have h5' : decide (w = "0") = false := by simpa using h5
          lcg_sub
          exact bad (by rw [num_isn, h4', h5']; rfl)
        · have h5' : decide (w = "0") = true := by simpa using h5
          lcg_sub
          exact ⟨good (by rw [num_isn, h4', h5', ek]; rfl), _, _, rfl, rfl⟩
      · have h4' : isnB w = true := by simpa using h4
        lcg_sub
        refine ⟨fun z => (by cases z), fun _ => ?_⟩
        lcg_sub
        exact ⟨good (by rw [num_isn, h4', ek]; rfl), _, _, rfl, rfl⟩
  · rintro env S1 ⟨hj, x3, x4, rfl, rfl⟩
    have all : ∀ j u, ws[j]? = some u → (!numB u || decide (j = k)) = false := fun j u hu => hj j u (by have := (List.getElem?_eq_some_iff.mp hu).1; simpa using this) hu
    have er := rd_none all
    lcg_sub
    rw [List.length_map]
    refine ⟨fun h3 => ?_, fun h3 => ?_⟩
    · have h3' : ws.length < k := by have := of_decide_eq_true h3; omega
      rw [if_pos h3'] at er
      unfold dueD at q
      rw [er] at q
      lcg_sub
      rw [List.length_map]
      exact q
    · have h3' : ¬ ws.length < k := by have := of_decide_eq_false h3; omega
      rw [if_neg h3'] at er
      unfold dueD at q
      rw [er] at q
      lcg_sub
      refine w_compA ws D.str (fun w => .int (valN w)) (fun w hwm => ⟨_, rfl, ?_⟩) ?_
      · obtain ⟨i, hi⟩ := List.mem_iff_getElem?.mp hwm
        have hb := all i w hi
        have hnum : numB w = true := by
          rw [Bool.or_eq_false_iff] at hb
          simpa using hb.1
        lcg_sub
        refine w_opN (int_num2 hnum) ?_
        exact ⟨rfl, rfl⟩
      · lcg_sub
        exact q

theorem w_told_str {S : Store} {E : XQ} {k : Nat} {row : D} {y : PySem.Str} {Q : D → Store → Prop} (hl : y.length ≤ 1000000) (hn : (wordsP y).length ≤ 1000000) (hw : ∀ w ∈ wordsP y, w.length ≤ 1000000)
    (q : Q (dueD k (wordsP y)) S) : Wp (s__law_told [.ins c_House [("size", .int (k : Int)), ("row", row)], .str y]) S E Q := by
  unfold s__law_told
  refine w_body ?_
  dsimp only [b__law_told]
  refine w_try ?_
  lcg_sub
  refine w_read hl hn hw (fun e => ?_) (fun i e => ?_)
  · lcg_sub
    unfold dueD at q
    rw [e] at q
    exact q
  · refine .inl ⟨rfl, .rt (.lst [.str "BadText", .int (i : Int)]), S, fun a d hd => ?_, ?_⟩
    · have hdn : d ≠ none := fun z => by cases hd z
      lcg_sub
      refine w_isXT (fs := [("number", .int (i : Int))]) rfl hdn ?_
      lcg_sub
      refine ⟨rfl, ?_⟩
      lcg_sub
      refine ⟨fun _ => ?_, fun z => (by cases z)⟩
      lcg_sub
      refine w_fldXT (fs := [("number", .int (i : Int))]) (v := .int (i : Int)) rfl hd rfl ?_
      lcg_sub
      refine ⟨rfl, ?_⟩
      lcg_sub
      exact ⟨rfl, rfl⟩
    · unfold dueD at q
      rw [e] at q
      exact q
theorem w_told_odd {S : Store} {E : XQ} {h v : D} {Q : D → Store → Prop} (hv : v.pl) (hs : v.isStr = false) (q : Q (.lst [.str "BadText", .non]) S) : Wp (s__law_told [h, v]) S E Q := by
  unfold s__law_told
  refine w_body ?_
  dsimp only [b__law_told]
  refine w_try ?_
  lcg_sub
  unfold s_read_counts
  refine w_body ?_
  dsimp only [b_read_counts]
  lcg_sub
  refine w_isiOP hv (w_isiS hv ?_)
  lcg_sub
  refine ⟨fun _ => ?_, fun z => ?_⟩
  · refine w_raise ?_
    lcg_sub
    refine ⟨rfl, .inl ⟨rfl, .rt (.lst [.str "BadText", .non]), S, fun a d hd => ?_, q⟩⟩
    have hdn : d ≠ none := fun z => by cases hd z
    lcg_sub
    refine w_isXT (fs := [("number", .non)]) rfl hdn ?_
    lcg_sub
    refine ⟨rfl, ?_⟩
    lcg_sub
    refine ⟨fun _ => ?_, fun z => (by cases z)⟩
    lcg_sub
    refine w_fldXT (fs := [("number", .non)]) (v := .non) rfl hd rfl ?_
    lcg_sub
    refine ⟨rfl, ?_⟩
    lcg_sub
    exact ⟨rfl, rfl⟩
  · rw [hs] at z
    cases z
theorem w_ldue_odd {S : Store} {E : XQ} {h v : D} {Q : D → Store → Prop} (hv : v.pl) (hs : v.isStr = false) (q : Q (.lst [.str "BadText", .non]) S) : Wp (s__law_due [h, v]) S E Q := by
  unfold s__law_due
  refine w_body ?_
  dsimp only [b__law_due]
  lcg_sub
  refine w_isiOP hv (w_isiS hv ?_)
  lcg_sub
  refine ⟨fun _ => ?_, fun z => ?_⟩
  · lcg_sub
    exact q
  · rw [hs] at z
    cases z

theorem w_told_ins {S : Store} {E : XQ} {h : D} {fs : List (PySem.Str × D)} {Q : D → Store → Prop} (q : Q (.lst [.str "BadText", .non]) S) : Wp (s__law_told [h, .ins c_House fs]) S E Q := by
  unfold s__law_told
  refine w_body ?_
  dsimp only [b__law_told]
  refine w_try ?_
  lcg_sub
  unfold s_read_counts
  refine w_body ?_
  dsimp only [b_read_counts]
  lcg_sub
  refine w_isiOI (fs := fs) rfl ?_
  lcg_sub
  refine ⟨fun _ => ?_, fun z => (by cases z)⟩
  refine w_raise ?_
  lcg_sub
  refine ⟨rfl, .inl ⟨rfl, .rt (.lst [.str "BadText", .non]), S, fun a d hd => ?_, q⟩⟩
  have hdn : d ≠ none := fun z => by cases hd z
  lcg_sub
  refine w_isXT (fs := [("number", .non)]) rfl hdn ?_
  lcg_sub
  refine ⟨rfl, ?_⟩
  lcg_sub
  refine ⟨fun _ => ?_, fun z => (by cases z)⟩
  lcg_sub
  refine w_fldXT (fs := [("number", .non)]) (v := .non) rfl hd rfl ?_
  lcg_sub
  refine ⟨rfl, ?_⟩
  lcg_sub
  exact ⟨rfl, rfl⟩
theorem w_ldue_ins {S : Store} {E : XQ} {h : D} {fs : List (PySem.Str × D)} {Q : D → Store → Prop} (q : Q (.lst [.str "BadText", .non]) S) : Wp (s__law_due [h, .ins c_House fs]) S E Q := by
  unfold s__law_due
  refine w_body ?_
  dsimp only [b__law_due]
  lcg_sub
  refine w_isiOI (fs := fs) rfl ?_
  lcg_sub
  refine ⟨fun _ => ?_, fun z => (by cases z)⟩
  lcg_sub
  exact q

theorem p18 : (10 : Int) ^ (18 : Int).toNat = 1000000000000000000 := by decide +kernel
theorem ok18 : oki ((10 : Int) ^ (18 : Int).toNat) = true := by decide +kernel
theorem w_far {S R : Store} {E : XQ} {m : Int} {Q : D → Store → Prop} (h : BG S R) (hm : 0 < m) (q : ∀ (i : Int) S', 0 ≤ i → i < m → BG S' R → Q (.int i) S') : Wp (s__law_far [.obj 0, .int m]) S E Q := by
  have o18 := ok18
  unfold s__law_far
  refine w_body ?_
  dsimp only [b__law_far]
  lcg_sub
  refine w_draw h (by decide +kernel) (by decide +kernel) fun i S1 i0 i1 h1 => ?_
  lcg_sub
  refine w_draw h1 (by decide +kernel) (by decide +kernel) fun j S2 j0 j1 h2 => ?_
  lcg_sub
  exact q _ _ (Int.emod_nonneg _ (by omega)) (Int.emod_lt_of_pos _ hm) h2
theorem w_bplaces {S R : Store} {E : XQ} {g : Bool} {Q : D → Store → Prop} (h : BG S R) (q : ∀ (i : Int) S', 1 ≤ i → i ≤ 10 ^ 28 → BG S' R → Q (.int i) S') : Wp (s__law_places [.obj 0, .bl g]) S E Q := by
  unfold s__law_places
  refine w_body ?_
  dsimp only [b__law_places]
  have small : ∀ S', BG S' R → Wp (s__law_draw [.obj 0, .int 6]) S' E fun d S2 => ∃ i : Int, d = .int i ∧ 0 ≤ i ∧ i < 6 ∧ BG S2 R := fun S' h' =>
    w_draw h' (by decide) (by decide +kernel) fun i S2 i0 i1 h2 => ⟨i, rfl, i0, i1, h2⟩
  lcg_sub
  refine wp_andM.mpr ?_
  lcg_sub
  cases g with
  | false =>
    refine ⟨fun z => (by cases z), fun _ => ⟨fun z => (by cases z), fun _ => ?_⟩⟩
    lcg_sub
    refine wp_mono (small S h) ?_
    rintro d S2 ⟨i, rfl, i0, i1, h2⟩
    lcg_sub
    exact q _ _ (by omega) (by omega) h2
  | true =>
    refine ⟨fun _ => ?_, fun z => (by cases z)⟩
    lcg_sub
    refine w_draw h (by decide) (by decide +kernel) fun t S1 t0 t1 h1 => ?_
    lcg_sub
    refine w_op2 (eq_intD _ _) ?_
    lcg_sub
    refine ⟨fun _ => ?_, fun _ => ?_⟩
    · lcg_sub
      refine w_bpick h1 (by simp) (by simp) fun d S2 hd h2 => ?_
      obtain ⟨m, rfl, m0, m1⟩ : ∃ m : Int, d = .int m ∧ 0 < m ∧ m ≤ 10 ^ 28 := by
        simp only [List.mem_cons, List.not_mem_nil, or_false] at hd
        rcases hd with rfl | rfl | rfl | rfl
        all_goals exact ⟨_, rfl, by decide +kernel, by decide +kernel⟩
      lcg_sub
      refine w_far h2 m0 fun i S3 i0 i1 h3 => ?_
      lcg_sub
      exact q _ _ (by omega) (by omega) h3
    · lcg_sub
      refine wp_mono (small S1 h1) ?_
      rintro d S2 ⟨i, rfl, i0, i1, h2⟩
      lcg_sub
      exact q _ _ (by omega) (by omega) h2
/-- pools so far -/
def PoolB (k : Int) (p : List Int × Int) : Prop := SetK k p.1 ∧ 1 ≤ p.2 ∧ p.2 ≤ 10 ^ 28
theorem sum_bound {ps : List (List Int × Int)} {k m : Int} (h : ∀ p ∈ ps, PoolB k p) (hm : m = 10 ^ 28) : (ps.map (·.2)).sum ≤ ps.length * m := by
  induction ps with
  | nil => simp
  | cons p r ih =>
    have h1 := h p List.mem_cons_self
    have h2 := ih fun x hx => h x (List.mem_cons_of_mem _ hx)
    have h3 := h1.2.2
    rw [← hm] at h3
    rw [List.map_cons, List.sum_cons, List.length_cons, Int.natCast_add, Int.add_mul]
    omega
theorem add_enc {ps : List (List Int × Int)} {s : List Int} {p : Int} (h : ps.length ≤ 1000) : addD (encLs ps) (.tup [.tup [tupI s, .int p]]) = some (encLs (ps ++ [(s, p)])) := by
  show (if (ps.map encL).length + 1 ≤ sizeLine then some (D.tup (ps.map encL ++ [encL (s, p)])) else none) = some (D.tup ((ps ++ [(s, p)]).map encL))
  rw [if_pos (by rw [sizeLine_eq]; simp; omega), List.map_append]
  rfl
theorem w_lhouse {S R : Store} {E : XQ} {g : Bool} {Q : D → Store → Prop} (h : BG S R) (q : ∀ (k : Int) ps S', Hs k ps → ps.length ≤ 9 → BG S' R → Q (.tup [.int k, encLs ps]) S') : Wp (s__law_house [.obj 0, .bl g]) S E Q := by
  unfold s__law_house
  refine w_body ?_
  dsimp only [b__law_house]
  lcg_sub
  refine w_draw h (by decide) (by decide +kernel) fun k' S1 k0 k1 h1 => ?_
  lcg_sub
  generalize hk : 1 + k' = k
  have hk1 : 1 ≤ k := by omega
  have hk2 : k ≤ 4 := by omega
  refine w_draw h1 (by decide) (by decide +kernel) fun n S2 n0 n1 h2 => ?_
  lcg_sub
  obtain ⟨s0, s1, s2⟩ := sets_good hk1 hk2
  refine w_ofO (rng1_ok (by omega) (by omega)) ?_
  refine w_forR (fun i env S => ∃ (ps : List (List Int × Int)) (x2 : Sl), env = [.val (.obj 0), .val (.bl g), x2, .no, .val (.int k), .val (encLs ps), .no, .no] ∧ ps.length = i ∧ (∀ p ∈ ps, PoolB k p) ∧ BG S R) ⟨[], .no, rfl, rfl, fun _ z => (by cases z), h2⟩ ?_ ?_
  · rintro i env S hi ⟨ps, x2, rfl, pl, pg, hS⟩
    refine ⟨_, rfl, ?_⟩
    lcg_sub
    refine w_sets hk1 hk2 ?_
    lcg_sub
    refine w_bpick hS (by simpa using s0) (by simp; omega) fun d S3 hd h3 => ?_
    obtain ⟨s, hs, rfl⟩ := List.mem_map.mp hd
    lcg_sub
    refine w_bplaces h3 fun p S4 p0 p1 h4 => ?_
    lcg_sub
    refine w_op2 (add_enc (by omega)) ?_
    lcg_sub
    refine ⟨ps ++ [(s, p)], _, rfl, by simp [pl], fun z hz => ?_, h4⟩
    rcases List.mem_append.mp hz with hz | hz
    · exact pg z hz
    · rw [List.mem_singleton.mp hz]
      exact ⟨s2 s hs, p0, p1⟩
  · rintro env S3 ⟨ps, x2, rfl, pl, pg, hS⟩
    lcg_sub
    refine w_ofO (rng1_ok (by omega) (by omega)) ?_
    refine w_forR (fun i env S => ∃ (qs : List (List Int × Int)) (x2 x3 x6 x7 : Sl), env = [.val (.obj 0), .val (.bl g), x2, x3, .val (.int k), .val (encLs qs), x6, x7] ∧ 1 ≤ qs.length ∧ qs.length ≤ 5 + i ∧ (∀ p ∈ qs, PoolB k p) ∧ (∀ j : Int, 0 ≤ j → j < i → ∃ p ∈ qs, j ∈ p.1) ∧ BG S R) ⟨ps, _, _, _, _, rfl, by omega, by omega, pg, fun j j0 j1 => by omega, hS⟩ ?_ ?_
    · rintro i env S hi ⟨qs, x2, x3, x6, x7, rfl, q1, q2, qg, qc, hS⟩
      refine ⟨_, rfl, ?_⟩
      lcg_sub
      refine w_comp qs encL (fun p => decide ((0 + (i : Int)) ∈ p.1)) (fun p => tupI p.1) (fun p hp => ⟨_, rfl, ?_, fun hp => ?_⟩) ?_
      · lcg_sub
        refine w_op2 (in_tupI _ _) ?_
        lcg_sub
        exact ⟨rfl, rfl⟩
      · lcg_sub
        exact ⟨rfl, rfl⟩
      · lcg_sub
        refine w_op2 (eq_nil (okd_one _ _ fun x hx => ?_)) ?_
        · obtain ⟨p, _, rfl⟩ := List.mem_map.mp hx
          exact okd_ints _ _
        · lcg_sub
          rw [isEmpty_fm]
          refine ⟨fun hb => ?_, fun hb => ?_⟩
          · lcg_sub
            refine w_bplaces hS fun p S4 p0 p1 h4 => ?_
            lcg_sub
            refine w_op2 (add_enc (s := [0 + (i : Int)]) (by omega)) ?_
            lcg_sub
            refine ⟨qs ++ [([0 + (i : Int)], p)], _, _, _, _, rfl, by simp, by simp; omega, fun z hz => ?_, fun j j0 j1 => ?_, h4⟩
            · rcases List.mem_append.mp hz with hz | hz
              · exact qg z hz
              · rw [List.mem_singleton.mp hz]
                exact ⟨⟨by simp, fun x hx => by have := List.mem_singleton.mp hx; omega, List.pairwise_singleton _ _⟩, p0, p1⟩
            · by_cases hj : j < i
              · obtain ⟨p, hp, hjp⟩ := qc j j0 hj
                exact ⟨p, List.mem_append_left _ hp, hjp⟩
              · exact ⟨_, List.mem_append_right _ (List.mem_singleton.mpr rfl), List.mem_singleton.mpr (by omega)⟩
          · lcg_sub
            refine ⟨qs, _, _, _, _, rfl, q1, by omega, qg, fun j j0 j1 => ?_, hS⟩
            by_cases hj : j < i
            · exact qc j j0 hj
            · have hb' : ∃ p ∈ qs, (0 + (i : Int)) ∈ p.1 := by
                refine Classical.byContradiction fun hh => ?_
                have : (qs.all fun x => !decide ((0 + (i : Int)) ∈ x.1)) = true := List.all_eq_true.mpr fun x hx => by
                  rw [Bool.not_eq_true', decide_eq_false_iff_not]
                  exact fun hm => hh ⟨x, hx, hm⟩
                rw [this] at hb
                cases hb
              obtain ⟨p, hp, hip⟩ := hb'
              exact ⟨p, hp, by rw [show j = 0 + (i : Int) by omega]; exact hip⟩
    · rintro env S4 ⟨qs, x2, x3, x6, x7, rfl, q1, q2, qg, qc, hS⟩
      lcg_sub
      have hl : qs.length ≤ 9 := by omega
      refine q k qs _ ⟨hk1, hk2, q1, by omega, fun p hp => ⟨(qg p hp).1, (qg p hp).2.1, Int.le_trans (qg p hp).2.2 (by decide +kernel)⟩, ?_, fun j j0 j1 => qc j j0 (by omega)⟩ hl hS
      have := sum_bound qg (m := 10 ^ 28) rfl
      have e28 : (10 : Int) ^ 28 = 10000000000000000000000000000 := by decide +kernel
      have e30 : (10 : Int) ^ 30 = 1000000000000000000000000000000 := by decide +kernel
      rw [e28] at this
      rw [e30]
      have hl' : (qs.length : Int) ≤ 9 := by omega
      omega

theorem blank_tl : TL.tl (PySem.Str.ofString " ") = [32] := by decide +kernel
theorem spl_parts : ∀ (l acc : List Nat), (∀ p ∈ TL.spl [32] 0 acc l, (∀ c ∈ p, c ∈ acc ∨ c ∈ l) ∧ p.length ≤ acc.length + l.length) ∧ (TL.spl [32] 0 acc l).length ≤ l.length + 1
  | [], acc => by
    rw [TL.spl_nil]
    refine ⟨fun p hp => ?_, by simp⟩
    rw [List.mem_singleton.mp hp]
    exact ⟨fun c hc => .inl hc, by simp⟩
  | c :: r, acc => by
    cases hb : TL.pre [32] (c :: r) with
    | true =>
      rw [TL.spl_hit hb]
      obtain ⟨h1, h2⟩ := spl_parts r []
      have e : ([32] : List Nat).length - 1 = 0 := rfl
      rw [e]
      refine ⟨fun p hp => ?_, by rw [List.length_cons, List.length_cons]; omega⟩
      rcases List.mem_cons.mp hp with rfl | hp
      · exact ⟨fun c hc => .inl hc, by omega⟩
      · obtain ⟨h3, h4⟩ := h1 p hp
        refine ⟨fun d hd => ?_, by rw [List.length_cons]; rw [List.length_nil] at h4; omega⟩
        rcases h3 d hd with hd | hd
        · cases hd
        · exact .inr (List.mem_cons_of_mem _ hd)
    | false =>
      rw [TL.spl_miss hb]
      obtain ⟨h1, h2⟩ := spl_parts r (acc ++ [c])
      refine ⟨fun p hp => ?_, by rw [List.length_cons]; omega⟩
      obtain ⟨h3, h4⟩ := h1 p hp
      refine ⟨fun d hd => ?_, by rw [List.length_append] at h4; rw [List.length_cons]; simp only [List.length_cons, List.length_nil] at h4; omega⟩
      rcases h3 d hd with hd | hd
      · rcases List.mem_append.mp hd with hd | hd
        · exact .inl hd
        · rw [List.mem_singleton.mp hd]
          exact .inr List.mem_cons_self
      · exact .inr (List.mem_cons_of_mem _ hd)
theorem okS_iff {x : PySem.Str} : okS x = true ↔ ∀ c ∈ TL.tl x, okS ⟨#[c]⟩ = true := by
  unfold okS PyData.strOk
  rw [Array.all_eq_true_iff_forall_mem]
  constructor
  · intro h c hc
    rw [Array.all_eq_true_iff_forall_mem]
    intro d hd
    have : d = c := by simpa using hd
    subst this
    exact h d (Array.mem_toList_iff.mp hc)
  · intro h c hc
    have := h c (Array.mem_toList_iff.mpr hc)
    rw [Array.all_eq_true_iff_forall_mem] at this
    exact this c (by simp)
theorem okS_sub {x y : PySem.Str} (h : okS y = true) (hs : ∀ c ∈ TL.tl x, c ∈ TL.tl y) : okS x = true := okS_iff.mpr fun c hc => okS_iff.mp h c (hs c hc)
/-- a plain text of at most n signs -/
def Tx (n : Nat) (y : PySem.Str) : Prop := okS y = true ∧ y.length ≤ n
theorem Tx.up {n m : Nat} {y : PySem.Str} (h : Tx n y) (l : n ≤ m) : Tx m y := ⟨h.1, Nat.le_trans h.2 l⟩
theorem tx_app {n m : Nat} {x y : PySem.Str} (h : Tx n x) (g : Tx m y) : Tx (n + m) (x ++ y) := by
  refine ⟨okS_iff.mpr fun c hc => ?_, ?_⟩
  · rw [TL.tl_append] at hc
    rcases List.mem_append.mp hc with hc | hc
    · exact okS_iff.mp h.1 c hc
    · exact okS_iff.mp g.1 c hc
  · have h2 := h.2
    have g2 := g.2
    rw [TL.len_tl] at h2 g2
    rw [TL.len_tl, TL.tl_append, List.length_append]
    omega
theorem joinL_parts {S : List Nat} : ∀ ps : List (List Nat), (∀ c ∈ TL.joinL S ps, c ∈ S ∨ ∃ p ∈ ps, c ∈ p) ∧ (TL.joinL S ps).length ≤ (ps.map (·.length)).sum + ps.length * S.length
  | [] => ⟨fun c hc => (by cases hc), by simp [TL.joinL]⟩
  | [p] => ⟨fun c hc => .inr ⟨p, List.mem_cons_self, hc⟩, by simp [TL.joinL]⟩
  | p :: q :: r => by
    obtain ⟨h1, h2⟩ := joinL_parts (S := S) (q :: r)
    have e : TL.joinL S (p :: q :: r) = p ++ (S ++ TL.joinL S (q :: r)) := rfl
    rw [e]
    refine ⟨fun c hc => ?_, ?_⟩
    · rcases List.mem_append.mp hc with hc | hc
      · exact .inr ⟨p, List.mem_cons_self, hc⟩
      · rcases List.mem_append.mp hc with hc | hc
        · exact .inl hc
        · rcases h1 c hc with hc | ⟨u, hu, hcu⟩
          · exact .inl hc
          · exact .inr ⟨u, List.mem_cons_of_mem _ hu, hcu⟩
    · rw [List.length_append, List.length_append, List.map_cons, List.sum_cons, List.length_cons (a := p), Nat.succ_mul]
      omega
theorem sum_le {xs : List PySem.Str} {m : Nat} (h : ∀ x ∈ xs, x.length ≤ m) : (xs.map (·.length)).sum ≤ xs.length * m := by
  induction xs with
  | nil => simp
  | cons x r ih =>
    have h1 := h x List.mem_cons_self
    have h2 := ih fun y hy => h y (List.mem_cons_of_mem _ hy)
    rw [List.map_cons, List.sum_cons, List.length_cons, Nat.succ_mul]
    omega
theorem tx_join {a : PySem.Str} {ws : List PySem.Str} {n m l : Nat} (ha : Tx l a) (hn : ws.length ≤ n) (hw : ∀ w ∈ ws, Tx m w) : Tx (n * m + n * l) (PySem.Txt.join a ws) := by
  rw [TL.join_eq]
  obtain ⟨h1, h2⟩ := joinL_parts (S := TL.tl a) (ws.map TL.tl)
  refine ⟨okS_iff.mpr fun c hc => ?_, ?_⟩
  · rw [TL.tl_join] at hc
    rcases h1 c hc with hc | ⟨p, hp, hc⟩
    · exact okS_iff.mp ha.1 c hc
    · obtain ⟨w, hw', rfl⟩ := List.mem_map.mp hp
      exact okS_iff.mp (hw w hw').1 c hc
  · rw [TL.len_tl, TL.tl_join]
    have e1 : (ws.map TL.tl).map (·.length) = ws.map (·.length) := by
      rw [List.map_map]
      refine List.map_congr_left fun w _ => ?_
      show (TL.tl w).length = w.length
      rw [TL.len_tl]
    rw [e1, List.length_map] at h2
    have h3 := sum_le fun w hw' => (hw w hw').2
    have h4 : ws.length * m ≤ n * m := Nat.mul_le_mul_right _ hn
    have ha2 := ha.2
    rw [TL.len_tl] at ha2
    have h5 : ws.length * (TL.tl a).length ≤ n * l := Nat.mul_le_mul hn ha2
    omega
theorem join_ok {a : PySem.Str} {ws : List PySem.Str} {n m l : Nat} (ha : Tx l a) (hn : ws.length ≤ n) (hw : ∀ w ∈ ws, Tx m w) (hb : n * m + n * l ≤ 16777216) : joinD (.str a) (.lst (ws.map D.str)) = some (.str (PySem.Txt.join a ws)) := by
  show ((strsOf (ws.map D.str)).bind fun ys => if (ys.map (·.length)).sum + ys.length * a.length ≤ 16777216 then some (D.str (PySem.Txt.join a ys)) else none) = _
  rw [strsOf_map]
  have h3 := sum_le fun w hw' => (hw w hw').2
  have h4 : ws.length * m ≤ n * m := Nat.mul_le_mul_right _ hn
  have h5 : ws.length * a.length ≤ n * l := Nat.mul_le_mul hn ha.2
  exact if_pos (by omega)
theorem words_parts {y : PySem.Str} {n : Nat} (h : Tx n y) : (wordsP y).length ≤ n + 1 ∧ ∀ w ∈ wordsP y, Tx n w := by
  have e := TL.split_spl y (PySem.Str.ofString " ") (by rw [blank_tl]; simp) (TL.kind_ok (by decide +kernel))
  rw [blank_tl] at e
  obtain ⟨h1, h2⟩ := spl_parts (TL.tl y) []
  rw [← e] at h1 h2
  have hl := h.2
  rw [TL.len_tl] at hl
  rw [List.length_map] at h2
  refine ⟨Nat.le_trans (List.length_filter_le _ _) (by omega), fun w hw => ?_⟩
  have hm := (List.mem_filter.mp hw).1
  obtain ⟨h3, h4⟩ := h1 (TL.tl w) (List.mem_map.mpr ⟨w, hm, rfl⟩)
  refine ⟨okS_sub h.1 fun c hc => ?_, ?_⟩
  · rcases h3 c hc with hc | hc
    · cases hc
    · exact hc
  · rw [TL.len_tl]
    rw [List.length_nil] at h4
    omega
/-- words: at most n, each of at most m signs -/
def WL (n m : Nat) (ds : List D) : Prop := ∃ ws : List PySem.Str, ds = ws.map D.str ∧ ws.length ≤ n ∧ ∀ w ∈ ws, Tx m w
theorem WL.len {n m : Nat} {ds : List D} (h : WL n m ds) : ds.length ≤ n := by
  obtain ⟨ws, rfl, hl, _⟩ := h
  simpa using hl
theorem WL.up {n n' m : Nat} {ds : List D} (h : WL n m ds) (l : n ≤ n') : WL n' m ds := by
  obtain ⟨ws, rfl, hl, hw⟩ := h
  exact ⟨ws, rfl, Nat.le_trans hl l, hw⟩
theorem wl_cut {n m : Nat} {ds : List D} {lo hi : Option Int} (h : WL n m ds) : WL n m (Pc.cutD ds lo hi) := by
  obtain ⟨ws, rfl, hl, hw⟩ := h
  refine ⟨(ws.drop (HT.sIx (ws.map D.str).length 0 lo)).take (HT.sIx (ws.map D.str).length (ws.map D.str).length hi - HT.sIx (ws.map D.str).length 0 lo), ?_, ?_, fun w h => hw w (List.mem_of_mem_drop (List.mem_of_mem_take h))⟩
  · unfold Pc.cutD
    rw [List.map_take, List.map_drop]
  · rw [List.length_take, List.length_drop]
    omega
theorem wl_app {n k m : Nat} {a b : List D} (h : WL n m a) (g : WL k m b) : WL (n + k) m (a ++ b) := by
  obtain ⟨ws, rfl, hl, hw⟩ := h
  obtain ⟨us, rfl, gl, gw⟩ := g
  refine ⟨ws ++ us, by rw [List.map_append], by rw [List.length_append]; omega, fun w hw' => ?_⟩
  rcases List.mem_append.mp hw' with h | h
  · exact hw w h
  · exact gw w h
def txB (m : Nat) : D → Bool
  | .str w => okS w && decide (w.length ≤ m)
  | _ => false
theorem wl_of {m : Nat} : ∀ {ds : List D}, ds.all (txB m) = true → WL ds.length m ds
  | [], _ => ⟨[], rfl, Nat.le_refl _, fun _ z => by cases z⟩
  | d :: r, h => by
    rw [List.all_cons, Bool.and_eq_true] at h
    obtain ⟨ws, e, hl, hw⟩ := wl_of h.2
    cases d with
    | str x =>
      have hx := h.1
      simp only [txB, Bool.and_eq_true, decide_eq_true_eq] at hx
      refine ⟨x :: ws, by rw [List.map_cons, e], ?_, fun w hw' => ?_⟩
      · rw [List.length_cons, List.length_cons]
        omega
      · rcases List.mem_cons.mp hw' with rfl | hw'
        · exact hx
        · exact hw w hw'
    | _ => cases h.1
theorem wl_mem {n m : Nat} {ds : List D} {d : D} (h : WL n m ds) (hd : d ∈ ds) : ∃ w, d = .str w ∧ Tx m w := by
  obtain ⟨ws, rfl, _, hw⟩ := h
  obtain ⟨w, hm, rfl⟩ := List.mem_map.mp hd
  exact ⟨w, rfl, hw w hm⟩
theorem wl_one {m : Nat} {w : PySem.Str} (h : Tx m w) : WL 1 m [.str w] := ⟨[w], rfl, Nat.le_refl _, fun x hx => by rw [List.mem_singleton.mp hx]; exact h⟩
theorem w_spoilt {S R : Store} {E : XQ} {ds odd : List D} {n m c : Nat} {Q : D → Store → Prop} (h : BG S R) (hn : n ≤ 900) (hc : c ≤ 900) (hd : WL n m ds) (ho : WL c m odd) (h0 : 0 < odd.length)
    (q : ∀ ds' S', WL (3 * n + 1) m ds' → BG S' R → Q (.lst ds') S') : Wp (s__law_spoilt [.obj 0, .lst ds, .lst odd]) S E Q := by
  have hl := hd.len
  have ol := ho.len
  unfold s__law_spoilt
  refine w_body ?_
  dsimp only [b__law_spoilt]
  lcg_sub
  refine w_draw h (by decide) (by decide +kernel) fun way S1 w0 w1 h1 => ?_
  lcg_sub
  refine w_draw h1 (by omega) (log_len (n := ds.length + 1) (by omega)) fun at' S2 a0 a1 h2 => ?_
  lcg_sub
  refine w_bpick h2 h0 (by omega) fun p S3 hp h3 => ?_
  obtain ⟨pw, rfl, hpw⟩ := wl_mem ho hp
  lcg_sub
  have cl : ∀ lo hi, (Pc.cutD ds lo hi).length ≤ 1000 := fun lo hi => Nat.le_trans (wl_cut hd).len (Nat.le_trans hn (by decide))
  have cat : ∀ {x y : List D} {Q : List D → Store → Prop}, x.length ≤ 3000 → y.length ≤ 3000 → Q (x ++ y) S3 → Wp (catM (.lst x) (.lst y)) S3 E Q := fun h1 h2 q => w_cat (cat_ok (by omega)) q
  refine ⟨fun _ => ?_, fun _ => ?_⟩
  · lcg_sub
    refine cat (Nat.le_trans (cl _ _) (by decide)) (by simp) ?_
    lcg_sub
    refine cat (by rw [List.length_append]; exact Nat.le_trans (Nat.add_le_add (cl _ _) (Nat.le_refl _)) (by simp)) (Nat.le_trans (cl _ _) (by decide)) ?_
    lcg_sub
    exact q _ _ ((wl_app (wl_app (wl_cut hd) (wl_one hpw)) (wl_cut hd)).up (by omega)) h3
  · lcg_sub
    refine w_op2 (eq_intD _ _) ?_
    lcg_sub
    refine ⟨fun _ => ?_, fun _ => ?_⟩
    · lcg_sub
      refine cat (Nat.le_trans (cl _ _) (by decide)) (Nat.le_trans (cl _ _) (by decide)) ?_
      lcg_sub
      exact q _ _ ((wl_app (wl_cut hd) (wl_cut hd)).up (by omega)) h3
    · lcg_sub
      refine w_op2 (eq_intD _ _) ?_
      lcg_sub
      refine ⟨fun _ => ?_, fun _ => ?_⟩
      · lcg_sub
        refine cat (Nat.le_trans (cl _ _) (by decide)) (Nat.le_trans (cl _ _) (by decide)) ?_
        lcg_sub
        refine cat (by rw [List.length_append]; exact Nat.le_trans (Nat.add_le_add (cl _ _) (cl _ _)) (by simp)) (Nat.le_trans (cl _ _) (by decide)) ?_
        lcg_sub
        exact q _ _ ((wl_app (wl_app (wl_cut hd) (wl_cut hd)) (wl_cut hd)).up (by omega)) h3
      · lcg_sub
        exact q _ _ (hd.up (by omega)) h3
theorem add_str {x y : PySem.Str} (h : x.length + y.length ≤ 1000000) : addD (.str x) (.str y) = some (.str (x ++ y)) := if_pos (Nat.le_trans h (by rw [sizeLine_eq]; omega))
theorem w_blanks {S R : Store} {E : XQ} {ds : List D} {n m : Nat} {Q : D → Store → Prop} (h : BG S R) (hn : n ≤ 1000) (hm : m ≤ 100) (hd : WL n m ds)
    (q : ∀ y S', Tx (n * m + n * 3 + 3) y → BG S' R → Q (.str y) S') : Wp (s__law_blanks [.obj 0, .lst ds]) S E Q := by
  have hl := hd.len
  have hnm : n * m ≤ 100000 := Nat.le_trans (Nat.mul_le_mul hn hm) (by decide)
  unfold s__law_blanks
  refine w_body ?_
  dsimp only [b__law_blanks]
  lcg_sub
  refine w_bpick h (by simp) (by simp) fun p S1 hp h1 => ?_
  obtain ⟨a, rfl, ha⟩ := wl_mem (wl_of (m := 3) (by decide +kernel)) hp
  lcg_sub
  refine w_isSt ?_
  lcg_sub
  obtain ⟨ws, rfl, wl, ww⟩ := hd
  refine w_ofO (join_ok ha wl ww (by omega)) ?_
  have hj := tx_join ha wl ww
  lcg_sub
  refine w_bpick h1 (by simp) (by simp) fun p1 S2 hp1 h2 => ?_
  obtain ⟨b, rfl, hb⟩ := wl_mem (wl_of (m := 2) (by decide +kernel)) hp1
  lcg_sub
  have hb2 := hb.2
  have hj2 := hj.2
  refine w_op2 (add_str (by omega)) ?_
  have hbj := tx_app hb hj
  lcg_sub
  refine w_bpick h2 (by simp) (by simp) fun p2 S3 hp2 h3 => ?_
  obtain ⟨d, rfl, hd'⟩ := wl_mem (wl_of (m := 1) (by decide +kernel)) hp2
  lcg_sub
  have hbj2 := hbj.2
  have hd2 := hd'.2
  refine w_op2 (add_str (by omega)) ?_
  lcg_sub
  exact q _ _ ((tx_app hbj hd').up (by omega)) h3

theorem dig_lt : ∀ (l : List Nat) (a : Nat), PySem.NumText.AllDigits l → l.foldl (fun acc c => acc * 10 + (c - 48)) a < (a + 1) * 10 ^ l.length
  | [], a, _ => by simp
  | c :: r, a, h => by
    have h1 := h c List.mem_cons_self
    have h2 := dig_lt r (a * 10 + (c - 48)) fun x hx => h x (List.mem_cons_of_mem _ hx)
    rw [List.foldl_cons, List.length_cons, Nat.pow_succ]
    have h3 : (a * 10 + (c - 48) + 1) * 10 ^ r.length ≤ ((a + 1) * 10) * 10 ^ r.length := Nat.mul_le_mul_right _ (by omega)
    have h4 : ((a + 1) * 10) * 10 ^ r.length = (a + 1) * (10 ^ r.length * 10) := by rw [Nat.mul_assoc, Nat.mul_comm 10]
    omega
theorem fig_all {y : PySem.Str} (h : figB y = true) : PySem.NumText.AllDigits y.cps.toList := fun c hc => digs_rng (of_decide_eq_true (List.all_eq_true.mp h c hc))
theorem valN_lt {w : PySem.Str} (h : numB w = true) : 0 ≤ valN w ∧ valN w < 10 ^ 31 := by
  unfold numB at h
  simp only [Bool.and_eq_true] at h
  obtain ⟨⟨⟨h1, h2⟩, h3⟩, _⟩ := h
  have h3' := of_decide_eq_true h3
  have h4 := dig_lt w.cps.toList 0 (fig_all h2)
  have e : w.cps.toList.length = w.length := Array.length_toList
  rw [e] at h4
  have h5 : 10 ^ w.length ≤ 10 ^ 31 := Nat.pow_le_pow_right (by decide) h3'
  have h6 : PySem.NumText.digitsVal w.cps.toList < 10 ^ 31 := by
    unfold PySem.NumText.digitsVal
    omega
  unfold valN
  have e31 : (10 : Nat) ^ 31 = 10000000000000000000000000000000 := by decide +kernel
  have f31 : (10 : Int) ^ 31 = 10000000000000000000000000000000 := by decide +kernel
  rw [e31] at h6
  rw [f31]
  omega
theorem digs_all {c : Nat} (h : 48 ≤ c ∧ c ≤ 57) : c ∈ digs := by
  have e : digs = [48, 49, 50, 51, 52, 53, 54, 55, 56, 57] := by decide +kernel
  rw [e]
  simp only [List.mem_cons, List.not_mem_nil, or_false]
  omega
theorem numL_head : ∀ (n : Nat), 0 < n → ∀ c, (TL.numL n).head? = some c → 49 ≤ c := fun n => by
  induction n using Nat.strongRecOn with
  | _ n ih =>
    intro hn c hc
    by_cases h : n < 10
    · rw [TL.numL_lt h] at hc
      cases hc
      omega
    · rw [TL.numL_step (by omega)] at hc
      have hne := TL.numL_ne (n / 10)
      cases hd : TL.numL (n / 10) with
      | nil => exact absurd hd hne
      | cons a r =>
        rw [hd] at hc
        cases hc
        exact ih (n / 10) (by omega) (by omega) _ (by rw [hd]; rfl)
/-- the text of a number -/
abbrev numT (i : Int) : PySem.Str := toString i
structure NumT (i : Int) : Prop where
  num : numB (numT i) = true
  val : valN (numT i) = i
  tx : Tx 31 (numT i)
  free : 32 ∉ TL.tl (numT i)
  ne : numT i ≠ ""
theorem num_of {i : Int} (h0 : 0 ≤ i) (h1 : i < 10 ^ 31) : NumT i := by
  obtain ⟨n, rfl⟩ := Int.eq_ofNat_of_zero_le h0
  have f31 : (10 : Int) ^ 31 = ((10 ^ 31 : Nat) : Int) := by decide +kernel
  rw [f31] at h1
  have h1' : n < 10 ^ 31 := by exact Int.ofNat_lt.mp h1
  have et : TL.tl (numT (n : Int)) = TL.numL n := TL.tl_num n
  have el : (numT (n : Int)).length ≤ 31 := by
    rw [TL.len_tl, et]
    exact TL.numL_len (by decide) h1'
  have ne : numT (n : Int) ≠ "" := fun e => by
    rw [e] at et
    exact TL.numL_ne n (et.symm.trans (by decide +kernel))
  have ed : PySem.NumText.AllDigits (numT (n : Int)).cps.toList := by
    rw [show (numT (n : Int)).cps.toList = TL.numL n from et]
    exact TL.numL_digits n
  have ef : figB (numT (n : Int)) = true := List.all_eq_true.mpr fun c hc => decide_eq_true (digs_all (ed c hc))
  refine ⟨?_, ?_, ⟨okS_iff.mpr fun c hc => ?_, el⟩, ?_, ne⟩
  · have e4 : (!(decide ((numT (n : Int)).cps.toList.head? = some 48) && !decide (numT (n : Int) = "0"))) = true := by
      by_cases hz : n = 0
      · subst hz
        decide +kernel
      · have : decide ((numT (n : Int)).cps.toList.head? = some 48) = false := decide_eq_false fun e => by
          rw [show (numT (n : Int)).cps.toList = TL.numL n from et] at e
          have := numL_head n (by omega) 48 e
          omega
        rw [this]
        rfl
    unfold numB
    rw [decide_eq_false ne, ef, decide_eq_true el, e4]
    rfl
  · unfold valN
    rw [show (numT (n : Int)).cps.toList = TL.numL n from et, TL.numL_val]
  · have hr := ed c hc
    have hc2 : c = 48 ∨ c = 49 ∨ c = 50 ∨ c = 51 ∨ c = 52 ∨ c = 53 ∨ c = 54 ∨ c = 55 ∨ c = 56 ∨ c = 57 := by omega
    rcases hc2 with rfl | rfl | rfl | rfl | rfl | rfl | rfl | rfl | rfl | rfl <;> decide +kernel
  · rw [et]
    exact TL.numL_free (by decide)
/-- the text of counts -/
def ctxt (cs : List Int) : PySem.Str := PySem.Txt.join (PySem.Str.ofString " ") (cs.map numT)
def Cts (cs : List Int) : Prop := cs ≠ [] ∧ cs.length ≤ 4 ∧ ∀ c ∈ cs, 0 ≤ c ∧ c < 10 ^ 31
theorem cts_ws {cs : List Int} (h : Cts cs) : ∀ w ∈ cs.map numT, Tx 31 w := fun w hw => by
  obtain ⟨c, hc, rfl⟩ := List.mem_map.mp hw
  exact (num_of (h.2.2 c hc).1 (h.2.2 c hc).2).tx
theorem tx_blank : Tx 1 (PySem.Str.ofString " ") := ⟨by decide +kernel, by decide +kernel⟩
theorem ctxt_tx {cs : List Int} (h : Cts cs) : Tx 128 (ctxt cs) := tx_join tx_blank (n := 4) (by simpa using h.2.1) (cts_ws h)
theorem ctxt_words {cs : List Int} (h : Cts cs) : wordsP (ctxt cs) = cs.map numT := by
  unfold wordsP ctxt
  rw [TL.split_join blank_tl (by decide +kernel) (by simpa using h.1) fun p hp => ?_]
  · rw [List.filter_eq_self]
    intro w hw
    obtain ⟨c, hc, rfl⟩ := List.mem_map.mp hw
    have := (num_of (h.2.2 c hc).1 (h.2.2 c hc).2).ne
    rw [decide_eq_false this]
    rfl
  · obtain ⟨c, hc, rfl⟩ := List.mem_map.mp hp
    exact (num_of (h.2.2 c hc).1 (h.2.2 c hc).2).free
theorem log31 {i : Int} (h0 : 0 ≤ i) (h1 : i < 10 ^ 31) : i.natAbs.log2 < 1920 := by
  have h2 : i.natAbs < 2 ^ 1920 := by
    have : (10 : Int) ^ 31 = 10000000000000000000000000000000 := by decide +kernel
    have e : (2 : Nat) ^ 1920 = 2 ^ 200 * 2 ^ 1720 := by rw [← Nat.pow_add]
    have e2 : 10000000000000000000000000000000 ≤ (2 : Nat) ^ 200 := by decide +kernel
    have e3 : 2 ^ 200 * 1 ≤ 2 ^ 200 * 2 ^ 1720 := Nat.mul_le_mul_left _ Nat.one_le_two_pow
    omega
  by_cases hz : i.natAbs = 0
  · rw [hz]
    decide
  · exact (Nat.log2_lt hz).mpr h2
theorem w_ctext {S : Store} {E : XQ} {cs : List Int} {Q : D → Store → Prop} (h : Cts cs) (q : Q (.str (ctxt cs)) S) : Wp (s_counts_text [.tup (cs.map D.int)]) S E Q := by
  unfold s_counts_text
  refine w_body ?_
  dsimp only [b_counts_text]
  lcg_sub
  refine w_isSt ?_
  lcg_sub
  refine w_compA cs D.int (fun i => .str (numT i)) (fun i hi => ⟨_, rfl, ?_⟩) ?_
  · lcg_sub
    refine w_strI (log31 (h.2.2 i hi).1 (h.2.2 i hi).2) ?_
    exact ⟨rfl, rfl⟩
  · lcg_sub
    have e : cs.map (fun i => D.str (numT i)) = (cs.map numT).map D.str := by rw [List.map_map]; rfl
    rw [e]
    refine w_ofO (join_ok tx_blank (n := 4) (by simpa using h.2.1) (cts_ws h) (by decide)) ?_
    lcg_sub
    exact q
theorem w_lctext {S : Store} {E : XQ} {cs : List Int} {Q : D → Store → Prop} (h : Cts cs) (q : Q (.str (ctxt cs)) S) : Wp (s__law_counts_text [.tup (cs.map D.int)]) S E Q := by
  unfold s__law_counts_text
  refine w_body ?_
  dsimp only [b__law_counts_text]
  lcg_sub
  refine w_isSt ?_
  lcg_sub
  refine w_compA cs D.int (fun i => .str (numT i)) (fun i hi => ⟨_, rfl, ?_⟩) ?_
  · lcg_sub
    refine w_strI (log31 (h.2.2 i hi).1 (h.2.2 i hi).2) ?_
    exact ⟨rfl, rfl⟩
  · lcg_sub
    have e : cs.map (fun i => D.str (numT i)) = (cs.map numT).map D.str := by rw [List.map_map]; rfl
    rw [e]
    refine w_ofO (join_ok tx_blank (n := 4) (by simpa using h.2.1) (cts_ws h) (by decide)) ?_
    lcg_sub
    exact q
theorem rd_inv {k : Nat} {ws : List PySem.Str} (h : rdErr k ws = none) : ws.length ≤ k ∧ ∀ w ∈ ws, numB w = true := by
  unfold rdErr at h
  cases hf : (ws.mapIdx fun i w => (i, w)).find? (fun p => !numB p.2 || decide (p.1 = k)) with
  | some p =>
    rw [hf] at h
    cases h
  | none =>
    rw [List.find?_eq_none] at hf
    have all : ∀ (i : Nat) (hi : i < ws.length), numB ws[i] = true ∧ i ≠ k := fun i hi => by
      have := hf (i, ws[i]) (List.mem_mapIdx.mpr ⟨i, hi, rfl⟩)
      simpa using this
    refine ⟨?_, fun w hw => ?_⟩
    · refine Nat.le_of_not_lt fun hlt => ?_
      exact (all k hlt).2 rfl
    · obtain ⟨i, hi, rfl⟩ := List.getElem_of_mem hw
      exact (all i hi).1
theorem rd_le {k i : Nat} {ws : List PySem.Str} (h : rdErr k ws = some i) : i ≤ ws.length := by
  unfold rdErr at h
  cases hf : (ws.mapIdx fun i w => (i, w)).find? (fun p => !numB p.2 || decide (p.1 = k)) with
  | some p =>
    rw [hf] at h
    cases h
    obtain ⟨j, hj, e⟩ := List.mem_mapIdx.mp (List.mem_of_find?_eq_some hf)
    rw [← e]
    exact Nat.le_of_lt hj
  | none =>
    rw [hf] at h
    by_cases hl : ws.length < k
    · rw [if_pos hl] at h
      cases h
      exact Nat.le_refl _
    · rw [if_neg hl] at h
      cases h
theorem sh_due {k : Nat} {ws : List PySem.Str} (hk : k ≤ 4) (hl : ws.length ≤ 100000) : Sh 6 100000 (dueD k ws) := by
  unfold dueD
  cases h : rdErr k ws with
  | some i =>
    have := rd_le h
    refine (sh_lst2 (n := 3) (m := 8000) (sh_w (by decide +kernel)) ((sh_big (n := 3) (by omega) ?_).up (Nat.le_refl _) (by decide))).up (by decide) (by decide)
    exact Int.le_trans (show (i : Int) ≤ 100000 by omega) (by decide +kernel)
  | none =>
    obtain ⟨h1, h2⟩ := rd_inv h
    have e : ws.map (fun w => D.int (valN w)) = (ws.map valN).map D.int := by rw [List.map_map]; rfl
    show Sh 6 100000 (.tup (ws.map fun w => D.int (valN w)))
    rw [e]
    refine (sh_ints (c := 4) (fun i hi => ?_) (by rw [List.length_map]; omega)).up (by decide) (by decide)
    obtain ⟨w, hw, rfl⟩ := List.mem_map.mp hi
    have := valN_lt (h2 w hw)
    refine ⟨Int.le_trans (by decide +kernel) this.1, Int.le_trans (Int.le_of_lt this.2) (by decide +kernel)⟩

def Vok (d : D) : Prop := (∃ y, d = .str y ∧ Tx 50000 y) ∨ (d.pl ∧ d.isStr = false) ∨ ∃ fs, d = .ins c_House fs
def voB (d : D) : Bool := match d with
  | .str y => okS y && decide (y.length ≤ 50000)
  | d => (tyN d).isSome && !d.isStr
theorem vok_of {d : D} (h : voB d = true) : Vok d := by
  cases d with
  | str y =>
    simp only [voB, Bool.and_eq_true, decide_eq_true_eq] at h
    exact .inl ⟨y, rfl, h⟩
  | _ => first | exact .inr (.inl ⟨rfl, rfl⟩) | (exact Bool.noConfusion h)
theorem w_same {k : Nat} {row v : D} (hk : k ≤ 4) (hv : Vok v) : ∃ r, Sh 6 100000 r ∧ (∀ {S : Store} {E : XQ} {Q : D → Store → Prop}, Q r S → Wp (s__law_told [.ins c_House [("size", .int (k : Int)), ("row", row)], v]) S E Q) ∧ (∀ {S : Store} {E : XQ} {Q : D → Store → Prop}, Q r S → Wp (s__law_due [.int (k : Int), v]) S E Q) := by
  rcases hv with ⟨y, rfl, hy⟩ | ⟨h1, h2⟩ | ⟨fs, rfl⟩
  · obtain ⟨w1, w2⟩ := words_parts hy
    have hl := hy.2
    refine ⟨dueD k (wordsP y), sh_due hk (by omega), fun q => ?_, fun q => ?_⟩
    · exact w_told_str (by omega) (by omega) (fun w hw => by have := (w2 w hw).2; omega) q
    · exact w_ldue (by omega) (by omega) (fun w hw => ⟨(w2 w hw).1, by have := (w2 w hw).2; omega⟩) q
  · exact ⟨.lst [.str "BadText", .non], (sh_w (by decide +kernel)).up (by decide) (by decide), fun q => w_told_odd h1 h2 q, fun q => w_ldue_odd h1 h2 q⟩
  · exact ⟨.lst [.str "BadText", .non], (sh_w (by decide +kernel)).up (by decide) (by decide), fun q => w_told_ins q, fun q => w_ldue_ins q⟩
theorem all_vo {xs : List D} (h : xs.all voB = true) : ∀ d ∈ xs, voB d = true := List.all_eq_true.mp h
theorem w_lodd {S R : Store} {E : XQ} {Q : D → Store → Prop} (h : BG S R) (q : ∀ d S', Vok d → BG S' R → Q d S') : Wp (s__law_odd [.obj 0]) S E Q := by
  unfold s__law_odd
  refine w_body ?_
  dsimp only [b__law_odd]
  lcg_sub
  refine ⟨by simp, ?_⟩
  lcg_sub
  refine w_bpick h (by simp) (by simp) fun d S1 hd h1 => ?_
  lcg_sub
  refine (fun hv => q d S1 (vok_of hv) h1) (all_vo ?_ d hd)
  decide +kernel

theorem mulS_ok {a : PySem.Str} {n : Int} (h : (decide (1 ≤ n) && decide (n ≤ 1000) && decide (1 ≤ a.length) && decide (a.length ≤ 1000)) = true) : mulSD (.str a) (.int n) = some (.str (repS a n)) := by
  simp only [Bool.and_eq_true, decide_eq_true_eq] at h
  exact if_pos ⟨h.1.1.1, h.1.1.2, h.1.2, h.2⟩
theorem law_mean (ns : List Int) (hl : ns.length ≤ 63) : ∃ S, s_law [.lst (ns.map D.int)] [] = .ok (.bl true) S := by
  suffices h : Wp (s_law [.lst (ns.map D.int)]) [] (fun _ _ _ => False) fun d _ => d = .bl true by
    obtain ⟨a, S, e, rfl⟩ := wp_ok h
    exact ⟨S, e⟩
  unfold s_law
  refine w_body ?_
  dsimp only [b_law]
  lcg_sub
  refine w_bag hl fun S1 h1 => ?_
  lcg_sub
  refine w_op2 (mulS_ok (by decide +kernel)) ?_
  lcg_sub
  refine w_op2 (mulS_ok (by decide +kernel)) ?_
  lcg_sub
  refine w_op2 (mulS_ok (by decide +kernel)) ?_
  lcg_sub
  refine w_op2 (mulS_ok (by decide +kernel)) ?_
  lcg_sub
  refine w_op2 (add_str (by decide +kernel)) ?_
  lcg_sub
  refine w_op2 (mulS_ok (by decide +kernel)) ?_
  lcg_sub
  refine w_forR (n := 8) (fun i env S => ∃ odd x3 x4 x5 x6 x7 x8 x9 x10 x11 x12, env = [.val (.lst (ns.map D.int)), .val (.obj 0), .val (.lst odd), x3, x4, x5, x6, x7, x8, x9, x10, x11, x12] ∧ WL 21 32 odd ∧ 0 < odd.length ∧ BG S []) ⟨_, .no, .no, .no, .no, .no, .no, .no, .no, .no, .no, rfl, (wl_of (m := 32) (by decide +kernel)).up (by decide), by decide, h1⟩ ?_ ?_
  · rintro i env S2 hi ⟨odd, x3, x4, x5, x6, x7, x8, x9, x10, x11, x12, rfl, hodd, ho0, h2⟩
    refine ⟨_, rfl, ?_⟩
    lcg_sub
    refine w_lhouse h2 fun k ps S3 hs hpl h3 => ?_
    have hk1 := hs.k1
    have hk4 := hs.k4
    lcg_sub
    refine w_callI rfl ?_
    refine w_house hs ?_
    lcg_sub
    refine w_ofO (rng1_ok (by omega) (by omega)) ?_
    refine wp_comp (fun j ys S => ∃ ms : List Int, ys = ms.map D.int ∧ ms.length = j ∧ (∀ c ∈ ms, 0 ≤ c ∧ c < 10 ^ 31) ∧ BG S []) ⟨[], rfl, rfl, fun _ z => (by cases z), h3⟩ ?_ ?_
    · rintro j d ys S4 hd ⟨ms, rfl, ml, mg, h4⟩
      refine ⟨_, rfl, ?_⟩
      lcg_sub
      refine ⟨fun _ => ?_, fun z => (by cases z)⟩
      lcg_sub
      refine w_bpick h4 (by simp) (by simp) fun m S5 hm h5 => ?_
      obtain ⟨mm, rfl, m0, m1⟩ : ∃ mm : Int, m = .int mm ∧ 0 < mm ∧ mm ≤ 10 ^ 31 := by
        simp only [List.mem_cons, List.not_mem_nil, or_false] at hm
        rcases hm with rfl | rfl | rfl | rfl
        all_goals exact ⟨_, rfl, by decide +kernel, by decide +kernel⟩
      lcg_sub
      refine w_far h5 m0 fun c S6 c0 c1 h6 => ?_
      lcg_sub
      refine ⟨ms ++ [c], by rw [List.map_append]; rfl, by simp [ml], fun z hz => ?_, h6⟩
      rcases List.mem_append.mp hz with hz | hz
      · exact mg z hz
      · rw [List.mem_singleton.mp hz]
        exact ⟨c0, Int.lt_of_lt_of_le c1 m1⟩
    · rintro ys S4 ⟨cs, rfl, cl, cg, h4⟩
      simp only [List.length_map, List.length_range] at cl
      obtain ⟨kn, rfl⟩ := Int.eq_ofNat_of_zero_le (show 0 ≤ k by omega)
      have hkn : kn ≤ 4 := by omega
      have hcl : cs.length = kn := by omega
      have hcs : Cts cs := ⟨fun e => by rw [e] at hcl; simp at hcl; omega, by omega, cg⟩
      lcg_sub
      refine w_lctext hcs ?_
      lcg_sub
      refine w_ctext hcs ?_
      lcg_sub
      have htx := ctxt_tx hcs
      have hw := ctxt_words hcs
      have hrd : rdErr kn (wordsP (ctxt cs)) = none := by
        rw [hw, rd_none fun j u hu => ?_, if_neg (by simp; omega)]
        obtain ⟨hj, e⟩ := List.getElem?_eq_some_iff.mp hu
        rw [List.length_map] at hj
        rw [List.getElem_map] at e
        have hc := cg cs[j] (List.getElem_mem _)
        rw [← e, (num_of hc.1 hc.2).num, decide_eq_false (show j ≠ kn by omega)]
        rfl
      have hval : ((wordsP (ctxt cs)).map fun w => D.int (valN w)) = cs.map D.int := by
        rw [hw, List.map_map]
        refine List.map_congr_left fun c hc => ?_
        have := (num_of (cg c hc).1 (cg c hc).2).val
        show D.int (valN (numT c)) = _
        rw [this]
      obtain ⟨wp1, wp2⟩ := words_parts htx
      refine w_read (by have := htx.2; omega) (by omega) (fun w hw => by have := (wp2 w hw).2; omega) (fun _ => ?_) (fun j e => by rw [hrd] at e; cases e)
      rw [hval]
      have sh1 : Sh 6 100000 (.str (ctxt cs)) := by
        refine Sh.up (n := 0) (m := 10 * 128 + 2) ⟨htx.1, ?_⟩ (by decide) (by decide)
        have := htx.2
        show 10 * (ctxt cs).length + 2 ≤ _
        omega
      have sh2 : Sh 6 100000 (.tup (cs.map D.int)) := (sh_ints (c := 4) (fun c hc => ⟨Int.le_trans (by decide +kernel) (cg c hc).1, Int.le_trans (Int.le_of_lt (cg c hc).2) (by decide +kernel)⟩) hcs.2.1).up (by decide) (by decide)
      lcg_sub
      refine w_repr (sh_lst2 sh1 sh2) (by decide) (by decide) ?_
      lcg_sub
      refine w_repr (sh_lst2 sh1 sh2) (by decide) (by decide) ?_
      lcg_sub
      refine w_neStr ?_
      lcg_sub
      refine ⟨fun z => (by cases z), fun _ => ?_⟩
      lcg_sub
      refine w_forR (n := 6) (fun i env S => ∃ x3 x7 x8 x11 x12, env = [.val (.lst (ns.map D.int)), .val (.obj 0), .val (.lst odd), x3, .val (houseD kn ps), .val (.tup (cs.map D.int)), .val (.str (ctxt cs)), x7, x8, .val (.int (kn : Int)), .val (encLs ps), x11, x12] ∧ BG S []) ⟨_, _, _, _, _, rfl, h4⟩ ?_ ?_
      · rintro j env S5 hj ⟨x3, x7, x8, x11, x12, rfl, h5⟩
        refine ⟨_, rfl, ?_⟩
        lcg_sub
        refine w_lwords (by have := htx.2; omega) ?_
        lcg_sub
        rw [hw]
        have wl0 : WL 4 32 ((cs.map numT).map D.str) := ⟨_, rfl, by simpa using hcs.2.1, fun w h => (cts_ws hcs w h).up (by decide)⟩
        refine w_spoilt h5 (by decide) (by decide) wl0 hodd ho0 fun ds1 S6 wl1 h6 => ?_
        lcg_sub
        refine w_spoilt h6 (by decide) (by decide) wl1 hodd ho0 fun ds2 S7 wl2 h7 => ?_
        lcg_sub
        refine w_blanks h7 (by decide) (by decide) wl2 fun y S8 hy h8 => ?_
        obtain ⟨r, shr, t1, t2⟩ := w_same (k := kn) (row := encLs ps) hkn (.inl ⟨y, rfl, hy.up (by decide)⟩)
        lcg_sub
        refine t1 ?_
        lcg_sub
        refine w_repr shr (by decide) (by decide) ?_
        lcg_sub
        refine t2 ?_
        lcg_sub
        refine w_repr shr (by decide) (by decide) ?_
        lcg_sub
        refine w_neStr ?_
        lcg_sub
        refine ⟨fun z => (by cases z), fun _ => ?_⟩
        lcg_sub
        exact ⟨_, _, _, _, _, rfl, h8⟩
      · rintro env S5 ⟨x3, x7, x8, x11, x12, rfl, h5⟩
        lcg_sub
        refine w_lodd h5 fun o S6 ho h6 => ?_
        lcg_sub
        have hm : mulSD (.str "0 ") (.int (kn : Int)) = some (.str (repS "0 " kn)) := by
          have : kn = 1 ∨ kn = 2 ∨ kn = 3 ∨ kn = 4 := by omega
          rcases this with rfl | rfl | rfl | rfl <;> exact mulS_ok (by decide +kernel)
        have hmo : Vok (.str (repS "0 " kn)) := by
          have : kn = 1 ∨ kn = 2 ∨ kn = 3 ∨ kn = 4 := by omega
          rcases this with rfl | rfl | rfl | rfl <;> exact vok_of (by decide +kernel)
        refine w_op2 hm ?_
        lcg_sub
        refine w_op2 (mulS_ok (by decide +kernel)) ?_
        lcg_sub
        have hall : ∀ v ∈ [o, .tup (cs.map D.int), .lst (cs.map D.int), houseD kn ps, .str "", .str "   ", .str (repS "0 " kn), .str (repS "0 " 5), .str "7", .str " x"], Vok v := fun v hv => by
          simp only [List.mem_cons, List.not_mem_nil, or_false] at hv
          rcases hv with rfl | rfl | rfl | rfl | rfl | rfl | rfl | rfl | rfl | rfl
          · exact ho
          · exact .inr (.inl ⟨rfl, rfl⟩)
          · exact .inr (.inl ⟨rfl, rfl⟩)
          · exact .inr (.inr ⟨_, rfl⟩)
          · exact vok_of (by decide +kernel)
          · exact vok_of (by decide +kernel)
          · exact hmo
          · exact vok_of (by decide +kernel)
          · exact vok_of (by decide +kernel)
          · exact vok_of (by decide +kernel)
        refine wp_for (fun i env S => ∃ x3 x7 x8 x11 x12, env = [.val (.lst (ns.map D.int)), .val (.obj 0), .val (.lst odd), x3, .val (houseD kn ps), .val (.tup (cs.map D.int)), .val (.str (ctxt cs)), x7, x8, .val (.int (kn : Int)), .val (encLs ps), x11, x12] ∧ BG S []) ⟨_, _, _, _, _, rfl, h6⟩ ?_ ?_
        · rintro j v env S7 hj ⟨y3, y7, y8, y11, y12, rfl, h7⟩
          have hv := hall v (List.mem_of_getElem? hj)
          obtain ⟨r, shr, t1, t2⟩ := w_same (k := kn) (row := encLs ps) hkn hv
          refine ⟨_, rfl, ?_⟩
          lcg_sub
          refine t1 ?_
          lcg_sub
          refine w_repr shr (by decide) (by decide) ?_
          lcg_sub
          refine t2 ?_
          lcg_sub
          refine w_repr shr (by decide) (by decide) ?_
          lcg_sub
          refine w_neStr ?_
          lcg_sub
          refine ⟨fun z => (by cases z), fun _ => ?_⟩
          lcg_sub
          exact ⟨_, _, _, _, _, rfl, h7⟩
        · rintro env S7 ⟨y3, y7, y8, y11, y12, rfl, h7⟩
          exact ⟨odd, _, _, _, _, _, _, _, _, _, _, rfl, hodd, ho0, h7⟩
  · rintro env S2 ⟨odd, x3, x4, x5, x6, x7, x8, x9, x10, x11, x12, rfl, hodd, ho0, h2⟩
    lcg_sub
    rfl

end Hd
theorem PySem.Challenge.cw_poolcounts_k36_texts_of_counts_holds : PySem.Challenge.rw_poolcounts_k36_texts_of_counts.Holds := by
  exact Hd.done fun ns h _ => Hd.law_mean ns h
