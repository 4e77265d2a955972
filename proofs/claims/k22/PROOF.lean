import PyProof.Rows.All
import Wide.All
import OpenK.AllK
import Wide.FinOn
import KE.KStateDown
import Lean
import HandS.ForMost
import HandS.ForExc
import HandS.IsInst
import HandS.Zip
import HandS.SortKw
import HandS.TupLe
import HandS.TupAny
import HandS.TupMul
import HandS.Flow
import HandS.Style
import HandS.Wide
import HandS.Deep
import HandS.Conv
import HandS.FStr
import HandS.StrMore
import HandS.Property
import HandS.OwnEq
import HandS.TupSets
import HandS.DictTup
import HandS.EndBits
import HandS.Defaults
import HandS.HeadHook2
import HandS.HeadEnd
import HandS.Head2
import KE.KTupSum
import KE.SortData
import PySem.Challenge.RW_poolcounts_k22_counts_that_pass
set_option Elab.async false
set_option linter.all false
set_option autoImplicit false
set_option maxRecDepth 100000
set_option maxHeartbeats 4000000
/-! Pc, part A: data by value, the heap's part that stands for it, what a step keeps. -/
namespace Pc
open PySem PySem.Spec PyProof.Rows L2

inductive D where
  | non | bl (b : Bool) | int (i : Int) | str (x : Str)
  | tup (xs : List D) | lst (xs : List D)
  | dct (kvs : List (Key × D))
  | ins (c : Nat) (fs : List (Str × D))
  | obj (h : Nat)
  | ext (v : V)

/-- a mutable object of the store -/
inductive Ob where
  | lst (xs : List D)
  | dct (kvs : List (Key × D))
  | ins (c : Nat) (fs : List (Str × D))
abbrev Store := List Ob

/-- the written part, the classes by their numbers -/
structure Gc where
  K : PySem.W.Frag
  cl : Nat → Addr

/-- heap, addresses that are nobody's frozen data, handles -/
structure Wd where
  H : Hp
  N : List Addr
  m : List Addr

mutual
inductive Rep (g : Gc) (w : Wd) : V → D → Prop
  | non : Rep g w .non .non
  | bl (b : Bool) : Rep g w (.bl b) (.bl b)
  | int (i : Int) : Rep g w (.int i) (.int i)
  | str (x : Str) : Rep g w (.str x) (.str x)
  | tup {a : Addr} {vs : List V} {ds : List D} : SqT g.K w.H a vs → RepL g w vs ds → Rep g w (.ref a) (.tup ds)
  | lst {a : Addr} {vs : List V} {ds : List D} : Rd w.H a (.lst vs) → a ∉ w.N → RepL g w vs ds → Rep g w (.ref a) (.lst ds)
  | lstK {a : Addr} {vs : List V} {ds : List D} : (∀ H, SqL g.K H a vs) → RepL g w vs ds → Rep g w (.ref a) (.lst ds)
  | dct {a : Addr} {kvs : List (Key × V)} {ks : List (Key × D)} : w.H a = some (.dK kvs) → a ∉ w.N → RepK g w kvs ks → Rep g w (.ref a) (.dct ks)
  | ins {a dx : Addr} {c : Nat} {fs : List (Str × V)} {ds : List (Str × D)} : w.H a = some (.ins (g.cl c) dx fs) → a ∉ w.N → RepF g w fs ds → Rep g w (.ref a) (.ins c ds)
  | obj {a : Addr} {h : Nat} : w.m[h]? = some a → Rep g w (.ref a) (.obj h)
  | ext (v : V) : Rep g w v (.ext v)
inductive RepL (g : Gc) (w : Wd) : List V → List D → Prop
  | nil : RepL g w [] []
  | cons {v : V} {d : D} {vs : List V} {ds : List D} : Rep g w v d → RepL g w vs ds → RepL g w (v :: vs) (d :: ds)
inductive RepK (g : Gc) (w : Wd) : List (Key × V) → List (Key × D) → Prop
  | nil : RepK g w [] []
  | cons {k : Key} {v : V} {d : D} {vs : List (Key × V)} {ds : List (Key × D)} : Rep g w v d → RepK g w vs ds → RepK g w ((k, v) :: vs) ((k, d) :: ds)
inductive RepF (g : Gc) (w : Wd) : List (Str × V) → List (Str × D) → Prop
  | nil : RepF g w [] []
  | cons {k : Str} {v : V} {d : D} {vs : List (Str × V)} {ds : List (Str × D)} : Rep g w v d → RepF g w vs ds → RepF g w ((k, v) :: vs) ((k, d) :: ds)
end

/-- frozen data stays -/
structure Mono (w w' : Wd) : Prop where
  mp : ∀ (i : Nat) (a : Addr), w.m[i]? = some a → w'.m[i]? = some a
  keep : ∀ a o, w.H a = some o → a ∉ w.N → w'.H a = some o
  tup : ∀ a xs, w.H a = some (.tup xs) → w'.H a = some (.tup xs)
  frz : ∀ a o u, w.H a = some (.frz o u) → w'.H a = some (.frz o u)
  new : ∀ a ∈ w'.N, a ∈ w.N ∨ w.H a = none
theorem Mono.refl (w : Wd) : Mono w w := ⟨fun _ _ h => h, fun _ _ h _ => h, fun _ _ h => h, fun _ _ _ h => h, fun _ h => .inl h⟩
theorem Mono.trans {a b c : Wd} (x : Mono a b) (y : Mono b c) : Mono a c := by
  refine ⟨fun i p h => y.mp i p (x.mp i p h), fun p o h n => ?_, fun p o h => y.tup p o (x.tup p o h), fun p o u h => y.frz p o u (x.frz p o u h), fun p h => ?_⟩
  · refine y.keep p o (x.keep p o h n) fun hn => ?_
    rcases x.new p hn with q | q
    · exact n q
    · rw [q] at h; cases h
  · rcases y.new p h with q | q
    · exact x.new p q
    · cases e : a.H p with
      | none => exact .inr rfl
      | some o =>
        by_cases hn : p ∈ a.N
        · exact .inl hn
        · rw [x.keep p o e hn] at q; cases q

theorem Mono.rdL {w w' : Wd} (k : Mono w w') {a : Addr} {vs : List V} (h : Rd w.H a (.lst vs)) (n : a ∉ w.N) : Rd w'.H a (.lst vs) := by
  rcases h with h | ⟨o, h⟩
  · exact .inl (k.keep a _ h n)
  · exact .inr ⟨o, k.frz a _ _ h⟩
theorem Mono.sqT {K : PySem.W.Frag} {w w' : Wd} (k : Mono w w') {a : Addr} {vs : List V} (h : SqT K w.H a vs) : SqT K w'.H a vs := by
  rcases h with (h | ⟨o, h⟩) | h
  · exact .inl (.inl (k.tup a _ h))
  · exact .inl (.inr ⟨o, k.frz a _ _ h⟩)
  · exact .inr h
theorem Rd.some {H : Hp} {a : Addr} {u : HO} (h : Rd H a u) : ∃ o, H a = some o := by
  rcases h with h | ⟨o, h⟩
  · exact ⟨_, h⟩
  · exact ⟨_, h⟩
theorem Mono.out {w w' : Wd} (k : Mono w w') {a : Addr} {o : HO} (h : w.H a = some o) (n : a ∉ w.N) : a ∉ w'.N := fun q => by
  rcases k.new a q with z | z
  · exact n z
  · rw [z] at h; cases h

mutual
theorem Rep.mono {g : Gc} {w w' : Wd} (k : Mono w w') : ∀ {v : V} {d : D}, Rep g w v d → Rep g w' v d
  | _, _, .non => .non
  | _, _, .bl b => .bl b
  | _, _, .int i => .int i
  | _, _, .str x => .str x
  | _, _, .tup h r => .tup (k.sqT h) (RepL.mono k r)
  | _, _, .lst h n r => .lst (k.rdL h n) (let ⟨_, e⟩ := Rd.some h; k.out e n) (RepL.mono k r)
  | _, _, .lstK h r => .lstK h (RepL.mono k r)
  | _, _, .dct h n r => .dct (k.keep _ _ h n) (k.out h n) (RepK.mono k r)
  | _, _, .ins h n r => .ins (k.keep _ _ h n) (k.out h n) (RepF.mono k r)
  | _, _, .obj e => .obj (k.mp _ _ e)
  | _, _, .ext v => .ext v
theorem RepL.mono {g : Gc} {w w' : Wd} (k : Mono w w') : ∀ {v : List V} {d : List D}, RepL g w v d → RepL g w' v d
  | _, _, .nil => .nil
  | _, _, .cons r t => .cons (Rep.mono k r) (RepL.mono k t)
theorem RepK.mono {g : Gc} {w w' : Wd} (k : Mono w w') : ∀ {v : List (Key × V)} {d : List (Key × D)}, RepK g w v d → RepK g w' v d
  | _, _, .nil => .nil
  | _, _, .cons r t => .cons (Rep.mono k r) (RepK.mono k t)
theorem RepF.mono {g : Gc} {w w' : Wd} (k : Mono w w') : ∀ {v : List (Str × V)} {d : List (Str × D)}, RepF g w v d → RepF g w' v d
  | _, _, .nil => .nil
  | _, _, .cons r t => .cons (Rep.mono k r) (RepF.mono k t)
end

section
variable {g : Gc} {w : Wd}
theorem RepL.length : ∀ {vs : List V} {ds : List D}, RepL g w vs ds → vs.length = ds.length
  | _, _, .nil => rfl
  | _, _, .cons _ t => congrArg (· + 1) (RepL.length t)
theorem RepL.append : ∀ {vs us : List V} {ds es : List D}, RepL g w vs ds → RepL g w us es → RepL g w (vs ++ us) (ds ++ es)
  | _, _, _, _, .nil, s => s
  | _, _, _, _, .cons r t, s => .cons r (RepL.append t s)
theorem RepL.get : ∀ {vs : List V} {ds : List D} {i : Nat} {d : D}, RepL g w vs ds → ds[i]? = some d → ∃ v, vs[i]? = some v ∧ Rep g w v d
  | _, _, _, _, .nil, h => by simp at h
  | _, _, 0, _, .cons r _, h => by simp at h; subst h; exact ⟨_, rfl, r⟩
  | _, _, i + 1, _, .cons _ t, h => by
    obtain ⟨v, a, b⟩ := RepL.get t (i := i) (by simpa using h)
    exact ⟨v, by simpa using a, b⟩
theorem RepL.get' : ∀ {vs : List V} {ds : List D} {i : Nat} {v : V}, RepL g w vs ds → vs[i]? = some v → ∃ d, ds[i]? = some d ∧ Rep g w v d
  | _, _, _, _, .nil, h => by simp at h
  | _, _, 0, _, .cons r _, h => by simp at h; subst h; exact ⟨_, rfl, r⟩
  | _, _, i + 1, _, .cons _ t, h => by
    obtain ⟨v, a, b⟩ := RepL.get' t (i := i) (by simpa using h)
    exact ⟨v, by simpa using a, b⟩
theorem RepL.set {v : V} {d : D} (r : Rep g w v d) : ∀ {vs : List V} {ds : List D} (i : Nat), RepL g w vs ds → RepL g w (vs.set i v) (ds.set i d)
  | _, _, _, .nil => .nil
  | _, _, 0, .cons _ t => .cons r t
  | _, _, i + 1, .cons q t => .cons q (RepL.set r i t)
theorem RepL.take : ∀ {vs : List V} {ds : List D} (n : Nat), RepL g w vs ds → RepL g w (vs.take n) (ds.take n)
  | _, _, 0, _ => .nil
  | _, _, _ + 1, .nil => .nil
  | _, _, n + 1, .cons r t => .cons r (RepL.take n t)
theorem RepL.drop : ∀ {vs : List V} {ds : List D} (n : Nat), RepL g w vs ds → RepL g w (vs.drop n) (ds.drop n)
  | _, _, 0, r => r
  | _, _, _ + 1, .nil => .nil
  | _, _, n + 1, .cons _ t => RepL.drop n t
theorem RepL.eraseIdx : ∀ {vs : List V} {ds : List D} (n : Nat), RepL g w vs ds → RepL g w (vs.eraseIdx n) (ds.eraseIdx n)
  | _, _, _, .nil => .nil
  | _, _, 0, .cons _ t => t
  | _, _, n + 1, .cons r t => .cons r (RepL.eraseIdx n t)
theorem RepL.dropLast : ∀ {vs : List V} {ds : List D}, RepL g w vs ds → RepL g w vs.dropLast ds.dropLast
  | _, _, .nil => .nil
  | _, _, .cons _ .nil => .nil
  | _, _, .cons r (.cons q t) => .cons r (RepL.dropLast (.cons q t))
theorem RepL.reverse {vs : List V} {ds : List D} (h : RepL g w vs ds) : RepL g w vs.reverse ds.reverse := by
  induction vs generalizing ds with
  | nil => cases h; exact .nil
  | cons v vs ih =>
    cases h with
    | cons r t =>
      rw [List.reverse_cons, List.reverse_cons]
      exact (ih t).append (.cons r .nil)
theorem RepL.ints : ∀ (ns : List Int), RepL g w (ns.map V.int) (ns.map D.int)
  | [] => .nil
  | n :: ns => .cons (.int n) (RepL.ints ns)
theorem RepL.bls : ∀ (ns : List Bool), RepL g w (ns.map V.bl) (ns.map D.bl)
  | [] => .nil
  | n :: ns => .cons (.bl n) (RepL.bls ns)
theorem RepL.int_inv : ∀ {vs : List V} {ns : List Int}, RepL g w vs (ns.map D.int) → vs = ns.map V.int
  | _, [], .nil => rfl
  | _, n :: ns, .cons r t => by cases r; rw [RepL.int_inv t]; rfl
theorem RepL.bl_inv : ∀ {vs : List V} {ns : List Bool}, RepL g w vs (ns.map D.bl) → vs = ns.map V.bl
  | _, [], .nil => rfl
  | _, n :: ns, .cons r t => by cases r; rw [RepL.bl_inv t]; rfl
theorem RepL.str_inv : ∀ {vs : List V} {ns : List Str}, RepL g w vs (ns.map D.str) → vs = ns.map V.str
  | _, [], .nil => rfl
  | _, n :: ns, .cons r t => by cases r; rw [RepL.str_inv t]; rfl
end

/-! ### the store -/
def ObR (g : Gc) (w : Wd) (a : Addr) : Ob → Prop
  | .lst xs => ∃ vs, w.H a = some (.lst vs) ∧ RepL g w vs xs
  | .dct kvs => ∃ ks, w.H a = some (.dK ks) ∧ RepK g w ks kvs
  | .ins c fs => ∃ dx vs, w.H a = some (.ins (g.cl c) dx vs) ∧ RepF g w vs fs

structure SR (g : Gc) (w : Wd) (S : Store) : Prop where
  len : w.m.length = S.length
  nd : w.m.Nodup
  sub : ∀ a ∈ w.m, a ∈ w.N
  here : ∀ a ∈ w.N, ∃ o, w.H a = some o
  at_ : ∀ (i : Nat) ob, S[i]? = some ob → ∃ a, w.m[i]? = some a ∧ ObR g w a ob

/-- what a step of an expression, a call, keeps -/
structure Keep (w w' : Wd) : Prop extends Mono w w' where
  kp : ∀ a o, w.H a = some o → a ∉ w.m → w'.H a = some o
  sub : ∀ a ∈ w.N, a ∈ w'.N
  newm : ∀ a ∈ w'.m, a ∈ w.m ∨ w.H a = none
theorem Keep.refl (w : Wd) : Keep w w := ⟨Mono.refl w, fun _ _ h _ => h, fun _ h => h, fun _ h => .inl h⟩
theorem Keep.trans {a b c : Wd} (x : Keep a b) (y : Keep b c) : Keep a c := by
  refine ⟨x.toMono.trans y.toMono, fun p o h n => ?_, fun p h => y.sub p (x.sub p h), fun p h => ?_⟩
  · refine y.kp p o (x.kp p o h n) fun hn => ?_
    rcases x.newm p hn with q | q
    · exact n q
    · rw [q] at h; cases h
  · rcases y.newm p h with q | q
    · exact x.newm p q
    · cases e : a.H p with
      | none => exact .inr rfl
      | some o =>
        by_cases hn : p ∈ a.m
        · exact .inl hn
        · rw [x.kp p o e hn] at q; cases q
end Pc

set_option Elab.async false
set_option linter.all false
set_option autoImplicit false
set_option maxRecDepth 100000
set_option maxHeartbeats 4000000
/-! Pc, part B: the monad, slots, what is wanted behind a step. -/
namespace Pc
open PySem PySem.Spec PyProof.Rows L2

inductive R (α : Type) where
  | ok (a : α) (S : Store)
  | ex (c : Nat) (fs : List D) (S : Store)
  | bad
def M (α : Type) := Store → R α
def M.bind {α β : Type} (x : M α) (f : α → M β) : M β := fun S => match x S with
  | .ok a S' => f a S'
  | .ex c fs S' => .ex c fs S'
  | .bad => .bad
instance : Monad M where
  pure a := fun S => .ok a S
  bind := M.bind
def fail {α : Type} : M α := fun _ => .bad
def ofO {α : Type} : Option α → M α
  | some a => pure a
  | none => fail

inductive Sl where
  | no | val (d : D) | own (xs : List D) | owd (kvs : List (Key × D))
abbrev Ev := List Sl
def Sl.isOwn : Sl → Bool
  | .own _ => true
  | .owd _ => true
  | _ => false
def ownAt (env : Ev) (i : Nat) : Prop := ∃ s, env[i]? = some s ∧ s.isOwn = true

/-- the slots; N0: what was nobody's frozen data at the def's entry -/
structure ER (g : Gc) (N0 : List Addr) (w : Wd) (env : Ev) (σ : L2.St) : Prop where
  len : σ.length = env.length
  val : ∀ (i : Nat) d, env[i]? = some (.val d) → ∃ v, σ[i]? = some (some v) ∧ Rep g w v d
  own : ∀ (i : Nat) xs, env[i]? = some (.own xs) → ∃ a vs, σ[i]? = some (some (.ref a)) ∧ w.H a = some (.lst vs) ∧ a ∈ w.N ∧ a ∉ w.m ∧ a ∉ N0 ∧ RepL g w vs xs
  owd : ∀ (i : Nat) xs, env[i]? = some (.owd xs) → ∃ a vs, σ[i]? = some (some (.ref a)) ∧ w.H a = some (.dK vs) ∧ a ∈ w.N ∧ a ∉ w.m ∧ a ∉ N0 ∧ RepK g w vs xs
  ap : ∀ (i j : Nat), i ≠ j → ownAt env i → ownAt env j → σ[i]? ≠ σ[j]?

theorem ER.keep {g : Gc} {N0 : List Addr} {w w' : Wd} {env : Ev} {σ : L2.St} (e : ER g N0 w env σ) (k : Keep w w') : ER g N0 w' env σ := by
  refine ⟨e.len, fun i d h => ?_, fun i xs h => ?_, fun i xs h => ?_, e.ap⟩
  · obtain ⟨v, a, b⟩ := e.val i d h
    exact ⟨v, a, b.mono k.toMono⟩
  · obtain ⟨a, vs, h1, h2, h3, h4, h5, h6⟩ := e.own i xs h
    refine ⟨a, vs, h1, k.kp a _ h2 h4, k.sub a h3, fun q => ?_, h5, h6.mono k.toMono⟩
    rcases k.newm a q with z | z
    · exact h4 z
    · rw [z] at h2; cases h2
  · obtain ⟨a, vs, h1, h2, h3, h4, h5, h6⟩ := e.owd i xs h
    refine ⟨a, vs, h1, k.kp a _ h2 h4, k.sub a h3, fun q => ?_, h5, h6.mono k.toMono⟩
    rcases k.newm a q with z | z
    · exact h4 z
    · rw [z] at h2; cases h2

/-- an exception: its class, its own dict with its fields -/
def ExR (g : Gc) (w : Wd) (cls : Value) (dd : Option Addr) (c : Nat) (fs : List D) : Prop :=
  cls = .ref (g.cl c) ∧ ∃ fvs : List (Str × V), (match dd with
    | some d => w.H d = some (.xd fvs)
    | none => fvs = []) ∧ RepL g w (fvs.map (·.2)) fs

/-- what is wanted behind a step that began at w: rel w w' y a ties the value y to its meaning a -/
def Pst (g : Gc) (Wx : WX) (σ : L2.St) {α β : Type} (rel : Wd → Wd → β → α → Prop) (w : Wd) (r : R α) (Q : β → Hp → Prop) : Prop :=
  match r with
  | .ok a S' => ∀ w' y, Keep w w' → SR g w' S' → rel w w' y a → Q y w'.H
  | .ex c fs S' => ∀ w' cls dd, Keep w w' → SR g w' S' → ExR g w' cls dd c fs → Wx cls dd σ w'.H
  | .bad => False

def tr (g : Gc) (N0 : List Addr) (Wx : WX) {α β : Type} (rel : Wd → Wd → β → α → Prop) (f : Ev → M α) : L2.St → Hp → (β → Hp → Prop) → Prop := fun σ H Q =>
  ∃ w env S, w.H = H ∧ ER g N0 w env σ ∧ SR g w S ∧ Pst g Wx σ rel w (f env S) Q

section
variable {g : Gc} {N0 : List Addr} {Wx : WX} {σ : L2.St} {α β γ δ : Type} {rel : Wd → Wd → β → α → Prop} {w : Wd} {Q Q' : β → Hp → Prop}
theorem tr_intro {f : Ev → M α} {env : Ev} {S : Store} (e : ER g N0 w env σ) (s : SR g w S) (h : Pst g Wx σ rel w (f env S) Q) : tr g N0 Wx rel f σ w.H Q := ⟨w, env, S, rfl, e, s, h⟩
theorem pst_imp {r : R α} (h : Pst g Wx σ rel w r Q) (q : ∀ y H, Q y H → Q' y H) : Pst g Wx σ rel w r Q' := by
  cases r with
  | ok a S => exact fun w' y k s r => q _ _ (h w' y k s r)
  | ex c fs S => exact h
  | bad => exact h
/-- the wish may know more of the end -/
theorem pst_and {r : R α} (h : Pst g Wx σ rel w r Q) : Pst g Wx σ rel w r fun y H => Q y H ∧ ∃ w' a S', r = .ok a S' ∧ w'.H = H ∧ Keep w w' ∧ SR g w' S' ∧ rel w w' y a := by
  cases r with
  | ok a S => exact fun w' y k s r => ⟨h w' y k s r, w', a, S, rfl, rfl, k, s, r⟩
  | ex c fs S => exact h
  | bad => exact h
theorem pst_rebase {w1 : Wd} {r : R α} (hr : ∀ w' y a, rel w1 w' y a → rel w w' y a) (k : Keep w w1) (h : Pst g Wx σ rel w r Q) : Pst g Wx σ rel w1 r Q := by
  cases r with
  | ok a S => exact fun w' y k' s r => h w' y (k.trans k') s (hr _ _ _ r)
  | ex c fs S => exact fun w' cls dd k' s e => h w' cls dd (k.trans k') s e
  | bad => exact h
/-- two steps in a row -/
theorem pst_bind {relA : Wd → Wd → δ → γ → Prop} {x : M γ} {k : γ → M α} {S : Store} (hr : ∀ w1 w' y a, Keep w w1 → rel w1 w' y a → rel w w' y a) (h : Pst g Wx σ rel w ((x >>= k) S) Q) :
    Pst g Wx σ relA w (x S) fun y H1 => ∃ w1 a S1, w1.H = H1 ∧ Keep w w1 ∧ SR g w1 S1 ∧ relA w w1 y a ∧ Pst g Wx σ rel w1 (k a S1) Q := by
  have e : (x >>= k) S = M.bind x k S := rfl
  rw [e] at h
  unfold M.bind at h
  cases q : x S with
  | ok a S1 =>
    rw [q] at h
    intro w1 y kp s r
    exact ⟨w1, a, S1, rfl, kp, s, r, pst_rebase (fun w' y a z => hr w1 w' y a kp z) kp h⟩
  | ex c fs S1 => rw [q] at h; exact h
  | bad => rw [q] at h; exact h
end

abbrev rl (g : Gc) : Wd → Wd → V → D → Prop := fun _ w v d => Rep g w v d
abbrev rlL (g : Gc) : Wd → Wd → List V → List D → Prop := fun _ w v d => RepL g w v d
abbrev rlB : Wd → Wd → Bool → Bool → Prop := fun _ _ a b => a = b
/-- a list (a dict) that may be a slot's own -/
def RepB (g : Gc) (w : Wd) (v : V) (d : D) : Prop := Rep g w v d ∨ (∃ a vs ds, v = .ref a ∧ d = .lst ds ∧ w.H a = some (.lst vs) ∧ a ∉ w.m ∧ RepL g w vs ds) ∨
  ∃ a vs ds, v = .ref a ∧ d = .dct ds ∧ w.H a = some (.dK vs) ∧ a ∉ w.m ∧ RepK g w vs ds
abbrev rlW (g : Gc) : Wd → Wd → V → D → Prop := fun _ w v d => RepB g w v d
/-- a new list, nobody's yet -/
def NewL (g : Gc) (w w' : Wd) (v : V) (xs : List D) : Prop := ∃ p vs, v = .ref p ∧ w'.H p = some (.lst vs) ∧ p ∈ w'.N ∧ p ∉ w'.m ∧ p ∉ w.N ∧ RepL g w' vs xs

/-! ### worlds that follow -/
/-- a new object that is frozen -/
theorem keep_new {w : Wd} {p : Addr} {o : HO} (h : w.H p = none) : Keep w ⟨upd w.H p o, w.N, w.m⟩ := by
  have st : ∀ (a : Addr) (u : HO), w.H a = some u → upd w.H p o a = some u := fun a u e => by
    rw [upd_ne (ne_of_none e h)]; exact e
  exact ⟨⟨fun _ _ e => e, fun a u e _ => st a u e, fun a u e => st a _ e, fun a u z e => st a _ e, fun a e => .inl e⟩, fun a u e _ => st a u e, fun _ e => e, fun a e => .inl e⟩
/-- .. that is nobody's -/
theorem keep_newN {w : Wd} {p : Addr} {o : HO} (h : w.H p = none) : Keep w ⟨upd w.H p o, p :: w.N, w.m⟩ := by
  have st : ∀ (a : Addr) (u : HO), w.H a = some u → upd w.H p o a = some u := fun a u e => by
    rw [upd_ne (ne_of_none e h)]; exact e
  refine ⟨⟨fun _ _ e => e, fun a u e _ => st a u e, fun a u e => st a _ e, fun a u z e => st a _ e, fun a e => ?_⟩, fun a u e _ => st a u e, fun _ e => List.mem_cons_of_mem _ e, fun a e => .inl e⟩
  rcases List.mem_cons.mp e with rfl | e
  · exact .inr h
  · exact .inl e
/-- .. with a handle -/
theorem keep_newM {w : Wd} {p : Addr} {o : HO} (h : w.H p = none) : Keep w ⟨upd w.H p o, p :: w.N, w.m ++ [p]⟩ := by
  have st : ∀ (a : Addr) (u : HO), w.H a = some u → upd w.H p o a = some u := fun a u e => by
    rw [upd_ne (ne_of_none e h)]; exact e
  refine ⟨⟨fun i a e => ?_, fun a u e _ => st a u e, fun a u e => st a _ e, fun a u z e => st a _ e, fun a e => ?_⟩, fun a u e _ => st a u e, fun _ e => List.mem_cons_of_mem _ e, fun a e => ?_⟩
  · have hi : i < w.m.length := (List.getElem?_eq_some_iff.mp e).1
    show (w.m ++ [p])[i]? = some a
    rw [List.getElem?_append_left hi]; exact e
  · rcases List.mem_cons.mp e with rfl | e
    · exact .inr h
    · exact .inl e
  · rcases List.mem_append.mp e with e | e
    · exact .inl e
    · rw [List.mem_singleton.mp e]; exact .inr h
/-- an own list becomes a handle's -/
theorem keep_toM {w : Wd} {p : Addr} {w0 : Wd} (k : Keep w0 w) (h : w0.H p = none) (hp : p ∈ w.N) : Keep w0 ⟨w.H, w.N, w.m ++ [p]⟩ := by
  refine ⟨⟨fun i a e => ?_, k.keep, k.tup, k.frz, k.new⟩, k.kp, k.sub, fun a e => ?_⟩
  · have e2 := k.mp i a e
    have hi : i < w.m.length := (List.getElem?_eq_some_iff.mp e2).1
    show (w.m ++ [p])[i]? = some a
    rw [List.getElem?_append_left hi]; exact e2
  · rcases List.mem_append.mp e with e | e
    · exact k.newm a e
    · rw [List.mem_singleton.mp e]; exact .inr h
/-- fewer that are nobody's -/
theorem mono_less {w : Wd} {N' : List Addr} (h : ∀ a ∈ N', a ∈ w.N) : Mono w ⟨w.H, N', w.m⟩ := ⟨fun _ _ e => e, fun _ _ e _ => e, fun _ _ e => e, fun _ _ _ e => e, fun a e => .inl (h a e)⟩
theorem keep_less {w0 w : Wd} {N' : List Addr} (k : Keep w0 w) (h : ∀ a ∈ N', a ∈ w.N) (h0 : ∀ a ∈ w0.N, a ∈ N') : Keep w0 ⟨w.H, N', w.m⟩ :=
  ⟨k.toMono.trans (mono_less h), k.kp, h0, k.newm⟩
section
variable {g : Gc} {w : Wd} {S : Store}
theorem SR.mono_at {w' : Wd} (s : SR g w S) (k : Mono w w') (hm : w'.m = w.m) (hN : ∀ a ∈ w.m, a ∈ w'.N) (hh : ∀ a ∈ w'.N, ∃ o, w'.H a = some o) (hk : ∀ a ∈ w.m, w'.H a = w.H a) : SR g w' S := by
  refine ⟨by rw [hm]; exact s.len, by rw [hm]; exact s.nd, by rw [hm]; exact hN, hh, fun i ob e => ?_⟩
  obtain ⟨a, ha, r⟩ := s.at_ i ob e
  refine ⟨a, by rw [hm]; exact ha, ?_⟩
  have hk' := hk a (List.mem_of_getElem? ha)
  cases ob with
  | lst xs => obtain ⟨vs, e1, e2⟩ := r; exact ⟨vs, by rw [hk']; exact e1, e2.mono k⟩
  | dct xs => obtain ⟨vs, e1, e2⟩ := r; exact ⟨vs, by rw [hk']; exact e1, e2.mono k⟩
  | ins c fs => obtain ⟨dx, vs, e1, e2⟩ := r; exact ⟨dx, vs, by rw [hk']; exact e1, e2.mono k⟩
theorem SR.notnone (s : SR g w S) {a : Addr} (h : a ∈ w.N) (q : w.H a = none) : False := by
  obtain ⟨o, e⟩ := s.here a h
  rw [q] at e; cases e
theorem SR.new (s : SR g w S) {p : Addr} {o : HO} (h : w.H p = none) : SR g ⟨upd w.H p o, w.N, w.m⟩ S := by
  refine s.mono_at (keep_new h).toMono rfl s.sub (fun a ha => ?_) fun a ha => ?_
  · obtain ⟨u, e⟩ := s.here a ha
    exact ⟨u, by show upd w.H p o a = _; rw [upd_ne (ne_of_none e h)]; exact e⟩
  · obtain ⟨u, e⟩ := s.here a (s.sub a ha)
    show upd w.H p o a = _
    rw [upd_ne (ne_of_none e h)]
theorem SR.newN (s : SR g w S) {p : Addr} {o : HO} (h : w.H p = none) : SR g ⟨upd w.H p o, p :: w.N, w.m⟩ S := by
  refine s.mono_at (keep_newN h).toMono rfl (fun a ha => List.mem_cons_of_mem _ (s.sub a ha)) (fun a ha => ?_) fun a ha => ?_
  · rcases List.mem_cons.mp ha with rfl | ha
    · exact ⟨o, upd_same⟩
    · obtain ⟨u, e⟩ := s.here a ha
      exact ⟨u, by show upd w.H p o a = _; rw [upd_ne (ne_of_none e h)]; exact e⟩
  · obtain ⟨u, e⟩ := s.here a (s.sub a ha)
    show upd w.H p o a = _
    rw [upd_ne (ne_of_none e h)]
/-- what is nobody's, and no handle's, is changed -/
theorem mono_own {a : Addr} {o u : HO} (h : w.H a = some u) (nt : ∀ xs, u ≠ .tup xs) (nf : ∀ ob z, u ≠ .frz ob z) (ha : a ∈ w.N) : Mono w ⟨upd w.H a o, w.N, w.m⟩ := by
  refine ⟨fun _ _ e => e, fun b z e n => ?_, fun b z e => ?_, fun b z y e => ?_, fun b e => .inl e⟩
  · show upd w.H a o b = _
    rw [upd_ne (fun (q : b = a) => n (by rw [q]; exact ha))]; exact e
  · show upd w.H a o b = _
    rw [upd_ne (fun q => by subst q; rw [h] at e; exact nt z (Option.some.inj e))]; exact e
  · show upd w.H a o b = _
    rw [upd_ne (fun q => by subst q; rw [h] at e; exact nf z y (Option.some.inj e))]; exact e
theorem SR.own (s : SR g w S) {a : Addr} {o u : HO} (h : w.H a = some u) (nt : ∀ xs, u ≠ .tup xs) (nf : ∀ ob z, u ≠ .frz ob z) (ha : a ∈ w.N) (hm : a ∉ w.m) : SR g ⟨upd w.H a o, w.N, w.m⟩ S := by
  refine s.mono_at (mono_own h nt nf ha) rfl s.sub (fun b hb => ?_) fun b hb => ?_
  · by_cases q : b = a
    · subst q; exact ⟨o, upd_same⟩
    · obtain ⟨z, e⟩ := s.here b hb
      exact ⟨z, by show upd w.H a o b = _; rw [upd_ne q]; exact e⟩
  · show upd w.H a o b = _
    rw [upd_ne (fun (q : b = a) => hm (by rw [← q]; exact hb))]
theorem SR.less (s : SR g w S) {N' : List Addr} (h : ∀ a ∈ N', a ∈ w.N) (h0 : ∀ a ∈ w.m, a ∈ N') : SR g ⟨w.H, N', w.m⟩ S :=
  s.mono_at (mono_less h) rfl h0 (fun a ha => s.here a (h a ha)) fun _ _ => rfl
end
end Pc

set_option Elab.async false
set_option linter.all false
set_option autoImplicit false
set_option maxRecDepth 100000
set_option maxHeartbeats 4000000
/-! Pc, part C: expressions. -/
namespace Pc
open PySem PySem.Spec PyProof.Rows L2

theorem PE.imp {X : Cx} {e : Expr} {t t' : TE} (h : PE X e t) (i : ∀ σ H Q, t' σ H Q → t σ H Q) : PE X e t' := ⟨fun pins s σ H Q I q => h.run pins s σ H Q I (i σ H Q q)⟩
theorem PT.imp {X : Cx} {e : Expr} {t t' : TT} (h : PT X e t) (i : ∀ σ H Q, t' σ H Q → t σ H Q) : PT X e t' := ⟨fun pins s σ H Q I q => h.run pins s σ H Q I (i σ H Q q)⟩
theorem PW.imp {X : Cx} {e : Expr} {t t' : TT} (h : PW X e t) (i : ∀ σ H Q, t' σ H Q → t σ H Q) : PW X e t' := ⟨fun wh pins s σ H Q I q => h.run wh pins s σ H Q I (i σ H Q q)⟩
theorem PA.imp {X : Cx} {e : List Expr} {t t' : TA} (h : PA X e t) (i : ∀ σ H Q, t' σ H Q → t σ H Q) : PA X e t' := ⟨fun pos pins s σ H Q I q => h.run pos pins s σ H Q I (i σ H Q q)⟩
theorem PS.imp {X : Cx} {e : Stmt} {t t' : TS} (h : PS X e t) (i : ∀ E σ H, t' E σ H → t E σ H) : PS X e t' := ⟨fun pins s σ H D I q => h.run pins s σ H D I (i D σ H q)⟩
theorem PSs.imp {X : Cx} {e : List Stmt} {t t' : TS} (h : PSs X e t) (i : ∀ E σ H, t' E σ H → t E σ H) : PSs X e t' := ⟨fun pins s σ H D I q => h.run pins s σ H D I (i D σ H q)⟩

inductive RepLB (g : Gc) (w : Wd) : List V → List D → Prop
  | nil : RepLB g w [] []
  | cons {v : V} {d : D} {vs : List V} {ds : List D} : RepB g w v d → RepLB g w vs ds → RepLB g w (v :: vs) (d :: ds)
abbrev rlLW (g : Gc) : Wd → Wd → List V → List D → Prop := fun _ w v d => RepLB g w v d
section
variable {g : Gc} {w w' : Wd}
theorem RepB.keep {v : V} {d : D} (k : Keep w w') (h : RepB g w v d) : RepB g w' v d := by
  rcases h with h | ⟨a, vs, ds, e1, e2, h1, h2, h3⟩ | ⟨a, vs, ds, e1, e2, h1, h2, h3⟩
  · exact .inl (h.mono k.toMono)
  · refine .inr (.inl ⟨a, vs, ds, e1, e2, k.kp a _ h1 h2, fun q => ?_, h3.mono k.toMono⟩)
    rcases k.newm a q with z | z
    · exact h2 z
    · rw [z] at h1; cases h1
  · refine .inr (.inr ⟨a, vs, ds, e1, e2, k.kp a _ h1 h2, fun q => ?_, h3.mono k.toMono⟩)
    rcases k.newm a q with z | z
    · exact h2 z
    · rw [z] at h1; cases h1
theorem RepLB.keep (k : Keep w w') : ∀ {vs : List V} {ds : List D}, RepLB g w vs ds → RepLB g w' vs ds
  | _, _, .nil => .nil
  | _, _, .cons r t => .cons (r.keep k) (RepLB.keep k t)
theorem RepLB.length : ∀ {vs : List V} {ds : List D}, RepLB g w vs ds → vs.length = ds.length
  | _, _, .nil => rfl
  | _, _, .cons _ t => congrArg (· + 1) (RepLB.length t)
/-- what stands there now: frozen, a slot's own, a handle's -/
def RepV (g : Gc) (w : Wd) (v : V) (d : D) : Prop := Rep g w v d ∨ (∃ a vs ds, v = .ref a ∧ d = .lst ds ∧ w.H a = some (.lst vs) ∧ RepL g w vs ds) ∨
  ∃ a vs ds, v = .ref a ∧ d = .dct ds ∧ w.H a = some (.dK vs) ∧ RepK g w vs ds
def derefO (h : Nat) : Option Ob → D
  | some (.lst xs) => .lst xs
  | some (.dct kvs) => .dct kvs
  | _ => .obj h
def deref (S : Store) : D → D
  | .obj h => derefO h S[h]?
  | d => d
theorem RepB.view {S : Store} {v : V} {d : D} (sr : SR g w S) (h : RepB g w v d) : RepV g w v (deref S d) := by
  rcases h with h | ⟨a, vs, ds, rfl, rfl, h1, h2, h3⟩ | ⟨a, vs, ds, rfl, rfl, h1, h2, h3⟩
  · cases d with
    | obj k =>
      cases h with
      | obj e =>
        show RepV g w _ (derefO k S[k]?)
        cases es : S[k]? with
        | none => exact .inl (.obj e)
        | some ob =>
          obtain ⟨q, e0, o0⟩ := sr.at_ k ob es
          rw [e] at e0
          cases e0
          cases ob with
          | lst xs => obtain ⟨vs, h1, h2⟩ := o0; exact .inr (.inl ⟨_, vs, xs, rfl, rfl, h1, h2⟩)
          | dct xs => obtain ⟨vs, h1, h2⟩ := o0; exact .inr (.inr ⟨_, vs, xs, rfl, rfl, h1, h2⟩)
          | ins c fs => exact .inl (.obj e)
    | _ => exact .inl h
  · exact .inr (.inl ⟨a, vs, ds, rfl, rfl, h1, h3⟩)
  · exact .inr (.inr ⟨a, vs, ds, rfl, rfl, h1, h3⟩)
theorem RepV.int {v : V} {i : Int} (h : RepV g w v (.int i)) : v = .int i := by
  rcases h with h | ⟨a, vs, ds, e1, e2, _⟩ | ⟨a, vs, ds, e1, e2, _⟩
  · cases h; rfl
  · cases e2
  · cases e2
theorem RepV.bl {v : V} {i : Bool} (h : RepV g w v (.bl i)) : v = .bl i := by
  rcases h with h | ⟨a, vs, ds, e1, e2, _⟩ | ⟨a, vs, ds, e1, e2, _⟩
  · cases h; rfl
  · cases e2
  · cases e2
theorem RepV.str {v : V} {i : Str} (h : RepV g w v (.str i)) : v = .str i := by
  rcases h with h | ⟨a, vs, ds, e1, e2, _⟩ | ⟨a, vs, ds, e1, e2, _⟩
  · cases h; rfl
  · cases e2
  · cases e2
theorem RepV.non {v : V} (h : RepV g w v .non) : v = .non := by
  rcases h with h | ⟨a, vs, ds, e1, e2, _⟩ | ⟨a, vs, ds, e1, e2, _⟩
  · cases h; rfl
  · cases e2
  · cases e2
theorem RepV.tup {v : V} {ds : List D} (h : RepV g w v (.tup ds)) : ∃ a vs, v = .ref a ∧ SqT g.K w.H a vs ∧ RepL g w vs ds := by
  rcases h with h | ⟨a, vs, ds, e1, e2, _⟩ | ⟨a, vs, ds, e1, e2, _⟩
  · cases h with
    | tup a b => exact ⟨_, _, rfl, a, b⟩
  · cases e2
  · cases e2
theorem RepV.lst {v : V} {ds : List D} (h : RepV g w v (.lst ds)) : ∃ a vs, v = .ref a ∧ SqL g.K w.H a vs ∧ RepL g w vs ds := by
  rcases h with h | ⟨a, vs, ds, e1, e2, e3, e5⟩ | ⟨a, vs, ds, e1, e2, _⟩
  · cases h with
    | lst a n b => exact ⟨_, _, rfl, .inl a, b⟩
    | lstK a b => exact ⟨_, _, rfl, a _, b⟩
  · cases e2; exact ⟨a, vs, e1, .inl (.inl e3), e5⟩
  · cases e2
theorem RepV.dct {v : V} {ds : List (Key × D)} (h : RepV g w v (.dct ds)) : ∃ a vs, v = .ref a ∧ w.H a = some (.dK vs) ∧ RepK g w vs ds := by
  rcases h with h | ⟨a, vs, ds, e1, e2, e3, e5⟩ | ⟨a, vs, ds, e1, e2, e3, e5⟩
  · cases h with
    | dct a n b => exact ⟨_, _, rfl, a, b⟩
  · cases e2
  · cases e2; exact ⟨a, vs, e1, e3, e5⟩
end

/-- the context of a body (or a block) that runs -/
structure Ok (g : Gc) (X : Cx) (k : Nat) : Prop where
  K : X.K = g.K
  calm : X.calm = true
  nd : X.N.Nodup
  room : Room k X.A
  gd : X.A.guards = some []

section
variable {g : Gc} {N0 : List Addr} {Wx : WX} {X : Cx}
abbrev DE (g : Gc) (N0 : List Addr) (Wx : WX) (X : Cx) (e : Expr) (f : Ev → M D) : Prop := PE X e (tr g N0 Wx (rl g) f)
abbrev DW (g : Gc) (N0 : List Addr) (Wx : WX) (X : Cx) (e : Expr) (f : Ev → M D) : Prop := PE X e (tr g N0 Wx (rlW g) f)
abbrev DL (g : Gc) (N0 : List Addr) (Wx : WX) (X : Cx) (e : Expr) (f : Ev → M (List D)) : Prop := PE X e (tr g N0 Wx (NewL g) f)
abbrev DA (g : Gc) (N0 : List Addr) (Wx : WX) (X : Cx) (e : List Expr) (f : Ev → M (List D)) : Prop := PA X e (tr g N0 Wx (rlL g) f)
abbrev DB (g : Gc) (N0 : List Addr) (Wx : WX) (X : Cx) (e : List Expr) (f : Ev → M (List D)) : Prop := PA X e (tr g N0 Wx (rlLW g) f)
abbrev DT (g : Gc) (N0 : List Addr) (Wx : WX) (X : Cx) (e : Expr) (f : Ev → M Bool) : Prop := PT X e (tr g N0 Wx rlB f)

/-! ### names, constants -/
def rd (i : Nat) : Ev → M D := fun env => match env[i]? with
  | some (.val d) => pure d
  | _ => fail
def rdB (i : Nat) : Ev → M D := fun env => match env[i]? with
  | some (.val d) => pure d
  | some (.own xs) => pure (.lst xs)
  | some (.owd xs) => pure (.dct xs)
  | _ => fail
theorem de_var {i : Nat} {x : Str} {pos : Pos} (h : PE X (.Name x pos) (tVar i)) : DE g N0 Wx X (.Name x pos) (rd i) := by
  refine PE.imp h fun σ H Q ⟨w, env, S, e, er, sr, q⟩ => ?_
  subst e
  unfold rd at q
  cases hd : env[i]? with
  | none => rw [hd] at q; exact q.elim
  | some sl =>
    rw [hd] at q
    cases sl with
    | val d =>
      obtain ⟨v, e1, r⟩ := er.val i d hd
      exact ⟨v, e1, q w v (Keep.refl w) sr r⟩
    | _ => exact q.elim
theorem dw_var {i : Nat} {x : Str} {pos : Pos} (h : PE X (.Name x pos) (tVar i)) : DW g N0 Wx X (.Name x pos) (rdB i) := by
  refine PE.imp h fun σ H Q ⟨w, env, S, e, er, sr, q⟩ => ?_
  subst e
  unfold rdB at q
  cases hd : env[i]? with
  | none => rw [hd] at q; exact q.elim
  | some sl =>
    rw [hd] at q
    cases sl with
    | val d =>
      obtain ⟨v, e1, r⟩ := er.val i d hd
      exact ⟨v, e1, q w v (Keep.refl w) sr (.inl r)⟩
    | own d =>
      obtain ⟨a, vs, e1, e2, e3, e4, e5, r⟩ := er.own i d hd
      exact ⟨_, e1, q w _ (Keep.refl w) sr (.inr (.inl ⟨a, vs, d, rfl, rfl, e2, e4, r⟩))⟩
    | owd d =>
      obtain ⟨a, vs, e1, e2, e3, e4, e5, r⟩ := er.owd i d hd
      exact ⟨_, e1, q w _ (Keep.refl w) sr (.inr (.inr ⟨a, vs, d, rfl, rfl, e2, e4, r⟩))⟩
    | no => exact q.elim
theorem dw_of {e : Expr} {f : Ev → M D} (h : DE g N0 Wx X e f) : DW g N0 Wx X e f := by
  refine PE.imp h fun σ H Q ⟨w, env, S, e, er, sr, q⟩ => ⟨w, env, S, e, er, sr, ?_⟩
  generalize f env S = r at q
  cases r with
  | ok a S' => exact fun w' y k s r => q w' y k s (.inl r)
  | ex c fs S' => exact q
  | bad => exact q
/-- what always gives one value -/
theorem de_con {e : Expr} {v : V} {d : D} (h : PE X e (tC v)) (r : ∀ w, Rep g w v d) : DE g N0 Wx X e (fun _ => pure d) := by
  refine PE.imp h fun σ H Q ⟨w, env, S, e, er, sr, q⟩ => ?_
  subst e
  exact q w v (Keep.refl w) sr (r w)

/-! ### operators -/
/-- an operation by values: sem tells its value where it is told -/
def OpS (g : Gc) (X : Cx) (f : Value → Value → Sem Value) (sem : D → D → Option D) : Prop :=
  ∃ r : R2, OpR X f r ∧ ∀ (w : Wd) (S : Store) (x y : V) (a b d : D) (Q : VK), sem a b = some d → SR g w S → RepV g w x a → RepV g w y b →
    (∀ w' v, Keep w w' → SR g w' S → Rep g w' v d → Q v w'.H) → r x y w.H Q
/-- an operation at the store -/
def op2 (sem : D → D → Option D) (x y : D) : M D := fun S => ofO (sem (deref S x) (deref S y)) S
def orS (s t : D → D → Option D) : D → D → Option D := fun a b => match s a b with
  | some d => some d
  | none => t a b
theorem OpS.or {f : Value → Value → Sem Value} {s t : D → D → Option D} (h : OpS g X f s) (h' : OpS g X f t) : OpS g X f (orS s t) := by
  obtain ⟨r, hr, q⟩ := h
  obtain ⟨r', hr', q'⟩ := h'
  refine ⟨_, hr.or hr', fun w S x y a b d Q e sr ra rb k => ?_⟩
  unfold orS at e
  split at e
  · rename_i d' e'
    cases e
    exact .inl (q w S x y a b _ Q e' sr ra rb k)
  · exact .inr (q' w S x y a b d Q e sr ra rb k)
section
variable {a b : Expr} {fa fb : Ev → M D} {pos : Pos}
/-- two operands, one after another -/
theorem two {σ : L2.St} {H : Hp} {β α : Type} {Q : β → Hp → Prop} {rel : Wd → Wd → β → α → Prop} {k : D → D → M α} {R : V → V → Hp → Prop} (hr : ∀ w w1 w' y a, Keep w w1 → rel w1 w' y a → rel w w' y a) (h : tr g N0 Wx rel (fun env => do let x ← fa env; let y ← fb env; k x y) σ H Q)
    (c : ∀ w S x y a b, SR g w S → RepB g w x a → RepB g w y b → Pst g Wx σ rel w (k a b S) Q → R x y w.H) : tr g N0 Wx (rlW g) fa σ H fun x H1 => tr g N0 Wx (rlW g) fb σ H1 fun y H2 => R x y H2 := by
  obtain ⟨w, env, S, e, er, sr, q⟩ := h
  subst e
  refine tr_intro er sr (pst_imp (pst_bind (relA := rlW g) (fun w1 w' y a => hr w w1 w' y a) q) fun x H1 ⟨w1, da, S1, e1, k1, s1, r1, q1⟩ => ?_)
  subst e1
  refine tr_intro (er.keep k1) s1 (pst_imp (pst_bind (relA := rlW g) (fun w1' w' y a => hr w1 w1' w' y a) q1) fun y H2 ⟨w2, db, S2, e2, k2, s2, r2, q2⟩ => ?_)
  subst e2
  exact c w2 S2 x y da db s2 (r1.keep k2) r2 q2
theorem de_bin {op : Operator} {sem : D → D → Option D} (ha : DW g N0 Wx X a fa) (hb : DW g N0 Wx X b fb) (ho : OpS g X (binaryOp op) sem) :
    DE g N0 Wx X (.BinOp a op b pos) (fun env => do let x ← fa env; let y ← fb env; op2 sem x y) := by
  obtain ⟨r, hr, q⟩ := ho
  refine PE.imp (pe_op hr ha hb) fun σ H Q h => ?_
  refine two (R := fun x y H2 => r x y H2 Q) (fun _ _ _ _ _ _ z => z) h fun w S x y a b sr ra rb p => ?_
  unfold op2 at p
  cases e : sem (deref S a) (deref S b) with
  | none => rw [e] at p; exact p.elim
  | some d => rw [e] at p; exact q w S x y _ _ d Q e sr (ra.view sr) (rb.view sr) fun w' v k s r => p w' v k s r
theorem de_cmp {op : CmpOp} {sem : D → D → Option D} (ha : DW g N0 Wx X a fa) (hb : DW g N0 Wx X b fb) (ho : OpS g X (compareOp op) sem) (hm : behindInMarks op b = false) :
    DE g N0 Wx X (.Compare a [op] [b] pos) (fun env => do let x ← fa env; let y ← fb env; op2 sem x y) := by
  obtain ⟨r, hr, q⟩ := ho
  refine PE.imp (pe_cmpR hr ha hb hm) fun σ H Q h => ?_
  refine two (R := fun x y H2 => r x y H2 Q) (fun _ _ _ _ _ _ z => z) h fun w S x y a b sr ra rb p => ?_
  unfold op2 at p
  cases e : sem (deref S a) (deref S b) with
  | none => rw [e] at p; exact p.elim
  | some d => rw [e] at p; exact q w S x y _ _ d Q e sr (ra.view sr) (rb.view sr) fun w' v k s r => p w' v k s r
def asB : D → M Bool
  | .bl b => pure b
  | _ => fail
theorem dt_cmp {op : CmpOp} {sem : D → D → Option D} (ha : DW g N0 Wx X a fa) (hb : DW g N0 Wx X b fb) (ho : OpS g X (compareOp op) sem) (hm : behindInMarks op b = false) :
    DT g N0 Wx X (.Compare a [op] [b] pos) (fun env => do let x ← fa env; let y ← fb env; let z ← op2 sem x y; asB z) := by
  obtain ⟨r, hr, q⟩ := ho
  refine PT.imp (pt_cmpR hr ha hb hm) fun σ H Q h => ?_
  refine two (R := fun x y H2 => r x y H2 fun x H' => ∃ k, x = .bl k ∧ Q k H') (k := fun x y => do let z ← op2 sem x y; asB z) (fun _ _ _ _ _ _ z => z) h fun w S x y a b sr ra rb p => ?_
  have p' : Pst g Wx σ rlB w ((op2 sem a b >>= asB) S) Q := p
  have ee : (op2 sem a b >>= asB) S = M.bind (op2 sem a b) asB S := rfl
  rw [ee] at p'
  unfold M.bind op2 at p'
  cases e : sem (deref S a) (deref S b) with
  | none => rw [e] at p'; exact p'.elim
  | some d =>
    rw [e] at p'
    refine q w S x y _ _ d _ e sr (ra.view sr) (rb.view sr) fun w' v k s r => ?_
    cases d with
    | bl z => cases r; exact ⟨z, rfl, p' w' z k s rfl⟩
    | _ => exact p'.elim
end
end
end Pc

set_option Elab.async false
set_option linter.all false
set_option autoImplicit false
set_option maxRecDepth 100000
set_option maxHeartbeats 4000000
/-! Pc, part D: data that is compared, shown; operators by values. -/
namespace Pc
open PySem PySem.Spec PyProof.Rows L2

mutual
def D.toP : D → PyData
  | .non => .none
  | .bl b => .bool b
  | .int i => .int i
  | .str x => .str x
  | .tup xs => .tuple (toPL xs)
  | .lst xs => .list (toPL xs)
  | .dct _ => .none
  | .ins _ _ => .none
  | .obj _ => .none
  | .ext _ => .none
def toPL : List D → List PyData
  | [] => []
  | x :: xs => D.toP x :: toPL xs
end
/-- plain data of depth at most n -/
def okS (x : Str) : Bool := PyData.strOk x
mutual
def okd : Nat → D → Bool
  | _, .non => true
  | _, .bl _ => true
  | _, .int _ => true
  | _, .str x => okS x
  | n + 1, .tup xs => okdL n xs
  | n + 1, .lst xs => okdL n xs
  | _, _ => false
def okdL : Nat → List D → Bool
  | _, [] => true
  | n, x :: xs => okd n x && okdL n xs
end
mutual
def eqd : D → D → Bool
  | .non, .non => true
  | .bl a, .bl b => a == b
  | .bl a, .int j => (if a then 1 else 0) == j
  | .int i, .bl b => i == (if b then 1 else 0)
  | .int i, .int j => i == j
  | .str x, .str y => x == y
  | .lst xs, .lst ys => eqdL xs ys
  | .tup xs, .tup ys => eqdL xs ys
  | _, _ => false
def eqdL : List D → List D → Bool
  | [], [] => true
  | x :: xs, y :: ys => eqd x y && eqdL xs ys
  | _, _ => false
end
mutual
theorem okd_lay : ∀ (n : Nat) (d : D), okd n d = true → d.toP.canLay0 = true ∧ d.toP.depth ≤ n
  | _, .non, _ => ⟨by simp [D.toP, PyData.canLay0], by simp [D.toP, PyData.depth]⟩
  | _, .bl _, _ => ⟨by simp [D.toP, PyData.canLay0], by simp [D.toP, PyData.depth]⟩
  | _, .int _, _ => ⟨by simp [D.toP, PyData.canLay0], by simp [D.toP, PyData.depth]⟩
  | _, .str x, h => ⟨by simpa [D.toP, PyData.canLay0, okd, okS] using h, by simp [D.toP, PyData.depth]⟩
  | 0, .tup _, h => by simp [okd] at h
  | 0, .lst _, h => by simp [okd] at h
  | n + 1, .tup xs, h => by
    obtain ⟨a, b⟩ := okdL_lay n xs (by simpa [okd] using h)
    exact ⟨by simpa [D.toP, PyData.canLay0] using a, by simp only [D.toP, PyData.depth]; omega⟩
  | n + 1, .lst xs, h => by
    obtain ⟨a, b⟩ := okdL_lay n xs (by simpa [okd] using h)
    exact ⟨by simpa [D.toP, PyData.canLay0] using a, by simp only [D.toP, PyData.depth]; omega⟩
  | _, .dct _, h => by simp [okd] at h
  | _, .ins _ _, h => by simp [okd] at h
  | _, .obj _, h => by simp [okd] at h
  | _, .ext _, h => by simp [okd] at h
theorem okdL_lay : ∀ (n : Nat) (d : List D), okdL n d = true → PyData.canLayAll0 (toPL d) = true ∧ PyData.depthAll (toPL d) ≤ n
  | _, [], _ => ⟨by simp [toPL, PyData.canLayAll0], by simp [toPL, PyData.depthAll]⟩
  | n, x :: xs, h => by
    simp only [okdL, Bool.and_eq_true] at h
    obtain ⟨a, b⟩ := okd_lay n x h.1
    obtain ⟨c, d⟩ := okdL_lay n xs h.2
    exact ⟨by simp [toPL, PyData.canLayAll0, a, c], by simp only [toPL, PyData.depthAll]; omega⟩
end
theorem okd_shaped {n : Nat} {d : D} (h : okd n d = true) (hn : n ≤ 64) : SeqAt.shaped d.toP = true := by
  obtain ⟨a, b⟩ := okd_lay n d h
  unfold SeqAt.shaped
  rw [a, Bool.true_and]
  exact decide_eq_true (by omega)
mutual
theorem eqd_ok : ∀ (n m : Nat) (a b : D), okd n a = true → okd m b = true → PyData.eqv a.toP b.toP = eqd a b
  | _, _, .non, b, _, h => by cases b <;> simp_all [D.toP, PyData.eqv, eqd, okd]
  | _, _, .bl _, b, _, h => by cases b <;> simp_all [D.toP, PyData.eqv, eqd, okd]
  | _, _, .int _, b, _, h => by cases b <;> simp_all [D.toP, PyData.eqv, eqd, okd]
  | _, _, .str _, b, _, h => by cases b <;> simp_all [D.toP, PyData.eqv, eqd, okd]
  | n + 1, m, .tup xs, b, g, h => by
    cases b with
    | tup ys =>
      cases m with
      | zero => simp [okd] at h
      | succ m => simpa [D.toP, PyData.eqv, eqd] using eqdL_ok n m xs ys (by simpa [okd] using g) (by simpa [okd] using h)
    | _ => simp_all [D.toP, PyData.eqv, eqd, okd]
  | n + 1, m, .lst xs, b, g, h => by
    cases b with
    | lst ys =>
      cases m with
      | zero => simp [okd] at h
      | succ m => simpa [D.toP, PyData.eqv, eqd] using eqdL_ok n m xs ys (by simpa [okd] using g) (by simpa [okd] using h)
    | _ => simp_all [D.toP, PyData.eqv, eqd, okd]
  | 0, _, .tup _, _, g, _ => by simp [okd] at g
  | 0, _, .lst _, _, g, _ => by simp [okd] at g
  | _, _, .dct _, _, g, _ => by simp [okd] at g
  | _, _, .ins _ _, _, g, _ => by simp [okd] at g
  | _, _, .obj _, _, g, _ => by simp [okd] at g
  | _, _, .ext _, _, g, _ => by simp [okd] at g
theorem eqdL_ok : ∀ (n m : Nat) (a b : List D), okdL n a = true → okdL m b = true → PyData.eqvAll (toPL a) (toPL b) = eqdL a b
  | _, _, [], [], _, _ => by simp [toPL, PyData.eqvAll, eqdL]
  | _, _, [], _ :: _, _, _ => by simp [toPL, PyData.eqvAll, eqdL]
  | _, _, _ :: _, [], _, _ => by simp [toPL, PyData.eqvAll, eqdL]
  | n, m, x :: xs, y :: ys, g, h => by
    simp only [okdL, Bool.and_eq_true] at g h
    simp only [toPL, PyData.eqvAll, eqdL]
    rw [eqd_ok n m x y g.1 h.1, eqdL_ok n m xs ys g.2 h.2]
end
mutual
theorem Rep.dp {g : Gc} {w : Wd} : ∀ {n : Nat} {v : V} {d : D}, Rep g w v d → okd n d = true → Dp g.K w.H v d.toP
  | _, _, _, .non, _ => by simp only [D.toP]; exact .non
  | _, _, _, .bl b, _ => by simp only [D.toP]; exact .bl b
  | _, _, _, .int b, _ => by simp only [D.toP]; exact .int b
  | _, _, _, .str b, _ => by simp only [D.toP]; exact .str b
  | 0, _, _, .tup h r, o => by simp [okd] at o
  | 0, _, _, .lst h k r, o => by simp [okd] at o
  | 0, _, _, .lstK h r, o => by simp [okd] at o
  | n + 1, _, _, .tup h r, o => by
    simp only [D.toP]
    exact .tup h (RepL.dp r (by simpa [okd] using o))
  | n + 1, _, _, .lst h k r, o => by
    simp only [D.toP]
    exact .lst (.inl h) (RepL.dp r (by simpa [okd] using o))
  | n + 1, _, _, .lstK h r, o => by
    simp only [D.toP]
    exact .lst (h _) (RepL.dp r (by simpa [okd] using o))
  | _, _, _, .dct _ _ _, o => by simp [okd] at o
  | _, _, _, .ins _ _ _, o => by simp [okd] at o
  | _, _, _, .obj _, o => by simp [okd] at o
  | _, _, _, .ext _, o => by simp [okd] at o
theorem RepL.dp {g : Gc} {w : Wd} : ∀ {n : Nat} {v : List V} {d : List D}, RepL g w v d → okdL n d = true → DpAll g.K w.H v (toPL d)
  | _, _, _, .nil, _ => by simp only [toPL]; exact .nil
  | n, _, _, .cons r t, o => by
    simp only [okdL, Bool.and_eq_true] at o
    simp only [toPL]
    exact .cons (Rep.dp r o.1) (RepL.dp t o.2)
end
theorem RepV.dp {g : Gc} {w : Wd} {n : Nat} {v : V} {d : D} (r : RepV g w v d) (o : okd n d = true) : Dp g.K w.H v d.toP := by
  rcases r with r | ⟨a, vs, ds, rfl, rfl, h1, h3⟩ | ⟨a, vs, ds, rfl, rfl, h1, h3⟩
  · exact r.dp o
  · cases n with
    | zero => simp [okd] at o
    | succ n =>
      simp only [D.toP]
      exact .lst (.inl (.inl h1)) (h3.dp (by simpa [okd] using o))
  · simp [okd] at o

/-! ### semantics of the operators -/
def oki (i : Int) : Bool := decide (-(2 ^ 64) < i) && decide (i < 2 ^ 64)
def addD : D → D → Option D
  | .int i, .int j => some (.int (i + j))
  | .str x, .str y => if x.length + y.length ≤ sizeLine then some (.str (x ++ y)) else none
  | .tup x, .tup y => if x.length + y.length ≤ sizeLine then some (.tup (x ++ y)) else none
  | _, _ => none
def subD : D → D → Option D
  | .int i, .int j => some (.int (i - j))
  | _, _ => none
def mulD : D → D → Option D
  | .int i, .int j => if oki i || oki j then some (.int (i * j)) else none
  | _, _ => none
def fdivD : D → D → Option D
  | .int i, .int j => if 0 < j ∧ j.natAbs.log2 < 9000 then some (.int (i / j)) else none
  | _, _ => none
def modD : D → D → Option D
  | .int i, .int j => if 0 < j then some (.int (i % j)) else none
  | _, _ => none
def powD : D → D → Option D
  | .int i, .int j => if 0 ≤ j ∧ j ≤ 1000000 ∧ i.natAbs < 2 ^ 64 then some (.int (i ^ j.toNat)) else none
  | _, _ => none
def eqD (a b : D) : Option D := if okd 60 a && okd 60 b then some (.bl (eqd a b)) else none
def neD (a b : D) : Option D := if okd 60 a && okd 60 b then some (.bl (!eqd a b)) else none
def ltD : D → D → Option D
  | .int i, .int j => some (.bl (decide (i < j)))
  | _, _ => none
def leD : D → D → Option D
  | .int i, .int j => some (.bl (decide (i ≤ j)))
  | _, _ => none
def gtD : D → D → Option D
  | .int i, .int j => some (.bl (decide (j < i)))
  | _, _ => none
def geD : D → D → Option D
  | .int i, .int j => some (.bl (decide (j ≤ i)))
  | _, _ => none
def D.isNon : D → Bool
  | .non => true
  | _ => false
def isD (a b : D) : Option D := match b with
  | .non => (match a with
    | .ext _ => none
    | a => some (.bl a.isNon))
  | .bl y => (match a with
    | .bl x => some (.bl (x == y))
    | _ => none)
  | _ => none
def isntD (a b : D) : Option D := match b with
  | .non => (match a with
    | .ext _ => none
    | a => some (.bl (!a.isNon)))
  | .bl y => (match a with
    | .bl x => some (.bl (!(x == y)))
    | _ => none)
  | _ => none
def inD (a : D) : D → Option D
  | .tup xs => if okd 60 a && okdL 60 xs then some (.bl (xs.any fun y => eqd y a)) else none
  | .lst xs => if okd 60 a && okdL 60 xs then some (.bl (xs.any fun y => eqd y a)) else none
  | _ => none
def ninD (a : D) : D → Option D
  | .tup xs => if okd 60 a && okdL 60 xs then some (.bl (!xs.any fun y => eqd y a)) else none
  | .lst xs => if okd 60 a && okdL 60 xs then some (.bl (!xs.any fun y => eqd y a)) else none
  | _ => none

section
variable {g : Gc} {X : Cx} {k : Nat}
/-- ints to ints -/
theorem ops_int {f : Value → Value → Sem Value} {C : Int → Int → Prop} {z : Int → Int → V} {sem : D → D → Option D} (h : OpR X f (rI C z))
    (hs : ∀ a b d, sem a b = some d → ∃ i j, a = .int i ∧ b = .int j ∧ C i j ∧ ∀ w, Rep g w (z i j) d) : OpS g X f sem := by
  refine ⟨_, h, fun w S x y a b d Q e sr ra rb q => ?_⟩
  obtain ⟨i, j, rfl, rfl, c, r⟩ := hs a b d e
  exact ⟨i, j, ra.int, rb.int, c, q w _ (Keep.refl w) sr (r w)⟩
theorem ops_int0 {f : Value → Value → Sem Value} {z : Int → Int → V} {sem : D → D → Option D} (h : OpR X f (rI0 z))
    (hs : ∀ a b d, sem a b = some d → ∃ i j, a = .int i ∧ b = .int j ∧ ∀ w, Rep g w (z i j) d) : OpS g X f sem := by
  refine ⟨_, h, fun w S x y a b d Q e sr ra rb q => ?_⟩
  obtain ⟨i, j, rfl, rfl, r⟩ := hs a b d e
  exact ⟨i, j, ra.int, rb.int, q w _ (Keep.refl w) sr (r w)⟩
theorem ops_sub : OpS g X (binaryOp .Sub) subD := ops_int0 op_sub fun a b d e => by
  unfold subD at e
  split at e <;> cases e
  exact ⟨_, _, rfl, rfl, fun w => .int _⟩
theorem ops_mul : OpS g X (binaryOp .Mult) mulD := ops_int op_mul fun a b d e => by
  unfold mulD at e
  split at e
  · split at e
    · rename_i i j h
      cases e
      refine ⟨i, j, rfl, rfl, ?_, fun w => .int _⟩
      simp only [oki, Bool.or_eq_true, Bool.and_eq_true, decide_eq_true_eq] at h
      exact h
    · cases e
  · cases e
theorem ops_fdiv : OpS g X (binaryOp .FloorDiv) fdivD := ops_int op_fdivW fun a b d e => by
  unfold fdivD at e
  split at e
  · split at e
    · rename_i i j h
      cases e
      exact ⟨i, j, rfl, rfl, h, fun w => .int _⟩
    · cases e
  · cases e
theorem ops_mod : OpS g X (binaryOp .Mod) modD := ops_int op_mod fun a b d e => by
  unfold modD at e
  split at e
  · split at e
    · rename_i i j h
      cases e
      exact ⟨i, j, rfl, rfl, h, fun w => .int _⟩
    · cases e
  · cases e
theorem ops_pow : OpS g X (binaryOp .Pow) powD := ops_int op_pow fun a b d e => by
  unfold powD at e
  split at e
  · split at e
    · rename_i i j h
      cases e
      exact ⟨i, j, rfl, rfl, h, fun w => .int _⟩
    · cases e
  · cases e
theorem ops_lt : OpS g X (compareOp .Lt) ltD := ops_int0 op_lt fun a b d e => by
  unfold ltD at e
  split at e <;> cases e
  exact ⟨_, _, rfl, rfl, fun w => .bl _⟩
theorem ops_le : OpS g X (compareOp .LtE) leD := ops_int0 op_le fun a b d e => by
  unfold leD at e
  split at e <;> cases e
  exact ⟨_, _, rfl, rfl, fun w => .bl _⟩
theorem ops_gt : OpS g X (compareOp .Gt) gtD := ops_int0 op_gt fun a b d e => by
  unfold gtD at e
  split at e <;> cases e
  exact ⟨_, _, rfl, rfl, fun w => .bl _⟩
theorem ops_ge : OpS g X (compareOp .GtE) geD := ops_int0 op_ge fun a b d e => by
  unfold geD at e
  split at e <;> cases e
  exact ⟨_, _, rfl, rfl, fun w => .bl _⟩
theorem rep_newT {w : Wd} {p : Addr} {vs : List V} {ds : List D} (h : w.H p = none) (r : RepL g w vs ds) : Rep g ⟨upd w.H p (.tup vs), w.N, w.m⟩ (.ref p) (.tup ds) :=
  .tup (.inl (.inl upd_same)) (r.mono (keep_new h).toMono)
theorem rep_newL {w : Wd} {S : Store} {p : Addr} {vs : List V} {ds : List D} (sr : SR g w S) (h : w.H p = none) (r : RepL g w vs ds) : Rep g ⟨upd w.H p (.lst vs), w.N, w.m⟩ (.ref p) (.lst ds) :=
  .lst (.inl upd_same) (fun q => sr.notnone q h) (r.mono (keep_new h).toMono)
theorem ops_add (hK : X.K = g.K) : OpS g X (binaryOp .Add) addD := by
  refine ⟨_, OpR.or op_add (OpR.or op_add_str op_catA), fun w S x y a b d Q e sr ra rb q => ?_⟩
  unfold addD at e
  split at e
  · rename_i i j
    cases e
    exact .inl ⟨i, j, ra.int, rb.int, q w _ (Keep.refl w) sr (.int _)⟩
  · split at e
    · rename_i i j h
      cases e
      exact .inr (.inl ⟨i, j, ra.str, rb.str, h, q w _ (Keep.refl w) sr (.str _)⟩)
    · cases e
  · split at e
    · rename_i xs ys h
      cases e
      obtain ⟨a, vs, rfl, h1, h2⟩ := ra.tup
      obtain ⟨b, us, rfl, h3, h4⟩ := rb.tup
      refine .inr (.inr ⟨a, b, vs, us, rfl, rfl, by rw [hK]; exact h1, by rw [hK]; exact h3, by rw [h2.length, h4.length]; exact h, ?_⟩)
      refine ⟨fun e => ?_, fun _ e => ?_, fun _ _ p hp => ?_⟩
      · subst e
        cases h2
        exact q w _ (Keep.refl w) sr (.tup h3 (by simpa using h4))
      · subst e
        cases h4
        exact q w _ (Keep.refl w) sr (.tup h1 (by simpa using h2))
      · exact q _ _ (keep_new hp) (sr.new hp) (rep_newT hp (h2.append h4))
    · cases e
  · cases e
theorem Rd.sqL {K : PySem.W.Frag} {H : Hp} {a : Addr} {vs : List V} (h : Rd H a (.lst vs)) : SqL K H a vs := .inl h
theorem ops_eq (hK : X.K = g.K) (hu : X.A.units + 64 < cLine) : OpS g X (compareOp .Eq) eqD := by
  refine ⟨_, op_eqD hu, fun w S x y a b d Q e sr ra rb q => ?_⟩
  unfold eqD at e
  split at e
  · rename_i h
    cases e
    rw [Bool.and_eq_true] at h
    refine ⟨a.toP, b.toP, by rw [hK]; exact ra.dp h.1, by rw [hK]; exact rb.dp h.2, okd_shaped h.1 (by decide), okd_shaped h.2 (by decide), ?_⟩
    rw [eqd_ok 60 60 a b h.1 h.2]
    exact q w _ (Keep.refl w) sr (.bl _)
  · cases e
theorem ops_ne (hK : X.K = g.K) (hu : X.A.units + 64 < cLine) : OpS g X (compareOp .NotEq) neD := by
  refine ⟨_, op_neD hu, fun w S x y a b d Q e sr ra rb q => ?_⟩
  unfold neD at e
  split at e
  · rename_i h
    cases e
    rw [Bool.and_eq_true] at h
    refine ⟨a.toP, b.toP, by rw [hK]; exact ra.dp h.1, by rw [hK]; exact rb.dp h.2, okd_shaped h.1 (by decide), okd_shaped h.2 (by decide), ?_⟩
    rw [eqd_ok 60 60 a b h.1 h.2]
    exact q w _ (Keep.refl w) sr (.bl _)
  · cases e
theorem RepV.isNon {w : Wd} {x : V} {a : D} (r : RepV g w x a) (h : ∀ v, a ≠ .ext v) : decide (x = .non) = a.isNon := by
  rcases r with r | ⟨a, vs, ds, rfl, rfl, _⟩ | ⟨a, vs, ds, rfl, rfl, _⟩
  · cases r <;> first | rfl | exact absurd rfl (h _)
  · rfl
  · rfl
theorem ops_is : OpS g X (compareOp .Is) isD := by
  refine ⟨_, OpR.or op_isN op_isBl, fun w S x y a b d Q e sr ra rb q => ?_⟩
  cases b with
  | non =>
    have h : ∀ v, a ≠ .ext v := fun v z => by subst z; cases e
    have e2 : d = .bl a.isNon := by cases a <;> first | exact absurd rfl (h _) | (cases e; rfl)
    subst e2
    exact .inl ⟨rb.non, by rw [ra.isNon h]; exact q w _ (Keep.refl w) sr (.bl _)⟩
  | bl j =>
    cases a with
    | bl i =>
      cases e
      exact .inr ⟨i, j, ra.bl, rb.bl, by rw [← Bool.beq_eq_decide_eq]; exact q w _ (Keep.refl w) sr (.bl _)⟩
    | _ => cases e
  | _ => cases e
theorem ops_isnt : OpS g X (compareOp .IsNot) isntD := by
  refine ⟨_, OpR.or op_notN op_notBl, fun w S x y a b d Q e sr ra rb q => ?_⟩
  cases b with
  | non =>
    have h : ∀ v, a ≠ .ext v := fun v z => by subst z; cases e
    have e2 : d = .bl (!a.isNon) := by cases a <;> first | exact absurd rfl (h _) | (cases e; rfl)
    subst e2
    exact .inl ⟨rb.non, by rw [ra.isNon h]; exact q w _ (Keep.refl w) sr (.bl _)⟩
  | bl j =>
    cases a with
    | bl i =>
      cases e
      exact .inr ⟨i, j, ra.bl, rb.bl, by rw [← Bool.beq_eq_decide_eq]; exact q w _ (Keep.refl w) sr (.bl _)⟩
    | _ => cases e
  | _ => cases e
theorem shaped_L {n : Nat} {xs : List D} (h : okdL n xs = true) (hn : n ≤ 60) : SeqAt.shaped (.list (toPL xs)) = true := by
  obtain ⟨a, b⟩ := okdL_lay n xs h
  unfold SeqAt.shaped
  simp only [PyData.canLay0, PyData.depth, a, Bool.true_and]
  exact decide_eq_true (by omega)
theorem any_eqd (n m : Nat) (a : D) (h : okd n a = true) : ∀ xs : List D, okdL m xs = true → ((toPL xs).any fun z => PyData.eqv z a.toP) = xs.any fun y => eqd y a
  | [], _ => rfl
  | x :: xs, o => by
    simp only [okdL, Bool.and_eq_true] at o
    simp only [toPL, List.any_cons]
    rw [eqd_ok m n x a o.1 h, any_eqd n m a h xs o.2]
def rInT (K : PySem.W.Frag) (neg : Bool) : R2 := fun x y H Q => ∃ d ds, Dp K H x d ∧ Dp K H y (.tuple ds) ∧ SeqAt.shaped d = true ∧ SeqAt.shaped (.tuple ds) = true ∧ Q (.bl (if neg then !ds.any fun z => PyData.eqv z d else ds.any fun z => PyData.eqv z d)) H
theorem op_inT (hu : X.A.units + 65 < cLine) : OpR X (compareOp .In) (rInT X.K false) := by
  intro pins s σ H x y v u Q I rx ry h
  obtain ⟨d, ds, hd, he, sd, se, q⟩ := h
  obtain ⟨as, r1⟩ := Dp.reads I d x v hd rx
  obtain ⟨bs, r2⟩ := Dp.reads I (.tuple ds) y u he ry
  exact SeqAt.in_tuple_reads r2 r1 (SeqAt.canLay_of_shaped se) (SeqAt.canLay_of_shaped sd) (room_in_shaped sd hu) ⟨.bl _, H, I, rfl, q⟩
theorem op_ninT (hu : X.A.units + 65 < cLine) : OpR X (compareOp .NotIn) (rInT X.K true) := by
  intro pins s σ H x y v u Q I rx ry h
  obtain ⟨d, ds, hd, he, sd, se, q⟩ := h
  obtain ⟨as, r1⟩ := Dp.reads I d x v hd rx
  obtain ⟨bs, r2⟩ := Dp.reads I (.tuple ds) y u he ry
  exact SeqAt.notIn_tuple_reads r2 r1 (SeqAt.canLay_of_shaped se) (SeqAt.canLay_of_shaped sd) (room_in_shaped sd hu) ⟨.bl _, H, I, rfl, q⟩
theorem shaped_T {n : Nat} {xs : List D} (h : okdL n xs = true) (hn : n ≤ 60) : SeqAt.shaped (.tuple (toPL xs)) = true := shaped_L h hn
theorem ops_in (hK : X.K = g.K) (hu : X.A.units + 65 < cLine) : OpS g X (compareOp .In) inD := by
  refine ⟨_, OpR.or (op_inT hu) (op_inD hu), fun w S x y a b d Q e sr ra rb q => ?_⟩
  unfold inD at e
  split at e
  · split at e
    · rename_i xs h
      cases e
      rw [Bool.and_eq_true] at h
      obtain ⟨p, vs, rfl, h1, h2⟩ := rb.tup
      refine .inl ⟨a.toP, toPL xs, by rw [hK]; exact ra.dp h.1, by rw [hK]; exact .tup h1 (h2.dp h.2), okd_shaped h.1 (by decide), shaped_T h.2 (by decide), ?_⟩
      rw [any_eqd 60 60 a h.1 xs h.2]
      exact q w _ (Keep.refl w) sr (.bl _)
    · cases e
  · split at e
    · rename_i xs h
      cases e
      rw [Bool.and_eq_true] at h
      obtain ⟨p, vs, rfl, h1, h2⟩ := rb.lst
      refine .inr ⟨a.toP, toPL xs, by rw [hK]; exact ra.dp h.1, by rw [hK]; exact .lst h1 (h2.dp h.2), okd_shaped h.1 (by decide), shaped_L h.2 (by decide), ?_⟩
      rw [any_eqd 60 60 a h.1 xs h.2]
      exact q w _ (Keep.refl w) sr (.bl _)
    · cases e
  · cases e
theorem ops_nin (hK : X.K = g.K) (hu : X.A.units + 65 < cLine) : OpS g X (compareOp .NotIn) ninD := by
  refine ⟨_, OpR.or (op_ninT hu) (op_notInD hu), fun w S x y a b d Q e sr ra rb q => ?_⟩
  unfold ninD at e
  split at e
  · split at e
    · rename_i xs h
      cases e
      rw [Bool.and_eq_true] at h
      obtain ⟨p, vs, rfl, h1, h2⟩ := rb.tup
      refine .inl ⟨a.toP, toPL xs, by rw [hK]; exact ra.dp h.1, by rw [hK]; exact .tup h1 (h2.dp h.2), okd_shaped h.1 (by decide), shaped_T h.2 (by decide), ?_⟩
      rw [any_eqd 60 60 a h.1 xs h.2]
      exact q w _ (Keep.refl w) sr (.bl _)
    · cases e
  · split at e
    · rename_i xs h
      cases e
      rw [Bool.and_eq_true] at h
      obtain ⟨p, vs, rfl, h1, h2⟩ := rb.lst
      refine .inr ⟨a.toP, toPL xs, by rw [hK]; exact ra.dp h.1, by rw [hK]; exact .lst h1 (h2.dp h.2), okd_shaped h.1 (by decide), shaped_L h.2 (by decide), ?_⟩
      rw [any_eqd 60 60 a h.1 xs h.2]
      exact q w _ (Keep.refl w) sr (.bl _)
    · cases e
  · cases e
end
end Pc

set_option Elab.async false
set_option linter.all false
set_option autoImplicit false
set_option maxRecDepth 100000
set_option maxHeartbeats 4000000
/-! Pc, part E: arguments, displays, subscripts, boolean expressions, built-in calls. -/
namespace Pc
open PySem PySem.Spec PyProof.Rows L2

def notStar : Expr → Bool
  | .Starred _ _ => false
  | _ => true
theorem star_cons {e : Expr} {es : List Expr} {env : Env} (h : notStar e = true) : starEach (e :: es) env = (false, eval e env) :: starEach es env := by
  cases e <;> first | rfl | cases h
theorem star_any {pos : Pos} {env : Env} : ∀ {es : List Expr}, es.all notStar = true → (backTo pos (starEach es env)).any (·.1) = false
  | [], _ => rfl
  | e :: es, h => by
    simp only [List.all_cons, Bool.and_eq_true] at h
    rw [star_cons h.1]
    have q := star_any (pos := pos) (env := env) h.2
    simpa [backTo] using q
def noSlice : Expr → Bool
  | .Slice _ _ _ _ => false
  | _ => true
theorem plain_ix {b : Expr} (h : noSlice b = true) : PlainIx b := fun o i => by
  cases b <;> first | rfl | cases h

section
variable {g : Gc} {N0 : List Addr} {Wx : WX} {X : Cx}
/-! ### argument lists -/
def consM (f : Ev → M D) (r : Ev → M (List D)) : Ev → M (List D) := fun env => do let x ← f env; let xs ← r env; pure (x :: xs)
theorem da_nil : DA g N0 Wx X [] (fun _ => pure []) := by
  refine PA.imp pa_nil fun σ H Q ⟨w, env, S, e, er, sr, q⟩ => ?_
  subst e
  exact q w [] (Keep.refl w) sr .nil
theorem db_nil : DB g N0 Wx X [] (fun _ => pure []) := by
  refine PA.imp pa_nil fun σ H Q ⟨w, env, S, e, er, sr, q⟩ => ?_
  subst e
  exact q w [] (Keep.refl w) sr .nil
theorem da_cons {e : Expr} {es : List Expr} {f : Ev → M D} {r : Ev → M (List D)} (hs : notStar e = true) (h : DE g N0 Wx X e f) (t : DA g N0 Wx X es r) : DA g N0 Wx X (e :: es) (consM f r) := by
  refine PA.imp (pa_cons h t (star_cons hs)) fun σ H Q ⟨w, env, S, e, er, sr, q⟩ => ?_
  subst e
  refine tr_intro er sr (pst_imp (pst_bind (relA := rl g) (fun _ _ _ _ _ z => z) q) fun x H1 ⟨w1, da, S1, e1, k1, s1, r1, q1⟩ => ?_)
  subst e1
  refine tr_intro (er.keep k1) s1 (pst_imp (pst_bind (relA := rlL g) (fun _ _ _ _ _ z => z) q1) fun y H2 ⟨w2, db, S2, e2, k2, s2, r2, q2⟩ => ?_)
  subst e2
  exact q2 w2 (x :: y) (Keep.refl w2) s2 (.cons (r1.mono k2.toMono) r2)
theorem db_cons {e : Expr} {es : List Expr} {f : Ev → M D} {r : Ev → M (List D)} (hs : notStar e = true) (h : DW g N0 Wx X e f) (t : DB g N0 Wx X es r) : DB g N0 Wx X (e :: es) (consM f r) := by
  refine PA.imp (pa_cons h t (star_cons hs)) fun σ H Q ⟨w, env, S, e, er, sr, q⟩ => ?_
  subst e
  refine tr_intro er sr (pst_imp (pst_bind (relA := rlW g) (fun _ _ _ _ _ z => z) q) fun x H1 ⟨w1, da, S1, e1, k1, s1, r1, q1⟩ => ?_)
  subst e1
  refine tr_intro (er.keep k1) s1 (pst_imp (pst_bind (relA := rlLW g) (fun _ _ _ _ _ z => z) q1) fun y H2 ⟨w2, db, S2, e2, k2, s2, r2, q2⟩ => ?_)
  subst e2
  exact q2 w2 (x :: y) (Keep.refl w2) s2 (.cons (r1.keep k2) r2)

/-! ### displays -/
def mkTup (xs : List D) : M D := if xs.length ≤ sizeLine then pure (.tup xs) else fail
def mkLst (xs : List D) : M (List D) := if xs.length ≤ sizeLine then pure xs else fail
theorem de_tup {es : List Expr} {f : Ev → M (List D)} {j : Nat} {pos : Pos} (h : DA g N0 Wx X es f) : DE g N0 Wx X (.Tuple es j pos) (fun env => do let xs ← f env; mkTup xs) := by
  refine PE.imp (pe_tup h) fun σ H Q ⟨w, env, S, e, er, sr, q⟩ => ?_
  subst e
  refine tr_intro er sr (pst_imp (pst_bind (relA := rlL g) (fun _ _ _ _ _ z => z) q) fun x H1 ⟨w1, ds, S1, e1, k1, s1, r1, q1⟩ => ?_)
  subst e1
  unfold mkTup at q1
  by_cases hl : ds.length ≤ sizeLine
  · rw [if_pos hl] at q1
    exact ⟨by rw [r1.length]; exact hl, fun p hp => q1 ⟨upd w1.H p (.tup x), w1.N, w1.m⟩ _ (keep_new hp) (s1.new hp) (rep_newT hp r1)⟩
  · rw [if_neg hl] at q1; exact q1.elim
theorem new_l {w : Wd} {S : Store} {p : Addr} {vs : List V} {ds : List D} (sr : SR g w S) (h : w.H p = none) (r : RepL g w vs ds) : NewL g w ⟨upd w.H p (.lst vs), p :: w.N, w.m⟩ (.ref p) ds :=
  ⟨p, vs, rfl, upd_same, List.mem_cons_self, fun q => sr.notnone (sr.sub p q) h, fun q => sr.notnone q h, r.mono (keep_newN h).toMono⟩
theorem NewL.base {w w1 w' : Wd} {v : V} {xs : List D} (k : Keep w w1) (h : NewL g w1 w' v xs) : NewL g w w' v xs := by
  obtain ⟨p, vs, h1, h2, h3, h4, h5, h6⟩ := h
  exact ⟨p, vs, h1, h2, h3, h4, fun q => h5 (k.sub p q), h6⟩
theorem dl_list {es : List Expr} {f : Ev → M (List D)} {pos : Pos} (h : DA g N0 Wx X es f) : DL g N0 Wx X (.List es pos) (fun env => do let xs ← f env; mkLst xs) := by
  refine PE.imp (pe_lst h) fun σ H Q ⟨w, env, S, e, er, sr, q⟩ => ?_
  subst e
  refine tr_intro er sr (pst_imp (pst_bind (relA := rlL g) (fun _ _ _ _ k z => z.base k) q) fun x H1 ⟨w1, ds, S1, e1, k1, s1, r1, q1⟩ => ?_)
  subst e1
  unfold mkLst at q1
  by_cases hl : ds.length ≤ sizeLine
  · rw [if_pos hl] at q1
    exact ⟨by rw [r1.length]; exact hl, fun p hp => q1 ⟨upd w1.H p (.lst x), p :: w1.N, w1.m⟩ _ (keep_newN hp) (s1.newN hp) (new_l s1 hp r1)⟩
  · rw [if_neg hl] at q1; exact q1.elim
/-- a new list is frozen -/
theorem NewL.frozen {w w' : Wd} {S : Store} {v : V} {xs : List D} (k : Keep w w') (s : SR g w' S) (h : NewL g w w' v xs) : ∃ w'', w''.H = w'.H ∧ Keep w w'' ∧ SR g w'' S ∧ Rep g w'' v (.lst xs) := by
  obtain ⟨p, vs, rfl, h2, h3, h4, h5, h6⟩ := h
  have sub : ∀ a ∈ w'.N.filter (fun a => decide (a ≠ p)), a ∈ w'.N := fun a ha => (List.mem_filter.mp ha).1
  have out : p ∉ w'.N.filter (fun a => decide (a ≠ p)) := fun ha => by
    have := (List.mem_filter.mp ha).2
    exact absurd rfl (of_decide_eq_true this)
  have inn : ∀ a, a ≠ p → a ∈ w'.N → a ∈ w'.N.filter (fun a => decide (a ≠ p)) := fun a n ha => List.mem_filter.mpr ⟨ha, decide_eq_true n⟩
  refine ⟨⟨w'.H, w'.N.filter (fun a => decide (a ≠ p)), w'.m⟩, rfl, keep_less k sub fun a ha => inn a (fun e => h5 (by rw [← e]; exact ha)) (k.sub a ha), s.less sub fun a ha => inn a (fun e => h4 (by rw [← e]; exact ha)) (s.sub a ha), ?_⟩
  exact .lst (.inl h2) out (h6.mono (mono_less sub))
theorem de_frz {e : Expr} {f : Ev → M (List D)} (h : DL g N0 Wx X e f) : DE g N0 Wx X e (fun env => do let xs ← f env; pure (.lst xs)) := by
  refine PE.imp h fun σ H Q ⟨w, env, S, e, er, sr, q⟩ => ?_
  subst e
  refine tr_intro er sr ?_
  have q' : Pst g Wx σ (rl g) w (((f env) >>= fun xs => pure (.lst xs)) S) Q := q
  have e : ((f env) >>= fun xs => (pure (.lst xs) : M D)) S = M.bind (f env) (fun xs => pure (.lst xs)) S := rfl
  rw [e] at q'
  unfold M.bind at q'
  cases hr : f env S with
  | ok xs S1 =>
    rw [hr] at q'
    intro w' y k s n
    obtain ⟨w'', e1, k1, s1, r1⟩ := n.frozen k s
    rw [← e1]
    exact q' w'' y k1 s1 r1
  | ex c fs S1 => rw [hr] at q'; exact q'
  | bad => rw [hr] at q'; exact q'
/-- a new list gets a handle -/
def newOb (ob : Ob) : M D := fun S => .ok (.obj S.length) (S ++ [ob])
theorem SR.push {w : Wd} {S : Store} {p : Addr} {ob : Ob} (s : SR g w S) (hp : p ∈ w.N) (hm : p ∉ w.m) (h : ObR g w p ob) : SR g ⟨w.H, w.N, w.m ++ [p]⟩ (S ++ [ob]) := by
  have mo : Mono w ⟨w.H, w.N, w.m ++ [p]⟩ := ⟨fun i a e => by
    have hi : i < w.m.length := (List.getElem?_eq_some_iff.mp e).1
    show (w.m ++ [p])[i]? = some a
    rw [List.getElem?_append_left hi]; exact e, fun _ _ e _ => e, fun _ _ e => e, fun _ _ _ e => e, fun a e => .inl e⟩
  have obm : ∀ a o, ObR g w a o → ObR g ⟨w.H, w.N, w.m ++ [p]⟩ a o := fun a o r => by
    cases o with
    | lst xs => obtain ⟨vs, e1, e2⟩ := r; exact ⟨vs, e1, e2.mono mo⟩
    | dct xs => obtain ⟨vs, e1, e2⟩ := r; exact ⟨vs, e1, e2.mono mo⟩
    | ins c fs => obtain ⟨dx, vs, e1, e2⟩ := r; exact ⟨dx, vs, e1, e2.mono mo⟩
  refine ⟨by simp [s.len], ?_, fun a ha => ?_, s.here, fun i o e => ?_⟩
  · show (w.m ++ [p]).Nodup
    refine List.nodup_append.mpr ⟨s.nd, by simp, fun a ha b hb => ?_⟩
    rw [List.mem_singleton.mp hb]
    exact fun z => hm (by rw [← z]; exact ha)
  · rcases List.mem_append.mp ha with ha | ha
    · exact s.sub a ha
    · rw [List.mem_singleton.mp ha]; exact hp
  · by_cases hi : i < S.length
    · rw [List.getElem?_append_left hi] at e
      obtain ⟨a, h1, h2⟩ := s.at_ i o e
      exact ⟨a, mo.mp i a h1, obm a o h2⟩
    · rw [List.getElem?_append_right (by omega)] at e
      have hz : i - S.length = 0 := by
        have := (List.getElem?_eq_some_iff.mp e).1
        simp at this; omega
      rw [hz] at e
      cases e
      refine ⟨p, ?_, obm p _ h⟩
      show (w.m ++ [p])[i]? = some p
      have hl := s.len
      rw [List.getElem?_append_right (by omega), show i - w.m.length = 0 by omega]
      rfl
theorem de_mut {e : Expr} {f : Ev → M (List D)} (h : DL g N0 Wx X e f) : DE g N0 Wx X e (fun env => do let xs ← f env; newOb (.lst xs)) := by
  refine PE.imp h fun σ H Q ⟨w, env, S, e, er, sr, q⟩ => ?_
  subst e
  refine tr_intro er sr ?_
  have q' : Pst g Wx σ (rl g) w (((f env) >>= fun xs => newOb (.lst xs)) S) Q := q
  have e : ((f env) >>= fun xs => newOb (.lst xs)) S = M.bind (f env) (fun xs => newOb (.lst xs)) S := rfl
  rw [e] at q'
  unfold M.bind at q'
  cases hr : f env S with
  | ok xs S1 =>
    rw [hr] at q'
    intro w' y k s n
    obtain ⟨p, vs, rfl, h2, h3, h4, h5, h6⟩ := n
    have hn : w.H p = none := by
      rcases k.new p h3 with z | z
      · exact absurd z h5
      · exact z
    refine q' ⟨w'.H, w'.N, w'.m ++ [p]⟩ _ (keep_toM k hn h3) (s.push h3 h4 ⟨vs, h2, h6⟩) (.obj ?_)
    show (w'.m ++ [p])[S1.length]? = some p
    have hl := s.len
    rw [List.getElem?_append_right (by omega), show S1.length - w'.m.length = 0 by omega]
    rfl
  | ex c fs S1 => rw [hr] at q'; exact q'
  | bad => rw [hr] at q'; exact q'

/-! ### subscripts -/
def valD (kvs : List (Key × D)) (k : Key) : Option D := (kvs.find? fun p => decide (p.1 = k)).map (·.2)
def keyD : D → Option Key
  | .int i => some (.inl i)
  | .str x => some (.inr x)
  | _ => none
def getD (a i : D) : Option D := match a with
  | .tup xs => (match i with
    | .int j => atI xs j
    | _ => none)
  | .lst xs => (match i with
    | .int j => atI xs j
    | _ => none)
  | .str x => (match i with
    | .int j => if x.length ≤ sizeLine then (atI x.cps.toList j).map fun c => D.str ⟨#[c]⟩ else none
    | _ => none)
  | .dct kvs => (keyD i).bind (valD kvs)
  | _ => none
def getM (a i : D) : M D := fun S => ofO (getD (deref S a) i) S
theorem atI_rep {w : Wd} {vs : List V} {ds : List D} {i : Int} {d : D} (r : RepL g w vs ds) (h : atI ds i = some d) : ∃ v, atI vs i = some v ∧ Rep g w v d := by
  unfold atI at h ⊢
  rw [r.length]
  cases e : ixN ds.length i with
  | none => rw [e] at h; cases h
  | some j =>
    rw [e] at h
    exact r.get h
theorem valV_rep {w : Wd} : ∀ {vs : List (Key × V)} {ds : List (Key × D)} {k : Key} {d : D}, RepK g w vs ds → valD ds k = some d → ∃ v, valV vs k = some v ∧ Rep g w v d
  | _, _, _, _, .nil, h => by cases h
  | _, _, k, d, .cons (k := k') (v := v) (d := d') r t, h => by
    unfold valD at h
    rw [List.find?_cons] at h
    by_cases e : k' = k
    · subst e
      simp at h
      subst h
      exact ⟨v, by simp [valV], r⟩
    · simp [e] at h
      obtain ⟨z, h1, h2⟩ := valV_rep (k := k) t (d := d) (by unfold valD; simpa using h)
      refine ⟨z, ?_, h2⟩
      simp [valV, e] at h1 ⊢
      exact h1
end
end Pc

set_option Elab.async false
set_option linter.all false
set_option autoImplicit false
set_option maxRecDepth 100000
set_option maxHeartbeats 4000000
/-! Pc, part F: subscripts, slices, boolean expressions, built-in calls. -/
namespace Pc
open PySem PySem.Spec PyProof.Rows L2
section
variable {g : Gc} {N0 : List Addr} {Wx : WX} {X : Cx} {a b c : Expr} {fa fb fc : Ev → M D} {pos : Pos}
def rIxD : R2 := fun x y H Q => ∃ p v, x = .ref p ∧ DGet H p y (some v) ∧ Q v H
theorem ix_dict (hu : X.A.units + 1 < cLine) : IxR X rIxD := by
  intro value slice pins s σ H x y v u Q I rx ry h hs
  obtain ⟨p, z, rfl, gq, q⟩ := h
  cases rx
  exact tail_any (dict_typeIs I gq) PySem.F.slot_dict_getitem.lookup (d_getItem hu I gq ry fun w' s3 I3 rw' => ⟨z, H, I3, rw', q⟩) hs
theorem pst_pure {w : Wd} {σ : L2.St} {S : Store} {d : D} {Q : VK} {v : V} (sr : SR g w S) (q : Pst g Wx σ (rl g) w ((pure d : M D) S) Q) (r : Rep g w v d) : Q v w.H := q w v (Keep.refl w) sr r
theorem keyD_V {w : Wd} {y : V} {b : D} {k : Key} (r : RepV g w y b) (h : keyD b = some k) : y = kV k := by
  cases b with
  | int i => cases h; exact r.int
  | str x => cases h; exact r.str
  | _ => cases h
theorem get_ok {w : Wd} {x y : V} {a b d : D} {Q : VK} (hK : X.K = g.K) (ra : RepV g w x a) (rb : RepV g w y b) (e : getD a b = some d) (q : ∀ v, Rep g w v d → Q v w.H) : rIx X.K x y w.H Q ∨ rIxD x y w.H Q := by
  cases a with
  | tup xs =>
    cases b with
    | int j =>
      obtain ⟨p, vs, rfl, h1, h2⟩ := ra.tup
      obtain ⟨v, e1, r1⟩ := atI_rep h2 e
      exact .inl (.inr (.inl ⟨p, vs, j, v, rfl, rb.int, by rw [hK]; exact h1, e1, q v r1⟩))
    | _ => cases e
  | lst xs =>
    cases b with
    | int j =>
      obtain ⟨p, vs, rfl, h1, h2⟩ := ra.lst
      obtain ⟨v, e1, r1⟩ := atI_rep h2 e
      exact .inl (.inl ⟨p, vs, j, v, rfl, rb.int, by rw [hK]; exact h1, e1, q v r1⟩)
    | _ => cases e
  | str z =>
    cases b with
    | int j =>
      unfold getD at e
      by_cases hl : z.length ≤ sizeLine
      · simp only [hl, if_true] at e
        cases e2 : atI z.cps.toList j with
        | none => rw [e2] at e; cases e
        | some c => rw [e2] at e; cases e; exact .inl (.inr (.inr ⟨z, j, c, ra.str, rb.int, hl, e2, q _ (.str _)⟩))
      · simp only [hl, if_false] at e; cases e
    | _ => cases e
  | dct kvs =>
    obtain ⟨p, vs, rfl, h1, h2⟩ := ra.dct
    have e0 : (keyD b).bind (valD kvs) = some d := e
    cases ek : keyD b with
    | none => rw [ek] at e0; cases e0
    | some kk =>
      rw [ek] at e0
      obtain ⟨v, e1, r1⟩ := valV_rep h2 (show valD kvs kk = some d from e0)
      refine .inr ⟨p, v, rfl, ?_, q v r1⟩
      rw [keyD_V rb ek, ← e1]
      exact DGet.k h1
  | _ => cases e
theorem RepB.int_of {w : Wd} {S : Store} {y : V} {b : D} (sr : SR g w S) (rb : RepB g w y b) : ∀ a d, getD a b = some d → RepV g w y b := fun a d e => by
  cases b with
  | obj h => cases a <;> cases e
  | _ => exact rb.view sr
theorem de_sub (hK : X.K = g.K) (hu : X.A.units + 1 < cLine) (hs : noSlice b = true) (ha : DW g N0 Wx X a fa) (hb : DW g N0 Wx X b fb) : DE g N0 Wx X (.Subscript a b pos) (fun env => do let x ← fa env; let y ← fb env; getM x y) := by
  refine PE.imp (pe_ix (ix_seq.or (ix_dict hu)) ha hb (plain_ix hs)) fun σ H Q h => ?_
  refine two (R := fun x y H2 => (rIx X.K x y H2 Q ∨ rIxD x y H2 Q)) (fun _ _ _ _ _ _ z => z) h fun w S x y a b sr ra rb p => ?_
  unfold getM at p
  cases e : getD (deref S a) b with
  | none => rw [e] at p; exact p.elim
  | some d =>
    rw [e] at p
    exact get_ok hK (ra.view sr) (rb.int_of sr _ _ e) e fun v r => p w v (Keep.refl w) sr r

/-! ### slices -/
def cutD (xs : List D) (lo hi : Option Int) : List D := (xs.drop (HT.sIx xs.length 0 lo)).take (HT.sIx xs.length xs.length hi - HT.sIx xs.length 0 lo)
theorem cut_rep {w : Wd} {vs : List V} {ds : List D} {lo hi : Option Int} (r : RepL g w vs ds) : RepL g w (cutV vs lo hi) (cutD ds lo hi) := by
  unfold cutV cutD
  rw [r.length]
  exact (r.drop _).take _
abbrev rlO : Wd → Wd → Option Int → Option Int → Prop := fun _ _ a b => a = b
abbrev DO (g : Gc) (N0 : List Addr) (Wx : WX) (X : Cx) (e : Option Expr) (f : Ev → M (Option Int)) : Prop := PO X e (tr g N0 Wx rlO f)
theorem PO.imp {X : Cx} {e : Option Expr} {t t' : TO} (h : PO X e t) (i : ∀ σ H Q, t' σ H Q → t σ H Q) : PO X e t' := ⟨fun pins s σ H Q I q => h.run pins s σ H Q I (i σ H Q q)⟩
def asI : D → M Int
  | .int i => pure i
  | _ => fail
theorem do_none : DO g N0 Wx X none (fun _ => pure none) := by
  refine PO.imp po_none fun σ H Q ⟨w, env, S, e, er, sr, q⟩ => ?_
  subst e
  exact q w none (Keep.refl w) sr rfl
theorem do_some (h : DE g N0 Wx X a fa) : DO g N0 Wx X (some a) (fun env => do let x ← fa env; let i ← asI x; pure (some i)) := by
  refine PO.imp (po_some h) fun σ H Q ⟨w, env, S, e, er, sr, q⟩ => ?_
  subst e
  refine tr_intro er sr (pst_imp (pst_bind (relA := rl g) (fun _ _ _ _ _ z => z) q) fun x H1 ⟨w1, d, S1, e1, k1, s1, r1, q1⟩ => ?_)
  subst e1
  cases d with
  | int i =>
    cases r1
    exact ⟨i, rfl, q1 w1 (some i) (Keep.refl w1) s1 rfl⟩
  | _ => exact q1.elim
variable {lo hi : Option Expr} {fl fh : Ev → M (Option Int)} {p2 : Pos}
def sliceD (x : D) (l h : Option Int) : Option D := match x with
  | .tup xs => some (.tup (cutD xs l h))
  | .lst xs => some (.lst (cutD xs l h))
  | .str z => if z.length ≤ sizeLine then some (.str (cutS z l h)) else none
  | _ => none
def sliceM (x : D) (l h : Option Int) : M D := fun S => ofO (sliceD (deref S x) l h) S
theorem three {σ : L2.St} {H : Hp} {β α : Type} {Q : β → Hp → Prop} {rel : Wd → Wd → β → α → Prop} {k : D → Option Int → Option Int → M α} {R : V → Option Int → Option Int → Hp → Prop} (hr : ∀ w w1 w' y a, Keep w w1 → rel w1 w' y a → rel w w' y a)
    (h : tr g N0 Wx rel (fun env => do let x ← fa env; let y ← fl env; let z ← fh env; k x y z) σ H Q)
    (c : ∀ w S x a y z, SR g w S → RepB g w x a → Pst g Wx σ rel w (k a y z S) Q → R x y z w.H) : tr g N0 Wx (rlW g) fa σ H fun x H1 => tr g N0 Wx rlO fl σ H1 fun y H2 => tr g N0 Wx rlO fh σ H2 fun z H3 => R x y z H3 := by
  obtain ⟨w, env, S, e, er, sr, q⟩ := h
  subst e
  refine tr_intro er sr (pst_imp (pst_bind (relA := rlW g) (fun w1 w' y a => hr w w1 w' y a) q) fun x H1 ⟨w1, da, S1, e1, k1, s1, r1, q1⟩ => ?_)
  subst e1
  refine tr_intro (er.keep k1) s1 (pst_imp (pst_bind (relA := rlO) (fun w1' w' y a => hr w1 w1' w' y a) q1) fun y H2 ⟨w2, db, S2, e2, k2, s2, r2, q2⟩ => ?_)
  subst e2
  refine tr_intro ((er.keep k1).keep k2) s2 (pst_imp (pst_bind (relA := rlO) (fun w1' w' y a => hr w2 w1' w' y a) q2) fun z H3 ⟨w3, dc, S3, e3, k3, s3, r3, q3⟩ => ?_)
  subst e3
  cases r2
  cases r3
  exact c w3 S3 x da y z s3 ((r1.keep k2).keep k3) q3
theorem de_slice (hK : X.K = g.K) (ha : DW g N0 Wx X a fa) (hl : DO g N0 Wx X lo fl) (hh : DO g N0 Wx X hi fh) :
    DE g N0 Wx X (.Subscript a (.Slice lo hi none p2) pos) (fun env => do let x ← fa env; let y ← fl env; let z ← fh env; sliceM x y z) := by
  refine PE.imp (pe_slice (sl_tupA.or (sl_list.or sl_str)) ha hl hh) fun σ H Q h => ?_
  refine three (R := fun x y z H2 => (rSlA X.K x y z H2 Q ∨ rSlL X.K x y z H2 Q ∨ rSlS x y z H2 Q)) (fun _ _ _ _ _ _ z => z) h fun w S x a y z sr ra p => ?_
  unfold sliceM at p
  have rv := ra.view sr
  generalize deref S a = a' at p rv
  cases e : sliceD a' y z with
  | none => rw [e] at p; exact p.elim
  | some d =>
    rw [e] at p
    cases a' with
    | tup xs =>
      cases e
      obtain ⟨q, vs, rfl, h1, h2⟩ := rv.tup
      refine .inl ⟨q, vs, rfl, by rw [hK]; exact h1, fun hw => ?_, fun _ r hr => ?_⟩
      · refine p w _ (Keep.refl w) sr (.tup h1 ?_)
        have e : cutD xs y z = xs := by
          unfold cutD
          rw [← h2.length, hw.1, hw.2, List.drop_zero, Nat.sub_zero, h2.length]
          exact List.take_length
        rw [e]
        exact h2
      · exact p _ _ (keep_new hr) (sr.new hr) (rep_newT hr (cut_rep h2))
    | lst xs =>
      cases e
      obtain ⟨q, vs, rfl, h1, h2⟩ := rv.lst
      exact .inr (.inl ⟨q, vs, rfl, by rw [hK]; exact h1, fun r hr => p ⟨upd w.H r _, w.N, w.m⟩ _ (keep_new hr) (sr.new hr) (rep_newL sr hr (cut_rep h2))⟩)
    | str t =>
      unfold sliceD at e
      by_cases hl : t.length ≤ sizeLine
      · simp only [hl, if_true] at e
        cases e
        exact .inr (.inr ⟨t, rv.str, hl, p w _ (Keep.refl w) sr (.str _)⟩)
      · simp only [hl, if_false] at e; cases e
    | _ => cases e

/-! ### and, or, not, if -/
theorem dt_not {f : Ev → M Bool} (h : DT g N0 Wx X a f) : DT g N0 Wx X (.UnaryOp .Not a pos) (fun env => do let x ← f env; pure (!x)) := by
  refine PT.imp (pt_not h) fun σ H Q ⟨w, env, S, e, er, sr, q⟩ => ?_
  subst e
  refine tr_intro er sr (pst_imp (pst_bind (relA := rlB) (fun _ _ _ _ _ z => z) q) fun x H1 ⟨w1, d, S1, e1, k1, s1, r1, q1⟩ => ?_)
  subst e1
  cases r1
  exact q1 w1 _ (Keep.refl w1) s1 rfl
theorem de_not (h : DE g N0 Wx X a fa) : DE g N0 Wx X (.UnaryOp .Not a pos) (fun env => do let x ← fa env; let z ← asB x; pure (.bl (!z))) := by
  refine PE.imp (pe_not h) fun σ H Q ⟨w, env, S, e, er, sr, q⟩ => ?_
  subst e
  refine tr_intro er sr (pst_imp (pst_bind (relA := rl g) (fun _ _ _ _ _ z => z) q) fun x H1 ⟨w1, d, S1, e1, k1, s1, r1, q1⟩ => ?_)
  subst e1
  cases d with
  | bl z => cases r1; exact ⟨z, rfl, pst_pure s1 q1 (.bl _)⟩
  | _ => exact q1.elim
abbrev DWt (g : Gc) (N0 : List Addr) (Wx : WX) (X : Cx) (e : Expr) (f : Ev → M Bool) : Prop := PW X e (tr g N0 Wx rlB f)
theorem dt_of_w {e : Expr} {f : Ev → M Bool} (h : DWt g N0 Wx X e f) : DT g N0 Wx X e f := PW.pt h
section
variable {f r : Ev → M Bool} {rest : List Expr}
theorem dw_and1 (h : DT g N0 Wx X a f) : DWt g N0 Wx X (.BoolOp .And [a] pos) f := pw_and1 h
theorem dw_or1 (h : DT g N0 Wx X a f) : DWt g N0 Wx X (.BoolOp .Or [a] pos) f := pw_or1 h
def andM (f r : Ev → M Bool) : Ev → M Bool := fun env => do
  let x ← f env
  if x then r env else pure false
def orM (f r : Ev → M Bool) : Ev → M Bool := fun env => do
  let x ← f env
  if x then pure true else r env
theorem dw_and (h : DT g N0 Wx X a f) (t : DWt g N0 Wx X (.BoolOp .And (b :: rest) pos) r) : DWt g N0 Wx X (.BoolOp .And (a :: b :: rest) pos) (andM f r) := by
  refine PW.imp (pw_and h t) fun σ H Q ⟨w, env, S, e, er, sr, q⟩ => ?_
  subst e
  refine tr_intro er sr (pst_imp (pst_bind (relA := rlB) (fun _ _ _ _ _ z => z) q) fun x H1 ⟨w1, d, S1, e1, k1, s1, r1, q1⟩ => ?_)
  subst e1
  cases r1
  cases x with
  | true => rw [if_pos rfl]; exact tr_intro (er.keep k1) s1 q1
  | false => rw [if_neg Bool.false_ne_true]; exact q1 w1 _ (Keep.refl w1) s1 rfl
theorem dw_or (h : DT g N0 Wx X a f) (t : DWt g N0 Wx X (.BoolOp .Or (b :: rest) pos) r) : DWt g N0 Wx X (.BoolOp .Or (a :: b :: rest) pos) (orM f r) := by
  refine PW.imp (pw_or h t) fun σ H Q ⟨w, env, S, e, er, sr, q⟩ => ?_
  subst e
  refine tr_intro er sr (pst_imp (pst_bind (relA := rlB) (fun _ _ _ _ _ z => z) q) fun x H1 ⟨w1, d, S1, e1, k1, s1, r1, q1⟩ => ?_)
  subst e1
  cases r1
  cases x with
  | true => rw [if_pos rfl]; exact q1 w1 _ (Keep.refl w1) s1 rfl
  | false => rw [if_neg Bool.false_ne_true]; exact tr_intro (er.keep k1) s1 q1
end
/-- a bool's value as a test -/
def plainT : Expr → Bool
  | .Call _ _ _ _ => true
  | .Name _ _ => true
  | .Subscript _ _ _ => true
  | .Attribute _ _ _ => true
  | _ => false
theorem dt_val {e : Expr} {f : Ev → M D} (hp : plainT e = true) (h : DE g N0 Wx X e f) : DT g N0 Wx X e (fun env => do let x ← f env; asB x) := by
  refine PT.imp (pt_val h (fun wh => by cases e <;> first | rfl | cases hp)) fun σ H Q ⟨w, env, S, e, er, sr, q⟩ => ?_
  subst e
  refine tr_intro er sr (pst_imp (pst_bind (relA := rl g) (fun _ _ _ _ _ z => z) q) fun x H1 ⟨w1, d, S1, e1, k1, s1, r1, q1⟩ => ?_)
  subst e1
  cases d with
  | bl z => cases r1; exact ⟨z, rfl, q1 w1 _ (Keep.refl w1) s1 rfl⟩
  | _ => exact q1.elim
section
variable {rest : List Expr}
theorem de_one {op : BoolOp} (h : DE g N0 Wx X a fa) : DE g N0 Wx X (.BoolOp op [a] pos) fa := pe_one h
def andV (f r : Ev → M D) : Ev → M D := fun env => do
  let x ← f env
  let z ← asB x
  if z then r env else pure (.bl false)
def orV (f r : Ev → M D) : Ev → M D := fun env => do
  let x ← f env
  let z ← asB x
  if z then pure (.bl true) else r env
theorem de_and (h : DE g N0 Wx X a fa) (t : DE g N0 Wx X (.BoolOp .And (b :: rest) pos) fb) : DE g N0 Wx X (.BoolOp .And (a :: b :: rest) pos) (andV fa fb) := by
  refine PE.imp (pe_and h t) fun σ H Q ⟨w, env, S, e, er, sr, q⟩ => ?_
  subst e
  refine tr_intro er sr (pst_imp (pst_bind (relA := rl g) (fun _ _ _ _ _ z => z) q) fun x H1 ⟨w1, d, S1, e1, k1, s1, r1, q1⟩ => ?_)
  subst e1
  cases d with
  | bl z =>
    cases r1
    refine ⟨z, rfl, ?_⟩
    cases z with
    | true => rw [if_pos rfl]; exact tr_intro (er.keep k1) s1 q1
    | false => rw [if_neg Bool.false_ne_true]; exact pst_pure s1 q1 (.bl _)
  | _ => exact q1.elim
theorem de_or (h : DE g N0 Wx X a fa) (t : DE g N0 Wx X (.BoolOp .Or (b :: rest) pos) fb) : DE g N0 Wx X (.BoolOp .Or (a :: b :: rest) pos) (orV fa fb) := by
  refine PE.imp (pe_or h t) fun σ H Q ⟨w, env, S, e, er, sr, q⟩ => ?_
  subst e
  refine tr_intro er sr (pst_imp (pst_bind (relA := rl g) (fun _ _ _ _ _ z => z) q) fun x H1 ⟨w1, d, S1, e1, k1, s1, r1, q1⟩ => ?_)
  subst e1
  cases d with
  | bl z =>
    cases r1
    refine ⟨z, rfl, ?_⟩
    cases z with
    | true => rw [if_pos rfl]; exact pst_pure s1 q1 (.bl _)
    | false => rw [if_neg Bool.false_ne_true]; exact tr_intro (er.keep k1) s1 q1
  | _ => exact q1.elim
end
def ifM {α : Type} (t : Ev → M Bool) (f r : Ev → M α) : Ev → M α := fun env => do
  let x ← t env
  if x then f env else r env
theorem de_if {t : Ev → M Bool} (hc : DT g N0 Wx X c t) (ha : DE g N0 Wx X a fa) (hb : DE g N0 Wx X b fb) : DE g N0 Wx X (.IfExp c a b pos) (ifM t fa fb) := by
  refine PE.imp (pe_ifExp hc ha hb) fun σ H Q ⟨w, env, S, e, er, sr, q⟩ => ?_
  subst e
  refine tr_intro er sr (pst_imp (pst_bind (relA := rlB) (fun _ _ _ _ _ z => z) q) fun x H1 ⟨w1, d, S1, e1, k1, s1, r1, q1⟩ => ?_)
  subst e1
  cases r1
  cases x with
  | true => rw [if_pos rfl]; exact tr_intro (er.keep k1) s1 q1
  | false => rw [if_neg Bool.false_ne_true]; exact tr_intro (er.keep k1) s1 q1
/-- a < b < c -/
def chainM (s1 s2 : D → D → Option D) (fa fb fc : Ev → M D) : Ev → M D := fun env => do
  let x ← fa env
  let y ← fb env
  let z ← op2 s1 x y
  let k ← asB z
  if k then do
    let u ← fc env
    op2 s2 y u
  else pure (.bl false)
theorem tr_chain {op op' : CmpOp} {s1 s2 : D → D → Option D} {r1 r2 : R2} {σ : L2.St} {H : Hp} {Q : VK}
    (h1 : ∀ (w : Wd) (S : Store) (x y : V) (a b d : D) (Q : VK), s1 a b = some d → SR g w S → RepV g w x a → RepV g w y b → (∀ w' v, Keep w w' → SR g w' S → Rep g w' v d → Q v w'.H) → r1 x y w.H Q)
    (h2 : ∀ (w : Wd) (S : Store) (x y : V) (a b d : D) (Q : VK), s2 a b = some d → SR g w S → RepV g w x a → RepV g w y b → (∀ w' v, Keep w w' → SR g w' S → Rep g w' v d → Q v w'.H) → r2 x y w.H Q)
    (h : tr g N0 Wx (rl g) (chainM s1 s2 fa fb fc) σ H Q) : tChain r1 r2 (tr g N0 Wx (rlW g) fa) (tr g N0 Wx (rlW g) fb) (tr g N0 Wx (rlW g) fc) σ H Q := by
  obtain ⟨w, env, S, e, er, sr, q⟩ := h
  subst e
  unfold tChain
  refine tr_intro er sr (pst_imp (pst_bind (relA := rlW g) (fun _ _ _ _ _ z => z) q) fun x H1 ⟨w1, da, S1, e1, k1, s1', r1', q1⟩ => ?_)
  subst e1
  refine tr_intro (er.keep k1) s1' (pst_imp (pst_bind (relA := rlW g) (fun _ _ _ _ _ z => z) q1) fun y H2 ⟨w2, db, S2, e2, k2, s2', r2', q2⟩ => ?_)
  subst e2
  have q2' := pst_bind (relA := rl g) (x := op2 s1 da db) (fun _ _ _ _ _ z => z) q2
  unfold op2 at q2'
  cases es : s1 (deref S2 da) (deref S2 db) with
  | none => rw [es] at q2'; exact q2'.elim
  | some d =>
    rw [es] at q2'
    refine h1 w2 S2 x y _ _ d _ es s2' ((r1'.keep k2).view s2') (r2'.view s2') fun w3 v k3 s3 r3 => ?_
    obtain ⟨w3', d3, S3, e3, k3', s3', r3', q3⟩ := q2' w3 v k3 s3 r3
    rw [← e3]
    cases d3 with
    | bl z =>
      cases r3'
      refine ⟨z, rfl, ?_⟩
      cases z with
      | false => rw [if_neg Bool.false_ne_true]; exact q3 w3' _ (Keep.refl w3') s3' (.bl _)
      | true =>
        rw [if_pos rfl]
        refine tr_intro (((er.keep k1).keep k2).keep k3') s3' (pst_imp (pst_bind (relA := rlW g) (fun _ _ _ _ _ z => z) q3) fun u H4 ⟨w4, dc, S4, e4, k4, s4, r4, q4⟩ => ?_)
        subst e4
        cases es2 : s2 (deref S4 db) (deref S4 dc) with
        | none => rw [es2] at q4; exact q4.elim
        | some d2 =>
          rw [es2] at q4
          exact h2 w4 S4 y u _ _ d2 Q es2 s4 (((r2'.keep k3').keep k4).view s4) (r4.view s4) fun w5 v k5 s5 r5 => q4 w5 v k5 s5 r5
    | _ => exact q3.elim
theorem de_chain {op op' : CmpOp} {s1 s2 : D → D → Option D} (o1 : OpS g X (compareOp op) s1) (o2 : OpS g X (compareOp op') s2) (ha : DW g N0 Wx X a fa) (hb : DW g N0 Wx X b fb) (hc : DW g N0 Wx X c fc) (hm : lastMarks [op, op'] [b, c] = false) :
    DE g N0 Wx X (.Compare a [op, op'] [b, c] pos) (chainM s1 s2 fa fb fc) := by
  obtain ⟨r1, hr1, q1⟩ := o1
  obtain ⟨r2, hr2, q2⟩ := o2
  exact PE.imp (pe_chain hr1 hr2 ha hb hc hm) fun σ H Q h => tr_chain (op := op) (op' := op') q1 q2 h
theorem dt_chain {op op' : CmpOp} {s1 s2 : D → D → Option D} (o1 : OpS g X (compareOp op) s1) (o2 : OpS g X (compareOp op') s2) (ha : DW g N0 Wx X a fa) (hb : DW g N0 Wx X b fb) (hc : DW g N0 Wx X c fc) (hm : lastMarks [op, op'] [b, c] = false) :
    DT g N0 Wx X (.Compare a [op, op'] [b, c] pos) (fun env => do let x ← chainM s1 s2 fa fb fc env; asB x) := by
  obtain ⟨r1, hr1, q1⟩ := o1
  obtain ⟨r2, hr2, q2⟩ := o2
  refine PT.imp (pt_chain hr1 hr2 ha hb hc hm) fun σ H Q h => ?_
  refine tr_chain (op := op) (op' := op') q1 q2 ?_
  obtain ⟨w, env, S, e, er, sr, q⟩ := h
  subst e
  refine tr_intro er sr (pst_imp (pst_bind (relA := rl g) (fun _ _ _ _ _ z => z) q) fun x H1 ⟨w1, d, S1, e1, k1, s1, r1, q1⟩ => ?_)
  subst e1
  cases d with
  | bl z => cases r1; exact ⟨z, rfl, q1 w1 _ (Keep.refl w1) s1 rfl⟩
  | _ => exact q1.elim
end
end Pc

set_option Elab.async false
set_option linter.all false
set_option autoImplicit false
set_option maxRecDepth 100000
set_option maxHeartbeats 4000000
/-! Pc, part G: built-in functions by values. -/
namespace Pc
open PySem PySem.Spec PyProof.Rows L2
inductive RepLV (g : Gc) (w : Wd) : List V → List D → Prop
  | nil : RepLV g w [] []
  | cons {v : V} {d : D} {vs : List V} {ds : List D} : RepV g w v d → RepLV g w vs ds → RepLV g w (v :: vs) (d :: ds)
section
variable {g : Gc} {N0 : List Addr} {Wx : WX} {X : Cx} {pos p : Pos} {e : Expr} {es : List Expr}
theorem RepLB.view {w : Wd} {S : Store} (sr : SR g w S) : ∀ {vs : List V} {ds : List D}, RepLB g w vs ds → RepLV g w vs (ds.map (deref S))
  | _, _, .nil => .nil
  | _, _, .cons r t => .cons (r.view sr) (RepLB.view sr t)
theorem RepLV.one {w : Wd} {vs : List V} {d : D} (h : RepLV g w vs [d]) : ∃ v, vs = [v] ∧ RepV g w v d := by
  cases h with
  | cons r t => cases t; exact ⟨_, rfl, r⟩
theorem RepLV.two {w : Wd} {vs : List V} {d e : D} (h : RepLV g w vs [d, e]) : ∃ v u, vs = [v, u] ∧ RepV g w v d ∧ RepV g w u e := by
  cases h with
  | cons r t =>
    obtain ⟨u, rfl, r2⟩ := t.one
    exact ⟨_, _, rfl, r, r2⟩
/-- a call of a built-in by values -/
def CallS (g : Gc) (X : Cx) (f : Value) (sem : List D → Option D) : Prop :=
  ∃ r : List V → Hp → VK → Prop, CallR X f r ∧ ∀ (w : Wd) (S : Store) (vs : List V) (ds : List D) (d : D) (Q : VK), sem ds = some d → SR g w S → RepLV g w vs ds →
    (∀ w' v, Keep w w' → SR g w' S → Rep g w' v d → Q v w'.H) → r vs w.H Q
/-- .. that gives a new list -/
def CallN (g : Gc) (X : Cx) (f : Value) (sem : List D → Option (List D)) : Prop :=
  ∃ r : List V → Hp → VK → Prop, CallR X f r ∧ ∀ (w : Wd) (S : Store) (vs : List V) (ds xs : List D) (Q : VK), sem ds = some xs → SR g w S → RepLV g w vs ds →
    (∀ w' v, Keep w w' → SR g w' S → NewL g w w' v xs → Q v w'.H) → r vs w.H Q
theorem CallR.or {f : Value} {r r' : List V → Hp → VK → Prop} (h : CallR X f r) (h' : CallR X f r') : CallR X f (fun x H Q => r x H Q ∨ r' x H Q) := by
  intro pins s σ H xs us Q I rv q
  rcases q with q | q
  · exact h pins s σ H xs us Q I rv q
  · exact h' pins s σ H xs us Q I rv q
def orC {α : Type} (s t : List D → Option α) : List D → Option α := fun a => match s a with
  | some d => some d
  | none => t a
theorem CallS.or {f : Value} {s t : List D → Option D} (h : CallS g X f s) (h' : CallS g X f t) : CallS g X f (orC s t) := by
  obtain ⟨r, hr, q⟩ := h
  obtain ⟨r', hr', q'⟩ := h'
  refine ⟨_, CallR.or hr hr', fun w S vs ds d Q e sr ra k => ?_⟩
  unfold orC at e
  cases e1 : s ds with
  | some d' => rw [e1] at e; cases e; exact .inl (q w S vs ds _ Q e1 sr ra k)
  | none => rw [e1] at e; exact .inr (q' w S vs ds d Q e sr ra k)
theorem CallN.or {f : Value} {s t : List D → Option (List D)} (h : CallN g X f s) (h' : CallN g X f t) : CallN g X f (orC s t) := by
  obtain ⟨r, hr, q⟩ := h
  obtain ⟨r', hr', q'⟩ := h'
  refine ⟨_, CallR.or hr hr', fun w S vs ds d Q e sr ra k => ?_⟩
  unfold orC at e
  cases e1 : s ds with
  | some d' => rw [e1] at e; cases e; exact .inl (q w S vs ds _ Q e1 sr ra k)
  | none => rw [e1] at e; exact .inr (q' w S vs ds d Q e sr ra k)
def opN {α : Type} (sem : List D → Option α) (xs : List D) : M α := fun S => ofO (sem (xs.map (deref S))) S
/-- a built-in function or type by its name -/
structure Blt (X : Cx) (x : Str) (f : Value) : Prop where
  gl : Gl X x
  mg : X.mg x = none
  bt : bootBuiltins x = some f
  nn : x ≠ "__name__"
  nd : (x == ("__debug__" : Str)) = false
section
variable {x : Str} {f : Ev → M (List D)}
theorem pe_blt {fv : Value} {t : TA} {r : List V → Hp → VK → Prop} (hf : (∃ id, fv = .builtin id) ∨ ∃ T, fv = .type T) (B : Blt X x fv) (hc : CallR X fv r) (hs : (e :: es).all notStar = true) (ha : PA X (e :: es) t) : PE X (.Call (.Name x p) (e :: es) [] pos) (tCB r t) := by
  simp only [List.all_cons, Bool.and_eq_true] at hs
  rcases hf with ⟨id, rfl⟩ | ⟨T, rfl⟩
  · exact pe_callB hc B.gl B.mg B.bt ha B.nn B.nd (star_cons hs.1) (star_any hs.2)
  · exact pe_callTy hc B.gl B.mg B.bt ha B.nn B.nd (star_cons hs.1) (star_any hs.2)
theorem de_blt {fv : Value} {sem : List D → Option D} (hf : (∃ id, fv = .builtin id) ∨ ∃ T, fv = .type T) (B : Blt X x fv) (hc : CallS g X fv sem) (hs : (e :: es).all notStar = true) (ha : DB g N0 Wx X (e :: es) f) :
    DE g N0 Wx X (.Call (.Name x p) (e :: es) [] pos) (fun env => do let ds ← f env; opN sem ds) := by
  obtain ⟨r, hr, q⟩ := hc
  refine PE.imp (pe_blt hf B hr hs ha) fun σ H Q ⟨w, env, S, ee, er, sr, h⟩ => ?_
  subst ee
  refine tr_intro er sr (pst_imp (pst_bind (relA := rlLW g) (fun _ _ _ _ _ z => z) h) fun vs H1 ⟨w1, ds, S1, e1, k1, s1, r1, q1⟩ => ?_)
  subst e1
  unfold opN at q1
  cases eo : sem (ds.map (deref S1)) with
  | none => rw [eo] at q1; exact q1.elim
  | some d => rw [eo] at q1; exact q w1 S1 vs _ d Q eo s1 (r1.view s1) fun w' v k s r => q1 w' v k s r
theorem dl_blt {fv : Value} {sem : List D → Option (List D)} (hf : (∃ id, fv = .builtin id) ∨ ∃ T, fv = .type T) (B : Blt X x fv) (hc : CallN g X fv sem) (hs : (e :: es).all notStar = true) (ha : DB g N0 Wx X (e :: es) f) :
    DL g N0 Wx X (.Call (.Name x p) (e :: es) [] pos) (fun env => do let ds ← f env; opN sem ds) := by
  obtain ⟨r, hr, q⟩ := hc
  refine PE.imp (pe_blt hf B hr hs ha) fun σ H Q ⟨w, env, S, ee, er, sr, h⟩ => ?_
  subst ee
  refine tr_intro er sr (pst_imp (pst_bind (relA := rlLW g) (fun _ _ _ _ k z => z.base k) h) fun vs H1 ⟨w1, ds, S1, e1, k1, s1, r1, q1⟩ => ?_)
  subst e1
  unfold opN at q1
  cases eo : sem (ds.map (deref S1)) with
  | none => rw [eo] at q1; exact q1.elim
  | some d => rw [eo] at q1; exact q w1 S1 vs _ d Q eo s1 (r1.view s1) fun w' v k s r => q1 w' v k s r
end
/-! ### semantics -/
def intsOf : List D → Option (List Int)
  | [] => some []
  | .int i :: r => (intsOf r).map (i :: ·)
  | _ :: _ => none
def blsOf : List D → Option (List Bool)
  | [] => some []
  | .bl i :: r => (blsOf r).map (i :: ·)
  | _ :: _ => none
theorem intsOf_eq : ∀ {ds : List D} {ns : List Int}, intsOf ds = some ns → ds = ns.map D.int
  | [], _, h => by cases h; rfl
  | .int i :: r, ns, h => by
    unfold intsOf at h
    cases e : intsOf r with
    | none => rw [e] at h; cases h
    | some ms => rw [e] at h; cases h; rw [intsOf_eq e]; rfl
  | .non :: _, _, h => by cases h
  | .bl _ :: _, _, h => by cases h
  | .str _ :: _, _, h => by cases h
  | .tup _ :: _, _, h => by cases h
  | .lst _ :: _, _, h => by cases h
  | .dct _ :: _, _, h => by cases h
  | .ins _ _ :: _, _, h => by cases h
  | .obj _ :: _, _, h => by cases h
  | .ext _ :: _, _, h => by cases h
theorem intsOf_map : ∀ (ns : List Int), intsOf (ns.map D.int) = some ns
  | [] => rfl
  | n :: ns => by simp [intsOf, intsOf_map ns]
theorem blsOf_eq : ∀ {ds : List D} {ns : List Bool}, blsOf ds = some ns → ds = ns.map D.bl
  | [], _, h => by cases h; rfl
  | .bl i :: r, ns, h => by
    unfold blsOf at h
    cases e : blsOf r with
    | none => rw [e] at h; cases h
    | some ms => rw [e] at h; cases h; rw [blsOf_eq e]; rfl
  | .non :: _, _, h => by cases h
  | .int _ :: _, _, h => by cases h
  | .str _ :: _, _, h => by cases h
  | .tup _ :: _, _, h => by cases h
  | .lst _ :: _, _, h => by cases h
  | .dct _ :: _, _, h => by cases h
  | .ins _ _ :: _, _, h => by cases h
  | .obj _ :: _, _, h => by cases h
  | .ext _ :: _, _, h => by cases h
theorem blsOf_map : ∀ (ns : List Bool), blsOf (ns.map D.bl) = some ns
  | [] => rfl
  | n :: ns => by simp [blsOf, blsOf_map ns]
def lenS : List D → Option D
  | [.str x] => if x.length ≤ sizeLine then some (.int x.length) else none
  | [.tup xs] => some (.int xs.length)
  | [.lst xs] => some (.int xs.length)
  | _ => none
theorem cs_len (hK : X.K = g.K) : CallS g X (.builtin "len") lenS := by
  refine ⟨_, call_len, fun w S vs ds d Q e sr ra q => ?_⟩
  unfold lenS at e
  split at e
  · split at e
    · rename_i x h
      cases e
      obtain ⟨v, rfl, r⟩ := ra.one
      rw [r.str]
      exact ⟨_, x.length, rfl, ⟨h, rfl⟩, q w _ (Keep.refl w) sr (.int _)⟩
    · cases e
  · cases e
    obtain ⟨v, rfl, r⟩ := ra.one
    obtain ⟨a, us, rfl, h1, h2⟩ := r.tup
    exact ⟨_, us.length, rfl, .inr ⟨us, by rw [hK]; exact h1, rfl⟩, by rw [h2.length]; exact q w _ (Keep.refl w) sr (.int _)⟩
  · cases e
    obtain ⟨v, rfl, r⟩ := ra.one
    obtain ⟨a, us, rfl, h1, h2⟩ := r.lst
    exact ⟨_, us.length, rfl, .inl ⟨us, by rw [hK]; exact h1, rfl⟩, by rw [h2.length]; exact q w _ (Keep.refl w) sr (.int _)⟩
  · cases e
def sumS : List D → Option D
  | [.lst xs] => (intsOf xs).map fun ns => .int ns.sum
  | [.tup xs] => (intsOf xs).map fun ns => .int ns.sum
  | _ => none
theorem call_sumT (hc : X.calm = true) : CallR X (.builtin "sum") (fun vs H Q => ∃ (a : Addr) (ns : List Int), vs = [V.ref a] ∧ SqT X.K H a (ns.map V.int) ∧ Q (.int ns.sum) H) := by
  intro pins s σ H vs us Q I r h
  obtain ⟨a, ns, rfl, hs, q⟩ := h
  obtain ⟨its, rv, hl, _⟩ := I.tuple hs
  rw [Vals.ref1 r]
  have hi := rv.ints
  obtain ⟨xs, ex⟩ := hi.allInts.items
  have hn : numsOf (intItems xs).toList = ns := by rw [← ex]; exact hi.numsOf
  rw [nums_intItems] at hn
  rw [ex] at hl
  obtain ⟨o, h1, h2, n, h3⟩ := hl
  refine PySem.W.ktm_sumG (I.ok.hd hc) ⟨o, h1, h2, n, h3⟩ fun h' tk t' hk => ⟨.int _, H, I.kept hk, ⟨_, rfl⟩, ?_⟩
  rw [preSum_eq, List.take_of_length_le (by simp), hn]
  exact q
theorem cs_sum (hK : X.K = g.K) (hc : X.calm = true) : CallS g X (.builtin "sum") sumS := by
  refine ⟨_, CallR.or (cr_sum hc) (call_sumT hc), fun w S vs ds d Q e sr ra q => ?_⟩
  unfold sumS at e
  split at e
  · rename_i xs
    obtain ⟨v, rfl, r⟩ := ra.one
    obtain ⟨a, us, rfl, h1, h2⟩ := r.lst
    cases ei : intsOf xs with
    | none => rw [ei] at e; cases e
    | some ns =>
      rw [ei] at e
      cases e
      have hx := intsOf_eq ei
      subst hx
      rw [h2.int_inv] at h1
      exact .inl ⟨a, ns, rfl, by rw [hK]; exact h1, q w _ (Keep.refl w) sr (.int _)⟩
  · rename_i xs
    obtain ⟨v, rfl, r⟩ := ra.one
    obtain ⟨a, us, rfl, h1, h2⟩ := r.tup
    cases ei : intsOf xs with
    | none => rw [ei] at e; cases e
    | some ns =>
      rw [ei] at e
      cases e
      have hx := intsOf_eq ei
      subst hx
      rw [h2.int_inv] at h1
      exact .inr ⟨a, ns, rfl, by rw [hK]; exact h1, q w _ (Keep.refl w) sr (.int _)⟩
  · cases e
def allS : List D → Option D
  | [.lst xs] => (blsOf xs).map fun ns => .bl (ns.all id)
  | _ => none
def anyS : List D → Option D
  | [.lst xs] => (blsOf xs).map fun ns => .bl (ns.any id)
  | _ => none
theorem cs_all (hK : X.K = g.K) (hc : X.calm = true) : CallS g X (.builtin "all") allS := by
  refine ⟨_, cr_all hc, fun w S vs ds d Q e sr ra q => ?_⟩
  unfold allS at e
  split at e
  · rename_i xs
    obtain ⟨v, rfl, r⟩ := ra.one
    obtain ⟨a, us, rfl, h1, h2⟩ := r.lst
    cases ei : blsOf xs with
    | none => rw [ei] at e; cases e
    | some ns =>
      rw [ei] at e
      cases e
      have hx := blsOf_eq ei
      subst hx
      rw [h2.bl_inv] at h1
      exact ⟨a, ns, rfl, by rw [hK]; exact h1, q w _ (Keep.refl w) sr (.bl _)⟩
  · cases e
theorem cs_any (hK : X.K = g.K) (hc : X.calm = true) : CallS g X (.builtin "any") anyS := by
  refine ⟨_, cr_any hc, fun w S vs ds d Q e sr ra q => ?_⟩
  unfold anyS at e
  split at e
  · rename_i xs
    obtain ⟨v, rfl, r⟩ := ra.one
    obtain ⟨a, us, rfl, h1, h2⟩ := r.lst
    cases ei : blsOf xs with
    | none => rw [ei] at e; cases e
    | some ns =>
      rw [ei] at e
      cases e
      have hx := blsOf_eq ei
      subst hx
      rw [h2.bl_inv] at h1
      exact ⟨a, ns, rfl, by rw [hK]; exact h1, q w _ (Keep.refl w) sr (.bl _)⟩
  · cases e
def maxL : List Int → Option Int
  | [] => none
  | x :: xs => some (xs.foldl max x)
def minL : List Int → Option Int
  | [] => none
  | x :: xs => some (xs.foldl min x)
theorem foldl_max_le : ∀ (xs : List Int) (x y : Int), y ≤ x → y ≤ xs.foldl max x
  | [], _, _, h => h
  | z :: xs, x, y, h => by simp only [List.foldl_cons]; exact foldl_max_le xs _ _ (by omega)
theorem foldl_max_ge : ∀ (xs : List Int) (x : Int), ∀ y ∈ xs, y ≤ xs.foldl max x
  | z :: xs, x, y, h => by
    simp only [List.foldl_cons]
    rcases List.mem_cons.mp h with rfl | h
    · exact foldl_max_le xs _ _ (by omega)
    · exact foldl_max_ge xs _ y h
theorem foldl_max_mem : ∀ (xs : List Int) (x : Int), xs.foldl max x = x ∨ xs.foldl max x ∈ xs
  | [], _ => .inl rfl
  | z :: xs, x => by
    simp only [List.foldl_cons]
    rcases foldl_max_mem xs (max x z) with h | h
    · rw [h]
      rcases Int.le_total x z with q | q
      · exact .inr (by rw [Int.max_eq_right q]; exact List.mem_cons_self)
      · exact .inl (Int.max_eq_left q)
    · exact .inr (List.mem_cons_of_mem _ h)
theorem foldl_min_le : ∀ (xs : List Int) (x y : Int), x ≤ y → xs.foldl min x ≤ y
  | [], _, _, h => h
  | z :: xs, x, y, h => by simp only [List.foldl_cons]; exact foldl_min_le xs _ _ (by omega)
theorem foldl_min_ge : ∀ (xs : List Int) (x : Int), ∀ y ∈ xs, xs.foldl min x ≤ y
  | z :: xs, x, y, h => by
    simp only [List.foldl_cons]
    rcases List.mem_cons.mp h with rfl | h
    · exact foldl_min_le xs _ _ (by omega)
    · exact foldl_min_ge xs _ y h
theorem foldl_min_mem : ∀ (xs : List Int) (x : Int), xs.foldl min x = x ∨ xs.foldl min x ∈ xs
  | [], _ => .inl rfl
  | z :: xs, x => by
    simp only [List.foldl_cons]
    rcases foldl_min_mem xs (min x z) with h | h
    · rw [h]
      rcases Int.le_total x z with q | q
      · exact .inl (Int.min_eq_left q)
      · exact .inr (by rw [Int.min_eq_right q]; exact List.mem_cons_self)
    · exact .inr (List.mem_cons_of_mem _ h)
theorem maxL_spec {ns : List Int} {m : Int} (h : maxL ns = some m) : m ∈ ns ∧ ∀ y ∈ ns, y ≤ m := by
  cases ns with
  | nil => cases h
  | cons x xs =>
    cases h
    refine ⟨?_, fun y hy => ?_⟩
    · rcases foldl_max_mem xs x with q | q
      · rw [q]; exact List.mem_cons_self
      · exact List.mem_cons_of_mem _ q
    · rcases List.mem_cons.mp hy with rfl | hy
      · exact foldl_max_le xs _ _ (Int.le_refl _)
      · exact foldl_max_ge xs x y hy
theorem minL_spec {ns : List Int} {m : Int} (h : minL ns = some m) : m ∈ ns ∧ ∀ y ∈ ns, m ≤ y := by
  cases ns with
  | nil => cases h
  | cons x xs =>
    cases h
    refine ⟨?_, fun y hy => ?_⟩
    · rcases foldl_min_mem xs x with q | q
      · rw [q]; exact List.mem_cons_self
      · exact List.mem_cons_of_mem _ q
    · rcases List.mem_cons.mp hy with rfl | hy
      · exact foldl_min_le xs _ _ (Int.le_refl _)
      · exact foldl_min_ge xs x y hy
def maxS : List D → Option D
  | [.int i, .int j] => some (.int (if j > i then j else i))
  | [.lst xs] => ((intsOf xs).bind maxL).map .int
  | _ => none
def minS : List D → Option D
  | [.int i, .int j] => some (.int (if j < i then j else i))
  | [.lst xs] => ((intsOf xs).bind minL).map .int
  | _ => none
theorem cs_max (hK : X.K = g.K) (hc : X.calm = true) : CallS g X (.builtin "max") maxS := by
  refine ⟨_, CallR.or (call_max2 hc) (cr_max hc), fun w S vs ds d Q e sr ra q => ?_⟩
  unfold maxS at e
  split at e
  · rename_i i j
    cases e
    obtain ⟨v, u, rfl, r1, r2⟩ := ra.two
    exact .inl ⟨i, j, by rw [r1.int, r2.int], q w _ (Keep.refl w) sr (.int _)⟩
  · rename_i xs
    obtain ⟨v, rfl, r⟩ := ra.one
    obtain ⟨a, us, rfl, h1, h2⟩ := r.lst
    cases ei : intsOf xs with
    | none => rw [ei] at e; cases e
    | some ns =>
      rw [ei] at e
      cases em : maxL ns with
      | none => simp only [Option.bind_some, em] at e; cases e
      | some m =>
        simp only [Option.bind_some, em, Option.map_some] at e
        cases e
        have hx := intsOf_eq ei
        subst hx
        rw [h2.int_inv] at h1
        obtain ⟨s1, s2⟩ := maxL_spec em
        refine .inr ⟨a, ns, rfl, by rw [hK]; exact h1, List.length_pos_of_mem s1, fun m' h3 h4 => ?_⟩
        have : m' = m := Int.le_antisymm (s2 m' h3) (h4 m s1)
        subst this
        exact q w _ (Keep.refl w) sr (.int _)
  · cases e
theorem cs_min (hK : X.K = g.K) (hc : X.calm = true) : CallS g X (.builtin "min") minS := by
  refine ⟨_, CallR.or (call_min2 hc) (cr_min hc), fun w S vs ds d Q e sr ra q => ?_⟩
  unfold minS at e
  split at e
  · rename_i i j
    cases e
    obtain ⟨v, u, rfl, r1, r2⟩ := ra.two
    exact .inl ⟨i, j, by rw [r1.int, r2.int], q w _ (Keep.refl w) sr (.int _)⟩
  · rename_i xs
    obtain ⟨v, rfl, r⟩ := ra.one
    obtain ⟨a, us, rfl, h1, h2⟩ := r.lst
    cases ei : intsOf xs with
    | none => rw [ei] at e; cases e
    | some ns =>
      rw [ei] at e
      cases em : minL ns with
      | none => simp only [Option.bind_some, em] at e; cases e
      | some m =>
        simp only [Option.bind_some, em, Option.map_some] at e
        cases e
        have hx := intsOf_eq ei
        subst hx
        rw [h2.int_inv] at h1
        obtain ⟨s1, s2⟩ := minL_spec em
        refine .inr ⟨a, ns, rfl, by rw [hK]; exact h1, List.length_pos_of_mem s1, fun m' h3 h4 => ?_⟩
        have : m' = m := Int.le_antisymm (h4 m s1) (s2 m' h3)
        subst this
        exact q w _ (Keep.refl w) sr (.int _)
  · cases e
def absS : List D → Option D
  | [.int i] => some (.int (if i < 0 then -i else i))
  | _ => none
theorem cs_abs : CallS g X (.builtin "abs") absS := by
  refine ⟨_, call_abs, fun w S vs ds d Q e sr ra q => ?_⟩
  unfold absS at e
  split at e
  · rename_i i
    cases e
    obtain ⟨v, rfl, r⟩ := ra.one
    exact ⟨i, by rw [r.int], q w _ (Keep.refl w) sr (.int _)⟩
  · cases e
def intS : List D → Option D
  | [.int i] => some (.int i)
  | [.bl k] => some (.int (if k then 1 else 0))
  | _ => none
theorem cs_int : CallS g X (.type "int") intS := by
  refine ⟨_, call_int1, fun w S vs ds d Q e sr ra q => ?_⟩
  unfold intS at e
  split at e
  · rename_i i
    cases e
    obtain ⟨v, rfl, r⟩ := ra.one
    exact .inl ⟨i, by rw [r.int], q w _ (Keep.refl w) sr (.int _)⟩
  · rename_i i
    cases e
    obtain ⟨v, rfl, r⟩ := ra.one
    exact .inr ⟨i, by rw [r.bl], q w _ (Keep.refl w) sr (.int _)⟩
  · cases e
def tupS : List D → Option D
  | [.lst xs] => some (.tup xs)
  | [.tup xs] => some (.tup xs)
  | _ => none
theorem cs_tuple (hK : X.K = g.K) : CallS g X (.type "tuple") tupS := by
  refine ⟨_, call_tuple_of, fun w S vs ds d Q e sr ra q => ?_⟩
  unfold tupS at e
  split at e
  · cases e
    obtain ⟨v, rfl, r⟩ := ra.one
    obtain ⟨a, us, rfl, h1, h2⟩ := r.lst
    exact ⟨a, us, rfl, .inl ⟨by rw [hK]; exact h1, fun l hl => q ⟨upd w.H l _, w.N, w.m⟩ _ (keep_new hl) (sr.new hl) (rep_newT hl h2)⟩⟩
  · cases e
    obtain ⟨v, rfl, r⟩ := ra.one
    obtain ⟨a, us, rfl, h1, h2⟩ := r.tup
    exact ⟨a, us, rfl, .inr ⟨by rw [hK]; exact h1, q w _ (Keep.refl w) sr (.tup h1 h2)⟩⟩
  · cases e
def lstS : List D → Option (List D)
  | [.lst xs] => some xs
  | [.tup xs] => some xs
  | _ => none
theorem cn_list (hK : X.K = g.K) : CallN g X (.type "list") lstS := by
  refine ⟨_, call_list_of, fun w S vs ds d Q e sr ra q => ?_⟩
  unfold lstS at e
  split at e
  · cases e
    obtain ⟨v, rfl, r⟩ := ra.one
    obtain ⟨a, us, rfl, h1, h2⟩ := r.lst
    exact ⟨a, us, rfl, .inl (by rw [hK]; exact h1), fun l hl => q ⟨upd w.H l _, l :: w.N, w.m⟩ _ (keep_newN hl) (sr.newN hl) (new_l sr hl h2)⟩
  · cases e
    obtain ⟨v, rfl, r⟩ := ra.one
    obtain ⟨a, us, rfl, h1, h2⟩ := r.tup
    exact ⟨a, us, rfl, .inr (by rw [hK]; exact h1), fun l hl => q ⟨upd w.H l _, l :: w.N, w.m⟩ _ (keep_newN hl) (sr.newN hl) (new_l sr hl h2)⟩
  · cases e
def strS : List D → Option D
  | [.int i] => if i.natAbs.log2 < 1920 then some (.str (toString i)) else none
  | _ => none
theorem cs_str : CallS g X (.type "str") strS := by
  refine ⟨_, call_str_int, fun w S vs ds d Q e sr ra q => ?_⟩
  unfold strS at e
  split at e
  · split at e
    · rename_i i h
      cases e
      obtain ⟨v, rfl, r⟩ := ra.one
      exact ⟨i, by rw [r.int], h, q w _ (Keep.refl w) sr (.str _)⟩
    · cases e
  · cases e
mutual
theorem noDict : ∀ d : PyData, d.canLay0 = true → d.hasDict = false
  | .none, _ => by simp [PyData.hasDict]
  | .bool _, _ => by simp [PyData.hasDict]
  | .int _, _ => by simp [PyData.hasDict]
  | .str _, _ => by simp [PyData.hasDict]
  | .list xs, h => by simp only [PyData.hasDict]; exact noDicts xs (by simpa [PyData.canLay0] using h)
  | .tuple xs, h => by simp only [PyData.hasDict]; exact noDicts xs (by simpa [PyData.canLay0] using h)
  | .dict _, h => by simp [PyData.canLay0] at h
theorem noDicts : ∀ d : List PyData, PyData.canLayAll0 d = true → PyData.hasDictAll d = false
  | [], _ => by simp [PyData.hasDictAll]
  | x :: xs, h => by
    simp only [PyData.canLayAll0, Bool.and_eq_true] at h
    simp only [PyData.hasDictAll, noDict x h.1, noDicts xs h.2, Bool.or_self]
end
/-- repr -/
def repOk (d : D) : Bool := okd 60 d && d.toP.showable && decide (d.toP.shown.length ≤ sizeLine)
def reprS : List D → Option D
  | [d] => if repOk d then some (.str d.toP.shown) else none
  | _ => none
theorem shown_int (i : Int) : (PyData.int i).shown = toString i := by simp only [PyData.shown]
theorem cs_repr (hK : X.K = g.K) (hg : X.A.guards = some []) (hu : X.A.units + 64 < cLine) : CallS g X (.builtin "repr") reprS := by
  refine ⟨fun vs H Q => ∃ v d, vs = [v] ∧ repOk d = true ∧ Dp X.K H v d.toP ∧ Q (.str d.toP.shown) H, ?_, fun w S vs ds d Q e sr ra q => ?_⟩
  · intro pins s σ H vs us Q I r h
    obtain ⟨v, d, rfl, ho, hd, q⟩ := h
    obtain ⟨u, rfl, ru⟩ := vals1 r
    unfold repOk at ho
    simp only [Bool.and_eq_true, decide_eq_true_eq] at ho
    obtain ⟨⟨o1, o2⟩, o3⟩ := ho
    have dep := (okd_lay 60 d o1).2
    have lay := (okd_lay 60 d o1).1
    obtain ⟨as, rd⟩ := Dp.reads I d.toP v u hd ru
    cases hd' : d.toP with
    | none => rw [hd'] at rd q; cases rd; exact PySem.P.repr_of_none ⟨.str _, H, I.tok _, ⟨_, rfl⟩, by simpa [PyData.shown] using q⟩
    | bool b => rw [hd'] at rd q; cases rd; exact PySem.P.repr_of_bool ⟨.str _, H, I.tok _, ⟨_, rfl⟩, by cases b <;> simpa [PyData.shown] using q⟩
    | int i =>
      rw [hd'] at rd q o2
      cases rd
      exact PySem.P.repr_of_int (by simpa [PyData.showable] using o2) ⟨.str _, H, I.tok _, ⟨_, rfl⟩, by simpa [PyData.shown] using q⟩
    | str x =>
      rw [hd'] at rd q o3
      cases rd
      exact PySem.P.repr_of_str ⟨.str _, H, I.tok _, ⟨_, rfl⟩, by simpa [PyData.shown] using q⟩ (by simpa [PyData.shown] using o3)
    | list xs =>
      rw [hd'] at rd q o2 o3 dep lay
      have nd : (PyData.list xs).hasDict = false := noDict _ lay
      cases rd with
      | list h1 h2 h3 h4 => exact repr_of_reads' (.list h1 h2 h3 h4) o2 (fun z => by rw [nd] at z; cases z) hg (by omega) (fun _ _ e => e) (fun h' u tk hk => ⟨.str _, H, I.kept hk, ⟨_, rfl⟩, q⟩) o3
    | tuple xs =>
      rw [hd'] at rd q o2 o3 dep lay
      have nd : (PyData.tuple xs).hasDict = false := noDict _ lay
      cases rd with
      | tuple h1 h2 h3 h4 => exact repr_of_reads' (.tuple h1 h2 h3 h4) o2 (fun z => by rw [nd] at z; cases z) hg (by omega) (fun _ _ e => e) (fun h' u tk hk => ⟨.str _, H, I.kept hk, ⟨_, rfl⟩, q⟩) o3
    | dict kvs => rw [hd'] at lay; simp [PyData.canLay0] at lay
  · unfold reprS at e
    split at e
    · split at e
      · rename_i d h
        cases e
        obtain ⟨v, rfl, r⟩ := ra.one
        refine ⟨v, d, rfl, h, ?_, q w _ (Keep.refl w) sr (.str _)⟩
        unfold repOk at h
        simp only [Bool.and_eq_true] at h
        rw [hK]
        exact r.dp h.1.1
      · cases e
    · cases e
end
end Pc

set_option Elab.async false
set_option linter.all false
set_option autoImplicit false
set_option maxRecDepth 100000
set_option maxHeartbeats 4000000
/-! Pc, part H: targets, what is walked, list comprehensions. -/
namespace Pc
open PySem PySem.Spec PyProof.Rows L2
section
variable {g : Gc} {N0 : List Addr} {Wx : WX} {X : Cx}
/-! ### slots that are set -/
theorem ownAt_set {env : Ev} {i j : Nat} {d : D} (h : ownAt (env.set i (.val d)) j) : ownAt env j ∧ j ≠ i := by
  obtain ⟨s, e, o⟩ := h
  by_cases q : i = j
  · subst q
    by_cases hl : i < env.length
    · rw [List.getElem?_set_self hl] at e; cases e; cases o
    · rw [List.getElem?_eq_none (by simpa using hl)] at e; cases e
  · rw [List.getElem?_set_ne q] at e
    exact ⟨⟨s, e, o⟩, fun z => q z.symm⟩
theorem ER.set_val {w : Wd} {env : Ev} {σ : L2.St} {i : Nat} {v : V} {d : D} (e : ER g N0 w env σ) (r : Rep g w v d) : ER g N0 w (env.set i (.val d)) (σ.set i (some v)) := by
  have hl := e.len
  have ne : ∀ (j : Nat) (s : Sl), (env.set i (.val d))[j]? = some s → (j = i ∧ s = .val d) ∨ (i ≠ j ∧ env[j]? = some s) := fun j s h => by
    by_cases q : i = j
    · subst q
      by_cases hi : i < env.length
      · rw [List.getElem?_set_self hi] at h; cases h; exact .inl ⟨rfl, rfl⟩
      · rw [List.getElem?_eq_none (by simpa using hi)] at h; cases h
    · rw [List.getElem?_set_ne q] at h; exact .inr ⟨q, h⟩
  refine ⟨by simpa using hl, fun j d' h => ?_, fun j xs h => ?_, fun j xs h => ?_, fun j k hjk h1 h2 => ?_⟩
  · rcases ne j _ h with ⟨rfl, z⟩ | ⟨q, z⟩
    · cases z
      have hi : j < σ.length := by
        rw [hl]
        have := (List.getElem?_eq_some_iff.mp h).1
        simpa using this
      exact ⟨v, List.getElem?_set_self hi, r⟩
    · obtain ⟨v', h1, h2⟩ := e.val j d' z
      exact ⟨v', by rw [List.getElem?_set_ne q]; exact h1, h2⟩
  · rcases ne j _ h with ⟨rfl, z⟩ | ⟨q, z⟩
    · cases z
    · obtain ⟨a, vs, h1, h2⟩ := e.own j xs z
      exact ⟨a, vs, by rw [List.getElem?_set_ne q]; exact h1, h2⟩
  · rcases ne j _ h with ⟨rfl, z⟩ | ⟨q, z⟩
    · cases z
    · obtain ⟨a, vs, h1, h2⟩ := e.owd j xs z
      exact ⟨a, vs, by rw [List.getElem?_set_ne q]; exact h1, h2⟩
  · obtain ⟨o1, n1⟩ := ownAt_set h1
    obtain ⟨o2, n2⟩ := ownAt_set h2
    rw [List.getElem?_set_ne (Ne.symm n1), List.getElem?_set_ne (Ne.symm n2)]
    exact e.ap j k hjk o1 o2
theorem ER.set_no {w : Wd} {env : Ev} {σ : L2.St} {i : Nat} {z : Option V} (e : ER g N0 w env σ) : ER g N0 w (env.set i .no) (σ.set i z) := by
  have hl := e.len
  have ne : ∀ (j : Nat) (s : Sl), (env.set i .no)[j]? = some s → (j = i ∧ s = .no) ∨ (i ≠ j ∧ env[j]? = some s) := fun j s h => by
    by_cases q : i = j
    · subst q
      by_cases hi : i < env.length
      · rw [List.getElem?_set_self hi] at h; cases h; exact .inl ⟨rfl, rfl⟩
      · rw [List.getElem?_eq_none (by simpa using hi)] at h; cases h
    · rw [List.getElem?_set_ne q] at h; exact .inr ⟨q, h⟩
  have no : ∀ j, ownAt (env.set i .no) j → ownAt env j ∧ i ≠ j := fun j ⟨s, h, o⟩ => by
    rcases ne j s h with ⟨_, z⟩ | ⟨q, z⟩
    · subst z; cases o
    · exact ⟨⟨s, z, o⟩, q⟩
  refine ⟨by simpa using hl, fun j d' h => ?_, fun j xs h => ?_, fun j xs h => ?_, fun j k hjk h1 h2 => ?_⟩
  · rcases ne j _ h with ⟨_, z⟩ | ⟨q, z⟩
    · cases z
    · obtain ⟨v', h1, h2⟩ := e.val j d' z
      exact ⟨v', by rw [List.getElem?_set_ne q]; exact h1, h2⟩
  · rcases ne j _ h with ⟨_, z⟩ | ⟨q, z⟩
    · cases z
    · obtain ⟨a, vs, h1, h2⟩ := e.own j xs z
      exact ⟨a, vs, by rw [List.getElem?_set_ne q]; exact h1, h2⟩
  · rcases ne j _ h with ⟨_, z⟩ | ⟨q, z⟩
    · cases z
    · obtain ⟨a, vs, h1, h2⟩ := e.owd j xs z
      exact ⟨a, vs, by rw [List.getElem?_set_ne q]; exact h1, h2⟩
  · obtain ⟨o1, n1⟩ := no j h1
    obtain ⟨o2, n2⟩ := no k h2
    rw [List.getElem?_set_ne n1, List.getElem?_set_ne n2]
    exact e.ap j k hjk o1 o2
def wipeE (env : Ev) : List Nat → Ev
  | [] => env
  | v :: vs => (wipeE env vs).set v .no
theorem ER.wipe {w : Wd} {env : Ev} {σ : L2.St} (e : ER g N0 w env σ) : ∀ vs : List Nat, ER g N0 w (wipeE env vs) (L2.wipe σ vs)
  | [] => e
  | _ :: vs => (ER.wipe e vs).set_no

/-! ### targets -/
/-- f: how the slots are set, where it goes; vs: which -/
def trG (g : Gc) (N0 : List Addr) (vs : List Nat) (f : D → Ev → Option Ev) : TG := fun v σ H Q =>
  ∃ w env S d env', w.H = H ∧ ER g N0 w env σ ∧ SR g w S ∧ Rep g w v d ∧ f d env = some env' ∧ ∀ σ', ER g N0 w env' σ' → (∀ i, i ∉ vs → σ'[i]? = σ[i]?) → σ'.length = σ.length → Q σ' H
abbrev DG (g : Gc) (N0 : List Addr) (X : Cx) (e : Expr) (vs : List Nat) (f : D → Ev → Option Ev) : Prop := PG X e (trG g N0 vs f)
theorem PG.imp {X : Cx} {e : Expr} {t t' : TG} (h : PG X e t) (i : ∀ v σ H Q, t' v σ H Q → t v σ H Q) : PG X e t' := ⟨fun pins s σ H v u Q I r q => h.run pins s σ H v u Q I r (i v σ H Q q)⟩
theorem PGs.imp {X : Cx} {e : List Expr} {t t' : TGs} (h : PGs X e t) (i : ∀ v σ H Q, t' v σ H Q → t v σ H Q) : PGs X e t' := ⟨fun pins s σ H v u Q I r q => h.run pins s σ H v u Q I r (i v σ H Q q)⟩
def setE (i : Nat) (d : D) (env : Ev) : Option Ev := some (env.set i (.val d))
theorem dg_name {i : Nat} {x : Str} {pos : Pos} (h : PG X (.Name x pos) (gName i)) : DG g N0 X (.Name x pos) [i] (setE i) := by
  refine PG.imp h fun v σ H Q ⟨w, env, S, d, env', e, er, sr, r, f, q⟩ => ?_
  cases f
  refine q _ (er.set_val r) (fun j hj => ?_) (by simp)
  exact List.getElem?_set_ne (fun z => hj (by simp [z]))
def trGs (g : Gc) (N0 : List Addr) (us : List Nat) (f : List D → Ev → Option Ev) : TGs := fun vs σ H Q =>
  ∃ w env S ds env', w.H = H ∧ ER g N0 w env σ ∧ SR g w S ∧ RepL g w vs ds ∧ f ds env = some env' ∧ ∀ σ', ER g N0 w env' σ' → (∀ i, i ∉ us → σ'[i]? = σ[i]?) → σ'.length = σ.length → Q σ' H
def nilG (ds : List D) (env : Ev) : Option Ev := match ds with
  | [] => some env
  | _ => none
def consG (f : D → Ev → Option Ev) (r : List D → Ev → Option Ev) (ds : List D) (env : Ev) : Option Ev := match ds with
  | d :: ds => (f d env).bind (r ds)
  | [] => none
theorem dgs_nil : PGs X [] (trGs g N0 [] nilG) := by
  refine PGs.imp pgs_nil fun vs σ H Q ⟨w, env, S, ds, env', e, er, sr, r, f, q⟩ => ?_
  cases r with
  | nil => cases f; exact ⟨rfl, q σ er (fun _ _ => rfl) rfl⟩
  | cons _ _ => cases f
theorem dgs_cons {e : Expr} {es : List Expr} {us ws : List Nat} {f : D → Ev → Option Ev} {r : List D → Ev → Option Ev} (h1 : DG g N0 X e us f) (h2 : PGs X es (trGs g N0 ws r))
    (hs : (assignEach (e :: es) X.env).map (·.2) = assign e X.env :: (assignEach es X.env).map (·.2)) : PGs X (e :: es) (trGs g N0 (us ++ ws) (consG f r)) := by
  refine PGs.imp (pgs_cons h1 h2 hs) fun vs σ H Q ⟨w, env, S, ds, env', ee, er, sr, rr, ff, q⟩ => ?_
  subst ee
  cases rr with
  | nil => cases ff
  | @cons v d vs' ds' r1 t1 =>
    cases e1 : f d env with
    | none => unfold consG at ff; simp only [e1] at ff; cases ff
    | some env1 =>
      unfold consG at ff
      simp only [e1, Option.bind_some] at ff
      refine ⟨v, vs', rfl, w, env, S, d, env1, rfl, er, sr, r1, e1, fun σ1 er1 same1 len1 => ?_⟩
      refine ⟨w, env1, S, ds', env', rfl, er1, sr, t1, ff, fun σ2 er2 same2 len2 => q σ2 er2 (fun i hi => ?_) (len2.trans len1)⟩
      rw [same2 i fun z => hi (List.mem_append_right _ z), same1 i fun z => hi (List.mem_append_left _ z)]
def tupG (n : Nat) (r : List D → Ev → Option Ev) (d : D) (env : Ev) : Option Ev := match d with
  | .tup ds => if ds.length = n then r ds env else none
  | _ => none
theorem dg_tup {es : List Expr} {k n : Nat} {us : List Nat} {r : List D → Ev → Option Ev} {pos : Pos} (hK : X.K = g.K) (hc : X.calm = true) (h : PGs X es (trGs g N0 us r))
    (hn : (assignEach es X.env).length = n) (hst : (assignEach es X.env).findIdx? (·.1) = none) : DG g N0 X (.Tuple es k pos) us (tupG n r) := by
  refine PG.imp (pg_tup hc h hn hst) fun v σ H Q ⟨w, env, S, d, env', ee, er, sr, rr, ff, q⟩ => ?_
  subst ee
  cases d with
  | tup ds =>
    cases rr with
    | tup h1 h2 =>
      unfold tupG at ff
      by_cases hl : ds.length = n
      · simp only [hl, if_true] at ff
        exact ⟨_, _, rfl, by rw [hK]; exact h1, by rw [h2.length]; exact hl, w, env, S, ds, env', rfl, er, sr, h2, ff, q⟩
      · simp only [hl, if_false] at ff; cases ff
  | _ => cases ff

/-! ### what is walked -/
structure ItOk (g : Gc) (Rl : Wd → Wd → Prop) (w0 : Wd) (J : It) (ds : List D) : Prop where
  len : ds.length ≤ sizeLine
  go : ∀ w (i : Nat), Rl w0 w → i < ds.length → J.go i w.H
  stop : ∀ w (i : Nat), Rl w0 w → ds.length ≤ i → J.stop i w.H
  yld : ∀ w S (i : Nat) x H', Rl w0 w → SR g w S → i < ds.length → J.yld i w.H x H' → ∃ w' d, w'.H = H' ∧ Keep w w' ∧ SR g w' S ∧ ds[i]? = some d ∧ Rep g w' x d
abbrev rlI (g : Gc) (Rl : Wd → Wd → Prop) : Wd → Wd → It → List D → Prop := fun _ w J ds => ItOk g Rl w J ds
abbrev DI (g : Gc) (N0 : List Addr) (Wx : WX) (Rl : Wd → Wd → Prop) (X : Cx) (tg iter : Expr) (f : Ev → M (List D)) : Prop := PI X tg iter (tr g N0 Wx (rlI g Rl) f)
theorem PI.imp {X : Cx} {tg e : Expr} {t t' : TI} (h : PI X tg e t) (i : ∀ σ H Q, t' σ H Q → t σ H Q) : PI X tg e t' := ⟨fun pins s σ H Q I q => h.run pins s σ H Q I (i σ H Q q)⟩
/-- a list, a tuple, a text -/
def itemsD : D → Option (List D)
  | .tup xs => some xs
  | .lst xs => some xs
  | .str x => if x.cps.size ≤ sizeLine then some (x.cps.toList.map fun c => .str ⟨#[c]⟩) else none
  | _ => none
def itemsM (d : D) : M (List D) := ofO (itemsD d)
def iSeq (K : PySem.W.Frag) (tl : TE) : TI := fun σ H R => tl σ H fun x H1 => (∃ a xs, x = .ref a ∧ SqL K H1 a xs ∧ (xs.length ≤ sizeLine → R (Itl K a) H1)) ∨ (∃ a xs, x = .ref a ∧ SqT K H1 a xs ∧ (xs.length ≤ sizeLine → R (Itt K a) H1)) ∨ ∃ z, x = .str z ∧ R (Its z) H1
theorem pi_seq {tg l : Expr} {tl : TE} (hl : PE X l tl) : PI X tg l (iSeq X.K tl) := by
  refine ⟨fun pins s σ H R I h => ?_⟩
  refine thn (hl.run pins s σ H _ I h) fun v s1 ⟨x, H1, I1, r1, q1⟩ => ?_
  rcases q1 with ⟨a, xs, rfl, hq, q⟩ | ⟨a, xs, rfl, hq, q⟩ | ⟨z, rfl, q⟩
  · cases r1
    obtain ⟨its, rv, p, hz⟩ := I1.list hq
    exact wpAny_pyIter_list p.isList (pi_one (tk := s1.toks) I1 _ (turn_list a _) ⟨_, Heap.get?_push_size _ rfl, rfl, rfl⟩ (q hz))
  · cases r1
    obtain ⟨its, rv, p, hz⟩ := I1.tuple hq
    exact wpAny_pyIter_tuple (show s1.heap.IsTuple a its.toArray from p) (pi_one (tk := s1.toks) I1 _ (turn_tuple a _) ⟨_, Heap.get?_push_size _ rfl, rfl, rfl⟩ (q hz))
  · obtain ⟨t, rfl⟩ := r1
    cases ha : z.cps.all (· < 128)
    · exact wpAny_pyIter_wide ha (pi_one (tk := s1.toks) I1 _ (turn_str _ z t "str_iterator" (.inr rfl)) ⟨_, Heap.get?_push_size _ rfl, rfl, rfl⟩ q)
    · exact wpAny_pyIter_ascii ha (pi_one (tk := s1.toks) I1 _ (turn_str _ z t "str_ascii_iterator" (.inl rfl)) ⟨_, Heap.get?_push_size _ rfl, rfl, rfl⟩ q)
/-- a list that stands still -/
theorem it_list {Rl : Wd → Wd → Prop} {w : Wd} {K : PySem.W.Frag} {a : Addr} {vs : List V} {ds : List D} (r : RepL g w vs ds) (hz : vs.length ≤ sizeLine) (st : ∀ w', Rl w w' → SqL K w'.H a vs ∧ Mono w w') : ItOk g Rl w (Itl K a) ds := by
  refine ⟨by rw [← r.length]; exact hz, fun w' i k hi => ?_, fun w' i k hi => ?_, fun w' S i x H' k s hi y => ?_⟩
  · have hv : i < vs.length := by rw [r.length]; exact hi
    exact ⟨vs, vs[i], (st w' k).1, by simp [hv]⟩
  · exact ⟨vs, (st w' k).1, by rw [r.length]; exact hi⟩
  · obtain ⟨e, y⟩ := y
    subst e
    have hx := y vs (st w' k).1
    obtain ⟨d, h1, h2⟩ := r.get' hx
    exact ⟨w', d, rfl, Keep.refl _, s, h1, h2.mono (st w' k).2⟩
theorem it_tup {Rl : Wd → Wd → Prop} {w : Wd} {K : PySem.W.Frag} {a : Addr} {vs : List V} {ds : List D} (r : RepL g w vs ds) (hz : vs.length ≤ sizeLine) (h : SqT K w.H a vs) (st : ∀ w', Rl w w' → Mono w w') : ItOk g Rl w (Itt K a) ds := by
  refine ⟨by rw [← r.length]; exact hz, fun w' i k hi => ?_, fun w' i k hi => ?_, fun w' S i x H' k s hi y => ?_⟩
  · have hv : i < vs.length := by rw [r.length]; exact hi
    exact ⟨vs, vs[i], (st w' k).sqT h, by simp [hv]⟩
  · exact ⟨vs, (st w' k).sqT h, by rw [r.length]; exact hi⟩
  · obtain ⟨e, y⟩ := y
    subst e
    obtain ⟨d, h1, h2⟩ := r.get' (y vs ((st w' k).sqT h))
    exact ⟨w', d, rfl, Keep.refl _, s, h1, h2.mono (st w' k)⟩
theorem it_str {Rl : Wd → Wd → Prop} {w : Wd} {z : Str} (hz : z.cps.size ≤ sizeLine) : ItOk g Rl w (Its z) (z.cps.toList.map fun c => .str ⟨#[c]⟩) := by
  refine ⟨by simpa using hz, fun w' i k hi => by show i < z.cps.size; simpa using hi, fun w' i k hi => by show z.cps.size ≤ i; simpa using hi, fun w' S i x H' k s hi y => ?_⟩
  obtain ⟨e, c, h1, h2⟩ := y
  subst e h2
  refine ⟨w', .str ⟨#[c]⟩, rfl, Keep.refl _, s, ?_, .str _⟩
  simp [h1]
theorem it_range {Rl : Wd → Wd → Prop} {w : Wd} {lo : Int} {n : Nat} (hz : n ≤ sizeLine) : ItOk g Rl w (Itr lo n) ((List.range n).map fun (i : Nat) => D.int (lo + (i : Int))) := by
  refine ⟨by simpa using hz, fun w' i k hi => by show i < n; simpa using hi, fun w' i k hi => by show n ≤ i; simpa using hi, fun w' S i x H' k s hi y => ?_⟩
  obtain ⟨e, h2⟩ := y
  subst e h2
  refine ⟨w', .int (lo + i), rfl, Keep.refl _, s, ?_, .int _⟩
  have hi' : i < n := by simpa using hi
  simp [hi']
/-- for statements: the source is frozen -/
theorem di_for {tg e : Expr} {f : Ev → M D} (hK : X.K = g.K) (h : DE g N0 Wx X e f) : DI g N0 Wx Mono X tg e (fun env => do let x ← f env; itemsM x) := by
  refine PI.imp (pi_seq h) fun σ H R ⟨w, env, S, ee, er, sr, q⟩ => ?_
  subst ee
  refine tr_intro er sr (pst_imp (pst_bind (relA := rl g) (fun _ _ _ _ _ z => z) q) fun x H1 ⟨w1, d, S1, e1, k1, s1, r1, q1⟩ => ?_)
  subst e1
  unfold itemsM at q1
  cases d with
  | tup xs =>
    cases r1 with
    | tup h1 h2 => exact .inr (.inl ⟨_, _, rfl, by rw [hK]; exact h1, fun hz => q1 w1 _ (Keep.refl _) s1 (it_tup h2 hz (by rw [hK]; exact h1) fun _ z => z)⟩)
  | lst xs =>
    cases r1 with
    | lst h1 hn h2 => exact .inl ⟨_, _, rfl, .inl h1, fun hz => q1 w1 _ (Keep.refl _) s1 (it_list h2 hz fun w' k => ⟨.inl (k.rdL h1 hn), k⟩)⟩
    | lstK h1 h2 => exact .inl ⟨_, _, rfl, by rw [hK]; exact h1 _, fun hz => q1 w1 _ (Keep.refl _) s1 (it_list h2 hz fun w' k => ⟨by rw [hK]; exact h1 _, k⟩)⟩
  | str z =>
    cases r1
    by_cases hz : z.cps.size ≤ sizeLine
    · simp only [itemsD, hz, if_true] at q1
      exact .inr (.inr ⟨z, rfl, q1 w1 _ (Keep.refl _) s1 (it_str hz)⟩)
    · simp only [itemsD, hz, if_false] at q1; exact q1.elim
  | _ => exact q1.elim
/-- comprehensions: the source may be a slot's own -/
theorem di_comp {tg e : Expr} {f : Ev → M D} (hK : X.K = g.K) (h : DW g N0 Wx X e f) : DI g N0 Wx Keep X tg e (fun env => do let x ← f env; itemsM x) := by
  refine PI.imp (pi_seq h) fun σ H R ⟨w, env, S, ee, er, sr, q⟩ => ?_
  subst ee
  refine tr_intro er sr (pst_imp (pst_bind (relA := rlW g) (fun _ _ _ _ _ z => z) q) fun x H1 ⟨w1, d, S1, e1, k1, s1, r1, q1⟩ => ?_)
  subst e1
  unfold itemsM at q1
  cases d with
  | tup xs =>
    rcases r1 with r1 | ⟨_, _, _, _, z, _⟩ | ⟨_, _, _, _, z, _⟩
    · cases r1 with
      | tup h1 h2 => exact .inr (.inl ⟨_, _, rfl, by rw [hK]; exact h1, fun hz => q1 w1 _ (Keep.refl _) s1 (it_tup h2 hz (by rw [hK]; exact h1) fun _ z => z.toMono)⟩)
    · cases z
    · cases z
  | lst xs =>
    rcases r1 with r1 | ⟨a, vs, ds, rfl, z, h1, h2, h3⟩ | ⟨_, _, _, _, z, _⟩
    · cases r1 with
      | lst h1 hn h2 => exact .inl ⟨_, _, rfl, .inl h1, fun hz => q1 w1 _ (Keep.refl _) s1 (it_list h2 hz fun w' k => ⟨.inl (k.toMono.rdL h1 hn), k.toMono⟩)⟩
      | lstK h1 h2 => exact .inl ⟨_, _, rfl, by rw [hK]; exact h1 _, fun hz => q1 w1 _ (Keep.refl _) s1 (it_list h2 hz fun w' k => ⟨by rw [hK]; exact h1 _, k.toMono⟩)⟩
    · cases z
      exact .inl ⟨_, _, rfl, .inl (.inl h1), fun hz => q1 w1 _ (Keep.refl _) s1 (it_list h3 hz fun w' k => ⟨.inl (.inl (k.kp a _ h1 h2)), k.toMono⟩)⟩
    · cases z
  | str z =>
    rcases r1 with r1 | ⟨_, _, _, _, z, _⟩ | ⟨_, _, _, _, z, _⟩
    · cases r1
      by_cases hz : z.cps.size ≤ sizeLine
      · simp only [itemsD, hz, if_true] at q1
        exact .inr (.inr ⟨_, rfl, q1 w1 _ (Keep.refl _) s1 (it_str hz)⟩)
      · simp only [itemsD, hz, if_false] at q1; exact q1.elim
    · cases z
    · cases z
  | _ => exact q1.elim
def rng1 : List D → Option (List D)
  | [.int j] => if -(2 ^ 62) ≤ j ∧ j ≤ 16777216 then some ((List.range j.toNat).map fun (i : Nat) => D.int (0 + (i : Int))) else none
  | _ => none
def rng2 : List D → Option (List D)
  | [.int i, .int j] => if 0 ≤ i ∧ i ≤ 16777216 ∧ -(2 ^ 62) ≤ j ∧ j ≤ 16777216 then some ((List.range (j - i).toNat).map fun (k : Nat) => D.int (i + (k : Int))) else none
  | _ => none
theorem RepLB.one {w : Wd} {vs : List V} {d : D} (h : RepLB g w vs [d]) : ∃ v, vs = [v] ∧ RepB g w v d := by
  cases h with
  | cons r t => cases t; exact ⟨_, rfl, r⟩
theorem RepLB.two {w : Wd} {vs : List V} {d e : D} (h : RepLB g w vs [d, e]) : ∃ v u, vs = [v, u] ∧ RepB g w v d ∧ RepB g w u e := by
  cases h with
  | cons r t =>
    obtain ⟨u, rfl, r2⟩ := t.one
    exact ⟨_, _, rfl, r, r2⟩
theorem RepB.int {w : Wd} {v : V} {i : Int} (h : RepB g w v (.int i)) : v = .int i := by
  rcases h with h | ⟨a, vs, ds, e1, e2, _⟩ | ⟨a, vs, ds, e1, e2, _⟩
  · cases h; rfl
  · cases e2
  · cases e2
theorem di_rng1 {Rl : Wd → Wd → Prop} {tg a : Expr} {p pos : Pos} {f : Ev → M (List D)} (hg : Gl X "range") (hm : X.mg "range" = none) (hs : notStar a = true) (ha : DB g N0 Wx X [a] f) :
    DI g N0 Wx Rl X tg (.Call (.Name "range" p) [a] [] pos) (fun env => do let ds ← f env; ofO (rng1 ds)) := by
  refine PI.imp (pi_range1 hg hm ha (star_cons hs)) fun σ H R ⟨w, env, S, ee, er, sr, q⟩ => ?_
  subst ee
  refine tr_intro er sr (pst_imp (pst_bind (relA := rlLW g) (fun _ _ _ _ _ z => z) q) fun vs H1 ⟨w1, ds, S1, e1, k1, s1, r1, q1⟩ => ?_)
  subst e1
  cases eo : rng1 ds with
  | none => rw [eo] at q1; exact q1.elim
  | some xs =>
    rw [eo] at q1
    unfold rng1 at eo
    split at eo
    · split at eo
      · rename_i j h
        cases eo
        obtain ⟨v, rfl, r⟩ := r1.one
        exact ⟨j, by rw [r.int], h.1, by omega, q1 w1 _ (Keep.refl _) s1 (it_range (by rw [sizeLine_eq]; omega))⟩
      · cases eo
    · cases eo
theorem di_rng2 {Rl : Wd → Wd → Prop} {tg a b : Expr} {p pos : Pos} {f : Ev → M (List D)} (hg : Gl X "range") (hm : X.mg "range" = none) (hs : notStar a = true) (hs2 : notStar b = true) (ha : DB g N0 Wx X [a, b] f) :
    DI g N0 Wx Rl X tg (.Call (.Name "range" p) [a, b] [] pos) (fun env => do let ds ← f env; ofO (rng2 ds)) := by
  refine PI.imp (pi_range2 hg hm ha (by rw [star_cons hs, star_cons hs2]; rfl) (star_cons hs2)) fun σ H R ⟨w, env, S, ee, er, sr, q⟩ => ?_
  subst ee
  refine tr_intro er sr (pst_imp (pst_bind (relA := rlLW g) (fun _ _ _ _ _ z => z) q) fun vs H1 ⟨w1, ds, S1, e1, k1, s1, r1, q1⟩ => ?_)
  subst e1
  cases eo : rng2 ds with
  | none => rw [eo] at q1; exact q1.elim
  | some xs =>
    rw [eo] at q1
    unfold rng2 at eo
    split at eo
    · split at eo
      · rename_i i j h
        cases eo
        obtain ⟨v, u, rfl, r, r'⟩ := r1.two
        exact ⟨i, j, by rw [r.int, r'.int], by omega, q1 w1 _ (Keep.refl _) s1 (it_range (by rw [sizeLine_eq]; omega))⟩
      · cases eo
    · cases eo
end
end Pc

set_option Elab.async false
set_option linter.all false
set_option autoImplicit false
set_option maxRecDepth 100000
set_option maxHeartbeats 4000000
/-! Pc, part I: list comprehensions, enumerate, zip. -/
namespace Pc
open PySem PySem.Spec PyProof.Rows L2
def noEx {α : Type} (x : M α) : M α := fun S => match x S with
  | .ok a S' => .ok a S'
  | _ => .bad
def compM (fg : D → Ev → Option Ev) (fc : Ev → M Bool) (fe : Ev → M D) (base : Ev) : List D → M (List D)
  | [] => pure []
  | d :: ds => match fg d base with
    | none => fail
    | some env => do
      let b ← noEx (fc env)
      if b then do
        let y ← noEx (fe env)
        let ys ← compM fg fc fe base ds
        pure (y :: ys)
      else compM fg fc fe base ds
theorem wipe_in {σ : L2.St} {i : Nat} : ∀ {vs : List Nat}, i ∈ vs → i < σ.length → (L2.wipe σ vs)[i]? = some none
  | v :: vs, h, hl => by
    unfold L2.wipe
    by_cases e : v = i
    · subst e
      rw [List.getElem?_set_self (by rw [wipe_length]; exact hl)]
    · rw [List.getElem?_set_ne e]
      rcases List.mem_cons.mp h with q | q
      · exact absurd q.symm e
      · exact wipe_in q hl
theorem wipe_ext {σ τ : L2.St} {vs us : List Nat} (hl : τ.length = σ.length) (sub : ∀ i ∈ us, i ∈ vs) (h : ∀ i, i ∉ us → τ[i]? = (L2.wipe σ vs)[i]?) : L2.wipe τ vs = L2.wipe σ vs := by
  apply List.ext_getElem?
  intro i
  by_cases hi : i < σ.length
  · by_cases hv : i ∈ vs
    · rw [wipe_in hv (by rw [hl]; exact hi), wipe_in hv hi]
    · rw [wipe_out hv, h i fun z => hv (sub i z)]
  · rw [List.getElem?_eq_none (by rw [wipe_length, hl]; omega), List.getElem?_eq_none (by rw [wipe_length]; omega)]
section
variable {g : Gc} {N0 : List Addr} {Wx : WX} {X : Cx}
abbrev noW : WX := fun _ _ _ _ => False
theorem PTs.imp {X : Cx} {e : List Expr} {t t' : TT} (h : PTs X e t) (i : ∀ σ H Q, t' σ H Q → t σ H Q) : PTs X e t' := ⟨fun pins s σ H Q I q => h.run pins s σ H Q I (i σ H Q q)⟩
theorem dts_nil : PTs X [] (tr g N0 Wx rlB fun _ => pure true) := by
  refine PTs.imp pts_nil fun σ H Q ⟨w, env, S, e, er, sr, q⟩ => ?_
  subst e
  exact q w true (Keep.refl w) sr rfl
theorem dts_one {c : Expr} {f : Ev → M Bool} (h : DT g N0 Wx X c f) : PTs X [c] (tr g N0 Wx rlB f) := pts_one h
theorem bind_ok {α β : Type} {x : M α} {k : α → M β} {S S1 : Store} {a : α} (h : x S = .ok a S1) : (x >>= k) S = k a S1 := by
  show M.bind x k S = _
  unfold M.bind
  rw [h]
theorem bind_ex {α β : Type} {x : M α} {k : α → M β} {S S1 : Store} {c : Nat} {fs : List D} (h : x S = .ex c fs S1) : (x >>= k) S = .ex c fs S1 := by
  show M.bind x k S = _
  unfold M.bind
  rw [h]
theorem bind_bad {α β : Type} {x : M α} {k : α → M β} {S : Store} (h : x S = .bad) : (x >>= k) S = .bad := by
  show M.bind x k S = _
  unfold M.bind
  rw [h]
/-- what is left of a comprehension -/
def leftM (fg : D → Ev → Option Ev) (fc : Ev → M Bool) (fe : Ev → M D) (base : Ev) (done ds : List D) : M (List D) := do
  let ys ← compM fg fc fe base ds
  pure (done ++ ys)
theorem bind_assoc {α β γ : Type} {x : M α} {k : α → M β} {l : β → M γ} {S : Store} : ((x >>= k) >>= l) S = (x >>= fun a => k a >>= l) S := by
  show M.bind (M.bind x k) l S = M.bind x (fun a => M.bind (k a) l) S
  unfold M.bind
  cases x S <;> rfl
theorem left_step {fg : D → Ev → Option Ev} {fc : Ev → M Bool} {fe : Ev → M D} {base : Ev} {done ds : List D} {d : D} {S : Store} : leftM fg fc fe base done (d :: ds) S = match fg d base with
    | none => .bad
    | some env => (match fc env S with
      | .ok true S1 => (match fe env S1 with
        | .ok y S2 => leftM fg fc fe base (done ++ [y]) ds S2
        | _ => .bad)
      | .ok false S1 => leftM fg fc fe base done ds S1
      | _ => .bad) := by
  unfold leftM
  cases e : fg d base with
  | none =>
    have : compM fg fc fe base (d :: ds) S = .bad := by simp only [compM, e]; rfl
    rw [bind_bad this]
  | some env =>
    cases ec : fc env S with
    | bad =>
      have : compM fg fc fe base (d :: ds) S = .bad := by
        simp only [compM, e]
        exact bind_bad (by simp only [noEx, ec])
      rw [bind_bad this]
      simp only [ec]
    | ex c fs S1 =>
      have : compM fg fc fe base (d :: ds) S = .bad := by
        simp only [compM, e]
        exact bind_bad (by simp only [noEx, ec])
      rw [bind_bad this]
      simp only [ec]
    | ok b S1 =>
      have hb : compM fg fc fe base (d :: ds) S = (if b then do
        let y ← noEx (fe env)
        let ys ← compM fg fc fe base ds
        pure (y :: ys)
      else compM fg fc fe base ds : M (List D)) S1 := by
        simp only [compM, e]
        exact bind_ok (by simp only [noEx, ec])
      cases b with
      | false =>
        have hb' : compM fg fc fe base (d :: ds) S = compM fg fc fe base ds S1 := hb
        simp only [ec]
        show M.bind _ _ S = M.bind _ _ S1
        unfold M.bind
        rw [hb']
      | true =>
        have hb' : compM fg fc fe base (d :: ds) S = (do
          let y ← noEx (fe env)
          let ys ← compM fg fc fe base ds
          pure (y :: ys) : M (List D)) S1 := hb
        cases ee : fe env S1 with
        | bad =>
          rw [bind_bad (hb'.trans (bind_bad (by simp only [noEx, ee])))]
          simp only [ec, ee]
        | ex c fs S2 =>
          rw [bind_bad (hb'.trans (bind_bad (by simp only [noEx, ee])))]
          simp only [ec, ee]
        | ok y S2 =>
          have h3 : compM fg fc fe base (d :: ds) S = (do
            let ys ← compM fg fc fe base ds
            pure (y :: ys) : M (List D)) S2 := hb'.trans (bind_ok (by simp only [noEx, ee]))
          simp only [ec, ee]
          show M.bind _ _ S = M.bind _ _ S2
          unfold M.bind
          rw [h3]
          cases hq : compM fg fc fe base ds S2 with
          | ok ys S3 =>
            rw [bind_ok hq]
            show R.ok (done ++ y :: ys) S3 = R.ok (done ++ [y] ++ ys) S3
            rw [List.append_assoc]; rfl
          | ex c fs S3 => rw [bind_ex hq]
          | bad => rw [bind_bad hq]
theorem left_nil {fg : D → Ev → Option Ev} {fc : Ev → M Bool} {fe : Ev → M D} {base : Ev} {done : List D} {S : Store} : leftM fg fc fe base done [] S = .ok done S := by
  show R.ok (done ++ []) S = _
  rw [List.append_nil]
theorem pst_okS {σ τ : L2.St} {W1 W2 : WX} {α β : Type} {rel : Wd → Wd → β → α → Prop} {w : Wd} {a : α} {S : Store} {Q : β → Hp → Prop} (h : Pst g W1 σ rel w (.ok a S) Q) : Pst g W2 τ rel w (.ok a S) Q := h
theorem tr_lc {us : List Nat} {own : List (Str × Nat)} {fi : Ev → M (List D)} {fg : D → Ev → Option Ev} {fc : Ev → M Bool} {fe : Ev → M D} (sub : ∀ i ∈ us, i ∈ own.map (·.2)) {σ : L2.St} {H : Hp} {Q : VK}
    (h : tr g N0 Wx (NewL g) (fun env => do let ds ← fi env; compM fg fc fe (wipeE env (own.map (·.2))) ds) σ H Q) : tLc (tr g N0 Wx (rlI g Keep) fi) (trG g N0 us fg) (tr g N0 noW rlB fc) (tr g N0 noW (rl g) fe) (own.map (·.2)) σ H Q := by
  obtain ⟨w, env, S, ee, er, sr, q⟩ := h
  subst ee
  refine tr_intro er sr (pst_imp (pst_bind (relA := rlI g Keep) (fun _ _ _ _ k z => z.base k) q) fun J H1 ⟨w1, ds, S1, e1, k1, s1, it, q1⟩ => ?_)
  subst e1
  intro D hD
  have er1 := er.keep k1
  refine ⟨fun i m H => i + m = ds.length ∧ ∃ w' S' acc done, w'.H = H ∧ Keep w1 w' ∧ SR g w' S' ∧ w'.H D = some (.lst acc) ∧ RepL g w' acc done ∧ done.length ≤ i ∧ D ∈ w'.N ∧ D ∉ w'.m ∧ Pst g Wx σ (NewL g) w1 (leftM fg fc fe (wipeE env (own.map (·.2))) done (ds.drop i) S') Q,
    ⟨ds.length, by omega, ⟨upd w1.H D (.lst []), D :: w1.N, w1.m⟩, S1, [], [], rfl, keep_newN hD, s1.newN hD, upd_same, .nil, Nat.le_refl _, List.mem_cons_self, fun z => s1.notnone (s1.sub D z) hD, ?_⟩, ?_⟩
  · have e : leftM fg fc fe (wipeE env (own.map (·.2))) [] (ds.drop 0) S1 = compM fg fc fe (wipeE env (own.map (·.2))) ds S1 := by
      show M.bind _ _ S1 = _
      unfold M.bind
      rw [List.drop_zero]
      cases compM fg fc fe (wipeE env (own.map (·.2))) ds S1 <;> rfl
    rw [e]
    exact q1
  · rintro i m H ⟨em, w', S', acc, done, rfl, k', s', hA, rA, hl, dN, dm, p⟩
    by_cases hi : i < ds.length
    · refine .inr ⟨it.go w' i k' hi, fun H' => ∃ w' S' acc done, w'.H = H' ∧ Keep w1 w' ∧ SR g w' S' ∧ w'.H D = some (.lst acc) ∧ RepL g w' acc done ∧ done.length ≤ i + 1 ∧ D ∈ w'.N ∧ D ∉ w'.m ∧ Pst g Wx σ (NewL g) w1 (leftM fg fc fe (wipeE env (own.map (·.2))) done (ds.drop (i + 1)) S') Q,
        fun H' z => ⟨m - 1, by omega, by omega, z⟩, fun x H' y => ?_⟩
      obtain ⟨w2, d, rfl, k2, s2, hd, rx⟩ := it.yld w' S' i x H' k' s' hi y
      have hdrop : ds.drop i = d :: ds.drop (i + 1) := by
        rw [List.drop_eq_getElem_cons hi]
        rw [List.getElem?_eq_getElem hi] at hd
        rw [Option.some.inj hd]
      rw [hdrop, left_step] at p
      cases eg : fg d (wipeE env (own.map (·.2))) with
      | none => rw [eg] at p; exact p.elim
      | some env1 =>
        rw [eg] at p
        refine ⟨w2, wipeE env (own.map (·.2)), S', d, env1, rfl, ((er1.keep k').keep k2).wipe _, s2, rx, eg, fun σ2 er2 same2 len2 => ⟨wipe_ext (us := us) (by rw [len2, wipe_length]) sub same2, ?_⟩⟩
        refine tr_intro er2 s2 ?_
        have hA2 : w2.H D = some (.lst acc) := k2.kp D _ hA dm
        have dm2 : D ∉ w2.m := fun z => by
          rcases k2.newm D z with z | z
          · exact dm z
          · rw [z] at hA; cases hA
        cases ec : fc env1 S' with
        | bad => simp only [ec] at p; exact p.elim
        | ex c fs S2 => simp only [ec] at p; exact p.elim
        | ok b S2 =>
          simp only [ec] at p
          intro w3 b' k3 s3 eb
          have eb' : b' = b := eb
          subst eb'
          have hA3 : w3.H D = some (.lst acc) := k3.kp D _ hA2 dm2
          have dm3 : D ∉ w3.m := fun z => by
            rcases k3.newm D z with z | z
            · exact dm2 z
            · rw [z] at hA2; cases hA2
          have rA3 := rA.mono (k2.trans k3).toMono
          have dN3 := k3.sub D (k2.sub D dN)
          cases b' with
          | false =>
            rw [if_neg Bool.false_ne_true]
            exact ⟨w3, S2, acc, done, rfl, (k'.trans k2).trans k3, s3, hA3, rA3, Nat.le_succ_of_le hl, dN3, dm3, p⟩
          | true =>
            rw [if_pos rfl]
            refine tr_intro (er2.keep k3) s3 ?_
            cases ef : fe env1 S2 with
            | bad => simp only [ef] at p; exact p.elim
            | ex c fs S3 => simp only [ef] at p; exact p.elim
            | ok y S3 =>
              simp only [ef] at p
              intro w4 v4 k4 s4 r4
              have hA4 : w4.H D = some (.lst acc) := k4.kp D _ hA3 dm3
              have dm4 : D ∉ w4.m := fun z => by
                rcases k4.newm D z with z | z
                · exact dm3 z
                · rw [z] at hA3; cases hA3
              have rA4 := rA3.mono k4.toMono
              have dN4 := k4.sub D dN3
              have dn1 : w1.H D = none := hD
              have K4 : Keep w1 w4 := ((k'.trans k2).trans k3).trans k4
              have hz := it.len
              refine ⟨acc, hA4, by rw [rA4.length]; omega, ⟨upd w4.H D (.lst (acc ++ [v4])), w4.N, w4.m⟩, S3, acc ++ [v4], done ++ [y], rfl, ?_, s4.own hA4 (fun _ z => by cases z) (fun _ _ z => by cases z) dN4 dm4, upd_same, ?_, by simp; omega, dN4, dm4, p⟩
              · have mo := mono_own (o := .lst (acc ++ [v4])) hA4 (fun _ z => by cases z) (fun _ _ z => by cases z) dN4
                refine ⟨K4.toMono.trans mo, fun a o e n => ?_, K4.sub, K4.newm⟩
                show upd w4.H D _ a = some o
                rw [upd_ne (ne_of_none e dn1)]
                exact K4.kp a o e n
              · have mo := mono_own (o := .lst (acc ++ [v4])) hA4 (fun _ z => by cases z) (fun _ _ z => by cases z) dN4
                exact (rA4.append (.cons r4 .nil)).mono mo
    · have e : ds.drop i = [] := List.drop_eq_nil_of_le (by omega)
      rw [e, left_nil] at p
      refine .inl ⟨it.stop w' i k' (by omega), p w' (.ref D) k' s' ⟨D, acc, rfl, hA, dN, dm, fun z => s1.notnone z hD, rA⟩⟩
theorem dl_comp {elt tg iter : Expr} {ifs : List Expr} {scope : Scope} {own : List (Str × Nat)} {us : List Nat} {pos : Pos} {fi : Ev → M (List D)} {fg : D → Ev → Option Ev} {fc : Ev → M Bool} {fe : Ev → M D}
    (hc : X.calm = true) (hN : X.N.Nodup) (hi : DI g N0 Wx Keep X tg iter fi) (ok : BlkOk X.N X.env.scope scope own)
    (hg : ∀ (s : Shared) (H : Hp) (C : Addr) (cl : List (Str × Addr)) (fp : List Addr), DG g N0 (X.blk s H scope (compEnvC scope cl C X.env) fp) tg us fg)
    (ht : ∀ (s : Shared) (H : Hp) (C : Addr) (cl : List (Str × Addr)) (fp : List Addr), PTs (X.blk s H scope (compEnvC scope cl C X.env) fp) ifs (tr g N0 noW rlB fc))
    (he : ∀ (s : Shared) (H : Hp) (C : Addr) (cl : List (Str × Addr)) (fp : List Addr), DE g N0 noW (X.blk s H scope (compEnvC scope cl C X.env) fp) elt fe)
    (sub : ∀ i ∈ us, i ∈ own.map (·.2)) (hs : ∀ x, foldedSetIterable iter X.env x = pure x) :
    DL g N0 Wx X (.ListComp elt [⟨tg, iter, ifs, 0⟩] scope pos) (fun env => do let ds ← fi env; compM fg fc fe (wipeE env (own.map (·.2))) ds) :=
  PE.imp (pe_lc hc hN hi ok hg ht he hs) fun σ H Q h => tr_lc sub h
end
end Pc

set_option Elab.async false
set_option linter.all false
set_option autoImplicit false
set_option maxRecDepth 100000
set_option maxHeartbeats 4000000
/-! Pc, part J: statements. -/
namespace Pc
open PySem PySem.Spec PyProof.Rows L2
inductive Out where
  | nx (e : Ev) | rt (d : D) | bk (e : Ev) | ct (e : Ev)
/-- the state between two statements; w0: at the def's entry -/
structure StR (g : Gc) (w0 w : Wd) (env : Ev) (S : Store) (σ : L2.St) : Prop where
  er : ER g w0.N w env σ
  sr : SR g w S
  kp : Keep w0 w
def PstS (g : Gc) (Wx : WX) (w0 w : Wd) (r : R Out) (E : Ends) : Prop :=
  match r with
  | .ok (.nx env') S' => ∀ w' σ', Mono w w' → StR g w0 w' env' S' σ' → E.nx σ' w'.H
  | .ok (.bk env') S' => ∀ w' σ', Mono w w' → StR g w0 w' env' S' σ' → E.bk σ' w'.H
  | .ok (.ct env') S' => ∀ w' σ', Mono w w' → StR g w0 w' env' S' σ' → E.ct σ' w'.H
  | .ok (.rt d) S' => ∀ w' v, Keep w0 w' → SR g w' S' → Rep g w' v d → E.rt v w'.H
  | .ex c fs S' => ∀ w' σ' cls dd, Keep w0 w' → SR g w' S' → ExR g w' cls dd c fs → Wx cls dd σ' w'.H
  | .bad => False
def trS (g : Gc) (Wx : WX) (w0 : Wd) (f : Ev → M Out) : TS := fun E σ H => ∃ w env S, w.H = H ∧ StR g w0 w env S σ ∧ PstS g Wx w0 w (f env S) E
abbrev DS (g : Gc) (Wx : WX) (w0 : Wd) (X : Cx) (s : Stmt) (f : Ev → M Out) : Prop := PS X s (trS g Wx w0 f)
abbrev DSs (g : Gc) (Wx : WX) (w0 : Wd) (X : Cx) (s : List Stmt) (f : Ev → M Out) : Prop := PSs X s (trS g Wx w0 f)
section
variable {g : Gc} {Wx : WX} {w0 : Wd} {X : Cx}
theorem pstS_rebase {w w1 : Wd} {r : R Out} {E : Ends} (k : Mono w w1) (h : PstS g Wx w0 w r E) : PstS g Wx w0 w1 r E := by
  cases r with
  | ok o S =>
    cases o with
    | nx e => exact fun w' σ' k' s => h w' σ' (k.trans k') s
    | bk e => exact fun w' σ' k' s => h w' σ' (k.trans k') s
    | ct e => exact fun w' σ' k' s => h w' σ' (k.trans k') s
    | rt d => exact h
  | ex c fs S => exact h
  | bad => exact h
theorem StR.step {w w' : Wd} {env : Ev} {S S' : Store} {σ : L2.St} (s : StR g w0 w env S σ) (k : Keep w w') (s' : SR g w' S') : StR g w0 w' env S' σ := ⟨s.er.keep k, s', s.kp.trans k⟩
/-- an expression inside a statement: its own wish about exceptions is the statement's -/
theorem pst_of {σ : L2.St} {α β : Type} {rel : Wd → Wd → β → α → Prop} {w : Wd} {env : Ev} {S : Store} {x : M α} {k : α → M Out} {E : Ends} {Q : β → Hp → Prop} (st : StR g w0 w env S σ) (h : PstS g Wx w0 w ((x >>= k) S) E)
    (q : ∀ w1 a S1 y, x S = .ok a S1 → Keep w w1 → SR g w1 S1 → rel w w1 y a → PstS g Wx w0 w1 (k a S1) E → Q y w1.H) : Pst g Wx σ rel w (x S) Q := by
  cases e : x S with
  | ok a S1 =>
    rw [bind_ok e] at h
    intro w1 y k1 s1 r1
    exact q w1 a S1 y e k1 s1 r1 (pstS_rebase k1.toMono h)
  | ex c fs S1 =>
    rw [bind_ex e] at h
    exact fun w' cls dd k s z => h w' σ cls dd (st.kp.trans k) s z
  | bad => rw [bind_bad e] at h; exact h

/-! ### blocks -/
def seqM (f r : Ev → M Out) : Ev → M Out := fun env => do
  match ← f env with
  | .nx e => r e
  | o => pure o
theorem dss_nil : DSs g Wx w0 X [] (fun env => pure (.nx env)) := by
  refine PSs.imp pss_nil fun E σ H ⟨w, env, S, e, st, q⟩ => ?_
  subst e
  exact q w σ (Mono.refl w) st
theorem dss_cons {s : Stmt} {r : List Stmt} {f fr : Ev → M Out} (h : DS g Wx w0 X s f) (t : DSs g Wx w0 X r fr) : DSs g Wx w0 X (s :: r) (seqM f fr) := by
  refine PSs.imp (pss_cons h t) fun E σ H ⟨w, env, S, e, st, q⟩ => ?_
  subst e
  refine ⟨w, env, S, rfl, st, ?_⟩
  unfold seqM at q
  cases e : f env S with
  | ok o S1 =>
    rw [bind_ok e] at q
    cases o with
    | nx e1 => exact fun w' σ' k s' => ⟨w', e1, S1, rfl, s', pstS_rebase k q⟩
    | bk e1 => exact q
    | ct e1 => exact q
    | rt d => exact q
  | ex c fs S1 => rw [bind_ex e] at q; exact q
  | bad => rw [bind_bad e] at q; exact q
theorem dss_one {s : Stmt} {f : Ev → M Out} (h : DS g Wx w0 X s f) : DSs g Wx w0 X [s] f := pss_one h
theorem ds_pass {pos : Pos} : DS g Wx w0 X (.Pass pos) (fun env => pure (.nx env)) := by
  refine PS.imp ps_pass fun E σ H ⟨w, env, S, e, st, q⟩ => ?_
  subst e
  exact q w σ (Mono.refl w) st
theorem ds_break {pos : Pos} : DS g Wx w0 X (.Break pos) (fun env => pure (.bk env)) := by
  refine PS.imp ps_break fun E σ H ⟨w, env, S, e, st, q⟩ => ?_
  subst e
  exact q w σ (Mono.refl w) st
theorem ds_cont {pos : Pos} : DS g Wx w0 X (.Continue pos) (fun env => pure (.ct env)) := by
  refine PS.imp ps_continue fun E σ H ⟨w, env, S, e, st, q⟩ => ?_
  subst e
  exact q w σ (Mono.refl w) st
def notComp : Expr → Bool
  | .ListComp _ _ _ _ => false
  | .SetComp _ _ _ _ => false
  | .DictComp _ _ _ _ _ => false
  | _ => true
theorem swaps_no {e : Expr} {t : Option Expr} {l : Nat} {env : Env} (h : notComp e = true) : swapsWith e t l env = pure false := by
  cases e <;> first | rfl | cases h
theorem ds_expr {e : Expr} {f : Ev → M D} {pos : Pos} (hc : notComp e = true) (h : DE g w0.N Wx X e f) : DS g Wx w0 X (.Expr e pos) (fun env => do let _ ← f env; pure (.nx env)) := by
  refine PS.imp (ps_expr h (swaps_no hc)) fun E σ H ⟨w, env, S, ee, st, q⟩ => ?_
  subst ee
  refine tr_intro st.er st.sr (pst_of st q fun w1 a S1 y e k1 s1 r1 q1 => ?_)
  exact q1 w1 σ (Mono.refl w1) (st.step k1 s1)
theorem ds_if {c : Expr} {a b : List Stmt} {fc : Ev → M Bool} {fa fb : Ev → M Out} {pos : Pos} (hc : DT g w0.N Wx X c fc) (ha : DSs g Wx w0 X a fa) (hb : DSs g Wx w0 X b fb) : DS g Wx w0 X (.If c a b pos) (ifM fc fa fb) := by
  refine PS.imp (ps_if hc ha hb) fun E σ H ⟨w, env, S, ee, st, q⟩ => ?_
  subst ee
  refine tr_intro st.er st.sr (pst_of st q fun w1 x S1 y e k1 s1 r1 q1 => ?_)
  have ey : y = x := r1
  subst ey
  cases y with
  | true => rw [if_pos rfl]; exact ⟨w1, env, S1, rfl, st.step k1 s1, q1⟩
  | false => rw [if_neg Bool.false_ne_true]; exact ⟨w1, env, S1, rfl, st.step k1 s1, q1⟩
theorem ds_ret {e : Expr} {f : Ev → M D} {pos : Pos} (h : DE g w0.N Wx X e f) : DS g Wx w0 X (.Return (some e) pos) (fun env => do let d ← f env; pure (.rt d)) := by
  refine PS.imp (ps_ret h) fun E σ H ⟨w, env, S, ee, st, q⟩ => ?_
  subst ee
  refine tr_intro st.er st.sr (pst_of st q fun w1 x S1 y e k1 s1 r1 q1 => ?_)
  exact q1 w1 y (st.kp.trans k1) s1 r1
theorem ds_retN {pos : Pos} : DS g Wx w0 X (.Return none pos) (fun _ => pure (.rt .non)) := by
  refine PS.imp ps_retN fun E σ H ⟨w, env, S, ee, st, q⟩ => ?_
  subst ee
  exact q w .non st.kp st.sr .non
/-- return of a slot's own list -/
theorem ds_retOwn {i : Nat} {x : Str} {p pos : Pos} (h : PE X (.Name x p) (tVar i)) : DS g Wx w0 X (.Return (some (.Name x p)) pos) (fun env => do let d ← rdB i env; pure (.rt d)) := by
  refine PS.imp (ps_ret h) fun E σ H ⟨w, env, S, ee, st, q0⟩ => ?_
  subst ee
  have q : PstS g Wx w0 w ((rdB i env >>= fun d => pure (.rt d)) S) E := q0
  cases hd : env[i]? with
  | none =>
    have e : rdB i env S = .bad := by unfold rdB; rw [hd]; rfl
    rw [bind_bad e] at q; exact q.elim
  | some sl =>
    have drop : ∀ a vs xs, σ[i]? = some (some (.ref a)) → w.H a = some (.lst vs) → a ∈ w.N → a ∉ w.m → a ∉ w0.N → RepL g w vs xs → ∃ w', w'.H = w.H ∧ Keep w0 w' ∧ SR g w' S ∧ Rep g w' (.ref a) (.lst xs) := fun a vs xs _ h2 h3 h4 h5 h6 => by
      obtain ⟨w'', e1, k1, s1, r1⟩ := NewL.frozen (w := w0) (w' := w) (xs := xs) (v := .ref a) st.kp st.sr ⟨a, vs, rfl, h2, h3, h4, h5, h6⟩
      exact ⟨w'', e1, k1, s1, r1⟩
    cases sl with
    | no =>
      have e : rdB i env S = .bad := by unfold rdB; rw [hd]; rfl
      rw [bind_bad e] at q; exact q.elim
    | val d =>
      have e : rdB i env S = .ok d S := by unfold rdB; rw [hd]; rfl
      rw [bind_ok e] at q
      obtain ⟨v, h1, h2⟩ := st.er.val i d hd
      exact ⟨v, h1, q w v st.kp st.sr h2⟩
    | own xs =>
      have e : rdB i env S = .ok (.lst xs) S := by unfold rdB; rw [hd]; rfl
      rw [bind_ok e] at q
      obtain ⟨a, vs, h1, h2, h3, h4, h5, h6⟩ := st.er.own i xs hd
      obtain ⟨w', e1, k1, s1, r1⟩ := drop a vs xs h1 h2 h3 h4 h5 h6
      refine ⟨_, h1, ?_⟩
      rw [← e1]
      exact q w' _ k1 s1 r1
    | owd xs =>
      have e : rdB i env S = .ok (.dct xs) S := by unfold rdB; rw [hd]; rfl
      rw [bind_ok e] at q
      obtain ⟨a, vs, h1, h2, h3, h4, h5, h6⟩ := st.er.owd i xs hd
      have sub : ∀ b ∈ w.N.filter (fun b => decide (b ≠ a)), b ∈ w.N := fun b hb => (List.mem_filter.mp hb).1
      have out : a ∉ w.N.filter (fun b => decide (b ≠ a)) := fun hb => absurd rfl (of_decide_eq_true (List.mem_filter.mp hb).2)
      have inn : ∀ b, b ≠ a → b ∈ w.N → b ∈ w.N.filter (fun b => decide (b ≠ a)) := fun b n hb => List.mem_filter.mpr ⟨hb, decide_eq_true n⟩
      refine ⟨_, h1, ?_⟩
      exact q ⟨w.H, w.N.filter (fun b => decide (b ≠ a)), w.m⟩ _ (keep_less st.kp sub fun b hb => inn b (fun e => h5 (by rw [← e]; exact hb)) (st.kp.sub b hb)) (st.sr.less sub fun b hb => inn b (fun e => h4 (by rw [← e]; exact hb)) (st.sr.sub b hb)) (.dct h2 out (h6.mono (mono_less sub)))

/-! ### what a slot gets -/
def SlR (g : Gc) (w : Wd) (v : V) : Sl → Prop
  | .no => False
  | .val d => Rep g w v d
  | .own xs => ∃ a vs, v = .ref a ∧ w.H a = some (.lst vs) ∧ a ∈ w.N ∧ a ∉ w.m ∧ RepL g w vs xs
  | .owd xs => ∃ a vs, v = .ref a ∧ w.H a = some (.dK vs) ∧ a ∈ w.N ∧ a ∉ w.m ∧ RepK g w vs xs
abbrev rlX (g : Gc) : Wd → Wd → V → Sl → Prop := fun w w' v s => SlR g w' v s ∧ (s.isOwn = true → ∀ a, v = .ref a → a ∉ w.N)
abbrev DX (g : Gc) (N0 : List Addr) (Wx : WX) (X : Cx) (e : Expr) (f : Ev → M Sl) : Prop := PE X e (tr g N0 Wx (rlX g) f)
theorem ER.set_sl {N0 : List Addr} {w : Wd} {env : Ev} {σ : L2.St} {i : Nat} {v : V} {s : Sl} (e : ER g N0 w env σ) (r : SlR g w v s) (fr : s.isOwn = true → (∀ a, v = .ref a → a ∉ N0) ∧ ∀ j, ownAt env j → σ[j]? ≠ some (some v)) : ER g N0 w (env.set i s) (σ.set i (some v)) := by
  have hl := e.len
  have ne : ∀ (j : Nat) (t : Sl), (env.set i s)[j]? = some t → (j = i ∧ t = s ∧ i < env.length) ∨ (i ≠ j ∧ env[j]? = some t) := fun j t h => by
    by_cases q : i = j
    · subst q
      by_cases hi : i < env.length
      · rw [List.getElem?_set_self hi] at h; cases h; exact .inl ⟨rfl, rfl, hi⟩
      · rw [List.getElem?_eq_none (by simpa using hi)] at h; cases h
    · rw [List.getElem?_set_ne q] at h; exact .inr ⟨q, h⟩
  have at_ : i < env.length → (σ.set i (some v))[i]? = some (some v) := fun hi => List.getElem?_set_self (by rw [hl]; exact hi)
  refine ⟨by simpa using hl, fun j d' h => ?_, fun j xs h => ?_, fun j xs h => ?_, fun j k hjk h1 h2 => ?_⟩
  · rcases ne j _ h with ⟨rfl, z, hi⟩ | ⟨q, z⟩
    · subst z; exact ⟨v, at_ hi, r⟩
    · obtain ⟨v', h1, h2⟩ := e.val j d' z
      exact ⟨v', by rw [List.getElem?_set_ne q]; exact h1, h2⟩
  · rcases ne j _ h with ⟨rfl, z, hi⟩ | ⟨q, z⟩
    · subst z
      obtain ⟨a, vs, e1, h2, h3, h4, h5⟩ := r
      exact ⟨a, vs, by rw [at_ hi, e1], h2, h3, h4, (fr rfl).1 a e1, h5⟩
    · obtain ⟨a, vs, h1, h2⟩ := e.own j xs z
      exact ⟨a, vs, by rw [List.getElem?_set_ne q]; exact h1, h2⟩
  · rcases ne j _ h with ⟨rfl, z, hi⟩ | ⟨q, z⟩
    · subst z
      obtain ⟨a, vs, e1, h2, h3, h4, h5⟩ := r
      exact ⟨a, vs, by rw [at_ hi, e1], h2, h3, h4, (fr rfl).1 a e1, h5⟩
    · obtain ⟨a, vs, h1, h2⟩ := e.owd j xs z
      exact ⟨a, vs, by rw [List.getElem?_set_ne q]; exact h1, h2⟩
  · obtain ⟨s1, e1, o1⟩ := h1
    obtain ⟨s2, e2, o2⟩ := h2
    rcases ne j s1 e1 with ⟨rfl, z, hi⟩ | ⟨q, z⟩
    · subst z
      rcases ne k s2 e2 with ⟨rfl, _, _⟩ | ⟨q2, z2⟩
      · exact absurd rfl hjk
      · rw [at_ hi, List.getElem?_set_ne q2]
        exact fun z => (fr o1).2 k ⟨s2, z2, o2⟩ z.symm
    · rcases ne k s2 e2 with ⟨rfl, z2, hi⟩ | ⟨q2, z2⟩
      · subst z2
        rw [at_ hi, List.getElem?_set_ne q]
        exact (fr o2).2 j ⟨s1, z, o1⟩
      · rw [List.getElem?_set_ne q, List.getElem?_set_ne q2]
        exact e.ap j k hjk ⟨s1, z, o1⟩ ⟨s2, z2, o2⟩
/-- a slot's own address, of what stood there -/
theorem ER.own_in {N0 : List Addr} {w : Wd} {env : Ev} {σ : L2.St} {j : Nat} (e : ER g N0 w env σ) (h : ownAt env j) : ∃ a, σ[j]? = some (some (.ref a)) ∧ a ∈ w.N := by
  obtain ⟨s, h1, h2⟩ := h
  cases s with
  | own xs => obtain ⟨a, vs, q1, q2, q3, _⟩ := e.own j xs h1; exact ⟨a, q1, q3⟩
  | owd xs => obtain ⟨a, vs, q1, q2, q3, _⟩ := e.owd j xs h1; exact ⟨a, q1, q3⟩
  | _ => cases h2
theorem ER.set_new {N0 : List Addr} {w w1 : Wd} {env : Ev} {σ : L2.St} {i : Nat} {v : V} {s : Sl} (hN : ∀ a ∈ N0, a ∈ w.N) (e : ER g N0 w env σ) (k : Keep w w1) (r : rlX g w w1 v s) : ER g N0 w1 (env.set i s) (σ.set i (some v)) := by
  refine (e.keep k).set_sl r.1 fun o => ⟨fun a ea q => r.2 o a ea (hN a q), fun j oj q => ?_⟩
  obtain ⟨a, h1, h2⟩ := e.own_in oj
  rw [h1] at q
  cases q
  exact r.2 o a rfl h2
theorem dx_val {N0 : List Addr} {e : Expr} {f : Ev → M D} (h : DE g N0 Wx X e f) : DX g N0 Wx X e (fun env => do let d ← f env; pure (.val d)) := by
  refine PE.imp h fun σ H Q ⟨w, env, S, ee, er, sr, q⟩ => ?_
  subst ee
  refine tr_intro er sr (pst_imp (pst_bind (relA := rl g) (fun _ _ _ _ k z => ⟨z.1, fun o a ea q => z.2 o a ea (k.sub a q)⟩) q) fun x H1 ⟨w1, d, S1, e1, k1, s1, r1, q1⟩ => ?_)
  subst e1
  exact q1 w1 x (Keep.refl _) s1 ⟨r1, fun o => by cases o⟩
theorem dx_own {N0 : List Addr} {e : Expr} {f : Ev → M (List D)} (h : DL g N0 Wx X e f) : DX g N0 Wx X e (fun env => do let d ← f env; pure (.own d)) := by
  refine PE.imp h fun σ H Q ⟨w, env, S, ee, er, sr, q⟩ => ?_
  subst ee
  refine tr_intro er sr ?_
  cases e : f env S with
  | ok xs S1 =>
    have q' : Pst g Wx σ (rlX g) w ((f env >>= fun d => pure (.own d)) S) Q := q
    rw [bind_ok e] at q'
    intro w1 v k1 s1 n
    obtain ⟨p, vs, e1, h2, h3, h4, h5, h6⟩ := n
    exact q' w1 v k1 s1 ⟨⟨p, vs, e1, h2, h3, h4, h6⟩, fun _ a ea => by rw [e1] at ea; cases ea; exact h5⟩
  | ex c fs S1 =>
    have q' : Pst g Wx σ (rlX g) w ((f env >>= fun d => pure (.own d)) S) Q := q
    rw [bind_ex e] at q'
    exact q'
  | bad =>
    have q' : Pst g Wx σ (rlX g) w ((f env >>= fun d => pure (.own d)) S) Q := q
    rw [bind_bad e] at q'
    exact q'
def setM (i : Nat) (f : Ev → M Sl) : Ev → M Out := fun env => do
  let s ← f env
  pure (.nx (env.set i s))
theorem ds_set {i : Nat} {x : Str} {e : Expr} {f : Ev → M Sl} {pos pos' : Pos} (hN : X.N.Nodup) (hi : X.N[i]? = some x) (hx : Loc X.env.scope x) (hf : X.fn x = true) (hc : notComp e = true) (h : DX g w0.N Wx X e f) :
    DS g Wx w0 X (.Assign [.Name x pos'] e pos) (setM i f) := by
  refine PS.imp (ps_set hN hi hx h (swaps_no hc) (.inl hf)) fun E σ H ⟨w, env, S, ee, st, q⟩ => ?_
  subst ee
  refine tr_intro st.er st.sr (pst_of st q fun w1 s S1 y e k1 s1 r1 q1 => ?_)
  exact q1 w1 _ (Mono.refl w1) ⟨st.er.set_new st.kp.sub k1 r1, s1, st.kp.trans k1⟩

/-! ### for -/
def forM (fg : D → Ev → Option Ev) (body : Ev → M Out) : List D → Ev → M Out
  | [], env => pure (.nx env)
  | d :: ds, env => match fg d env with
    | none => fail
    | some env1 => do
      match ← body env1 with
      | .nx e => forM fg body ds e
      | .ct e => forM fg body ds e
      | .bk e => pure (.nx e)
      | .rt d => pure (.rt d)
theorem ds_for {tg iter : Expr} {body : List Stmt} {us : List Nat} {fi : Ev → M (List D)} {fg : D → Ev → Option Ev} {fb : Ev → M Out} {pos : Pos} (hp : PassesOwn (model X.prog X.w) X.A X.env X.xe) (hc : X.calm = true)
    (hi : DI g w0.N Wx Mono X tg iter fi) (hg : DG g w0.N X tg us fg) (hb : DSs g Wx w0 X body fb) (hs : ∀ x, foldedSetIterable iter X.env x = pure x) :
    DS g Wx w0 X (.For tg iter body [] pos) (fun env => do let ds ← fi env; forM fg fb ds env) := by
  refine PS.imp (ps_for hp hc hi hg hb hs) fun E σ H ⟨w, env, S, ee, st, q⟩ => ?_
  subst ee
  refine tr_intro st.er st.sr (pst_of st q fun w1 ds S1 J e k1 s1 it q1 => ?_)
  refine ⟨fun i m σ H => i + m = ds.length ∧ ∃ w' env' S', w'.H = H ∧ Mono w1 w' ∧ StR g w0 w' env' S' σ ∧ PstS g Wx w0 w' (forM fg fb (ds.drop i) env' S') E, ⟨ds.length, by omega, w1, env, S1, rfl, Mono.refl _, st.step k1 s1, by rw [List.drop_zero]; exact q1⟩, ?_⟩
  rintro i m σ' H ⟨em, w', env', S', rfl, k', st', p⟩
  by_cases hi : i < ds.length
  · refine .inr ⟨it.go w' i k' hi, fun σ H => ∃ w' env' S', w'.H = H ∧ Mono w1 w' ∧ StR g w0 w' env' S' σ ∧ PstS g Wx w0 w' (forM fg fb (ds.drop (i + 1)) env' S') E, fun σ2 H2 z => ⟨m - 1, by omega, by omega, z⟩, fun x H' y => ?_⟩
    obtain ⟨w2, d, rfl, k2, s2, hd, rx⟩ := it.yld w' S' i x H' k' st'.sr hi y
    have hdrop : ds.drop i = d :: ds.drop (i + 1) := by
      rw [List.drop_eq_getElem_cons hi]
      rw [List.getElem?_eq_getElem hi] at hd
      rw [Option.some.inj hd]
    rw [hdrop] at p
    have p2 := pstS_rebase k2.toMono p
    cases eg : fg d env' with
    | none => simp only [forM, eg] at p2; exact p2.elim
    | some env1 =>
      refine ⟨w2, env', S', d, env1, rfl, st'.er.keep k2, s2, rx, eg, fun σ2 er2 same2 len2 => ?_⟩
      refine ⟨w2, env1, S', rfl, ⟨er2, s2, st'.kp.trans k2⟩, ?_⟩
      simp only [forM, eg] at p2
      have km := k'.trans k2.toMono
      cases eb : fb env1 S' with
      | ok o S3 =>
        rw [bind_ok eb] at p2
        cases o with
        | nx e3 => exact fun w3 σ3 k3 st3 => ⟨w3, e3, S3, rfl, km.trans k3, st3, pstS_rebase k3 p2⟩
        | ct e3 => exact fun w3 σ3 k3 st3 => ⟨w3, e3, S3, rfl, km.trans k3, st3, pstS_rebase k3 p2⟩
        | bk e3 => exact p2
        | rt d3 => exact p2
      | ex c fs S3 => rw [bind_ex eb] at p2; exact p2
      | bad => rw [bind_bad eb] at p2; exact p2
  · have e : ds.drop i = [] := List.drop_eq_nil_of_le (by omega)
    rw [e] at p
    exact .inl ⟨it.stop w' i k' (by omega), p w' σ' (Mono.refl _) st'⟩

/-! ### while -/
def whileM (c : Ev → M Bool) (body : Ev → M Out) : Nat → Ev → M Out
  | 0, _ => fail
  | n + 1, env => do
    let b ← c env
    if b then do
      match ← body env with
      | .nx e => whileM c body n e
      | .ct e => whileM c body n e
      | .bk e => pure (.nx e)
      | .rt d => pure (.rt d)
    else pure (.nx env)
theorem ds_while {c : Expr} {body : List Stmt} {fc : Ev → M Bool} {fb : Ev → M Out} {pos : Pos} {fuel : Ev → Store → Nat} (hp : PassesOwn (model X.prog X.w) X.A X.env X.xe) (hc : DT g w0.N Wx X c fc) (hb : DSs g Wx w0 X body fb) :
    DS g Wx w0 X (.While c body [] pos) (fun env S => whileM fc fb (fuel env S) env S) := by
  refine PS.imp (ps_while hp hc hb) fun E σ H ⟨w, env, S, ee, st, q⟩ => ?_
  subst ee
  refine ⟨fun m σ H => ∃ w' env' S', w'.H = H ∧ StR g w0 w' env' S' σ ∧ PstS g Wx w0 w' (whileM fc fb m env' S') E, ⟨fuel env S, w, env, S, rfl, st, q⟩, ?_⟩
  rintro m σ' H ⟨w', env', S', rfl, st', p⟩
  cases m with
  | zero => exact p.elim
  | succ n =>
    simp only [whileM] at p
    refine tr_intro st'.er st'.sr (pst_of st' p fun w1 b S1 y e k1 s1 r1 q1 => ?_)
    have ey : y = b := r1
    subst ey
    have st1 := st'.step k1 s1
    cases y with
    | false =>
      rw [if_neg Bool.false_ne_true]
      exact q1 w1 σ' (Mono.refl _) st1
    | true =>
      rw [if_pos rfl]
      refine ⟨fun σ H => ∃ w' env' S', w'.H = H ∧ StR g w0 w' env' S' σ ∧ PstS g Wx w0 w' (whileM fc fb n env' S') E, fun σ2 H2 z => ⟨n, Nat.lt_succ_self _, z⟩, w1, env', S1, rfl, st1, ?_⟩
      have q2 : PstS g Wx w0 w1 ((fb env' >>= fun o => match o with
        | .nx e => whileM fc fb n e
        | .ct e => whileM fc fb n e
        | .bk e => pure (.nx e)
        | .rt d => pure (.rt d)) S1) E := q1
      cases eb : fb env' S1 with
      | ok o S3 =>
        rw [bind_ok eb] at q2
        cases o with
        | nx e3 => exact fun w3 σ3 k3 st3 => ⟨w3, e3, S3, rfl, st3, pstS_rebase k3 q2⟩
        | ct e3 => exact fun w3 σ3 k3 st3 => ⟨w3, e3, S3, rfl, st3, pstS_rebase k3 q2⟩
        | bk e3 => exact q2
        | rt d3 => exact q2
      | ex c fs S3 => rw [bind_ex eb] at q2; exact q2
      | bad => rw [bind_bad eb] at q2; exact q2
end
end Pc

set_option Elab.async false
set_option linter.all false
set_option autoImplicit false
set_option maxRecDepth 100000
set_option maxHeartbeats 4000000
/-! Pc, part K: defs and their calls. -/
namespace Pc
open PySem PySem.Spec PyProof.Rows L2
/-- a def's promise, by its meaning -/
def spOf (g : Gc) (n : Nat) (sem : List D → M D) : Sp := fun vs H Q E => ∃ w ds S, w.H = H ∧ ds.length = n ∧ RepL g w vs ds ∧ SR g w S ∧ match sem ds S with
  | .ok d S' => ∀ w' v, Keep w w' → SR g w' S' → Rep g w' v d → Q v w'.H
  | .ex c fs S' => ∀ w' cls dd, Keep w w' → SR g w' S' → ExR g w' cls dd c fs → E cls dd w'.H
  | .bad => False
structure FnG (g : Gc) (P : Program) (w : World) (mg : Str → Option Value) (base : Heap) (k : Nat) (f : Addr) (fd : FuncData) (ps : List Str) (sem : List D → M D) : Prop where
  run : ∀ (A : Around) (outer : List Env) (s : Shared) (H : Hp) (args : Args) (us : List Value) (vs : List V) (Q : VK) (E : XK), Room k A → A.guards = some [] → Env0 P w g.K mg base A outer s H → BindsTo s fd args (ps.zip us) → Vals vs us →
    spOf g ps.length sem vs H Q E → codeAny (model P w) A (.call (.ref f) args) (CR (L2.CX P w) outer P w H s Q E) s
section
variable {g : Gc} {P : Program} {w : World} {mg : Str → Option Value} {base : Heap} {k : Nat} {f : Addr} {fd : FuncData} {ps : List Str} {sem : List D → M D}
theorem FnG.mono {j : Nat} (F : FnG g P w mg base j f fd ps sem) (h : j ≤ k) : FnG g P w mg base k f fd ps sem := ⟨fun A outer s H args us vs Q E hr => F.run A outer s H args us vs Q E (hr.mono h)⟩
theorem FnG.eq {sem' : List D → M D} (F : FnG g P w mg base k f fd ps sem) (h : sem' = sem) : FnG g P w mg base k f fd ps sem' := by rw [h]; exact F
def callE (N : Nat) (ds : List D) : Ev := ds.map .val ++ List.replicate (N - ds.length) .no
def bodyM (N : Nat) (f : Ev → M Out) (ds : List D) : M D := do
  match ← f (callE N ds) with
  | .nx _ => pure .non
  | .rt d => pure d
  | _ => fail
theorem er_start {w : Wd} {N : List Str} {N0 : List Addr} {vs : List V} {ds : List D} (r : RepL g w vs ds) : ER g N0 w (callE N.length ds) (L2.start N vs) := by
  have hl := r.length
  have shape : ∀ (i : Nat) s, (callE N.length ds)[i]? = some s → (∃ d, ds[i]? = some d ∧ s = .val d) ∨ s = .no := fun i s h => by
    unfold callE at h
    by_cases hi : i < ds.length
    · rw [List.getElem?_append_left (by simpa using hi), List.getElem?_map] at h
      cases e : ds[i]? with
      | none => rw [e] at h; cases h
      | some d => rw [e] at h; cases h; exact .inl ⟨d, rfl, rfl⟩
    · rw [List.getElem?_append_right (by simpa using hi), List.getElem?_replicate] at h
      split at h
      · cases h; exact .inr rfl
      · cases h
  have no : ∀ i, ¬ ownAt (callE N.length ds) i := fun i ⟨s, h, o⟩ => by
    rcases shape i s h with ⟨d, _, z⟩ | z
    · subst z; cases o
    · subst z; cases o
  refine ⟨?_, fun i d h => ?_, fun i xs h => ?_, fun i xs h => ?_, fun i j _ h => absurd h (no i)⟩
  · unfold L2.start callE
    simp [hl]
  · rcases shape i _ h with ⟨d', h1, z⟩ | z
    · cases z
      obtain ⟨v, e1, e2⟩ := r.get h1
      refine ⟨v, ?_, e2⟩
      have hv : i < vs.length := (List.getElem?_eq_some_iff.mp e1).1
      unfold L2.start
      rw [List.getElem?_append_left (by simpa using hv), List.getElem?_map, e1]
      rfl
    · cases z
  · exact absurd ⟨_, h, rfl⟩ (no i)
  · exact absurd ⟨_, h, rfl⟩ (no i)
/-- THE RULE for a def -/
theorem fnG_of {name qual : Str} {params : Arguments} {body : List Stmt} {scope : Scope} {dV kV doc pm cdv ct oc : Value} {an od : Option Addr} {osl : Array (Option Value)} {N : List Str} {fb : Ev → M Out}
    (lk : g.K.lookup f = some ⟨oc, od, .func (PySem.W.fnOf name qual params body scope dV kV doc pm an cdv ct), osl⟩) (hcd : PySem.W.codeIn g.K cdv qual = true) (S : FnScope N ps scope)
    (hbody : ∀ (X : Cx) (Wx : WX) (w0 : Wd), X.prog = P → X.w = w → X.mg = mg → X.base = base → X.env.scope = scope → X.N = N → (∀ x, X.fn x = true) → Ok g X k → Takes X Wx → PassesOwn (model X.prog X.w) X.A X.env X.xe → DSs g Wx w0 X body fb) :
    FnG g P w mg base (k + 1) f (PySem.W.fnOf name qual params body scope dV kV doc pm an cdv ct) ps (bodyM N.length fb) := by
  refine ⟨fun A outer s H args us vs Q E hr hg e0 hb r hsp => ?_⟩
  obtain ⟨w0, ds, St, rfl, hl, rp, sr, q⟩ := hsp
  have hlv : vs.length = ps.length := by rw [rp.length]; exact hl
  have KX : g.K.In s.heap := e0.mod.kin.keeps fun b o e => (e0.bs b o e).1
  have lim : s.heap.NoLimit := e0.mod.nolimit.keeps fun b o e => (e0.bs b o e).1
  have hkind : ∀ y ∈ ps.zip us, scope.names.lookup y.1 = some .local ∨ (scope.names.lookup y.1 = some .cell ∧ ((cellsFrom (s.heap.objs.size + 1) scope.names []).lookup y.1).isSome = true) := fun ⟨n, v⟩ hy =>
    (S.par n (List.of_mem_zip hy).1).elim .inl fun z => .inr ⟨z, PySem.W.cellsFrom_some _ _ _ (.inl z)⟩
  refine codeAny_call_function hr.depth (KX _ _ lk) rfl S.co S.gen rfl (PySem.W.codeRec_of KX hcd) (hb _ _ _ _ ?_)
  refine wpAny_newFunctionEnv_cells S.kind hkind fun env he s1 x => ?_
  subst he
  refine ⟨lim.keeps x.toInCall.keep, codeAny_func ?_⟩
  have I : Inv (cxOf (L2.CX P w) P w g.K mg base N qual scope f cdv A outer s w0.H E) [] (L2.start N vs) w0.H s1 := inv_start S hr.hd e0 hlv r x
  have ok : Ok g (cxOf (L2.CX P w) P w g.K mg base N qual scope f cdv A outer s w0.H E) k := ⟨rfl, rfl, S.nd, hr.deeper _, hg⟩
  have B := hbody (cxOf (L2.CX P w) P w g.K mg base N qual scope f cdv A outer s w0.H E) (fun cls d _ H => E cls d H) w0 rfl rfl rfl rfl rfl rfl (fun _ => rfl) ok (takes_of rfl rfl rfl rfl) (passes_of rfl)
  have st : StR g w0 w0 (callE N.length ds) St (L2.start N vs) := ⟨er_start rp, sr, Keep.refl _⟩
  have hq : trS g (fun cls d _ H => E cls d H) w0 fb { nx := fun _ H' => Q .non H', rt := Q } (L2.start N vs) w0.H := by
    refine ⟨w0, callE N.length ds, St, rfl, st, ?_⟩
    unfold bodyM at q
    cases e : fb (callE N.length ds) St with
    | ok o S1 =>
      rw [bind_ok e] at q
      cases o with
      | nx e1 => exact fun w' σ' _ st' => q w' .non st'.kp st'.sr .non
      | rt d => exact q
      | bk e1 => exact q.elim
      | ct e1 => exact q.elim
    | ex c fs S1 => rw [bind_ex e] at q; exact fun w' _ cls dd k' s' z => q w' cls dd k' s' z
    | bad => rw [bind_bad e] at q; exact q
  refine wpAny_mono (B.run [] s1 (L2.start N vs) w0.H _ I hq) (fun fl s' hs => ?_) fun e s' hs => hs
  cases fl with
  | ret u =>
    obtain ⟨v, σ', H', J, rv, q'⟩ := hs
    exact ⟨v, H', J.os, J.bare, J.base, J.hok, rv, q'⟩
  | next =>
    obtain ⟨σ', H', J, q'⟩ := hs
    exact ⟨.non, H', J.os, J.bare, J.base, J.hok, rfl, q'⟩
  | brk =>
    obtain ⟨_, _, _, q'⟩ := hs
    exact q'.elim
  | cont =>
    obtain ⟨_, _, _, q'⟩ := hs
    exact q'.elim
end
/-! ### calls -/
section
variable {g : Gc} {N0 : List Addr} {Wx : WX} {X : Cx} {k : Nat} {f : Addr} {fd : FuncData} {ps : List Str} {sem : List D → M D}
theorem runG {pins : List (Addr × Obj)} {σ : L2.St} {H : Hp} {s : Shared} {Q : VK} {us : List Value} {vs : List V} (F : FnG g X.prog X.w X.mg X.base k f fd ps sem) (ok : Ok g X k) (hb : Binds X.K fd ps []) (tk : Takes X Wx)
    (I : Inv X pins σ H s) (r : Vals vs us) (h : spOf g ps.length sem vs H Q fun cls d H' => Wx cls d σ H') : wpAny (model X.prog X.w) X.A (call (.ref f) us) (EP X pins σ Q) X.xe s := by
  have hl : us.length = ps.length := by
    obtain ⟨w, ds, S, _, h1, h2, _⟩ := h
    rw [← r.length, h2.length]; exact h1
  have bt := hb s us I.kIn (by simpa using hl)
  rw [List.append_nil] at bt
  have e0 := I.env0
  rw [ok.K] at e0
  refine wpAny_call (codeAny_mono (F.run X.A X.stack s H ⟨us, []⟩ us vs Q _ ok.room ok.gd e0 bt r h) fun rr s' hq => ?_)
  cases rr with
  | error e => exact tk e s' (XE.of_call I (fun _ _ _ z => z) hq)
  | ok fl =>
    cases fl with
    | ret u => exact I.after hq
    | next => exact hq.elim
    | brk => exact hq.elim
    | cont => exact hq.elim
/-- the meaning of a call, for what follows it -/
theorem sp_of_pst {σ : L2.St} {w : Wd} {vs : List V} {ds : List D} {S : Store} {Q : VK} {n : Nat} (hn : ds.length = n) (r : RepL g w vs ds) (sr : SR g w S) (q : Pst g Wx σ (rl g) w (sem ds S) Q) : spOf g n sem vs w.H Q fun cls d H' => Wx cls d σ H' := by
  refine ⟨w, ds, S, rfl, hn, r, sr, ?_⟩
  cases e : sem ds S with
  | ok d S' => rw [e] at q; exact q
  | ex c fs S' => rw [e] at q; exact q
  | bad => rw [e] at q; exact q
/-- a def of the module, by its name -/
structure Fnm (g : Gc) (X : Cx) (k : Nat) (x : Str) (n : Nat) (sem : List D → M D) : Prop where
  ex : ∃ (f : Addr) (fd : FuncData) (ps : List Str), ps.length = n ∧ FnG g X.prog X.w X.mg X.base k f fd ps sem ∧ X.mg x = some (.ref f) ∧ PySem.W.keepIn X.K (.ref f) = true ∧ Binds X.K fd ps []
  nd : (x == ("__debug__" : Str)) = false
def callN (n : Nat) (sem : List D → M D) (ds : List D) : M D := if ds.length = n then sem ds else fail
theorem de_call {x : Str} {e : Expr} {es : List Expr} {p pos : Pos} {n : Nat} {fa : Ev → M (List D)} (F : Fnm g X k x n sem) (ok : Ok g X k) (hg : Gl X x) (tk : Takes X Wx) (hs : (e :: es).all notStar = true) (ha : DA g N0 Wx X (e :: es) fa) :
    DE g N0 Wx X (.Call (.Name x p) (e :: es) [] pos) (fun env => do let ds ← fa env; callN n sem ds) := by
  obtain ⟨f, fd, ps, hn, G, hm, hk, hb⟩ := F.ex
  simp only [List.all_cons, Bool.and_eq_true] at hs
  refine ⟨fun pins s σ H Q I ⟨w, env, S, ee, er, sr, q⟩ => ?_⟩
  subst ee
  refine wpAny_Call_Name_kw (ld_glob I hg hm ?_ F.nd)
  refine PySem.W.callWith_K (h₀ := X.base) I.ok.mod.kin hk (thn (ha.run pos pins s σ w.H _ I (tr_intro er sr (pst_bind (relA := rlL g) (fun _ _ _ _ _ z => z) q))) fun us s1 ⟨vs, H1, I1, r, w1, ds, S1, e1, k1, s1', r1, q1⟩ => ⟨I1.kIn, ?_⟩) (star_cons hs.1) (star_any hs.2)
  subst e1
  unfold callN at q1
  by_cases hl : ds.length = n
  · rw [if_pos hl] at q1
    exact runG G ok hb tk I1 r (sp_of_pst (hl.trans hn.symm) r1 s1' q1)
  · rw [if_neg hl] at q1; exact q1.elim
theorem de_call0 {x : Str} {p pos : Pos} {n : Nat} (F : Fnm g X k x n sem) (ok : Ok g X k) (hg : Gl X x) (tk : Takes X Wx) : DE g N0 Wx X (.Call (.Name x p) [] [] pos) (fun _ => callN n sem []) := by
  obtain ⟨f, fd, ps, hn, G, hm, hk, hb⟩ := F.ex
  refine ⟨fun pins s σ H Q I ⟨w, env, S, ee, er, sr, q⟩ => ?_⟩
  subst ee
  refine wpAny_Call_Name_kw (ld_glob I hg hm ?_ F.nd)
  unfold callN at q
  by_cases hl : ([] : List D).length = n
  · rw [if_pos hl] at q
    exact PySem.W.callWith_K0 I.kIn hk (runG (us := []) (vs := []) G ok hb tk I .nil (sp_of_pst (hl.trans hn.symm) .nil sr q))
  · rw [if_neg hl] at q; exact q.elim
end
end Pc

set_option Elab.async false
set_option linter.all false
set_option autoImplicit false
set_option maxRecDepth 100000
set_option maxHeartbeats 4000000
/-! Pc, part L: lists and dicts that are changed; several targets. -/
namespace Pc
open PySem PySem.Spec PyProof.Rows L2
section
variable {g : Gc} {Wx : WX} {w0 : Wd} {X : Cx}
/-- an object that may be written, no tuple, no locked one -/
def Wr (u : HO) : Prop := (∀ xs, u ≠ .tup xs) ∧ ∀ ob z, u ≠ .frz ob z
theorem wr_lst {xs : List V} : Wr (.lst xs) := ⟨fun _ z => (by cases z), fun _ _ z => (by cases z)⟩
theorem wr_dK {xs : List (Key × V)} : Wr (.dK xs) := ⟨fun _ z => (by cases z), fun _ _ z => (by cases z)⟩
theorem wr_ins {C dx : Addr} {xs : List (Str × V)} : Wr (.ins C dx xs) := ⟨fun _ z => (by cases z), fun _ _ z => (by cases z)⟩
theorem keep_hnd {w : Wd} {a : Addr} {u o : HO} (h : w.H a = some u) (wr : Wr u) (hm : a ∈ w.m) (hN : a ∈ w.N) : Keep w ⟨upd w.H a o, w.N, w.m⟩ := by
  refine ⟨mono_own h wr.1 wr.2 hN, fun b z e n => ?_, fun _ z => z, fun _ z => .inl z⟩
  show upd w.H a o b = some z
  rw [upd_ne (fun (q : b = a) => n (by rw [q]; exact hm))]; exact e
theorem ObR.mono {w w' : Wd} {b : Addr} {ob : Ob} (k : Mono w w') (e : w'.H b = w.H b) (r : ObR g w b ob) : ObR g w' b ob := by
  cases ob with
  | lst xs => obtain ⟨vs, e1, e2⟩ := r; exact ⟨vs, by rw [e]; exact e1, e2.mono k⟩
  | dct xs => obtain ⟨vs, e1, e2⟩ := r; exact ⟨vs, by rw [e]; exact e1, e2.mono k⟩
  | ins c fs => obtain ⟨dx, vs, e1, e2⟩ := r; exact ⟨dx, vs, by rw [e]; exact e1, e2.mono k⟩
theorem SR.hnd {w : Wd} {S : Store} {h : Nat} {a : Addr} {u o : HO} {ob : Ob} (s : SR g w S) (hu : w.H a = some u) (wr : Wr u) (hm : w.m[h]? = some a) (r : ObR g ⟨upd w.H a o, w.N, w.m⟩ a ob) : SR g ⟨upd w.H a o, w.N, w.m⟩ (S.set h ob) := by
  have ham := List.mem_of_getElem? hm
  have mo := mono_own (o := o) hu wr.1 wr.2 (s.sub a ham)
  refine ⟨by simpa using s.len, s.nd, s.sub, fun b hb => ?_, fun i ob' e => ?_⟩
  · by_cases q : b = a
    · subst q; exact ⟨o, upd_same⟩
    · obtain ⟨z, e⟩ := s.here b hb
      exact ⟨z, by show upd w.H a o b = _; rw [upd_ne q]; exact e⟩
  · by_cases q : h = i
    · subst q
      by_cases hl : h < S.length
      · rw [List.getElem?_set_self hl] at e; cases e; exact ⟨a, hm, r⟩
      · rw [List.getElem?_eq_none (by simpa using hl)] at e; cases e
    · rw [List.getElem?_set_ne q] at e
      obtain ⟨b, e1, e2⟩ := s.at_ i ob' e
      refine ⟨b, e1, e2.mono mo ?_⟩
      show upd w.H a o b = w.H b
      refine upd_ne fun z => q ?_
      subst z
      obtain ⟨l1, g1⟩ := List.getElem?_eq_some_iff.mp hm
      obtain ⟨l2, g2⟩ := List.getElem?_eq_some_iff.mp e1
      exact (List.getElem_inj s.nd).mp (g1.trans g2.symm)
/-- a slot's own object is changed -/
theorem StR.own_upd {w : Wd} {env : Ev} {S : Store} {σ : L2.St} {i : Nat} {a : Addr} {u o : HO} {s : Sl} (st : StR g w0 w env S σ) (oi : ownAt env i) (hv : σ[i]? = some (some (.ref a))) (hu : w.H a = some u) (wr : Wr u) (hN : a ∈ w.N) (hm : a ∉ w.m) (h0 : a ∉ w0.N)
    (r : SlR g ⟨upd w.H a o, w.N, w.m⟩ (.ref a) s) : Mono w ⟨upd w.H a o, w.N, w.m⟩ ∧ StR g w0 ⟨upd w.H a o, w.N, w.m⟩ (env.set i s) S σ := by
  have mo := mono_own (o := o) hu wr.1 wr.2 hN
  refine ⟨mo, ?_, st.sr.own hu wr.1 wr.2 hN hm, ?_⟩
  · have e0 : ER g w0.N ⟨upd w.H a o, w.N, w.m⟩ (env.set i .no) (σ.set i none) := by
      have er := st.er
      have ne : ∀ (j : Nat) (t : Sl), (env.set i .no)[j]? = some t → t.isOwn = true ∨ (∃ d, t = .val d) → i ≠ j ∧ env[j]? = some t := fun j t h ht => by
        by_cases q : i = j
        · subst q
          by_cases hi : i < env.length
          · rw [List.getElem?_set_self hi] at h; cases h
            rcases ht with z | ⟨d, z⟩ <;> cases z
          · rw [List.getElem?_eq_none (by simpa using hi)] at h; cases h
        · rw [List.getElem?_set_ne q] at h; exact ⟨q, h⟩
      refine ⟨by simpa using er.len, fun j d h => ?_, fun j xs h => ?_, fun j xs h => ?_, fun j k hjk h1 h2 => ?_⟩
      · obtain ⟨q, z⟩ := ne j _ h (.inr ⟨d, rfl⟩)
        obtain ⟨v, h1, h2⟩ := er.val j d z
        exact ⟨v, by rw [List.getElem?_set_ne q]; exact h1, h2.mono mo⟩
      · obtain ⟨q, z⟩ := ne j _ h (.inl rfl)
        obtain ⟨b, vs, h1, h2, h3, h4, h5, h6⟩ := er.own j xs z
        refine ⟨b, vs, by rw [List.getElem?_set_ne q]; exact h1, ?_, h3, h4, h5, h6.mono mo⟩
        show upd w.H a o b = _
        rw [upd_ne fun (z2 : b = a) => er.ap i j q oi ⟨_, z, rfl⟩ (by rw [hv, h1, z2])]
        exact h2
      · obtain ⟨q, z⟩ := ne j _ h (.inl rfl)
        obtain ⟨b, vs, h1, h2, h3, h4, h5, h6⟩ := er.owd j xs z
        refine ⟨b, vs, by rw [List.getElem?_set_ne q]; exact h1, ?_, h3, h4, h5, h6.mono mo⟩
        show upd w.H a o b = _
        rw [upd_ne fun (z2 : b = a) => er.ap i j q oi ⟨_, z, rfl⟩ (by rw [hv, h1, z2])]
        exact h2
      · obtain ⟨s1, e1, o1⟩ := h1
        obtain ⟨s2, e2, o2⟩ := h2
        obtain ⟨q1, z1⟩ := ne j _ e1 (.inl o1)
        obtain ⟨q2, z2⟩ := ne k _ e2 (.inl o2)
        rw [List.getElem?_set_ne q1, List.getElem?_set_ne q2]
        exact er.ap j k hjk ⟨s1, z1, o1⟩ ⟨s2, z2, o2⟩
    have e1 := e0.set_sl (i := i) r fun _ => ⟨fun b eb => by cases eb; exact h0, fun j oj q => ?_⟩
    · have es : (env.set i .no).set i s = env.set i s := by rw [List.set_set]
      have eσ : (σ.set i none).set i (some (V.ref a)) = σ := by
        rw [List.set_set]
        apply List.ext_getElem?
        intro j
        by_cases q : i = j
        · subst q
          rw [List.getElem?_set_self (List.getElem?_eq_some_iff.mp hv).1, hv]
        · rw [List.getElem?_set_ne q]
      rw [es, eσ] at e1
      exact e1
    · have hij : i ≠ j := fun z => by
        subst z
        obtain ⟨t, h1, h2⟩ := oj
        by_cases hi : i < env.length
        · rw [List.getElem?_set_self hi] at h1; cases h1; cases h2
        · rw [List.getElem?_eq_none (by simpa using hi)] at h1; cases h1
      rw [List.getElem?_set_ne hij] at q
      obtain ⟨t, h1, h2⟩ := oj
      rw [List.getElem?_set_ne hij] at h1
      exact st.er.ap i j hij oi ⟨t, h1, h2⟩ (by rw [hv, q])
  · refine ⟨st.kp.toMono.trans mo, fun b z e n => ?_, st.kp.sub, st.kp.newm⟩
    show upd w.H a o b = some z
    rw [upd_ne fun (q : b = a) => ?_]
    · exact st.kp.kp b z e n
    · subst q
      rcases st.kp.new b hN with q | q
      · exact h0 q
      · rw [q] at e; cases e

/-! ### x.append(e), x.extend(e), x.pop(), x.pop(i) : what changes a list -/
def baseOk : Expr → Bool
  | .Call (.Name _ _) [] [] _ => false
  | _ => true
theorem base_ok {o : Expr} {a : Str} {env : Env} {w : Sem Value} (h : baseOk o = true) : attributeBase o a env w = w := by
  cases o with
  | Call f as ks p =>
    cases as with
    | nil =>
      cases ks with
      | nil => cases f <;> first | rfl | cases h
      | cons _ _ => cases f <;> rfl
    | cons _ _ => cases f <;> rfl
  | _ => rfl
theorem few_ok {es : List Expr} {cpos : Pos} {env : Env} (h : es.all notStar = true) (hl : es.length < 30) : ((backTo cpos (starEach es env)).all (fun x => !x.1) && (backToKw cpos (keywordEach [] env)).all (fun x => x.1.isSome)
      && decide (es.length + ([] : List Keyword).length + (if ([] : List Keyword).isEmpty then 0 else 1) < 30)) = true := by
  have h1 : (backTo cpos (starEach es env)).all (fun x => !x.1) = true := by
    have q := star_any (pos := cpos) (env := env) h
    rw [List.all_eq_true]
    intro x hx
    cases e : x.1 with
    | false => rfl
    | true =>
      have : (backTo cpos (starEach es env)).any (·.1) = true := List.any_eq_true.mpr ⟨x, hx, e⟩
      rw [q] at this; cases this
  rw [h1, Bool.true_and]
  have h2 : (backToKw cpos (keywordEach [] env)).all (fun x => x.1.isSome) = true := rfl
  rw [h2, Bool.true_and]
  exact decide_eq_true (by simpa using hl)
/-- a method that changes a list: what it gives, the list behind it -/
abbrev Chg := List D → List D → Option (D × List D)
def ChgR (g : Gc) (r : V → List V → Hp → VK → Prop) (sem : Chg) : Prop :=
  ∀ (w : Wd) (l : Addr) (vs : List V) (xs : List D) (us : List V) (ds : List D) (d : D) (ys : List D) (Q : VK), sem xs ds = some (d, ys) → w.H l = some (.lst vs) → RepL g w vs xs → RepL g w us ds →
    (∀ v vs', Rep g w v d → RepL g w vs' ys → Q v (upd w.H l (.lst vs'))) → r (.ref l) us w.H Q
def appC : Chg := fun xs ds => match ds with
  | [d] => if xs.length < sizeLine then some (.non, xs ++ [d]) else none
  | _ => none
theorem RepL.one {w : Wd} {vs : List V} {d : D} (h : RepL g w vs [d]) : ∃ v, vs = [v] ∧ Rep g w v d := by
  cases h with
  | cons r t => cases t; exact ⟨_, rfl, r⟩
theorem ch_app : ChgR g rAppend appC := fun w l vs xs us ds d ys Q e hl r ra q => by
  unfold appC at e
  split at e
  · split at e
    · rename_i y h
      cases e
      obtain ⟨v, rfl, rv⟩ := ra.one
      exact ⟨l, vs, v, rfl, rfl, hl, by rw [r.length]; exact h, q .non _ .non (r.append (.cons rv .nil))⟩
    · cases e
  · cases e
def extC : Chg := fun xs ds => match ds with
  | [.lst zs] => if xs.length + zs.length ≤ sizeLine then some (.non, xs ++ zs) else none
  | _ => none
/-- the argument is a frozen list that stands by itself -/
theorem ch_ext : ∀ (w : Wd) (l : Addr) (vs : List V) (xs : List D) (us : List V) (ds : List D) (d : D) (ys : List D) (Q : VK), extC xs ds = some (d, ys) → w.H l = some (.lst vs) → RepL g w vs xs → (∃ b zs zd, us = [.ref b] ∧ ds = [.lst zd] ∧ w.H b = some (.lst zs) ∧ RepL g w zs zd) →
    (∀ v vs', Rep g w v d → RepL g w vs' ys → Q v (upd w.H l (.lst vs'))) → rExtend (.ref l) us w.H Q := fun w l vs xs us ds d ys Q e hl r ra q => by
  obtain ⟨b, zs, zd, rfl, rfl, hb, rb⟩ := ra
  unfold extC at e
  by_cases h : xs.length + zd.length ≤ sizeLine
  · simp only [h, if_true] at e
    cases e
    exact ⟨l, b, vs, zs, rfl, rfl, hl, hb, by rw [r.length, rb.length]; exact h, q .non _ .non (r.append rb)⟩
  · simp only [h, if_false] at e
    cases e
def popC : Chg := fun xs ds => match ds with
  | [] => (xs[xs.length - 1]?).map fun d => (d, xs.dropLast)
  | _ => none
theorem ch_pop : ChgR g rPop popC := fun w l vs xs us ds d ys Q e hl r ra q => by
  cases ds with
  | nil =>
    cases ra
    unfold popC at e
    cases ex : xs[xs.length - 1]? with
    | none => simp only [ex] at e; cases e
    | some y =>
      simp only [ex, Option.map_some] at e
      cases e
      obtain ⟨v, e1, e2⟩ := r.get ex
      exact ⟨l, vs, v, rfl, rfl, hl, by rw [r.length]; exact e1, q v _ e2 r.dropLast⟩
  | cons _ _ => cases e
def popAtC : Chg := fun xs ds => match ds with
  | [.int i] => if 0 ≤ i ∧ i < xs.length ∧ i < 2 ^ 63 then (xs[i.toNat]?).map fun d => (d, xs.eraseIdx i.toNat) else none
  | _ => none
theorem ch_popAt : ChgR g rPopAt popAtC := fun w l vs xs us ds d ys Q e hl r ra q => by
  unfold popAtC at e
  split at e
  · split at e
    · rename_i i h
      cases ex : xs[i.toNat]? with
      | none => simp only [ex] at e; cases e
      | some y =>
        simp only [ex, Option.map_some] at e
        cases e
        obtain ⟨u, rfl, ru⟩ := ra.one
        cases ru
        obtain ⟨v, e1, e2⟩ := r.get ex
        have hs : seqIndex? i vs.length = some i.toNat := seqIndex_of h.1 (by rw [r.length]; exact h.2.1)
        exact ⟨l, vs, i, i.toNat, v, rfl, rfl, hl, by omega, h.2.2, hs, e1, q v _ e2 (r.eraseIdx _)⟩
    · cases e
  · cases e
/-- a list method by its name -/
structure Mth (X : Cx) (name : Str) (id : String) (r : V → List V → Hp → VK → Prop) : Prop where
  slot : Slot "list" name id
  ty : typeOf (.builtin id) = pure (.type "method_descriptor")
  mt : MtR X id r
/-- the store's list behind a handle is changed -/
def chgO (h : Nat) (sem : Chg) (ds : List D) : M D := fun S => match S[h]? with
  | some (.lst xs) => (match sem xs ds with
    | some (d, ys) => .ok d (S.set h (.lst ys))
    | none => .bad)
  | _ => .bad
def chgH (sem : Chg) (o : D) (ds : List D) : M D := match o with
  | .obj h => chgO h sem ds
  | _ => fail
theorem hnd_step {w : Wd} {S : Store} {h : Nat} {a : Addr} {vs vs' : List V} {xs ys : List D} (s : SR g w S) (hm : w.m[h]? = some a) (hu : w.H a = some (.lst vs)) (r : RepL g w vs' ys) :
    Keep w ⟨upd w.H a (.lst vs'), w.N, w.m⟩ ∧ SR g ⟨upd w.H a (.lst vs'), w.N, w.m⟩ (S.set h (.lst ys)) := by
  have ham := List.mem_of_getElem? hm
  have k := keep_hnd (o := .lst vs') hu wr_lst ham (s.sub a ham)
  exact ⟨k, s.hnd hu wr_lst hm ⟨vs', upd_same, r.mono k.toMono⟩⟩
section
variable {N0 : List Addr} {o e : Expr} {es : List Expr} {fo : Ev → M D} {fa : Ev → M (List D)} {name : Str} {id : String} {r : V → List V → Hp → VK → Prop} {sem : Chg} {apos cpos : Pos}
theorem rep_obj {w : Wd} {v : V} {h : Nat} (r : Rep g w v (.obj h)) : ∃ a, v = .ref a ∧ w.m[h]? = some a := by
  cases r with
  | obj e => exact ⟨_, rfl, e⟩
/-- it is a list, now -/
def isL (x : D) : M Unit := fun S => match x with
  | .obj h => (match S[h]? with
    | some (.lst _) => .ok () S
    | _ => .bad)
  | _ => .bad
theorem isL_ok {x : D} {S S' : Store} {u : Unit} (h : isL x S = .ok u S') : S' = S ∧ ∃ k xs, x = .obj k ∧ S[k]? = some (.lst xs) := by
  cases x with
  | obj k =>
    unfold isL at h
    cases e : S[k]? with
    | none => simp only [e] at h; cases h
    | some ob =>
      cases ob with
      | lst xs => simp only [e] at h; cases h; exact ⟨rfl, k, xs, rfl, e⟩
      | dct _ => simp only [e] at h; cases h
      | ins _ _ => simp only [e] at h; cases h
  | _ => cases h
theorem chgO_ok {h : Nat} {ds : List D} {S S' : Store} {d : D} (q : chgO h sem ds S = .ok d S') : ∃ xs ys, S[h]? = some (.lst xs) ∧ sem xs ds = some (d, ys) ∧ S' = S.set h (.lst ys) := by
  unfold chgO at q
  cases e : S[h]? with
  | none => simp only [e] at q; cases q
  | some ob =>
    cases ob with
    | lst xs =>
      simp only [e] at q
      cases e2 : sem xs ds with
      | none => simp only [e2] at q; cases q
      | some p => simp only [e2] at q; cases q; exact ⟨xs, p.2, rfl, e2, rfl⟩
    | dct _ => simp only [e] at q; cases q
    | ins _ _ => simp only [e] at q; cases q
theorem chgO_cases (h : Nat) (ds : List D) (S : Store) : chgO h sem ds S = .bad ∨ ∃ d S', chgO h sem ds S = .ok d S' := by
  cases e : chgO h sem ds S with
  | ok d S' => exact .inr ⟨d, S', rfl⟩
  | bad => exact .inl rfl
  | ex c fs S' =>
    unfold chgO at e
    split at e
    · split at e <;> cases e
    · cases e
/-- the change itself, at a handle -/
theorem chg_at {σ : L2.St} {w : Wd} {S : Store} {h : Nat} {us : List V} {ds : List D} {a : Addr} {Q : VK} (hc : ChgR g r sem) (sr : SR g w S) (hm : w.m[h]? = some a) (ra : RepL g w us ds) (q : Pst g Wx σ (rl g) w (chgO h sem ds S) Q) : r (.ref a) us w.H Q := by
  rcases chgO_cases (sem := sem) h ds S with e | ⟨d, S', e⟩
  · rw [e] at q; exact q.elim
  · rw [e] at q
    obtain ⟨xs, ys, e1, e2, rfl⟩ := chgO_ok e
    obtain ⟨b, e3, vs, e4, e5⟩ := sr.at_ h _ e1
    rw [hm] at e3
    cases e3
    refine hc w a vs xs us ds d ys Q e2 e4 e5 ra fun v vs' rv rl' => ?_
    obtain ⟨k, s⟩ := hnd_step (xs := xs) sr hm e4 rl'
    exact q ⟨upd w.H a (.lst vs'), w.N, w.m⟩ v k s (rv.mono k.toMono)
/-- o.m(e, ..), o a handle's list -/
theorem de_chg (hK : X.K = g.K) (Mt : Mth X name id r) (hc : ChgR g r sem) (hb : baseOk o = true) (hl : (apos.endLine == cpos.line) = true) (hs : (e :: es).all notStar = true) (hn : (e :: es).length < 30) (ho : DE g N0 Wx X o fo) (ha : DA g N0 Wx X (e :: es) fa) :
    DE g N0 Wx X (.Call (.Attribute o name apos) (e :: es) [] cpos) (fun env => do let x ← fo env; let _ ← isL x; let ds ← fa env; chgH sem x ds) := by
  have hs' := hs
  simp only [List.all_cons, Bool.and_eq_true] at hs'
  refine PE.imp (pe_bm PySem.F.plainAttrs_list Mt.slot Mt.ty Mt.mt ho ha (base_ok hb) (few_ok hs hn) hl (star_cons hs'.1) (star_any hs'.2)) fun σ H Q ⟨w, env, S, ee, er, sr, q⟩ => ?_
  subst ee
  refine tr_intro er sr (pst_imp (pst_bind (relA := rl g) (fun _ _ _ _ _ z => z) q) fun x H1 ⟨w1, d, S1, e1, k1, s1, r1, q1⟩ => ?_)
  subst e1
  cases ei : isL d S1 with
  | bad => rw [bind_bad ei] at q1; exact q1.elim
  | ex c fs S2 =>
    exfalso
    unfold isL at ei
    split at ei
    · split at ei <;> cases ei
    · cases ei
  | ok u S2 =>
    rw [bind_ok ei] at q1
    obtain ⟨rfl, k, xs, rfl, ek⟩ := isL_ok ei
    obtain ⟨a, rfl, hm⟩ := rep_obj r1
    obtain ⟨b, e3, vs, e4, e5⟩ := s1.at_ k _ ek
    rw [hm] at e3
    cases e3
    refine ⟨.inl ⟨rfl, vs, .inl (.inl e4)⟩, tr_intro (er.keep k1) s1 (pst_imp (pst_bind (relA := rlL g) (fun _ _ _ _ _ z => z) q1) fun us H2 ⟨w2, ds, S3, e2, k2, s2, r2, q2⟩ => ?_)⟩
    subst e2
    exact chg_at hc s2 (k2.mp k a hm) r2 q2
/-- o.m() -/
theorem de_chg0 (hK : X.K = g.K) (Mt : Mth X name id r) (hc : ChgR g r sem) (hb : baseOk o = true) (hl : (apos.endLine == cpos.line) = true) (ho : DE g N0 Wx X o fo) :
    DE g N0 Wx X (.Call (.Attribute o name apos) [] [] cpos) (fun env => do let x ← fo env; let _ ← isL x; chgH sem x []) := by
  refine PE.imp (pe_bm0 PySem.F.plainAttrs_list Mt.slot Mt.ty Mt.mt ho (base_ok hb) hl) fun σ H Q ⟨w, env, S, ee, er, sr, q⟩ => ?_
  subst ee
  refine tr_intro er sr (pst_imp (pst_bind (relA := rl g) (fun _ _ _ _ _ z => z) q) fun x H1 ⟨w1, d, S1, e1, k1, s1, r1, q1⟩ => ?_)
  subst e1
  cases ei : isL d S1 with
  | bad => rw [bind_bad ei] at q1; exact q1.elim
  | ex c fs S2 =>
    exfalso
    unfold isL at ei
    split at ei
    · split at ei <;> cases ei
    · cases ei
  | ok u S2 =>
    rw [bind_ok ei] at q1
    obtain ⟨rfl, k, xs, rfl, ek⟩ := isL_ok ei
    obtain ⟨a, rfl, hm⟩ := rep_obj r1
    obtain ⟨b, e3, vs, e4, e5⟩ := s1.at_ k _ ek
    rw [hm] at e3
    cases e3
    exact ⟨.inl ⟨rfl, vs, .inl (.inl e4)⟩, chg_at hc s1 hm .nil q1⟩
/-- x.m(e, ..) as a statement, x a slot: its own list, or a handle -/
def chgS (i : Nat) (sem : Chg) (fa : Ev → M (List D)) : Ev → M Out := fun env => match env[i]? with
  | some (.own xs) => do
    let ds ← fa env
    match sem xs ds with
    | some (_, ys) => pure (.nx (env.set i (.own ys)))
    | none => fail
  | _ => do
    let x ← rd i env
    let _ ← isL x
    let ds ← fa env
    let _ ← chgH sem x ds
    pure (.nx env)
theorem StR.chg {w : Wd} {env : Ev} {S : Store} {σ : L2.St} {i : Nat} {a : Addr} {vs vs' : List V} {xs ys : List D} (st : StR g w0 w env S σ) (oi : env[i]? = some (.own xs)) (hv : σ[i]? = some (some (.ref a))) (hu : w.H a = some (.lst vs)) (hN : a ∈ w.N) (hm : a ∉ w.m) (h0 : a ∉ w0.N) (r : RepL g w vs' ys) :
    Mono w ⟨upd w.H a (.lst vs'), w.N, w.m⟩ ∧ StR g w0 ⟨upd w.H a (.lst vs'), w.N, w.m⟩ (env.set i (.own ys)) S σ :=
  st.own_upd ⟨_, oi, rfl⟩ hv hu wr_lst hN hm h0 ⟨a, vs', rfl, upd_same, hN, hm, r.mono (mono_own hu wr_lst.1 wr_lst.2 hN)⟩
theorem ds_chg {i : Nat} {x : Str} {p pos : Pos} (hK : X.K = g.K) (hv : PE X (.Name x p) (tVar i)) (Mt : Mth X name id r) (hc : ChgR g r sem) (hl : (apos.endLine == cpos.line) = true) (hs : (e :: es).all notStar = true) (hn : (e :: es).length < 30) (ha : DA g w0.N Wx X (e :: es) fa) :
    DS g Wx w0 X (.Expr (.Call (.Attribute (.Name x p) name apos) (e :: es) [] cpos) pos) (chgS i sem fa) := by
  have hs' := hs
  simp only [List.all_cons, Bool.and_eq_true] at hs'
  refine PS.imp (ps_expr (pe_bm PySem.F.plainAttrs_list Mt.slot Mt.ty Mt.mt hv ha (base_ok rfl) (few_ok hs hn) hl (star_cons hs'.1) (star_any hs'.2)) (swaps_no rfl)) fun E σ H ⟨w, env, S, ee, st, q⟩ => ?_
  subst ee
  by_cases ho : ∃ xs, env[i]? = some (.own xs)
  · obtain ⟨xs, ho⟩ := ho
    have q0 : PstS g Wx w0 w ((fa env >>= fun ds => match sem xs ds with
      | some (_, ys) => pure (.nx (env.set i (.own ys)))
      | none => fail) S) E := by
      unfold chgS at q
      simp only [ho] at q
      exact q
    obtain ⟨a, vs, h1, h2, h3, h4, h5, h6⟩ := st.er.own i xs ho
    refine ⟨_, h1, .inl ⟨rfl, vs, .inl (.inl h2)⟩, tr_intro st.er st.sr (pst_of st q0 fun w1 ds S1 us e k1 s1 r1 q1 => ?_)⟩
    have st1 := st.step k1 s1
    obtain ⟨a', vs1, g1, g2, g3, g4, g5, g6⟩ := st1.er.own i xs ho
    rw [h1] at g1
    cases g1
    cases es : sem xs ds with
    | none => simp only [es] at q1; exact q1.elim
    | some pr =>
      obtain ⟨d, ys⟩ := pr
      simp only [es] at q1
      refine hc w1 a vs1 xs us ds d ys _ es g2 g6 r1 fun v vs' rv rl' => ?_
      obtain ⟨mo, st2⟩ := st1.chg ho h1 g2 g3 g4 g5 rl'
      exact q1 ⟨upd w1.H a (.lst vs'), w1.N, w1.m⟩ σ mo st2
  · have q0 : PstS g Wx w0 w ((rd i env >>= fun x => isL x >>= fun _ => fa env >>= fun ds => chgH sem x ds >>= fun _ => pure (.nx env)) S) E := by
      have e : chgS i sem fa env = (rd i env >>= fun x => isL x >>= fun _ => fa env >>= fun ds => chgH sem x ds >>= fun _ => pure (.nx env)) := by
        unfold chgS
        split
        · rename_i xs hh; exact absurd ⟨xs, hh⟩ ho
        · rfl
      rw [e] at q
      exact q
    cases hd : env[i]? with
    | none =>
      have e1 : rd i env S = .bad := by unfold rd; rw [hd]; rfl
      rw [bind_bad e1] at q0; exact q0.elim
    | some sl =>
      cases sl with
      | val d =>
        have e1 : rd i env S = .ok d S := by unfold rd; rw [hd]; rfl
        rw [bind_ok e1] at q0
        obtain ⟨v, h1, h2⟩ := st.er.val i d hd
        cases ei : isL d S with
        | bad => rw [bind_bad ei] at q0; exact q0.elim
        | ex c fs S2 =>
          exfalso
          unfold isL at ei
          split at ei
          · split at ei <;> cases ei
          · cases ei
        | ok u S2 =>
          rw [bind_ok ei] at q0
          obtain ⟨rfl, k, xs, rfl, ek⟩ := isL_ok ei
          obtain ⟨a, rfl, hm⟩ := rep_obj h2
          obtain ⟨b, e3, vs, e4, e5⟩ := st.sr.at_ k _ ek
          rw [hm] at e3
          cases e3
          refine ⟨_, h1, .inl ⟨rfl, vs, .inl (.inl e4)⟩, tr_intro st.er st.sr (pst_of st q0 fun w1 ds S1 us e k1 s1 r1 q1 => ?_)⟩
          have st1 := st.step k1 s1
          refine chg_at (Wx := Wx) (σ := σ) (S := S1) (h := k) hc s1 (k1.mp k a hm) r1 ?_
          refine pst_of (x := chgH sem (.obj k) ds) (k := fun _ => pure (.nx env)) st1 q1 fun w2 d2 S2' y e k2 s2 r2 q2 => ?_
          exact q2 w2 σ (Mono.refl _) (st1.step k2 s2)
      | _ =>
        have e1 : rd i env S = .bad := by unfold rd; rw [hd]; rfl
        rw [bind_bad e1] at q0; exact q0.elim
end
end
end Pc

set_option Elab.async false
set_option linter.all false
set_option autoImplicit false
set_option maxRecDepth 100000
set_option maxHeartbeats 4000000
/-! Pc, part M: more assignments, operators that give new lists, sorted. -/
namespace Pc
open PySem PySem.Spec PyProof.Rows L2
section
variable {g : Gc} {Wx : WX} {w0 : Wd} {X : Cx} {N0 : List Addr}
/-! ### several slots at once -/
inductive SlRs (g : Gc) (w w' : Wd) : List V → List Sl → Prop
  | nil : SlRs g w w' [] []
  | cons {v : V} {s : Sl} {vs : List V} {ss : List Sl} : rlX g w w' v s → (s.isOwn = true → ∀ (j : Nat) t, ss[j]? = some t → t.isOwn = true → vs[j]? ≠ some v) → SlRs g w w' vs ss → SlRs g w w' (v :: vs) (s :: ss)
theorem SlR.keep {w w' : Wd} {v : V} {s : Sl} (k : Keep w w') (h : SlR g w v s) : SlR g w' v s := by
  cases s with
  | no => exact h
  | val d => exact Rep.mono k.toMono h
  | own xs =>
    obtain ⟨a, vs, e, h1, h2, h3, h4⟩ := h
    refine ⟨a, vs, e, k.kp a _ h1 h3, k.sub a h2, fun q => ?_, h4.mono k.toMono⟩
    rcases k.newm a q with z | z
    · exact h3 z
    · rw [z] at h1; cases h1
  | owd xs =>
    obtain ⟨a, vs, e, h1, h2, h3, h4⟩ := h
    refine ⟨a, vs, e, k.kp a _ h1 h3, k.sub a h2, fun q => ?_, h4.mono k.toMono⟩
    rcases k.newm a q with z | z
    · exact h3 z
    · rw [z] at h1; cases h1
theorem SlR.in_N {w : Wd} {v : V} {s : Sl} (h : SlR g w v s) (o : s.isOwn = true) : ∃ a, v = .ref a ∧ a ∈ w.N := by
  cases s with
  | own xs => obtain ⟨a, vs, e, h1, h2, h3, h4⟩ := h; exact ⟨a, e, h2⟩
  | owd xs => obtain ⟨a, vs, e, h1, h2, h3, h4⟩ := h; exact ⟨a, e, h2⟩
  | _ => cases o
theorem SlRs.keep {w w1 w2 : Wd} (k : Keep w1 w2) : ∀ {vs : List V} {ss : List Sl}, SlRs g w w1 vs ss → SlRs g w w2 vs ss
  | _, _, .nil => .nil
  | _, _, .cons r d t => .cons ⟨r.1.keep k, r.2⟩ d (SlRs.keep k t)
theorem SlRs.base {w w1 w2 : Wd} (k : Keep w w1) : ∀ {vs : List V} {ss : List Sl}, SlRs g w1 w2 vs ss → SlRs g w w2 vs ss
  | _, _, .nil => .nil
  | _, _, .cons r d t => .cons ⟨r.1, fun o a e q => r.2 o a e (k.sub a q)⟩ d (SlRs.base k t)
theorem SlRs.get {w w' : Wd} : ∀ {vs : List V} {ss : List Sl} {j : Nat} {t : Sl}, SlRs g w w' vs ss → ss[j]? = some t → ∃ v, vs[j]? = some v ∧ rlX g w w' v t
  | _, _, _, _, .nil, h => by simp at h
  | _, _, 0, _, .cons r _ _, h => by simp at h; subst h; exact ⟨_, rfl, r⟩
  | _, _, j + 1, _, .cons _ _ t, h => by
    obtain ⟨v, a, b⟩ := SlRs.get t (j := j) (by simpa using h)
    exact ⟨v, by simpa using a, b⟩
abbrev rlXL (g : Gc) : Wd → Wd → List V → List Sl → Prop := fun w w' vs ss => SlRs g w w' vs ss
abbrev DXs (g : Gc) (N0 : List Addr) (Wx : WX) (X : Cx) (es : List Expr) (f : Ev → M (List Sl)) : Prop := PA X es (tr g N0 Wx (rlXL g) f)
theorem dxs_nil : DXs g N0 Wx X [] (fun _ => pure []) := by
  refine PA.imp pa_nil fun σ H Q ⟨w, env, S, e, er, sr, q⟩ => ?_
  subst e
  exact q w [] (Keep.refl w) sr .nil
def consX (f : Ev → M Sl) (r : Ev → M (List Sl)) : Ev → M (List Sl) := fun env => do let x ← f env; let xs ← r env; pure (x :: xs)
theorem dxs_cons {e : Expr} {es : List Expr} {f : Ev → M Sl} {r : Ev → M (List Sl)} (hs : notStar e = true) (h : DX g N0 Wx X e f) (t : DXs g N0 Wx X es r) : DXs g N0 Wx X (e :: es) (consX f r) := by
  refine PA.imp (pa_cons h t (star_cons hs)) fun σ H Q ⟨w, env, S, e, er, sr, q⟩ => ?_
  subst e
  refine tr_intro er sr ?_
  have q' : Pst g Wx σ (rlXL g) w ((f env >>= fun x => r env >>= fun xs => pure (x :: xs)) S) Q := q
  cases e : f env S with
  | bad => rw [bind_bad e] at q'; exact q'
  | ex c fs S1 => rw [bind_ex e] at q'; exact q'
  | ok s S1 =>
    rw [bind_ok e] at q'
    intro w1 y k1 s1 r1
    refine tr_intro (er.keep k1) s1 ?_
    cases e2 : r env S1 with
    | bad => rw [bind_bad e2] at q'; exact q'
    | ex c fs S2 => rw [bind_ex e2] at q'; exact fun w' cls dd k s z => q' w' cls dd (k1.trans k) s z
    | ok ss S2 =>
      rw [bind_ok e2] at q'
      intro w2 ys k2 s2 r2
      refine q' w2 (y :: ys) (k1.trans k2) s2 (.cons ⟨r1.1.keep k2, r1.2⟩ (fun o j t hj ho z => ?_) (SlRs.base k1 r2))
      obtain ⟨v, h1, h2⟩ := SlRs.get r2 hj
      rw [h1] at z
      cases z
      obtain ⟨a, ea, ha⟩ := r1.1.in_N o
      exact h2.2 ho a ea ha
/-- slots i, j, .. get what comes -/
def setsE : List Nat → List Sl → Ev → Option Ev
  | [], [], env => some env
  | i :: is, s :: ss, env => setsE is ss (env.set i s)
  | _, _, _ => none
def setsV : List Nat → List V → L2.St → L2.St
  | i :: is, v :: vs, σ => setsV is vs (σ.set i (some v))
  | _, _, σ => σ
/-- what the slots set so far hold is not what comes -/
theorem ER.sets {w w1 : Wd} : ∀ {is : List Nat} {vs : List V} {ss : List Sl} {env env' : Ev} {σ : L2.St}, ER g N0 w1 env σ → SlRs g w w1 vs ss → (∀ a ∈ N0, a ∈ w.N) →
    (∀ j, ownAt env j → ∀ (k : Nat) t v, ss[k]? = some t → t.isOwn = true → vs[k]? = some v → σ[j]? ≠ some (some v)) → setsE is ss env = some env' → ER g N0 w1 env' (setsV is vs σ)
  | [], _, _, env, env', σ, er, .nil, hN, fr, h => by cases h; exact er
  | [], _, _, env, env', σ, er, .cons _ _ _, hN, fr, h => by cases h
  | i :: is, _, _, env, env', σ, er, .nil, hN, fr, h => by cases h
  | i :: is, v :: vs, s :: ss, env, env', σ, er, .cons r d t, hN, fr, h => by
    have er2 : ER g N0 w1 (env.set i s) (σ.set i (some v)) := er.set_sl r.1 fun o => ⟨fun a ea q => r.2 o a ea (hN a q), fun j oj => fr j oj 0 s v rfl o rfl⟩
    refine ER.sets (is := is) (vs := vs) (ss := ss) er2 t hN (fun j oj k t' v' hk ho hv => ?_) (show setsE is ss (env.set i s) = some env' from h)
    obtain ⟨u, e1, o1⟩ := oj
    by_cases q : i = j
    · subst q
      by_cases hi : i < env.length
      · rw [List.getElem?_set_self hi] at e1
        cases e1
        rw [List.getElem?_set_self (by rw [er.len]; exact hi)]
        intro z
        cases z
        exact d o1 k t' hk ho hv
      · rw [List.getElem?_eq_none (by simpa using hi)] at e1; cases e1
    · rw [List.getElem?_set_ne q] at e1
      rw [List.getElem?_set_ne q]
      exact fr j ⟨u, e1, o1⟩ (k + 1) t' v' (by simpa using hk) ho (by simpa using hv)
theorem ER.sets_new {w w1 : Wd} {is : List Nat} {vs : List V} {ss : List Sl} {env env' : Ev} {σ : L2.St} (er : ER g N0 w env σ) (k : Keep w w1) (r : SlRs g w w1 vs ss) (hN : ∀ a ∈ N0, a ∈ w.N) (h : setsE is ss env = some env') : ER g N0 w1 env' (setsV is vs σ) := by
  refine ER.sets (er.keep k) r hN (fun j oj i t v hi ho hv z => ?_) h
  obtain ⟨a, h1, h2⟩ := er.own_in oj
  rw [h1] at z
  cases z
  obtain ⟨u, h3, h4⟩ := r.get hi
  rw [h3] at hv
  cases hv
  exact h4.2 ho a rfl h2
def parM (is : List Nat) (f : Ev → M (List Sl)) : Ev → M Out := fun env => do
  let ss ← f env
  match setsE is ss env with
  | some env' => pure (.nx env')
  | none => fail
theorem par_fin {E : Ends} {w w1 : Wd} {env : Ev} {S S1 : Store} {σ : L2.St} {is : List Nat} {ss : List Sl} {vs : List V} (st : StR g w0 w env S σ) (k1 : Keep w w1) (s1 : SR g w1 S1) (r1 : SlRs g w w1 vs ss)
    (q : PstS g Wx w0 w1 ((match setsE is ss env with | some env' => pure (.nx env') | none => fail : M Out) S1) E) : ∀ w2, Keep w1 w2 → SR g w2 S1 → E.nx (setsV is vs σ) w2.H := fun w2 k2 s2 => by
  cases e : setsE is ss env with
  | none => rw [e] at q; exact q.elim
  | some env' =>
    rw [e] at q
    exact q w2 _ k2.toMono ⟨ER.sets_new st.er (k1.trans k2) (r1.keep k2) st.kp.sub e, s2, (st.kp.trans k1).trans k2⟩
theorem setsE_len : ∀ {is : List Nat} {ss : List Sl} {env env' : Ev}, setsE is ss env = some env' → ss.length = is.length
  | [], [], _, _, _ => rfl
  | [], _ :: _, _, _, h => by cases h
  | _ :: _, [], _, _, h => by cases h
  | _ :: is, _ :: ss, _, _, h => by simp [setsE_len (is := is) (ss := ss) h]
theorem SlRs.length {w w' : Wd} : ∀ {vs : List V} {ss : List Sl}, SlRs g w w' vs ss → vs.length = ss.length
  | _, _, .nil => rfl
  | _, _, .cons _ _ t => congrArg (· + 1) (SlRs.length t)
theorem par_len {E : Ends} {w1 : Wd} {env : Ev} {S1 : Store} {is : List Nat} {ss : List Sl} (q : PstS g Wx w0 w1 ((match setsE is ss env with | some env' => pure (.nx env') | none => fail : M Out) S1) E) : ss.length = is.length := by
  cases e : setsE is ss env with
  | none => rw [e] at q; exact q.elim
  | some env' => exact setsE_len e
/-- a, b = x, y with plain local names -/
theorem ds_par2 {i j : Nat} {x y : Str} {a b : Expr} {f : Ev → M (List Sl)} {px py pt pos : Pos} {kt k2 pt2} (hc : X.calm = true) (hN : X.N.Nodup) (hi : X.N[i]? = some x) (hj : X.N[j]? = some y) (hij : i ≠ j)
    (hx : X.env.scope.names.lookup x = some .local) (hy : X.env.scope.names.lookup y = some .local) (hca : notComp a = true) (ha : DXs g w0.N Wx X [a, b] f)
    (hw : swappedStores [.Tuple [.Name x px, .Name y py] kt pt] (.Tuple [a, b] k2 pt2) X.env = pure (some [x, y])) :
    DS g Wx w0 X (.Assign [.Tuple [.Name x px, .Name y py] kt pt] (.Tuple [a, b] k2 pt2) pos) (parM [i, j] f) := by
  refine PS.imp (ps_par hc hN hi hj hij hx hy ha hw rfl) fun E σ H ⟨w, env, S, ee, st, q⟩ => ?_
  subst ee
  refine tr_intro st.er st.sr (pst_of st q fun w1 ss S1 vs e k1 s1 r1 q1 => ?_)
  have hl := par_len q1
  rw [← SlRs.length r1] at hl
  obtain ⟨v, u, rfl⟩ : ∃ v u, vs = [v, u] := by
    match vs, hl with
    | [v, u], _ => exact ⟨v, u, rfl⟩
  exact ⟨v, u, rfl, par_fin st k1 s1 r1 q1 w1 (Keep.refl _) s1⟩
theorem ds_par3 {i j l : Nat} {x y z : Str} {a b c : Expr} {f : Ev → M (List Sl)} {px py pz pt pos : Pos} {kt k2 pt2} (hc : X.calm = true) (hN : X.N.Nodup) (hi : X.N[i]? = some x) (hj : X.N[j]? = some y) (hl' : X.N[l]? = some z) (hij : i ≠ j) (hil : i ≠ l) (hjl : j ≠ l)
    (hx : X.env.scope.names.lookup x = some .local) (hy : X.env.scope.names.lookup y = some .local) (hz : X.env.scope.names.lookup z = some .local) (ha : DXs g w0.N Wx X [a, b, c] f)
    (hw : swappedStores [.Tuple [.Name x px, .Name y py, .Name z pz] kt pt] (.Tuple [a, b, c] k2 pt2) X.env = pure (some [x, y, z])) :
    DS g Wx w0 X (.Assign [.Tuple [.Name x px, .Name y py, .Name z pz] kt pt] (.Tuple [a, b, c] k2 pt2) pos) (parM [i, j, l] f) := by
  refine PS.imp (ps_par3 hc hN hi hj hl' hij hil hjl hx hy hz ha hw rfl) fun E σ H ⟨w, env, S, ee, st, q⟩ => ?_
  subst ee
  refine tr_intro st.er st.sr (pst_of st q fun w1 ss S1 vs e k1 s1 r1 q1 => ?_)
  have hl := par_len q1
  rw [← SlRs.length r1] at hl
  obtain ⟨v, u, t, rfl⟩ : ∃ v u t, vs = [v, u, t] := by
    match vs, hl with
    | [v, u, t], _ => exact ⟨v, u, t, rfl⟩
  exact ⟨v, u, t, rfl, par_fin st k1 s1 r1 q1 w1 (Keep.refl _) s1⟩
/-- names, one after another -/
def gNames : List Nat → TGs := fun is vs σ H Q => vs.length = is.length ∧ Q (setsV is vs σ) H
theorem pgs_names {X : Cx} : ∀ {xs : List (Str × Pos)} {is : List Nat}, (∀ p ∈ (xs.zip is), PG X (.Name p.1.1 p.1.2) (gName p.2)) → xs.length = is.length → PGs X (xs.map fun p => Expr.Name p.1 p.2) (gNames is)
  | [], [], _, _ => PGs.imp pgs_nil fun vs σ H Q ⟨h1, h2⟩ => by
    have e : vs = [] := List.eq_nil_of_length_eq_zero h1
    subst e
    exact ⟨rfl, h2⟩
  | x :: xs, i :: is, h, hl => by
    refine PGs.imp (pgs_cons (h (x, i) (by simp)) (pgs_names (xs := xs) (is := is) (fun p hp => h p (by simp [hp])) (by simpa using hl)) rfl) fun vs σ H Q ⟨h1, h2⟩ => ?_
    cases vs with
    | nil => cases h1
    | cons v vs => exact ⟨v, vs, rfl, by simpa using h1, h2⟩
  | [], _ :: _, _, hl => by cases hl
  | _ :: _, [], _, hl => by cases hl
/-- a, b, .. = x, y, .. by a tuple that is dropped -/
theorem ds_parT {xs : List (Str × Pos)} {is : List Nat} {es : List Expr} {f : Ev → M (List Sl)} {pt pos : Pos} {kt k2 pt2} (hc : X.calm = true) (hg : ∀ p ∈ (xs.zip is), PG X (.Name p.1.1 p.1.2) (gName p.2)) (hl : xs.length = is.length) (hz : is.length ≤ 100) (ha : DXs g w0.N Wx X es f)
    (hn : (assignEach (xs.map fun p => Expr.Name p.1 p.2) X.env).length = is.length) (hst : (assignEach (xs.map fun p => Expr.Name p.1 p.2) X.env).findIdx? (·.1) = none)
    (hw : swappedStores [.Tuple (xs.map fun p => Expr.Name p.1 p.2) kt pt] (.Tuple es k2 pt2) X.env = pure none) :
    DS g Wx w0 X (.Assign [.Tuple (xs.map fun p => Expr.Name p.1 p.2) kt pt] (.Tuple es k2 pt2) pos) (parM is f) := by
  refine PS.imp (ps_asg (pe_tup ha) (pg_tup hc (pgs_names hg hl) hn hst) rfl hw rfl) fun E σ H ⟨w, env, S, ee, st, q⟩ => ?_
  subst ee
  refine tr_intro st.er st.sr (pst_of st q fun w1 ss S1 vs e k1 s1 r1 q1 => ?_)
  have hl := par_len q1
  rw [← SlRs.length r1] at hl
  refine ⟨by rw [sizeLine_eq]; omega, fun p hp => ⟨p, vs, rfl, .inl (.inl upd_same), hl, hl, ?_⟩⟩
  exact par_fin st k1 s1 r1 q1 ⟨upd w1.H p (.tup vs), w1.N, w1.m⟩ (keep_new hp) (s1.new hp)
end
end Pc

set_option Elab.async false
set_option linter.all false
set_option autoImplicit false
set_option maxRecDepth 100000
set_option maxHeartbeats 4000000
/-! Pc, part N: stores at a place, moves, sorted, reversed slices, -x, xs * n. -/
namespace Pc
open PySem PySem.Spec PyProof.Rows L2
section
variable {g : Gc} {Wx : WX} {w0 : Wd} {X : Cx} {N0 : List Addr}
/-! ### x[i] = e -/
def putI (xs : List D) (j d : D) : Option (List D) := match j with
  | .int k => (ixN xs.length k).map fun n => xs.set n d
  | _ => none
def ownX (i : Nat) (env : Ev) : Option (List D) := match env[i]? with
  | some (.own xs) => some xs
  | _ => none
theorem ownX_eq {i : Nat} {env : Ev} {xs : List D} (h : ownX i env = some xs) : env[i]? = some (.own xs) := by
  unfold ownX at h
  split at h
  · cases h; assumption
  · cases h
def setO (i : Nat) (env : Ev) : Option (List D) → M Out
  | some ys => pure (.nx (env.set i (.own ys)))
  | none => fail
def subOM (i : Nat) (fi fe : Ev → M D) : Ev → M Out := fun env => do
  let d ← fe env
  let xs ← ofO (ownX i env)
  let j ← fi env
  setO i env (putI xs j d)
theorem asg_sub {o ie : Expr} {env : Env} {pos : Pos} (h : noSlice ie = true) : ∀ v, assign (.Subscript o ie pos) env v = (do
      let ov ← holding [v] (eval o env)
      let iv ← holding [v, ov] (eval ie env)
      standAt pos
      holding [v, ov, iv] (setItem ov iv v)
      release [v, ov, iv] []) := fun v => by cases ie <;> first | rfl | cases h
theorem sole_sub {o ie e : Expr} {p : Pos} {l : Nat} {env : Env} (h : notComp e = true) : swapsWithSole [.Subscript o ie p] e l env = pure false := by
  unfold swapsWithSole
  exact swaps_no h
theorem stores_sub {o ie e : Expr} {p : Pos} {env : Env} : swappedStores [.Subscript o ie p] e env = pure none := by cases e <;> rfl
theorem putI_ok {w : Wd} {vs : List V} {xs ys : List D} {v : V} {j d : D} (r : RepL g w vs xs) (rv : Rep g w v d) (h : putI xs j d = some ys) : ∃ k n, j = .int k ∧ ixN vs.length k = some n ∧ RepL g w (vs.set n v) ys := by
  unfold putI at h
  cases j with
  | int k =>
    simp only at h
    cases e : ixN xs.length k with
    | none => rw [e] at h; cases h
    | some n =>
      rw [e] at h
      cases h
      exact ⟨k, n, rfl, by rw [r.length]; exact e, RepL.set rv n r⟩
  | _ => cases h
theorem ofO_bind {α β : Type} {o : Option α} {k : α → M β} {S : Store} : (ofO o >>= k) S = match o with
    | some a => k a S
    | none => .bad := by cases o <;> rfl
theorem ds_subO {i : Nat} {x : Str} {p p1 pos : Pos} {ie e : Expr} {fi fe : Ev → M D} (hv : PE X (.Name x p) (tVar i)) (hs : noSlice ie = true) (hc : notComp e = true) (he : DE g w0.N Wx X e fe) (hi : DE g w0.N Wx X ie fi) :
    DS g Wx w0 X (.Assign [.Subscript (.Name x p) ie p1] e pos) (subOM i fi fe) := by
  refine PS.imp (ps_asg he (pg_sub hv hi set_list (asg_sub hs)) (sole_sub hc) stores_sub rfl) fun E σ H ⟨w, env, S, ee, st, q⟩ => ?_
  subst ee
  refine tr_intro st.er st.sr (pst_of st q fun w1 d S1 v e k1 s1 r1 q1 => ?_)
  have st1 := st.step k1 s1
  rw [ofO_bind] at q1
  cases eo : ownX i env with
  | none => rw [eo] at q1; exact q1.elim
  | some xs =>
    rw [eo] at q1
    simp only at q1
    have ho := ownX_eq eo
    obtain ⟨a, vs, h1, h2, h3, h4, h5, h6⟩ := st1.er.own i xs ho
    refine ⟨_, h1, tr_intro st1.er st1.sr (pst_of st1 q1 fun w2 j S2 jv e2 k2 s2 r2 q2 => ?_)⟩
    have st2 := st1.step k2 s2
    obtain ⟨a', vs', g1, g2, g3, g4, g5, g6⟩ := st2.er.own i xs ho
    rw [h1] at g1
    cases g1
    cases ep : putI xs j d with
    | none => rw [ep] at q2; exact q2.elim
    | some ys =>
      rw [ep] at q2
      obtain ⟨k, n, rfl, hn, rn⟩ := putI_ok g6 (r1.mono k2.toMono) ep
      cases r2
      refine ⟨a, vs', k, n, rfl, rfl, g2, hn, ?_⟩
      obtain ⟨mo, st3⟩ := st2.chg ho h1 g2 g3 g4 g5 rn
      exact q2 ⟨upd w2.H a (.lst (vs'.set n v)), w2.N, w2.m⟩ σ mo st3
/-- the list behind a handle -/
def putH (x j d : D) : M Unit := fun S => match x with
  | .obj h => (match S[h]? with
    | some (.lst xs) => (match putI xs j d with
      | some ys => .ok () (S.set h (.lst ys))
      | none => .bad)
    | _ => .bad)
  | _ => .bad
theorem putH_ok {x j d : D} {S : Store} : putH x j d S = .bad ∨ ∃ h xs ys, x = .obj h ∧ S[h]? = some (.lst xs) ∧ putI xs j d = some ys ∧ putH x j d S = .ok () (S.set h (.lst ys)) := by
  cases x with
  | obj h =>
    simp only [putH]
    cases e : S[h]? with
    | none => exact .inl rfl
    | some ob =>
      cases ob with
      | lst xs =>
        simp only
        cases e2 : putI xs j d with
        | none => exact .inl rfl
        | some ys => exact .inr ⟨h, xs, ys, rfl, e, e2, rfl⟩
      | dct _ => exact .inl rfl
      | ins _ _ => exact .inl rfl
  | _ => exact .inl rfl
def subHM (fo fi fe : Ev → M D) : Ev → M Out := fun env => do
  let d ← fe env
  let x ← fo env
  let j ← fi env
  let _ ← putH x j d
  pure (.nx env)
theorem ds_subH {p1 pos : Pos} {o ie e : Expr} {fo fi fe : Ev → M D} (hs : noSlice ie = true) (hc : notComp e = true) (he : DE g w0.N Wx X e fe) (ho : DE g w0.N Wx X o fo) (hi : DE g w0.N Wx X ie fi) :
    DS g Wx w0 X (.Assign [.Subscript o ie p1] e pos) (subHM fo fi fe) := by
  refine PS.imp (ps_asg he (pg_sub ho hi set_list (asg_sub hs)) (sole_sub hc) stores_sub rfl) fun E σ H ⟨w, env, S, ee, st, q⟩ => ?_
  subst ee
  refine tr_intro st.er st.sr (pst_of st q fun w1 d S1 v e k1 s1 r1 q1 => ?_)
  have st1 := st.step k1 s1
  refine tr_intro st1.er st1.sr (pst_of st1 q1 fun w2 x S2 xv e2 k2 s2 r2 q2 => ?_)
  have st2 := st1.step k2 s2
  refine tr_intro st2.er st2.sr (pst_of st2 q2 fun w3 j S3 jv e3 k3 s3 r3 q3 => ?_)
  have st3 := st2.step k3 s3
  rcases putH_ok (x := x) (j := j) (d := d) (S := S3) with e | ⟨h, xs, ys, rfl, hx, hp, e⟩
  · rw [bind_bad e] at q3; exact q3.elim
  · rw [bind_ok e] at q3
    obtain ⟨a, rfl, hm⟩ := rep_obj (r2.mono k3.toMono)
    obtain ⟨b, f3, vs, f4, f5⟩ := s3.at_ h _ hx
    rw [hm] at f3
    cases f3
    obtain ⟨k, n, rfl, hn, rn⟩ := putI_ok f5 (r1.mono (k2.trans k3).toMono) hp
    cases r3
    obtain ⟨kk, ss⟩ := hnd_step (xs := xs) s3 hm f4 rn
    exact ⟨a, vs, k, n, rfl, rfl, f4, hn, q3 ⟨upd w3.H a (.lst (vs.set n v)), w3.N, w3.m⟩ σ kk.toMono (st3.step kk ss)⟩

/-! ### a slot's own list is frozen, is moved -/
def frzE (i : Nat) (env : Ev) : Ev := match env[i]? with
  | some (.own xs) => env.set i (.val (.lst xs))
  | some (.owd xs) => env.set i (.val (.dct xs))
  | _ => env
theorem filter_ne {N : List Addr} {a : Addr} : (∀ b ∈ N.filter (fun b => decide (b ≠ a)), b ∈ N) ∧ a ∉ N.filter (fun b => decide (b ≠ a)) ∧ ∀ b, b ≠ a → b ∈ N → b ∈ N.filter (fun b => decide (b ≠ a)) :=
  ⟨fun b hb => (List.mem_filter.mp hb).1, fun hb => absurd rfl (of_decide_eq_true (List.mem_filter.mp hb).2), fun b n hb => List.mem_filter.mpr ⟨hb, decide_eq_true n⟩⟩
/-- the other slots, where a slot's address is nobody's no more -/
theorem ER.less {w : Wd} {env : Ev} {σ : L2.St} {i : Nat} {a : Addr} (e : ER g N0 w env σ) (oi : ownAt env i) (hv : σ[i]? = some (some (.ref a))) : ER g N0 ⟨w.H, w.N.filter (fun b => decide (b ≠ a)), w.m⟩ (env.set i .no) σ := by
  obtain ⟨sub, out, inn⟩ := filter_ne (N := w.N) (a := a)
  have mo := mono_less (w := w) sub
  have hl : i < env.length := by
    obtain ⟨s, h, _⟩ := oi
    exact (List.getElem?_eq_some_iff.mp h).1
  have ne : ∀ (j : Nat) (s : Sl), (env.set i .no)[j]? = some s → s ≠ .no → i ≠ j ∧ env[j]? = some s := fun j s h hs => by
    by_cases q : i = j
    · subst q
      rw [List.getElem?_set_self hl] at h; cases h; exact absurd rfl hs
    · rw [List.getElem?_set_ne q] at h; exact ⟨q, h⟩
  have dif : ∀ j b, i ≠ j → ownAt env j → σ[j]? = some (some (.ref b)) → b ≠ a := fun j b hj oj hb z => by
    subst z
    exact e.ap i j hj oi oj (by rw [hv, hb])
  refine ⟨by simpa using e.len, fun j d h => ?_, fun j xs h => ?_, fun j xs h => ?_, fun j k hjk h1 h2 => ?_⟩
  · obtain ⟨_, z⟩ := ne j _ h (fun q => by cases q)
    obtain ⟨v, h1, h2⟩ := e.val j d z
    exact ⟨v, h1, h2.mono mo⟩
  · obtain ⟨q, z⟩ := ne j _ h (fun q => by cases q)
    obtain ⟨b, vs, h1, h2, h3, h4, h5, h6⟩ := e.own j xs z
    exact ⟨b, vs, h1, h2, inn b (dif j b q ⟨_, z, rfl⟩ h1) h3, h4, h5, h6.mono mo⟩
  · obtain ⟨q, z⟩ := ne j _ h (fun q => by cases q)
    obtain ⟨b, vs, h1, h2, h3, h4, h5, h6⟩ := e.owd j xs z
    exact ⟨b, vs, h1, h2, inn b (dif j b q ⟨_, z, rfl⟩ h1) h3, h4, h5, h6.mono mo⟩
  · obtain ⟨s1, e1, o1⟩ := h1
    obtain ⟨s2, e2, o2⟩ := h2
    obtain ⟨_, z1⟩ := ne j _ e1 (fun q => by subst q; cases o1)
    obtain ⟨_, z2⟩ := ne k _ e2 (fun q => by subst q; cases o2)
    exact e.ap j k hjk ⟨s1, z1, o1⟩ ⟨s2, z2, o2⟩
theorem set_same {σ : L2.St} {i : Nat} {v : Option V} (h : σ[i]? = some v) : σ.set i v = σ := by
  apply List.ext_getElem?
  intro j
  by_cases q : i = j
  · subst q
    rw [List.getElem?_set_self ((List.getElem?_eq_some_iff.mp h).1), h]
  · rw [List.getElem?_set_ne q]
theorem StR.frz {w : Wd} {env : Ev} {S : Store} {σ : L2.St} (st : StR g w0 w env S σ) (i : Nat) : ∃ w', w'.H = w.H ∧ Mono w w' ∧ StR g w0 w' (frzE i env) S σ := by
  unfold frzE
  cases hd : env[i]? with
  | none => exact ⟨w, rfl, Mono.refl w, st⟩
  | some sl =>
    cases sl with
    | no => exact ⟨w, rfl, Mono.refl w, st⟩
    | val d => exact ⟨w, rfl, Mono.refl w, st⟩
    | own xs =>
      obtain ⟨a, vs, h1, h2, h3, h4, h5, h6⟩ := st.er.own i xs hd
      obtain ⟨sub, out, inn⟩ := filter_ne (N := w.N) (a := a)
      have mo := mono_less (w := w) sub
      refine ⟨⟨w.H, w.N.filter (fun b => decide (b ≠ a)), w.m⟩, rfl, mo, ?_, st.sr.less sub fun b hb => inn b (fun e => h4 (by rw [← e]; exact hb)) (st.sr.sub b hb), keep_less st.kp sub fun b hb => inn b (fun e => h5 (by rw [← e]; exact hb)) (st.kp.sub b hb)⟩
      have e := (st.er.less ⟨_, hd, rfl⟩ h1).set_val (i := i) (v := .ref a) (d := .lst xs) (.lst (.inl h2) out (h6.mono mo))
      rw [List.set_set, set_same h1] at e
      exact e
    | owd xs =>
      obtain ⟨a, vs, h1, h2, h3, h4, h5, h6⟩ := st.er.owd i xs hd
      obtain ⟨sub, out, inn⟩ := filter_ne (N := w.N) (a := a)
      have mo := mono_less (w := w) sub
      refine ⟨⟨w.H, w.N.filter (fun b => decide (b ≠ a)), w.m⟩, rfl, mo, ?_, st.sr.less sub fun b hb => inn b (fun e => h4 (by rw [← e]; exact hb)) (st.sr.sub b hb), keep_less st.kp sub fun b hb => inn b (fun e => h5 (by rw [← e]; exact hb)) (st.kp.sub b hb)⟩
      have e := (st.er.less ⟨_, hd, rfl⟩ h1).set_val (i := i) (v := .ref a) (d := .dct xs) (.dct h2 out (h6.mono mo))
      rw [List.set_set, set_same h1] at e
      exact e
theorem ds_frz {s : Stmt} {f : Ev → M Out} (i : Nat) (h : DS g Wx w0 X s f) : DS g Wx w0 X s (fun env => f (frzE i env)) := by
  refine PS.imp h fun E σ H ⟨w, env, S, ee, st, q⟩ => ?_
  obtain ⟨w', e, k, st'⟩ := st.frz i
  exact ⟨w', frzE i env, S, by rw [e, ee], st', pstS_rebase k q⟩
/-- y = x: the own list of x is y's -/
def mvM (i j : Nat) : Ev → M Out := fun env => match ownX i env with
  | some xs => pure (.nx ((env.set i .no).set j (.own xs)))
  | none => fail
theorem ds_mv {i j : Nat} {x y : Str} {p p1 pos : Pos} (hN : X.N.Nodup) (hv : PE X (.Name x p) (tVar i)) (hj : X.N[j]? = some y) (hy : Loc X.env.scope y) (hf : X.fn y = true) : DS g Wx w0 X (.Assign [.Name y p1] (.Name x p) pos) (mvM i j) := by
  refine PS.imp (ps_set hN hj hy hv (swaps_no rfl) (.inl hf)) fun E σ H ⟨w, env, S, ee, st, q⟩ => ?_
  subst ee
  unfold mvM at q
  cases eo : ownX i env with
  | none => rw [eo] at q; exact q.elim
  | some xs =>
    rw [eo] at q
    have hd := ownX_eq eo
    obtain ⟨a, vs, h1, h2, h3, h4, h5, h6⟩ := st.er.own i xs hd
    refine ⟨_, h1, q w _ (Mono.refl w) ⟨?_, st.sr, st.kp⟩⟩
    have e1 := st.er.set_no (i := i) (z := some (.ref a))
    rw [set_same h1] at e1
    refine e1.set_sl ⟨a, vs, rfl, h2, h3, h4, h6⟩ fun _ => ⟨fun b eb => by cases eb; exact h5, fun k ok z => ?_⟩
    obtain ⟨s, es, os⟩ := ok
    by_cases q2 : i = k
    · subst q2
      rw [List.getElem?_set_self ((List.getElem?_eq_some_iff.mp hd).1)] at es
      cases es
      cases os
    · rw [List.getElem?_set_ne q2] at es
      exact st.er.ap i k q2 ⟨_, hd, rfl⟩ ⟨s, es, os⟩ (by rw [h1, z])
/-! ### a, b = e -/
def notTup : Expr → Bool
  | .Tuple _ _ _ => false
  | _ => true
theorem stores_tup {ts : List Expr} {k : Nat} {p : Pos} {e : Expr} {env : Env} (h : notTup e = true) : swappedStores [.Tuple ts k p] e env = pure none := by cases e <;> first | rfl | cases h
theorem sole_tup {ts : List Expr} {k : Nat} {p : Pos} {e : Expr} {l : Nat} {env : Env} : swapsWithSole [.Tuple ts k p] e l env = pure false := by
  unfold swapsWithSole
  cases e <;> rfl
def unpM (fg : D → Ev → Option Ev) (f : Ev → M D) : Ev → M Out := fun env => do
  let d ← f env
  let e ← ofO (fg d env)
  pure (.nx e)
theorem ds_unp {ts : List Expr} {k : Nat} {p pos : Pos} {e : Expr} {us : List Nat} {fg : D → Ev → Option Ev} {f : Ev → M D} (hn : notTup e = true) (he : DE g w0.N Wx X e f) (hg : DG g w0.N X (.Tuple ts k p) us fg) : DS g Wx w0 X (.Assign [.Tuple ts k p] e pos) (unpM fg f) := by
  refine PS.imp (ps_asg he hg sole_tup (stores_tup hn) rfl) fun E σ H ⟨w, env, S, ee, st, q⟩ => ?_
  subst ee
  refine tr_intro st.er st.sr (pst_of st q fun w1 d S1 v e k1 s1 r1 q1 => ?_)
  have st1 := st.step k1 s1
  rw [ofO_bind] at q1
  cases eo : fg d env with
  | none => rw [eo] at q1; exact q1.elim
  | some env' =>
    rw [eo] at q1
    exact ⟨w1, env, S1, d, env', rfl, st1.er, s1, r1, eo, fun σ' er' _ _ => q1 w1 σ' (Mono.refl _) ⟨er', s1, st1.kp⟩⟩
/-- x = [.. for ..], x a plain local -/
theorem ds_setC {i : Nat} {y : Str} {py pos spos : Pos} {elt tg iter : Expr} {ifs : List Expr} {scope : Scope} {f : Ev → M Sl} (h : PS X (.Assign [.Name y py] (.ListComp elt [⟨tg, iter, ifs, 0⟩] scope pos) spos) (tAsg (tr g w0.N Wx (rlX g) f) (gName i))) :
    DS g Wx w0 X (.Assign [.Name y py] (.ListComp elt [⟨tg, iter, ifs, 0⟩] scope pos) spos) (setM i f) := by
  refine PS.imp h fun E σ H ⟨w, env, S, ee, st, q⟩ => ?_
  subst ee
  refine tr_intro st.er st.sr (pst_of st q fun w1 s S1 y e k1 s1 r1 q1 => ?_)
  exact q1 w1 _ (Mono.refl w1) ⟨st.er.set_new st.kp.sub k1 r1, s1, st.kp.trans k1⟩
/-! ### -x -/
def negD : D → Option D
  | .int i => some (.int (-i))
  | _ => none
theorem de_neg {a : Expr} {fa : Ev → M D} {pos : Pos} (h : DE g N0 Wx X a fa) : DE g N0 Wx X (.UnaryOp .USub a pos) (fun env => do let x ← fa env; ofO (negD x)) := by
  refine PE.imp (pe_un un_neg h) fun σ H Q ⟨w, env, S, e, er, sr, q⟩ => ?_
  subst e
  refine tr_intro er sr (pst_imp (pst_bind (relA := rl g) (fun _ _ _ _ _ z => z) q) fun x H1 ⟨w1, d, S1, e1, k1, s1, r1, q1⟩ => ?_)
  subst e1
  cases d with
  | int z => cases r1; exact ⟨z, rfl, q1 w1 _ (Keep.refl _) s1 (.int _)⟩
  | _ => exact q1.elim
/-! ### [..] * n -/
def repD (xs : List D) : D → Option (List D)
  | .int k => if k < 2 ^ 63 ∧ -(2 ^ 63) ≤ k ∧ xs.length * k.toNat ≤ sizeLine then some (List.replicate k.toNat xs).flatten else none
  | _ => none
theorem RepL.rep {w : Wd} {vs : List V} {ds : List D} (h : RepL g w vs ds) : ∀ n : Nat, RepL g w (List.replicate n vs).flatten (List.replicate n ds).flatten
  | 0 => .nil
  | n + 1 => by
    rw [List.replicate_succ, List.replicate_succ, List.flatten_cons, List.flatten_cons]
    exact h.append (RepL.rep h n)
theorem dl_rep {a b : Expr} {fa : Ev → M (List D)} {fb : Ev → M D} {pos : Pos} (ha : DL g N0 Wx X a fa) (hb : DE g N0 Wx X b fb) : DL g N0 Wx X (.BinOp a .Mult b pos) (fun env => do let xs ← fa env; let y ← fb env; ofO (repD xs y)) := by
  refine PE.imp (pe_op op_rep ha hb) fun σ H Q ⟨w, env, S, e, er, sr, q⟩ => ?_
  subst e
  refine tr_intro er sr ?_
  have q' : Pst g Wx σ (NewL g) w ((fa env >>= fun xs => fb env >>= fun y => ofO (repD xs y)) S) Q := q
  cases e : fa env S with
  | bad => rw [bind_bad e] at q'; exact q'
  | ex c fs S1 => rw [bind_ex e] at q'; exact q'
  | ok xs S1 =>
    rw [bind_ok e] at q'
    intro w1 v k1 s1 n1
    refine tr_intro (er.keep k1) s1 ?_
    cases e2 : fb env S1 with
    | bad => rw [bind_bad e2] at q'; exact q'
    | ex c fs S2 => rw [bind_ex e2] at q'; exact fun w' cls dd k s z => q' w' cls dd (k1.trans k) s z
    | ok y S2 =>
      rw [bind_ok e2] at q'
      intro w2 u k2 s2 r2
      obtain ⟨p, vs, rfl, h2, h3, h4, h5, h6⟩ := n1
      have h2' := k2.kp p _ h2 h4
      cases eo : repD xs y with
      | none => rw [eo] at q'; exact q'.elim
      | some ys =>
        rw [eo] at q'
        unfold repD at eo
        split at eo
        · split at eo
          · rename_i k hk
            cases eo
            cases r2
            refine ⟨p, k, vs, rfl, rfl, h2', hk.2.1, hk.1, by rw [h6.length]; exact hk.2.2, fun l hl => ?_⟩
            exact q' ⟨upd w2.H l _, l :: w2.N, w2.m⟩ _ ((k1.trans k2).trans (keep_newN hl)) (s2.newN hl) ((new_l s2 hl ((h6.mono k2.toMono).rep k.toNat)).base (k1.trans k2))
          · cases eo
        · cases eo
end
end Pc

set_option Elab.async false
set_option linter.all false
set_option autoImplicit false
set_option maxRecDepth 100000
set_option maxHeartbeats 4000000
/-! Pc, part O: sorted, reversed slices. -/
namespace Pc
open PySem PySem.Spec PyProof.Rows L2
section
variable {prog : Program} {w : World} {A : Around} {E : Value → Shared → Prop} {s : Shared}
theorem slice_back {sl : Addr} {vs : Value} {n : Nat} {Q : Int × Int × Nat → Shared → Prop} (hs : s.heap.IsSliceOf sl .none .none vs) (ps : IsPart vs (some (-1)))
    (h : Q ((n : Int) - 1, -1, n) s) : wpAny (model prog w) A (Builtin.Slice.sliceApplied (.ref sl) (pure (n : Int))) Q E s := by
  obtain ⟨os, hos, hcs, hds⟩ := id hs
  unfold Builtin.Slice.sliceApplied Builtin.Slice.sliceFields
  refine wpAny_bind (wpAny_bind (wpAny_field hos hds (x := .none) rfl (wpAny_bind (wpAny_field hos hds (x := .none) rfl (wpAny_bind (wpAny_field hos hds (x := vs) rfl (wpAny_pure ?_)))))))
  refine wpAny_bind (HT.slicePart_ ps ?_)
  show wpAny _ _ (if ((-1 : Int) == 0) = true then _ else _) _ _ s
  rw [if_neg (by decide)]
  refine wpAny_bind (HT.slicePart_ .none (wpAny_bind (HT.slicePart_ .none (wpAny_bind (wpAny_pure ?_)))))
  have e : Builtin.Slice.slicePlaces ((n : Int) - 1) (-1) (-1) = n := by
    unfold Builtin.Slice.slicePlaces
    have h1 : ¬ ((-1 : Int) > 0) := by decide
    simp only [h1, if_false]
    by_cases hn : (n : Int) - 1 > -1
    · simp only [hn, if_true]
      rw [show (-(-1) : Int) = 1 by decide, Int.ediv_one]
      omega
    · simp only [hn, if_false]
      omega
  show wpAny _ _ (pure ((n : Int) - 1, (-1 : Int), Builtin.Slice.slicePlaces ((n : Int) - 1) (-1) (-1))) _ _ s
  rw [e]
  exact wpAny_pure h
theorem fm_congr {α β : Type} {f g : α → Option β} : ∀ {l : List α}, (∀ x ∈ l, f x = g x) → l.filterMap f = l.filterMap g
  | [], _ => rfl
  | x :: l, h => by
    rw [List.filterMap_cons, List.filterMap_cons, h x List.mem_cons_self, fm_congr (l := l) fun y hy => h y (List.mem_cons_of_mem _ hy)]
theorem pick_back (xs : Array Value) : ((List.range xs.size).filterMap fun (m : Nat) => xs[((xs.size : Int) - 1 + (m : Int) * -1).toNat]?).toArray = xs.toList.reverse.toArray := by
  have e : (List.range xs.size).filterMap (fun (m : Nat) => xs[((xs.size : Int) - 1 + (m : Int) * -1).toNat]?) = ((List.range xs.size).map fun k => xs.size - 1 - k).filterMap (xs[·]?) := by
    rw [List.filterMap_map]
    refine fm_congr fun m hm => ?_
    have := List.mem_range.mp hm
    have : ((xs.size : Int) - 1 + (m : Int) * -1).toNat = xs.size - 1 - m := by omega
    simp only [Function.comp]
    rw [this]
  rw [e, PySem.W.krv_range, List.filterMap_reverse, PySem.W.krv_all]
theorem getItem_tuple_back {t sl : Addr} {items : Array Value} {vs : Value} {Q : Value → Shared → Prop} (ht : IsTup s.heap t items) (hs : s.heap.IsSliceOf sl .none .none vs) (ps : IsPart vs (some (-1)))
    (h : Q (.ref s.heap.objs.size) { s with heap := s.heap.push { cls := .type "tuple", data := .seq items.toList.reverse.toArray } })
    (hsz : items.size ≤ sizeLine) : wpAny (model prog w) A (getItem (.ref t) (.ref sl)) Q E s := by
  have htake : sizeOk (.seq items.toList.reverse.toArray) := by
    show items.toList.reverse.toArray.size ≤ sizeLine
    simpa using hsz
  obtain ⟨os, hos, hcs, hds⟩ := id hs
  have hTs : s.TypeIs (.ref sl) "slice" := ⟨os, hos, hcs⟩
  unfold getItem
  try with_reducible refine wpAny_holding ?_
  first | refine wpAny_bind (wpAny_pure ?_) | skip
  refine wpAny_bind (wpAny_sequenceKey ht.typeIs (by decide) ?_)
  refine wpAny_bind (wpAny_callSpecial?_slot (name := Str.ofString "__getitem__") ht.typeIs PyProof.Rows.slot_tuple_getitem
    (wpAny_call_entry PyProof.Rows.slot_tuple_getitem ht.typeIs entry_tuple_getitem ?_ (args_tuple_getitem _ _)))
  show wpAny _ _ (Builtin.Tuple.tupleItemsOf (.ref t) >>= _) _ _ s
  refine wpAny_bind (tupleItemsOf_ ht ?_)
  refine wpAny_bind (wpAny_typeOf hTs ?_)
  rw [if_pos (by decide)]
  refine wpAny_bind (slice_back hs ps ?_)
  have hno : ¬ ((((items.size : Int) - 1) == 0 && (-1 : Int) == 1 && items.size == items.size) = true) := by
    intro q
    rw [Bool.and_eq_true, Bool.and_eq_true] at q
    exact absurd q.1.2 (by decide)
  show wpAny _ _ (if (((items.size : Int) - 1) == 0 && (-1 : Int) == 1 && items.size == items.size) = true then _ else _) _ _ s
  rw [if_neg hno, pick_back]
  first
    | exact wpAny_bind (m := Builtin.Tuple.tupleExact _) (wpAny_newObj_type (wpAny_pure ⟨_, rfl, wpAny_pure h⟩) htake)
    | exact wpAny_bind (m := Builtin.Tuple.tupleExact _) (wpAny_newObj_type (wpAny_bind (wpAny_pure (wpAny_pure ⟨_, rfl, wpAny_pure h⟩))) htake)
    | exact wpAny_bind (wpAny_bind (m := Builtin.Tuple.tupleExact _) (wpAny_newObj_type (wpAny_pure (wpAny_pure ⟨_, rfl, wpAny_pure h⟩)) htake))
    | exact wpAny_bind (wpAny_bind (m := Builtin.Tuple.tupleExact _) (wpAny_newObj_type (wpAny_pure ⟨_, rfl, wpAny_pure h⟩) htake))
end
section
variable {g : Gc} {Wx : WX} {w0 : Wd} {X : Cx} {N0 : List Addr}
def tRevT (K : PySem.W.Frag) (te : TE) : TE := fun σ H Q => te σ H fun x H1 => ∃ a xs, x = .ref a ∧ SqT K H1 a xs ∧ ∀ p, H1 p = none → Q (.ref p) (upd H1 p (.tup xs.reverse))
theorem pe_revT {e : Expr} {te : TE} {k : Nat} {p1 p2 p3 pos : Pos} (he : PE X e te) : PE X (.Subscript e (.Slice none none (some (.UnaryOp .USub (.Constant (.int 1) k p1) p2)) p3) pos) (tRevT X.K te) := by
  refine ⟨fun pins s σ H Q I h => ?_⟩
  refine Subscript_ (thn (he.run pins s σ H _ I h) fun v s1 ⟨x, H1, I1, r1, q1⟩ => ?_)
  obtain ⟨a, xs, ex, hx, q⟩ := q1
  subst ex
  cases r1
  have hst : PO X (some (.UnaryOp .USub (.Constant (.int 1) k p1) p2)) (tPart (tUn (rU fun i => .int (-i)) (tC (.int 1)))) := po_some (pe_un un_neg pe_int)
  refine wpAny_Slice (thn (po_none.run pins s1 σ H1 (fun o H2 => o = none ∧ H2 = H1) I1 ⟨rfl, rfl⟩) fun vl s2 ⟨l, H2, I2, pl, el, e2⟩ => ?_)
  subst el e2
  refine thn (po_none.run pins s2 σ H2 (fun o H3 => o = none ∧ H3 = H2) I2 ⟨rfl, rfl⟩) fun vu s3 ⟨u, H3, I3, pu, eu, e3⟩ => ?_
  subst eu e3
  refine thn (hst.run pins s3 σ H3 (fun o H4 => o = some (-1) ∧ H4 = H3) I3 ⟨1, rfl, -1, rfl, rfl, rfl⟩) fun vs s4 ⟨o, H4, I4, ps, eo, e4⟩ => ?_
  subst eo e4
  cases pl
  cases pu
  have I5 : Inv X pins σ H4 { s4 with heap := s4.heap.push { cls := .type "slice", data := .fields #[.none, .none, vs] } } := I4.kept (t' := s4.toks) fun b ob q => Heap.get?_push_of_some _ q
  obtain ⟨its, r, ht, hz⟩ := I5.tuple hx
  have hlen := r.length
  show wpAny (model X.prog X.w) X.A (subscriptTail e (.Slice none none (some (.UnaryOp .USub (.Constant (.int 1) k p1) p2)) p3) (.ref a) (.ref s4.heap.objs.size)) (EP X pins σ Q) X.xe { s4 with heap := s4.heap.push { cls := .type "slice", data := .fields #[.none, .none, vs] } }
  refine tail_any (ops := [.ref a, .ref s4.heap.objs.size]) ht.typeIs (PyProof.Rows.slot_tuple_getitem.lookup) ?_ (by with_unfolding_all rfl)
  refine getItem_tuple_back ht (Heap.IsSliceOf.new _ .none .none vs) ps ?_ (by rw [List.size_toArray]; omega)
  refine ⟨.ref _, _, I5.laid (t' := s4.toks) (o := .tup xs.reverse) (fun b ob q => Heap.get?_push_of_some _ q) (Nat.le_refl _) ?_, rfl, q _ (I5.hok.fresh (Nat.le_refl _))⟩
  exact ⟨by rw [List.length_reverse]; exact hz, _, r.reverse, IsTup.new _ _⟩
theorem PE.or {e : Expr} {t u : TE} (h : PE X e t) (h' : PE X e u) : PE X e (fun σ H Q => t σ H Q ∨ u σ H Q) := ⟨fun pins s σ H Q I q => by
  rcases q with q | q
  · exact h.run pins s σ H Q I q
  · exact h'.run pins s σ H Q I q⟩
def revD : D → Option D
  | .tup xs => some (.tup xs.reverse)
  | .lst xs => some (.lst xs.reverse)
  | _ => none
def revM (x : D) : M D := fun S => ofO (revD (deref S x)) S
theorem de_revT {a : Expr} {fa : Ev → M D} {k : Nat} {p1 p2 p3 pos : Pos} (hK : X.K = g.K) (ha : DW g N0 Wx X a fa) : DE g N0 Wx X (.Subscript a (.Slice none none (some (.UnaryOp .USub (.Constant (.int 1) k p1) p2)) p3) pos) (fun env => do
    let x ← fa env
    let d ← revM x
    match d with
    | .tup xs => pure (.tup xs)
    | _ => fail) := by
  refine PE.imp (pe_revT ha) fun σ H Q ⟨w, env, S, e, er, sr, q⟩ => ?_
  subst e
  refine tr_intro er sr (pst_imp (pst_bind (relA := rlW g) (fun _ _ _ _ _ z => z) q) fun x H1 ⟨w1, d, S1, e1, k1, s1, r1, q1⟩ => ?_)
  subst e1
  have rv := r1.view s1
  cases eo : revD (deref S1 d) with
  | none =>
    have eb : revM d S1 = .bad := by unfold revM; rw [eo]; rfl
    rw [bind_bad eb] at q1
    exact q1.elim
  | some y =>
    have eb : revM d S1 = .ok y S1 := by unfold revM; rw [eo]; rfl
    rw [bind_ok eb] at q1
    generalize deref S1 d = d' at eo rv
    unfold revD at eo
    split at eo
    · cases eo
      obtain ⟨l, vs, rfl, h1, h2⟩ := rv.tup
      exact ⟨l, vs, rfl, by rw [hK]; exact h1, fun p hp => q1 ⟨upd w1.H p _, w1.N, w1.m⟩ _ (keep_new hp) (s1.new hp) (rep_newT hp h2.reverse)⟩
    · cases eo
      exact q1.elim
    · cases eo
theorem dl_revL {a : Expr} {fa : Ev → M D} {k : Nat} {p1 p2 p3 pos : Pos} (hK : X.K = g.K) (ha : DW g N0 Wx X a fa) : DL g N0 Wx X (.Subscript a (.Slice none none (some (.UnaryOp .USub (.Constant (.int 1) k p1) p2)) p3) pos) (fun env => do
    let x ← fa env
    let d ← revM x
    match d with
    | .lst xs => pure xs
    | _ => fail) := by
  refine PE.imp (pe_revL ha) fun σ H Q ⟨w, env, S, e, er, sr, q⟩ => ?_
  subst e
  refine tr_intro er sr (pst_imp (pst_bind (relA := rlW g) (fun _ _ _ _ k z => z.base k) q) fun x H1 ⟨w1, d, S1, e1, k1, s1, r1, q1⟩ => ?_)
  subst e1
  have rv := r1.view s1
  cases eo : revD (deref S1 d) with
  | none =>
    have eb : revM d S1 = .bad := by unfold revM; rw [eo]; rfl
    rw [bind_bad eb] at q1
    exact q1.elim
  | some y =>
    have eb : revM d S1 = .ok y S1 := by unfold revM; rw [eo]; rfl
    rw [bind_ok eb] at q1
    generalize deref S1 d = d' at eo rv
    unfold revD at eo
    split at eo
    · cases eo
      exact q1.elim
    · cases eo
      obtain ⟨l, vs, rfl, h1, h2⟩ := rv.lst
      exact ⟨l, vs, rfl, by rw [hK]; exact h1, fun p hp => q1 ⟨upd w1.H p _, p :: w1.N, w1.m⟩ _ (keep_newN hp) (s1.newN hp) (new_l s1 hp h2.reverse)⟩
    · cases eo
/-! ### sorted -/
def alD (a b : D) : Bool := PySem.W.alike a.toP b.toP
def isTupC : D → Bool
  | .tup (_ :: _) => true
  | _ => false
def isFlat : D → Bool
  | .int _ => true
  | .str _ => true
  | .bl _ => true
  | .lst _ => true
  | _ => false
def sortOk (xs : List D) : Bool := okdL 30 xs && xs.all (fun a => xs.all (alD a)) && (xs.all isTupC || xs.all isFlat) && decide (xs.length ≤ sizeLine)
def sortD (xs : List D) : List D := xs.mergeSort (PySem.W.dataLe false D.toP)
def sortS : List D → Option (List D)
  | [.lst xs] => if sortOk xs then some (sortD xs) else none
  | [.tup xs] => none
  | _ => none
theorem okdL_mem : ∀ {n : Nat} {xs : List D} {x : D}, okdL n xs = true → x ∈ xs → okd n x = true
  | _, _ :: _, _, h, hx => by
    simp only [okdL, Bool.and_eq_true] at h
    rcases List.mem_cons.mp hx with rfl | hx
    · exact h.1
    · exact okdL_mem h.2 hx
theorem each_of {w : Wd} {R : Value → D → Prop} : ∀ {vs : List V} {ds : List D} {us : List Value}, RepL g w vs ds → Vals vs us → (∀ v u d, Rep g w v d → RelV v u → d ∈ ds → R u d) → PySem.W.EachIs R us ds
  | _, _, _, .nil, .nil, _ => .nil
  | _, _, _, .cons r t, .cons a b, h => .cons (h _ _ _ r a List.mem_cons_self) (each_of t b fun v u d r' a' m => h v u d r' a' (List.mem_cons_of_mem _ m))
theorem of_each {w : Wd} : ∀ {ds : List D} {us : List Value}, PySem.W.EachIs (fun u d => ∃ v, RelV v u ∧ Rep g w v d) us ds → ∃ vs, Vals vs us ∧ RepL g w vs ds
  | _, _, .nil => ⟨[], .nil, .nil⟩
  | _, _, .cons ⟨v, a, r⟩ t => by
    obtain ⟨vs, b, s⟩ := of_each t
    exact ⟨v :: vs, .cons a b, .cons r s⟩
theorem cn_sorted (hK : X.K = g.K) (hu : X.A.units + 64 < cLine) : CallN g X (.builtin "sorted") sortS := by
  refine ⟨fun vs H Q => ∃ (w : Wd) (a : Addr) (us : List V) (xs : List D), w.H = H ∧ vs = [V.ref a] ∧ SqL X.K H a us ∧ RepL g w us xs ∧ sortOk xs = true ∧ ∀ us' p, RepL g w us' (sortD xs) → H p = none → Q (.ref p) (upd H p (.lst us')), ?_, fun w S vs ds xs Q e sr ra q => ?_⟩
  · intro pins s σ H vs us Q I r h
    obtain ⟨w, a, ws, xs, rfl, rfl, hs, rl, ok, q⟩ := h
    unfold sortOk at ok
    simp only [Bool.and_eq_true, decide_eq_true_eq] at ok
    obtain ⟨⟨⟨o1, o2⟩, o3⟩, o4⟩ := ok
    obtain ⟨its, rv, hl, _⟩ := I.list hs
    rw [Vals.ref1 r]
    have dep : ∀ b, b ∈ xs → b.toP.depth ≤ 30 := fun b hb => (okd_lay 30 b (okdL_mem o1 hb)).2
    refine PySem.W.sorted_data (R := fun u d => ∃ v, RelV v u ∧ Rep g w v d) (bs := xs) (enc := D.toP) hl.isList (each_of rl rv fun v u d r a _ => ⟨v, a, r⟩) (each_of rl rv fun v u d r a m => Dp.reads I d.toP v u (by rw [hK]; exact r.dp (okdL_mem o1 m)) a) ?_ ?_ o4 (fun b hb => by have := dep b hb; omega) fun out ho eo => ?_
    · intro d hd d' hd'
      obtain ⟨b, hb, rfl⟩ := List.mem_map.mp hd
      obtain ⟨b', hb', rfl⟩ := List.mem_map.mp hd'
      exact List.all_eq_true.mp (List.all_eq_true.mp o2 b hb) b' hb'
    · rw [Bool.or_eq_true] at o3
      rcases o3 with o3 | o3
      · refine .inl fun d hd => ?_
        obtain ⟨b, hb, rfl⟩ := List.mem_map.mp hd
        have := List.all_eq_true.mp o3 b hb
        unfold isTupC at this
        split at this
        · exact ⟨_, _, by simp only [D.toP, toPL]; exact rfl⟩
        · cases this
      · refine .inr fun d hd => ?_
        obtain ⟨b, hb, rfl⟩ := List.mem_map.mp hd
        have := List.all_eq_true.mp o3 b hb
        unfold isFlat at this
        split at this
        · simp [D.toP]
        · simp [D.toP]
        · simp [D.toP]
        · simp [D.toP]
        · cases this
    · obtain ⟨us', rv', rl'⟩ := of_each eo
      obtain ⟨ep, he'⟩ := PyProof.Rows.sortedAll_at s.heap its out.toArray
      have hlen : us'.length ≤ sizeLine := by rw [rv'.length, ho]; exact o4
      exact ⟨.ref _, upd w.H (s.heap.objs.size + 1) (.lst us'), I.laid (t' := s.toks) (fun _ _ => PyProof.Rows.sortedAll_old) (Nat.le_succ _) ⟨hlen, out, ep, rv', he'⟩, rfl, q us' _ rl' (I.hok.fresh (Nat.le_succ _))⟩
  · unfold sortS at e
    split at e
    · split at e
      · rename_i zs hz
        cases e
        obtain ⟨v, rfl, r⟩ := ra.one
        obtain ⟨a, us, rfl, h1, h2⟩ := r.lst
        exact ⟨w, a, us, zs, rfl, rfl, by rw [hK]; exact h1, h2, hz, fun us' p r' hp => q ⟨upd w.H p _, p :: w.N, w.m⟩ _ (keep_newN hp) (sr.newN hp) (new_l sr hp r')⟩
      · cases e
    · cases e
    · cases e
end
end Pc

set_option Elab.async false
set_option linter.all false
set_option autoImplicit false
set_option maxRecDepth 100000
set_option maxHeartbeats 4000000
/-! Pc, part P: the context of a body, checked by computing. -/
namespace Pc
open PySem PySem.Spec PyProof.Rows L2
structure Ge where
  P : Program
  w : World
  mg : Str → Option Value
  base : Heap
structure Cn (g : Gc) (G : Ge) (k : Nat) (N : List Str) (sc : Scope) (X : Cx) : Prop where
  hP : X.prog = G.P
  hw : X.w = G.w
  hm : X.mg = G.mg
  hb : X.base = G.base
  hs : X.env.scope = sc
  hN : X.N = N
  ok : Ok g X k
def kindB (sc : Scope) (x : Str) (ks : List NameKind) : Bool := match sc.names.lookup x with
  | some q => ks.any fun z => decide (z = q)
  | none => false
def visB (N : List Str) (sc : Scope) (x : Str) (i : Nat) : Bool := decide (N[i]? = some x) && kindB sc x [.local, .cell, .free] && !(x == ("__debug__" : Str)) && !(x == ("__classdict__" : Str))
def locB (N : List Str) (sc : Scope) (x : Str) (i : Nat) : Bool := decide (N[i]? = some x) && kindB sc x [.local, .cell]
def plocB (N : List Str) (sc : Scope) (x : Str) (i : Nat) : Bool := decide (N[i]? = some x) && kindB sc x [.local]
def glB (sc : Scope) (x : Str) : Bool := kindB sc x [.globalImplicit] && !(x == ("__debug__" : Str))
theorem kindB_eq {sc : Scope} {x : Str} {ks : List NameKind} (h : kindB sc x ks = true) : ∃ q ∈ ks, sc.names.lookup x = some q := by
  unfold kindB at h
  cases e : sc.names.lookup x with
  | none => rw [e] at h; cases h
  | some q =>
    rw [e] at h
    obtain ⟨z, hz, h2⟩ := List.any_eq_true.mp h
    have := of_decide_eq_true h2
    subst this
    exact ⟨z, hz, rfl⟩
/-- an env of a scope -/
def env0 (sc : Scope) : Env := { scope := sc, locals := 0, globals := 0, cells := [] }
theorem sw_env {ts : List Expr} {v : Expr} {e e' : Env} (h : e.scope = e'.scope) : swappedStores ts v e = swappedStores ts v e' := by
  unfold swappedStores Env.blockKind Env.kindOf
  rw [h]
theorem swith_env {v : Expr} {t : Option Expr} {l : Nat} {e e' : Env} (h : e.scope = e'.scope) : swapsWith v t l e = swapsWith v t l e' := by
  unfold swapsWith Env.blockKind Env.kindOf
  rw [h]

theorem takes_no {X : Cx} : Takes X noW := fun u s' ⟨_, _, _, _, _, _, _, _, _, _, _, _, _, _, _, _, w⟩ => w.elim
/-- a def of the module by its name, whatever calls it -/
structure Dfn (g : Gc) (G : Ge) (k : Nat) (x : Str) (n : Nat) (sem : List D → M D) : Prop where
  ex : ∃ (f : Addr) (fd : FuncData) (ps : List Str), ps.length = n ∧ FnG g G.P G.w G.mg G.base k f fd ps sem ∧ G.mg x = some (.ref f) ∧ PySem.W.keepIn g.K (.ref f) = true ∧ Binds g.K fd ps []
theorem Dfn.mono {g : Gc} {G : Ge} {j k : Nat} {x : Str} {n : Nat} {sem : List D → M D} (h : Dfn g G j x n sem) (hk : j ≤ k) : Dfn g G k x n sem := by
  obtain ⟨f, fd, ps, h1, h2, h3⟩ := h.ex
  exact ⟨f, fd, ps, h1, h2.mono hk, h3⟩
def blkB (N : List Str) (sc scope : Scope) (own : List (Str × Nat)) : Bool :=
  decide (scope.kind = .function) && scope.names.all (fun y => decide (scope.names.lookup y.1 = some y.2)) && own.all (fun p => decide (N[p.2]? = some p.1)) &&
  scope.names.all (fun y => if y.2 = .free then kindB sc y.1 [.cell, .free] else true) && scope.names.all (fun y => if y.2 = .local ∨ y.2 = .cell then decide (y.1 ∈ own.map (·.1)) || decide (y.1 ∉ N) else true)
theorem blkB_ok {N : List Str} {sc scope : Scope} {own : List (Str × Nat)} (h : blkB N sc scope own = true) : BlkOk N sc scope own := by
  unfold blkB at h
  simp only [Bool.and_eq_true, decide_eq_true_eq, List.all_eq_true] at h
  obtain ⟨⟨⟨⟨h1, h2⟩, h3⟩, h4⟩, h5⟩ := h
  refine ⟨h1, h2, h3, fun y hy e => ?_, fun y hy e => ?_⟩
  · have := h4 y hy
    rw [if_pos e] at this
    obtain ⟨q, hq, e2⟩ := kindB_eq this
    rw [e2]
    simp at hq
    rcases hq with rfl | rfl
    · exact .inl rfl
    · exact .inr rfl
  · have := h5 y hy
    rw [if_pos e, Bool.or_eq_true, decide_eq_true_eq, decide_eq_true_eq] at this
    exact this
namespace Cn
variable {g : Gc} {G : Ge} {k : Nat} {N : List Str} {sc : Scope} {X : Cx} {N0 : List Addr} {Wx : WX} {w0 : Wd}
theorem nd (c : Cn g G k N sc X) : X.N.Nodup := c.ok.nd
theorem u64 (c : Cn g G k N sc X) : X.A.units + 64 < cLine := by have := c.ok.room.un; omega
theorem u65 (c : Cn g G k N sc X) : X.A.units + 65 < cLine := by have := c.ok.room.un; omega
theorem u1 (c : Cn g G k N sc X) : X.A.units + 1 < cLine := by have := c.ok.room.un; omega
theorem blk (c : Cn g G k N sc X) (s : Shared) (H : Hp) (scope : Scope) (cl : List (Str × Addr)) (C : Addr) (fp : List Addr) : Cn g G k N (relS scope sc) (X.blk s H scope (compEnvC scope cl C X.env) fp) := by
  have hs : (compEnvC scope cl C X.env).scope = relS scope X.env.scope := rfl
  exact ⟨c.hP, c.hw, c.hm, c.hb, by rw [← c.hs]; exact hs, c.hN, ⟨c.ok.K, c.ok.calm, c.ok.nd, c.ok.room, c.ok.gd⟩⟩
theorem vis {i : Nat} {x : Str} (c : Cn g G k N sc X) (h : visB N sc x i = true) : X.N[i]? = some x ∧ Vis X.env.scope x ∧ (x == ("__debug__" : Str)) = false ∧ (x == ("__classdict__" : Str)) = false := by
  unfold visB at h
  simp only [Bool.and_eq_true, decide_eq_true_eq, Bool.not_eq_true'] at h
  obtain ⟨⟨⟨h1, h2⟩, h3⟩, h4⟩ := h
  refine ⟨by rw [c.hN]; exact h1, ?_, h3, h4⟩
  obtain ⟨q, hq, e⟩ := kindB_eq h2
  rw [c.hs]
  simp at hq
  rcases hq with rfl | rfl | rfl
  · exact .inl e
  · exact .inr (.inl e)
  · exact .inr (.inr e)
theorem loc {i : Nat} {x : Str} (c : Cn g G k N sc X) (h : locB N sc x i = true) : X.N[i]? = some x ∧ Loc X.env.scope x := by
  unfold locB at h
  simp only [Bool.and_eq_true, decide_eq_true_eq] at h
  refine ⟨by rw [c.hN]; exact h.1, ?_⟩
  obtain ⟨q, hq, e⟩ := kindB_eq h.2
  rw [c.hs]
  simp at hq
  rcases hq with rfl | rfl
  · exact .inl e
  · exact .inr e
theorem ploc {i : Nat} {x : Str} (c : Cn g G k N sc X) (h : plocB N sc x i = true) : X.N[i]? = some x ∧ X.env.scope.names.lookup x = some .local := by
  unfold plocB at h
  simp only [Bool.and_eq_true, decide_eq_true_eq] at h
  refine ⟨by rw [c.hN]; exact h.1, ?_⟩
  obtain ⟨q, hq, e⟩ := kindB_eq h.2
  rw [c.hs]
  simp at hq
  subst hq
  exact e
theorem gl {x : Str} (c : Cn g G k N sc X) (h : glB sc x = true) : Gl X x ∧ (x == ("__debug__" : Str)) = false := by
  unfold glB at h
  simp only [Bool.and_eq_true, Bool.not_eq_true'] at h
  refine ⟨?_, h.2⟩
  obtain ⟨q, hq, e⟩ := kindB_eq h.1
  simp at hq
  subst hq
  show X.env.scope.names.lookup x = _
  rw [c.hs]
  exact e
/-! ### names, constants -/
theorem pv {x : Str} {p : Pos} (c : Cn g G k N sc X) (i : Nat) (h : visB N sc x i = true) : PE X (.Name x p) (tVar i) := by
  obtain ⟨h1, h2, h3, h4⟩ := c.vis h
  exact pe_var h1 h2 h3 h4
theorem v {x : Str} {p : Pos} (c : Cn g G k N sc X) (i : Nat) (h : visB N sc x i = true) : DE g N0 Wx X (.Name x p) (rd i) := de_var (c.pv i h)
theorem vB {x : Str} {p : Pos} (c : Cn g G k N sc X) (i : Nat) (h : visB N sc x i = true) : DW g N0 Wx X (.Name x p) (rdB i) := dw_var (c.pv i h)
theorem pg {x : Str} {p : Pos} (c : Cn g G k N sc X) (fa : ∀ x, X.fn x = true) (i : Nat) (h : locB N sc x i = true) : PG X (.Name x p) (gName i) := by
  obtain ⟨h1, h2⟩ := c.loc h
  exact pg_name c.nd h1 h2 (.inl (fa x))
theorem pgl {x : Str} {p : Pos} (c : Cn g G k N sc X) (i : Nat) (h : plocB N sc x i = true) : PG X (.Name x p) (gName i) := by
  obtain ⟨h1, h2⟩ := c.ploc h
  exact pg_name c.nd h1 (.inl h2) (.inr h2)
theorem set {i : Nat} {x : Str} {e : Expr} {f : Ev → M Sl} {pos pos' : Pos} (c : Cn g G k N sc X) (fa : ∀ x, X.fn x = true) (h : locB N sc x i = true) (hc : notComp e = true) (d : DX g w0.N Wx X e f) : DS g Wx w0 X (.Assign [.Name x pos'] e pos) (setM i f) := by
  obtain ⟨h1, h2⟩ := c.loc h
  exact ds_set c.nd h1 h2 (fa x) hc d
/-- .. of a comprehension that is not stored from within -/
theorem setW {i : Nat} {x : Str} {e : Expr} {f : Ev → M Sl} {pos pos' : Pos} (c : Cn g G k N sc X) (fa : ∀ x, X.fn x = true) (h : locB N sc x i = true) (hw : swapsWith e (some (.Name x pos')) pos.line (env0 sc) = pure false) (d : DX g w0.N Wx X e f) : DS g Wx w0 X (.Assign [.Name x pos'] e pos) (setM i f) := by
  obtain ⟨h1, h2⟩ := c.loc h
  refine PS.imp (ps_set c.nd h1 h2 d ((swith_env c.hs).trans hw) (.inl (fa x))) fun E σ H ⟨w, env, S, ee, st, q⟩ => ?_
  subst ee
  refine tr_intro st.er st.sr (pst_of st q fun w1 s S1 y e k1 s1 r1 q1 => ?_)
  exact q1 w1 _ (Mono.refl w1) ⟨st.er.set_new st.kp.sub k1 r1, s1, st.kp.trans k1⟩
theorem int {i : Int} {j : Nat} {p : Pos} (c : Cn g G k N sc X) : DE g N0 Wx X (.Constant (.int i) j p) (fun _ => pure (.int i)) := de_con pe_int fun w => .int i
theorem str {i : Str} {j : Nat} {p : Pos} (c : Cn g G k N sc X) : DE g N0 Wx X (.Constant (.str i) j p) (fun _ => pure (.str i)) := de_con pe_str fun w => .str i
theorem bl {i : Bool} {j : Nat} {p : Pos} (c : Cn g G k N sc X) : DE g N0 Wx X (.Constant (.bool i) j p) (fun _ => pure (.bl i)) := de_con pe_bl fun w => .bl i
theorem non {j : Nat} {p : Pos} (c : Cn g G k N sc X) : DE g N0 Wx X (.Constant .none j p) (fun _ => pure .non) := de_con pe_non fun w => .non
theorem add (c : Cn g G k N sc X) : OpS g X (binaryOp .Add) addD := ops_add c.ok.K
theorem eq (c : Cn g G k N sc X) : OpS g X (compareOp .Eq) eqD := ops_eq c.ok.K c.u64
theorem ne (c : Cn g G k N sc X) : OpS g X (compareOp .NotEq) neD := ops_ne c.ok.K c.u64
theorem isin (c : Cn g G k N sc X) : OpS g X (compareOp .In) inD := ops_in c.ok.K c.u65
theorem nin (c : Cn g G k N sc X) : OpS g X (compareOp .NotIn) ninD := ops_nin c.ok.K c.u65
/-! ### built-in functions -/
theorem blt {x : Str} {fv : Value} (c : Cn g G k N sc X) (m : G.mg x = none) (h : glB sc x = true) (b : bootBuiltins x = some fv) (hn : x ≠ "__name__") : Blt X x fv := ⟨(c.gl h).1, by rw [c.hm]; exact m, b, hn, (c.gl h).2⟩
section
variable {e a b : Expr} {es : List Expr} {p pos : Pos} {f : Ev → M (List D)}
theorem call {x : Str} {n : Nat} {sem : List D → M D} (c : Cn g G k N sc X) (F : Dfn g G k x n sem) (h : glB sc x = true) (tk : Takes X Wx) (hs : (e :: es).all notStar = true) (ha : DA g N0 Wx X (e :: es) f) :
    DE g N0 Wx X (.Call (.Name x p) (e :: es) [] pos) (fun env => do let ds ← f env; callN n sem ds) := by
  obtain ⟨ff, fd, ps, h1, h2, h3, h4, h5⟩ := F.ex
  refine de_call (k := k) ⟨⟨ff, fd, ps, h1, ?_, by rw [c.hm]; exact h3, by rw [c.ok.K]; exact h4, by rw [c.ok.K]; exact h5⟩, (c.gl h).2⟩ c.ok (c.gl h).1 tk hs ha
  rw [c.hP, c.hw, c.hm, c.hb]
  exact h2
theorem call0 {x : Str} {n : Nat} {sem : List D → M D} (c : Cn g G k N sc X) (F : Dfn g G k x n sem) (h : glB sc x = true) (tk : Takes X Wx) :
    DE g N0 Wx X (.Call (.Name x p) [] [] pos) (fun _ => callN n sem []) := by
  obtain ⟨ff, fd, ps, h1, h2, h3, h4, h5⟩ := F.ex
  refine de_call0 (k := k) ⟨⟨ff, fd, ps, h1, ?_, by rw [c.hm]; exact h3, by rw [c.ok.K]; exact h4, by rw [c.ok.K]; exact h5⟩, (c.gl h).2⟩ c.ok (c.gl h).1 tk
  rw [c.hP, c.hw, c.hm, c.hb]
  exact h2
end
end Cn
end Pc

set_option Elab.async false
set_option linter.all false
set_option autoImplicit false
set_option maxRecDepth 100000
set_option maxHeartbeats 4000000
/-! Pc, part Q: rules by the context, for printed derivations. -/
namespace Pc
open PySem PySem.Spec PyProof.Rows L2
def hasB (l : List Str) (x : Str) : Bool := l.any fun y => decide (y = x)
/-- the built-in names that the module leaves alone -/
def Bts (l : List Str) (G : Ge) : Prop := ∀ x, hasB l x = true → G.mg x = none
theorem bb_len : bootBuiltins "len" = some (.builtin "len") := by kernel_rfl
theorem bb_sum : bootBuiltins "sum" = some (.builtin "sum") := by kernel_rfl
theorem bb_all : bootBuiltins "all" = some (.builtin "all") := by kernel_rfl
theorem bb_any : bootBuiltins "any" = some (.builtin "any") := by kernel_rfl
theorem bb_max : bootBuiltins "max" = some (.builtin "max") := by kernel_rfl
theorem bb_min : bootBuiltins "min" = some (.builtin "min") := by kernel_rfl
theorem bb_abs : bootBuiltins "abs" = some (.builtin "abs") := by kernel_rfl
theorem bb_repr : bootBuiltins "repr" = some (.builtin "repr") := by kernel_rfl
theorem bb_sorted : bootBuiltins "sorted" = some (.builtin "sorted") := by kernel_rfl
theorem bb_int : bootBuiltins "int" = some (.type "int") := by kernel_rfl
theorem bb_str : bootBuiltins "str" = some (.type "str") := by kernel_rfl
theorem bb_tuple : bootBuiltins "tuple" = some (.type "tuple") := by kernel_rfl
theorem bb_list : bootBuiltins "list" = some (.type "list") := by kernel_rfl
theorem isB (id : String) : (∃ i, (Value.builtin id) = .builtin i) ∨ ∃ T, (Value.builtin id) = .type T := .inl ⟨id, rfl⟩
theorem isT (id : String) : (∃ i, (Value.type id) = .builtin i) ∨ ∃ T, (Value.type id) = .type T := .inr ⟨id, rfl⟩
theorem mt_appendL {X : Cx} : Mth X "append" "list.append" rAppend := ⟨PySem.F.slot_list_append, by kernel_rfl, mt_append⟩
theorem mt_popL {X : Cx} : Mth X "pop" "list.pop" rPop := ⟨PySem.F.slot_list_pop, by kernel_rfl, mt_pop⟩
theorem mt_popAtL {X : Cx} : Mth X "pop" "list.pop" rPopAt := ⟨PySem.F.slot_list_pop, by kernel_rfl, mt_popAt⟩
namespace Cn
variable {g : Gc} {G : Ge} {k : Nat} {N : List Str} {sc : Scope} {X : Cx} {N0 : List Addr} {Wx : WX} {w0 : Wd}
section
variable {e a b : Expr} {es : List Expr} {p pos : Pos} {f : Ev → M (List D)} {l : List Str}
/-- a built-in that gives a value -/
theorem bf {x : Str} {fv : Value} {sem : List D → Option D} (c : Cn g G k N sc X) (B : Bts l G) (hb : hasB l x = true) (hg : glB sc x = true) (bb : bootBuiltins x = some fv) (hf : (∃ id, fv = .builtin id) ∨ ∃ T, fv = .type T) (hn : decide (x ≠ "__name__") = true) (hc : CallS g X fv sem) (hs : (e :: es).all notStar = true) (ha : DB g N0 Wx X (e :: es) f) :
    DE g N0 Wx X (.Call (.Name x p) (e :: es) [] pos) (fun env => do let ds ← f env; opN sem ds) := de_blt hf (c.blt (B x hb) hg bb (of_decide_eq_true hn)) hc hs ha
theorem bn {x : Str} {fv : Value} {sem : List D → Option (List D)} (c : Cn g G k N sc X) (B : Bts l G) (hb : hasB l x = true) (hg : glB sc x = true) (bb : bootBuiltins x = some fv) (hf : (∃ id, fv = .builtin id) ∨ ∃ T, fv = .type T) (hn : decide (x ≠ "__name__") = true) (hc : CallN g X fv sem) (hs : (e :: es).all notStar = true) (ha : DB g N0 Wx X (e :: es) f) :
    DL g N0 Wx X (.Call (.Name x p) (e :: es) [] pos) (fun env => do let ds ← f env; opN sem ds) := dl_blt hf (c.blt (B x hb) hg bb (of_decide_eq_true hn)) hc hs ha
theorem s_len (c : Cn g G k N sc X) : CallS g X (.builtin "len") lenS := cs_len c.ok.K
theorem s_sum (c : Cn g G k N sc X) : CallS g X (.builtin "sum") sumS := cs_sum c.ok.K c.ok.calm
theorem s_all (c : Cn g G k N sc X) : CallS g X (.builtin "all") allS := cs_all c.ok.K c.ok.calm
theorem s_any (c : Cn g G k N sc X) : CallS g X (.builtin "any") anyS := cs_any c.ok.K c.ok.calm
theorem s_max (c : Cn g G k N sc X) : CallS g X (.builtin "max") maxS := cs_max c.ok.K c.ok.calm
theorem s_min (c : Cn g G k N sc X) : CallS g X (.builtin "min") minS := cs_min c.ok.K c.ok.calm
theorem s_abs (c : Cn g G k N sc X) : CallS g X (.builtin "abs") absS := cs_abs
theorem s_int (c : Cn g G k N sc X) : CallS g X (.type "int") intS := cs_int
theorem s_str (c : Cn g G k N sc X) : CallS g X (.type "str") strS := cs_str
theorem s_tuple (c : Cn g G k N sc X) : CallS g X (.type "tuple") tupS := cs_tuple c.ok.K
theorem s_repr (c : Cn g G k N sc X) : CallS g X (.builtin "repr") reprS := cs_repr c.ok.K c.ok.gd c.u64
theorem n_list (c : Cn g G k N sc X) : CallN g X (.type "list") lstS := cn_list c.ok.K
theorem n_sorted (c : Cn g G k N sc X) : CallN g X (.builtin "sorted") sortS := cn_sorted c.ok.K c.u64
theorem rng1 {Rl : Wd → Wd → Prop} {tg : Expr} (c : Cn g G k N sc X) (B : Bts l G) (hb : hasB l "range" = true) (hg : glB sc "range" = true) (hs : notStar a = true) (ha : DB g N0 Wx X [a] f) : DI g N0 Wx Rl X tg (.Call (.Name "range" p) [a] [] pos) (fun env => do let ds ← f env; ofO (Pc.rng1 ds)) := di_rng1 (c.gl hg).1 (by rw [c.hm]; exact B _ hb) hs ha
theorem rng2 {Rl : Wd → Wd → Prop} {tg : Expr} (c : Cn g G k N sc X) (B : Bts l G) (hb : hasB l "range" = true) (hg : glB sc "range" = true) (hs : notStar a = true) (hs2 : notStar b = true) (ha : DB g N0 Wx X [a, b] f) : DI g N0 Wx Rl X tg (.Call (.Name "range" p) [a, b] [] pos) (fun env => do let ds ← f env; ofO (Pc.rng2 ds)) := di_rng2 (c.gl hg).1 (by rw [c.hm]; exact B _ hb) hs hs2 ha
theorem sub {fa fb : Ev → M D} (c : Cn g G k N sc X) (hs : noSlice b = true) (ha : DW g N0 Wx X a fa) (hb : DW g N0 Wx X b fb) : DE g N0 Wx X (.Subscript a b pos) (fun env => do let x ← fa env; let y ← fb env; getM x y) := de_sub c.ok.K c.u1 hs ha hb
end
/-! ### comprehensions -/
section
variable {elt tg iter : Expr} {ifs : List Expr} {scope : Scope} {own : List (Str × Nat)} {us : List Nat} {pos : Pos} {fi : Ev → M (List D)} {fg : D → Ev → Option Ev} {fc : Ev → M Bool} {fe : Ev → M D}
def subB (us : List Nat) (own : List (Str × Nat)) : Bool := us.all fun i => own.any fun p => p.2 == i
theorem subB_ok (h : subB us own = true) : ∀ i ∈ us, i ∈ own.map (·.2) := fun i hi => by
  have := List.all_eq_true.mp h i hi
  obtain ⟨p, hp, e⟩ := List.any_eq_true.mp this
  exact List.mem_map.mpr ⟨p, hp, eq_of_beq e⟩
theorem comp (c : Cn g G k N sc X) (own : List (Str × Nat)) (hi : DI g N0 Wx Keep X tg iter fi) (ok : blkB N sc scope own = true) (hg : ∀ X', Cn g G k N (relS scope sc) X' → DG g N0 X' tg us fg)
    (ht : ∀ X', Cn g G k N (relS scope sc) X' → PTs X' ifs (tr g N0 noW rlB fc)) (he : ∀ X', Cn g G k N (relS scope sc) X' → DE g N0 noW X' elt fe) (sub : subB us own = true) (hs : ∀ env x, foldedSetIterable iter env x = pure x) :
    DL g N0 Wx X (.ListComp elt [⟨tg, iter, ifs, 0⟩] scope pos) (fun env => do let ds ← fi env; compM fg fc fe (wipeE env (own.map (·.2))) ds) :=
  dl_comp c.ok.calm c.nd hi (by rw [c.hN, c.hs]; exact blkB_ok ok) (fun s H C cl fp => hg _ (c.blk s H scope cl C fp)) (fun s H C cl fp => ht _ (c.blk s H scope cl C fp)) (fun s H C cl fp => he _ (c.blk s H scope cl C fp)) (subB_ok sub) (hs _)
/-- x = [.. for ..] on one line, x a plain local; m: what the slot gets -/
theorem setC {i : Nat} {y : Str} {py spos : Pos} (c : Cn g G k N sc X) (own : List (Str × Nat)) (hy : plocB N sc y i = true) (hw : swapsWith (.ListComp elt [⟨tg, iter, ifs, 0⟩] scope pos) (some (.Name y py)) spos.line (env0 sc) = pure true)
    (hi : DI g w0.N Wx Keep X tg iter fi) (ok : blkB N sc scope own = true) (hg : ∀ X', Cn g G k N (relS scope sc) X' → DG g w0.N X' tg us fg)
    (ht : ∀ X', Cn g G k N (relS scope sc) X' → PTs X' ifs (tr g w0.N noW rlB fc)) (he : ∀ X', Cn g G k N (relS scope sc) X' → DE g w0.N noW X' elt fe) (sub : subB us own = true) (hs : ∀ env x, foldedSetIterable iter env x = pure x)
    {f : Ev → M Sl} (hm : ∀ {σ : L2.St} {H : Hp} {Q : VK}, tr g w0.N Wx (rlX g) f σ H Q → tr g w0.N Wx (NewL g) (fun env => do let ds ← fi env; compM fg fc fe (wipeE env (own.map (·.2))) ds) σ H Q) :
    DS g Wx w0 X (.Assign [.Name y py] (.ListComp elt [⟨tg, iter, ifs, 0⟩] scope pos) spos) (setM i f) := by
  obtain ⟨h1, h2⟩ := c.ploc hy
  refine ds_setC ?_
  exact PS.imp (ps_setLc c.ok.calm c.nd h1 h2 ((swith_env c.hs).trans hw) hi (by rw [c.hN, c.hs]; exact blkB_ok ok) (fun s H C cl fp => hg _ (c.blk s H scope cl C fp)) (fun s H C cl fp => ht _ (c.blk s H scope cl C fp)) (fun s H C cl fp => he _ (c.blk s H scope cl C fp)) (hs _)) fun E σ H h => tr_lc (subB_ok sub) (hm h)
end
theorem x_own {f : Ev → M (List D)} {σ : L2.St} {H : Hp} {Q : VK} (h : tr g N0 Wx (rlX g) (fun env => do let d ← f env; pure (Sl.own d)) σ H Q) : tr g N0 Wx (NewL g) f σ H Q := by
  obtain ⟨w, env, S, ee, er, sr, q⟩ := h
  subst ee
  refine tr_intro er sr ?_
  have q' : Pst g Wx σ (rlX g) w ((f env >>= fun d => pure (.own d)) S) Q := q
  cases e : f env S with
  | ok xs S1 =>
    rw [bind_ok e] at q'
    intro w1 v k1 s1 n
    obtain ⟨p, vs, e1, h2, h3, h4, h5, h6⟩ := n
    exact q' w1 v k1 s1 ⟨⟨p, vs, e1, h2, h3, h4, h6⟩, fun _ a ea => by rw [e1] at ea; cases ea; exact h5⟩
  | ex c fs S1 => rw [bind_ex e] at q'; exact q'
  | bad => rw [bind_bad e] at q'; exact q'
theorem x_frz {f : Ev → M (List D)} {σ : L2.St} {H : Hp} {Q : VK} (h : tr g N0 Wx (rlX g) (fun env => do let d ← f env; pure (Sl.val (.lst d))) σ H Q) : tr g N0 Wx (NewL g) f σ H Q := by
  obtain ⟨w, env, S, ee, er, sr, q⟩ := h
  subst ee
  refine tr_intro er sr ?_
  have q' : Pst g Wx σ (rlX g) w ((f env >>= fun d => pure (.val (.lst d))) S) Q := q
  cases e : f env S with
  | ok xs S1 =>
    rw [bind_ok e] at q'
    intro w1 v k1 s1 n
    obtain ⟨w'', e1, k2, s2, r2⟩ := n.frozen k1 s1
    rw [← e1]
    exact q' w'' v k2 s2 ⟨r2, fun o => by cases o⟩
  | ex c fs S1 => rw [bind_ex e] at q'; exact q'
  | bad => rw [bind_bad e] at q'; exact q'
/-! ### several names -/
theorem par2 {i j : Nat} {x y : Str} {a b : Expr} {f : Ev → M (List Sl)} {px py pt pos : Pos} {kt k2 pt2} (c : Cn g G k N sc X) (hi : plocB N sc x i = true) (hj : plocB N sc y j = true) (hij : decide (i ≠ j) = true) (ha : DXs g w0.N Wx X [a, b] f)
    (hw : swappedStores [.Tuple [.Name x px, .Name y py] kt pt] (.Tuple [a, b] k2 pt2) (env0 sc) = pure (some [x, y])) (hca : notComp a = true) :
    DS g Wx w0 X (.Assign [.Tuple [.Name x px, .Name y py] kt pt] (.Tuple [a, b] k2 pt2) pos) (parM [i, j] f) :=
  ds_par2 c.ok.calm c.nd (c.ploc hi).1 (c.ploc hj).1 (of_decide_eq_true hij) (c.ploc hi).2 (c.ploc hj).2 hca ha ((sw_env c.hs).trans hw)
theorem par3 {i j l : Nat} {x y z : Str} {a b d : Expr} {f : Ev → M (List Sl)} {px py pz pt pos : Pos} {kt k2 pt2} (c : Cn g G k N sc X) (hi : plocB N sc x i = true) (hj : plocB N sc y j = true) (hl : plocB N sc z l = true) (hij : decide (i ≠ j ∧ i ≠ l ∧ j ≠ l) = true) (ha : DXs g w0.N Wx X [a, b, d] f)
    (hw : swappedStores [.Tuple [.Name x px, .Name y py, .Name z pz] kt pt] (.Tuple [a, b, d] k2 pt2) (env0 sc) = pure (some [x, y, z])) :
    DS g Wx w0 X (.Assign [.Tuple [.Name x px, .Name y py, .Name z pz] kt pt] (.Tuple [a, b, d] k2 pt2) pos) (parM [i, j, l] f) := by
  have h := of_decide_eq_true hij
  exact ds_par3 c.ok.calm c.nd (c.ploc hi).1 (c.ploc hj).1 (c.ploc hl).1 h.1 h.2.1 h.2.2 (c.ploc hi).2 (c.ploc hj).2 (c.ploc hl).2 ha ((sw_env c.hs).trans hw)
theorem asgEach_len {env : Env} : ∀ (xs : List (Str × Pos)), (assignEach (xs.map fun p => Expr.Name p.1 p.2) env).length = xs.length
  | [] => rfl
  | x :: xs => by
    show ((false, _) :: assignEach (xs.map fun p => Expr.Name p.1 p.2) env).length = _
    rw [List.length_cons, asgEach_len xs]; rfl
theorem asgEach_idx {env : Env} : ∀ (xs : List (Str × Pos)), (assignEach (xs.map fun p => Expr.Name p.1 p.2) env).findIdx? (·.1) = none
  | [] => rfl
  | x :: xs => by
    show ((false, _) :: assignEach (xs.map fun p => Expr.Name p.1 p.2) env).findIdx? (·.1) = none
    rw [List.findIdx?_cons, asgEach_idx xs]; rfl
def locsB (N : List Str) (sc : Scope) (xs : List (Str × Pos)) (is : List Nat) : Bool := (xs.zip is).all (fun p => locB N sc p.1.1 p.2) && (xs.length == is.length) && decide (is.length ≤ 100)
theorem parT {ts : List Expr} (xs : List (Str × Pos)) (is : List Nat) {es : List Expr} {f : Ev → M (List Sl)} {pt pos : Pos} {kt k2 pt2} (c : Cn g G k N sc X) (fa : ∀ x, X.fn x = true) (ht : ts = xs.map fun p => Expr.Name p.1 p.2) (h : locsB N sc xs is = true) (ha : DXs g w0.N Wx X es f)
    (hw : swappedStores [.Tuple ts kt pt] (.Tuple es k2 pt2) (env0 sc) = pure none) :
    DS g Wx w0 X (.Assign [.Tuple ts kt pt] (.Tuple es k2 pt2) pos) (parM is f) := by
  subst ht
  unfold locsB at h
  simp only [Bool.and_eq_true, decide_eq_true_eq] at h
  have hl := eq_of_beq h.1.2
  refine ds_parT c.ok.calm (fun p hp => c.pg fa p.2 (List.all_eq_true.mp h.1.1 p hp)) hl h.2 ha ((asgEach_len xs).trans hl) (asgEach_idx xs) ((sw_env c.hs).trans hw)
/-- targets that are tuples of names -/
theorem tg {es : List Expr} {k' n : Nat} {us : List Nat} {r : List D → Ev → Option Ev} {pos : Pos} (c : Cn g G k N sc X) (h : PGs X es (trGs g N0 us r)) (hn : ∀ env, (assignEach es env).length = n) (hst : ∀ env, (assignEach es env).findIdx? (·.1) = none) : DG g N0 X (.Tuple es k' pos) us (tupG n r) := dg_tup c.ok.K c.ok.calm h (hn _) (hst _)
end Cn
end Pc

set_option Elab.async false
set_option linter.all false
set_option autoImplicit false
set_option maxRecDepth 100000
set_option maxHeartbeats 4000000
/-! Pc, part R: a law's end by its meaning; defs by the head's facts. -/
namespace Pc
open PySem PySem.Spec PyProof.Rows L2
/-- what the script may be to the written part: one of its objects, or a frozen list of its own -/
theorem fin_at {g : Gc} {P : Program} {w : World} {mg mb : Str → Option Value} {k : Nat} {fa a : Addr} {fd : FuncData} {x : Str} {sem : List D → M D} {s : Shared} {vs : List Value} {ns : List Int} {H : Hp}
    (KX : g.K.In s.heap) (hns : s.heap.Ns mainGlobals mg) (hb : s.heap.Ns builtinsNs mb) (hbb : ∀ x : Str, x ≠ "__name__" → mb x = bootBuiltins x) (hlim : s.heap.NoLimit) (hg : s.gens = #[])
    (hobj : s.heap.get? a = some { cls := .type "list", data := .seq vs.toArray }) (hr : Room k callerA)
    (F : ∀ base : Heap, g.K.In base → base.Ns mainGlobals mg → FnG g P w mg base k fa fd [x] sem) (hbind : ∀ (s : Shared) (u : Value), BindsTo s fd ⟨[u], []⟩ [(x, u)])
    (only : ∀ b, b ≠ a → H b = none) (frz : ∀ u, H a = some u → ∃ o xs, u = .frz o (.lst xs) ∧ g.K.lookup a = none) (hok : HOk P w H s.heap) (rep : Rep g ⟨H, [], []⟩ (.ref a) (.lst (ns.map D.int)))
    (hsem : ∃ S, sem [.lst (ns.map D.int)] [] = .ok (.bl true) S) :
    codeAny (model P w) callerA (.call (.ref fa) ⟨[.ref a], []⟩) (fun r s' => r = .ok (.ret (.bool true)) ∧ OldK s.heap s'.heap ∧ s'.os = s.os ∧ AllBare s'.gens) s := by
  obtain ⟨S, hS⟩ := hsem
  have isA : ∀ b u, H b = some u → b = a := fun b u e => Classical.byContradiction fun n => by rw [only b n] at e; cases e
  have low : ∀ {b : Addr} {o : Obj}, s.heap.get? b = some o → H b = none → (hidT s.heap H).get? b = some o := fun e n => hidT_get e n
  have names : ∀ {b : Addr} {m : Str → Option Value}, s.heap.Ns b m → (hidT s.heap H).Ns b m := fun {b m} ⟨o, es, ep, e, dd, r⟩ => by
    refine ⟨o, es, ep, low e ?_, dd, r⟩
    cases q : H b with
    | none => rfl
    | some u =>
      cases isA b u q
      rw [hobj] at e
      cases e
      have z : Data.seq vs.toArray _ = Data.dict es ep := dd
      cases z
  have KB : g.K.In (hidT s.heap H) := fun b o e => by
    refine low (KX b o e) ?_
    cases q : H b with
    | none => rfl
    | some u =>
      cases isA b u q
      obtain ⟨_, _, _, z⟩ := frz u q
      rw [z] at e
      cases e
  obtain ⟨mc, l1, l2⟩ := hlim
  have md : Mod g.K mg (hidT s.heap H) := ⟨KB, names hns, ⟨mb, names hb, hbb⟩, ⟨mc, names l1, l2⟩⟩
  have no : ∀ b : Addr, b ∉ frs [] := fun b z => by cases z
  have env : Env0 P w g.K mg (hidT s.heap H) callerA [] s H := ⟨rfl, md, fun b o e => of_hidT e, Nat.le_of_eq (hidT_size _ _), trivial, fun b z => (no b z).elim, hok, .of_eq hg⟩
  have sp : spOf g 1 sem [.ref a] H (fun v _ => v = .bl true) (fun _ _ _ => False) := by
    refine ⟨⟨H, [], []⟩, [.lst (ns.map D.int)], [], rfl, rfl, .cons rep .nil, ⟨rfl, List.nodup_nil, fun _ z => (by cases z), fun _ z => (by cases z), fun i ob z => by simp at z⟩, ?_⟩
    rw [hS]
    intro w' v _ _ r
    cases r
    rfl
  refine codeAny_mono ((F _ KB (names hns)).run callerA [] s H ⟨[.ref a], []⟩ [.ref a] [.ref a] _ _ hr rfl env (hbind s (.ref a)) (.cons rfl .nil) sp) fun r s' h => ?_
  match r, h with
  | .error e, h =>
    obtain ⟨_, _, _, _, _, _, _, _, _, _, _, _, z⟩ := h
    exact z.elim
  | .ok .next, h => exact False.elim h
  | .ok .brk, h => exact False.elim h
  | .ok .cont, h => exact False.elim h
  | .ok (.ret u), ⟨v, H', os, bare, un, hok', rv, (q : v = .bl true)⟩ =>
    subst q
    cases (show u = Value.bool true from rv)
    refine ⟨rfl, OldK.of_keep fun b o e => ?_, os, bare⟩
    cases q : H b with
    | none => exact un.keep b o e q (no b) (by simp)
    | some u =>
      cases isA b u q
      obtain ⟨ob, xs, rfl, _⟩ := frz u q
      have f1 := (hok a _ q).1
      rw [e] at f1
      cases f1
      exact (hok' a _ (un.frzs a o _ q)).1
theorem walkG {l : PySem.W.OpenLaw} {n k : Nat} {q : Program} {loose : List Str} {XP : (Str → Option Value) → Heap → Prop} {YP : World → Heap → Prop} {d : DefRec} {x : Str} (hn : l.most = some n) (hn2 : n ≤ sizeLine) (hdf : d.params.defaults = []) (hr : Room k callerA)
    (F : ∀ (w : World) (mg : Str → Option Value) (fa : Addr) (h : Heap), YP w h → h.Ns mainGlobals mg → mg d.name = some (.ref fa) → ∃ (g : Gc) (fd : FuncData) (sem : List D → M D), g.K.In h ∧ (∀ (s : Shared) (u : Value), BindsTo s fd ⟨[u], []⟩ [(x, u)]) ∧
      (∀ base : Heap, g.K.In base → base.Ns mainGlobals mg → FnG g l.prog w mg base k fa fd [x] sem) ∧ ∀ ns : List Int, ns.length ≤ n → (∀ z ∈ ns, Builtin.Int.intBits z ≤ 1048576) → ∃ S, sem [.lst (ns.map D.int)] [] = .ok (.bl true) S) :
    PySem.W.WalkO q loose XP YP l.row.toRowW d [] (fun f vs => PySem.call f vs) := by
  refine Att.attach_callB hn hdf fun w s₀ s₁ mg mb fa o pm cd doc a vs ns G Y ho hd hcd hmg hobj hints hlen hbits hg => ?_
  obtain ⟨g, fd, sem, KX, hb, hF, hsem⟩ := F w mg fa _ Y G.T.g hmg
  have rv := vals_ints hints
  have hl : ns.length ≤ sizeLine := Nat.le_trans hlen hn2
  have lenV : vs.length = ns.length := hints.length
  cases hk : g.K.lookup a with
  | some oo =>
    have e := KX a oo hk
    rw [hobj] at e
    cases e
    refine fin_at (H := fun _ => none) (ns := ns) KX G.T.g G.T.b G.T.builtins G.T.nolimit hg hobj hr hF hb (fun _ _ => rfl) (fun u z => by cases z) (fun b u z => by cases (show (none : Option HO) = some u from z)) (.lstK (vs := ns.map V.int) (fun H => .inr ⟨_, vs.toArray, _, hk, rfl, rfl, rfl, ?_, ?_⟩) (RepL.ints ns)) (hsem ns hlen hbits)
    · rw [List.size_toArray, lenV]; exact hl
    · simpa using rv
  | none =>
    refine fin_at (H := fun b => if b = a then some (.frz { cls := .type "list", data := .seq vs.toArray } (.lst (ns.map V.int))) else none) (ns := ns) KX G.T.g G.T.b G.T.builtins G.T.nolimit hg hobj hr hF hb (fun b n => if_neg n) (fun u z => ?_) (fun b u z => ?_) (.lst (vs := ns.map V.int) (.inr ⟨_, if_pos rfl⟩) (fun z => by cases z) (RepL.ints ns)) (hsem ns hlen hbits)
    · have z' := (if_pos rfl).symm.trans z
      cases z'
      exact ⟨_, _, rfl, hk⟩
    · by_cases hb' : b = a
      · have z' := (if_pos hb').symm.trans z
        cases z'
        subst hb'
        exact ⟨hobj, by rw [List.length_map]; exact hl, vs, _, rv, hobj⟩
      · have z' := (if_neg hb').symm.trans z
        cases z'
/-- a def of the module, by the head's datum and its body's meaning -/
def scB (N ps : List Str) (sc : Scope) : Bool := decide (sc.kind = .function) && decide (sc.isCoroutine = false) && decide (sc.isGenerator = false) && decide N.Nodup && decide (N.take ps.length = ps) && ps.all (fun x => kindB sc x [.local, .cell]) && sc.names.all (fun y => decide (y.2 ≠ .free))
theorem scB_ok {N ps : List Str} {sc : Scope} (h : scB N ps sc = true) : FnScope N ps sc := by
  unfold scB at h
  simp only [Bool.and_eq_true, decide_eq_true_eq, List.all_eq_true] at h
  obtain ⟨⟨⟨⟨⟨⟨h1, h2⟩, h3⟩, h4⟩, h5⟩, h6⟩, h7⟩ := h
  refine ⟨h1, h2, h3, h4, h5, fun x hx => ?_, h7⟩
  obtain ⟨q, hq, e⟩ := kindB_eq (h6 x hx)
  simp at hq
  rcases hq with rfl | rfl
  · exact .inl e
  · exact .inr e
theorem fnG_def {g : Gc} {G : Ge} {k : Nat} {f : Addr} {fd : FuncData} {name qual : Str} {params : Arguments} {body : List Stmt} {sc : Scope} {N ps : List Str} {fb : Ev → M Out} {dvs : List V} {kws : List (Str × V)} (F : FunD g.K name qual params body sc dvs kws f fd) (S : scB N ps sc = true)
    (hbody : ∀ (X : Cx) (Wx : WX) (w0 : Wd), Cn g G k N sc X → (∀ x, X.fn x = true) → Takes X Wx → PassesOwn (model X.prog X.w) X.A X.env X.xe → DSs g Wx w0 X body fb) : FnG g G.P G.w G.mg G.base (k + 1) f fd ps (bodyM N.length fb) := by
  obtain ⟨⟨oc, od, dV, kV, doc, pm, an, cdv, ct, osl, rfl, lk, hcd, _, _⟩, _⟩ := F
  exact fnG_of lk hcd (scB_ok S) fun X Wx w0 h1 h2 h3 h4 h5 h6 h7 ok tk po => hbody X Wx w0 ⟨h1, h2, h3, h4, h5, h6, ok⟩ h7 tk po
theorem dfn_of {g : Gc} {G : Ge} {k n : Nat} {x : Str} {f : Addr} {fd : FuncData} {name qual : Str} {params : Arguments} {body : List Stmt} {sc : Scope} {N ps : List Str} {fb : Ev → M Out} {kws : List (Str × V)} {sem : List D → M D} (F : FunD g.K name qual params body sc [] kws f fd) (S : scB N ps sc = true) (hm : G.mg x = some (.ref f)) (hn : ps.length = n) (hs : sem = bodyM N.length fb)
    (hbd : Binds g.K fd ps []) (hbody : ∀ (X : Cx) (Wx : WX) (w0 : Wd), Cn g G k N sc X → (∀ x, X.fn x = true) → Takes X Wx → PassesOwn (model X.prog X.w) X.A X.env X.xe → DSs g Wx w0 X body fb) : Dfn g G (k + 1) x n sem :=
  ⟨f, fd, ps, hn, by rw [hs]; exact fnG_def F S hbody, hm, F.kp, hbd⟩
end Pc
namespace Pc
open PySem PySem.Spec PyProof.Rows L2
theorem says_mem {fa : List He.Fa} {fn : List He.DefD} {K : PySem.W.Frag} (c : He.SaysD fa fn K) {f : He.Fa} (h : f ∈ fa) : f.ok K = true := by
  obtain ⟨i, e⟩ := List.getElem?_of_mem h
  exact c.fact i e
theorem bts_of {fa : List He.Fa} {fn : List He.DefD} {K : PySem.W.Frag} {h : Heap} {G : Ge} {l : List Str} (X : K.In h) (N : h.Ns mainGlobals G.mg) (c : He.SaysD fa fn K) (sub : ∀ x ∈ l, He.Fa.free x ∈ fa) : Bts l G := fun x hx => by
  obtain ⟨y, hy, e⟩ := List.any_eq_true.mp hx
  have := of_decide_eq_true e
  subst this
  exact He.free_ok X N (says_mem c (sub y hy))
theorem glo_of {fa : List He.Fa} {fn : List He.DefD} {K : PySem.W.Frag} {h : Heap} {mg : Str → Option Value} (X : K.In h) (N : h.Ns mainGlobals mg) (c : He.SaysD fa fn K) {x : Str} (i : Nat) (e : fa[i]? = some (.glo x)) : mg x = some (.ref (He.ga K x)) := He.glo_ok X N (c.fact i e)
end Pc

set_option Elab.async false
set_option linter.all false
set_option autoImplicit false
set_option maxRecDepth 100000
set_option maxHeartbeats 4000000
/-! Pc, part S: what a meaning comes to. -/
namespace Pc
open PySem PySem.Spec PyProof.Rows L2
abbrev XQ := Nat → List D → Store → Prop
def Wp {α : Type} (x : M α) (S : Store) (E : XQ) (Q : α → Store → Prop) : Prop := match x S with
  | .ok a S' => Q a S'
  | .ex c fs S' => E c fs S'
  | .bad => False
section
variable {α β : Type} {S : Store} {E : XQ} {Q Q' : α → Store → Prop}
theorem wp_bind {x : M β} {f : β → M α} : Wp (x >>= f) S E Q ↔ Wp x S E fun b S' => Wp (f b) S' E Q := by
  show Wp (M.bind x f) S E Q ↔ _
  unfold Wp M.bind
  cases x S <;> rfl
theorem wp_pure {a : α} : Wp (pure a) S E Q ↔ Q a S := Iff.rfl
theorem wp_fail : Wp (fail : M α) S E Q ↔ False := Iff.rfl
theorem wp_ofO {o : Option α} : Wp (ofO o) S E Q ↔ ∃ a, o = some a ∧ Q a S := by
  cases o with
  | none => exact ⟨False.elim, fun ⟨_, e, _⟩ => by cases e⟩
  | some a => exact ⟨fun h => ⟨a, rfl, h⟩, fun ⟨_, e, h⟩ => by cases e; exact h⟩
theorem wp_mono {x : M α} (h : Wp x S E Q) (q : ∀ a S', Q a S' → Q' a S') : Wp x S E Q' := by
  unfold Wp at h ⊢
  cases e : x S with
  | ok a S' => rw [e] at h; exact q a S' h
  | ex c fs S' => rw [e] at h; exact h
  | bad => rw [e] at h; exact h
theorem wp_ok {x : M α} (h : Wp x S (fun _ _ _ => False) Q) : ∃ a S', x S = .ok a S' ∧ Q a S' := by
  unfold Wp at h
  cases e : x S with
  | ok a S' => rw [e] at h; exact ⟨a, S', rfl, h⟩
  | ex c fs S' => rw [e] at h; exact h.elim
  | bad => rw [e] at h; exact h.elim
theorem wp_of {x : M α} {a : α} {S' : Store} (e : x S = .ok a S') (h : Q a S') : Wp x S E Q := by
  unfold Wp; rw [e]; exact h
theorem pure_bind' {a : β} {f : β → M α} : ((pure a : M β) >>= f) = f a := rfl
theorem fail_bind {f : β → M α} : ((fail : M β) >>= f) = fail := rfl
theorem bind_bind {γ : Type} {x : M γ} {f : γ → M β} {h : β → M α} : ((x >>= f) >>= h) = (x >>= fun a => f a >>= h) := funext fun _ => bind_assoc
theorem bind_pure' {x : M α} : (x >>= fun a => pure a) = x := by
  funext S
  show M.bind x pure S = _
  unfold M.bind
  cases x S <;> rfl
theorem ofO_some {a : α} : (ofO (some a) : M α) = pure a := rfl
theorem ofO_none : (ofO (none : Option α) : M α) = fail := rfl
theorem ite_bind {c : Prop} [Decidable c] {x y : M β} {f : β → M α} : ((if c then x else y) >>= f) = if c then x >>= f else y >>= f := by split <;> rfl
theorem wp_ite {c : Prop} [Decidable c] {x y : M α} : Wp (if c then x else y) S E Q ↔ (c → Wp x S E Q) ∧ (¬ c → Wp y S E Q) := by
  by_cases h : c <;> simp [h]
end
/-! ### for -/
theorem wp_for {fg : D → Ev → Option Ev} {body : Ev → M Out} {E : XQ} {Q : Out → Store → Prop} {ds : List D} {env : Ev} {S : Store} (I : Nat → Ev → Store → Prop) (h0 : I 0 env S)
    (hs : ∀ (i : Nat) d env S, ds[i]? = some d → I i env S → ∃ env1, fg d env = some env1 ∧ Wp (body env1) S E fun o S' => match o with
      | .nx e => I (i + 1) e S'
      | .ct e => I (i + 1) e S'
      | .bk e => Q (.nx e) S'
      | .rt d => Q (.rt d) S')
    (hd : ∀ env S, I ds.length env S → Q (.nx env) S) : Wp (forM fg body ds env) S E Q := by
  suffices h : ∀ (n i : Nat) env S, i + n = ds.length → I i env S → Wp (forM fg body (ds.drop i) env) S E Q by
    have := h ds.length 0 env S (by omega) h0
    rwa [List.drop_zero] at this
  intro n
  induction n with
  | zero =>
    intro i env S hi hI
    rw [List.drop_eq_nil_of_le (by omega)]
    exact hd env S (by rw [show ds.length = i by omega]; exact hI)
  | succ n ih =>
    intro i env S hi hI
    have hl : i < ds.length := by omega
    rw [List.drop_eq_getElem_cons hl]
    obtain ⟨env1, e1, hw⟩ := hs i ds[i] env S (List.getElem?_eq_getElem hl) hI
    simp only [forM, e1]
    rw [wp_bind]
    refine wp_mono hw fun o S' h => ?_
    cases o with
    | nx e => exact ih (i + 1) e S' (by omega) h
    | ct e => exact ih (i + 1) e S' (by omega) h
    | bk e => exact h
    | rt d => exact h
/-! ### comprehensions -/
theorem wp_comp {fg : D → Ev → Option Ev} {fc : Ev → M Bool} {fe : Ev → M D} {base : Ev} {Q : List D → Store → Prop} {E : XQ} {ds : List D} {S : Store} (I : Nat → List D → Store → Prop) (h0 : I 0 [] S)
    (hs : ∀ (i : Nat) d ys S, ds[i]? = some d → I i ys S → ∃ env, fg d base = some env ∧ Wp (fc env) S (fun _ _ _ => False) fun b S1 => (b = true → Wp (fe env) S1 (fun _ _ _ => False) fun y S2 => I (i + 1) (ys ++ [y]) S2) ∧ (b = false → I (i + 1) ys S1))
    (hd : ∀ ys S, I ds.length ys S → Q ys S) : Wp (compM fg fc fe base ds) S E Q := by
  suffices h : ∀ (n i : Nat) ys S, i + n = ds.length → I i ys S → Wp (leftM fg fc fe base ys (ds.drop i)) S E Q by
    have := h ds.length 0 [] S (by omega) h0
    rw [List.drop_zero] at this
    unfold leftM at this
    have e : (do let zs ← compM fg fc fe base ds; pure ([] ++ zs) : M (List D)) = compM fg fc fe base ds := bind_pure'
    rwa [e] at this
  intro n
  induction n with
  | zero =>
    intro i ys S hi hI
    rw [List.drop_eq_nil_of_le (by omega)]
    exact wp_of left_nil (hd ys S (by rw [show ds.length = i by omega]; exact hI))
  | succ n ih =>
    intro i ys S hi hI
    have hl : i < ds.length := by omega
    rw [List.drop_eq_getElem_cons hl]
    obtain ⟨env1, e1, hw⟩ := hs i ds[i] ys S (List.getElem?_eq_getElem hl) hI
    obtain ⟨b, S1, e2, hb⟩ := wp_ok hw
    unfold Wp
    rw [left_step, e1]
    simp only [e2]
    cases b with
    | false => exact ih (i + 1) ys S1 (by omega) (hb.2 rfl)
    | true =>
      obtain ⟨y, S2, e3, hy⟩ := wp_ok (hb.1 rfl)
      simp only [e3]
      exact ih (i + 1) (ys ++ [y]) S2 (by omega) hy
/-- .. that changes nothing: p and f by the items -/
theorem comp_pure {fg : D → Ev → Option Ev} {fc : Ev → M Bool} {fe : Ev → M D} {base : Ev} {S : Store} (p : D → Bool) (f : D → D) : ∀ {ds : List D}, (∀ d ∈ ds, ∃ env, fg d base = some env ∧ fc env S = .ok (p d) S ∧ (p d = true → fe env S = .ok (f d) S)) → compM fg fc fe base ds S = .ok ((ds.filter p).map f) S
  | [], _ => rfl
  | d :: ds, h => by
    obtain ⟨env, e1, e2, e3⟩ := h d List.mem_cons_self
    have ih := comp_pure (ds := ds) p f fun d' hd' => h d' (List.mem_cons_of_mem _ hd')
    simp only [compM, e1]
    rw [bind_ok (show noEx (fc env) S = .ok (p d) S by simp only [noEx, e2])]
    cases hp : p d with
    | false =>
      rw [if_neg Bool.false_ne_true, List.filter_cons_of_neg (by rw [hp]; exact Bool.false_ne_true)]
      exact ih
    | true =>
      rw [if_pos rfl, List.filter_cons_of_pos hp, bind_ok (show noEx (fe env) S = .ok (f d) S by simp only [noEx, e3 hp]), bind_ok ih]
      rfl
end Pc

set_option Elab.async false
set_option linter.all false
set_option autoImplicit false
set_option maxRecDepth 100000
set_option maxHeartbeats 4000000
/-! Pc, part T: steps of a meaning, one by one. -/
namespace Pc
open PySem PySem.Spec PyProof.Rows L2
section
variable {α β : Type} {S : Store} {E : XQ}
theorem wp_op2 {sem : D → D → Option D} {x y : D} {Q : D → Store → Prop} : Wp (op2 sem x y) S E Q ↔ ∃ d, sem (deref S x) (deref S y) = some d ∧ Q d S := wp_ofO (o := sem (deref S x) (deref S y))
theorem wp_opN {sem : List D → Option α} {xs : List D} {Q : α → Store → Prop} : Wp (opN sem xs) S E Q ↔ ∃ d, sem (xs.map (deref S)) = some d ∧ Q d S := wp_ofO (o := sem (xs.map (deref S)))
theorem wp_getM {x y : D} {Q : D → Store → Prop} : Wp (getM x y) S E Q ↔ ∃ d, getD (deref S x) y = some d ∧ Q d S := wp_ofO (o := getD (deref S x) y)
theorem wp_sliceM {x : D} {l h : Option Int} {Q : D → Store → Prop} : Wp (sliceM x l h) S E Q ↔ ∃ d, sliceD (deref S x) l h = some d ∧ Q d S := wp_ofO (o := sliceD (deref S x) l h)
theorem wp_revM {x : D} {Q : D → Store → Prop} : Wp (revM x) S E Q ↔ ∃ d, revD (deref S x) = some d ∧ Q d S := wp_ofO (o := revD (deref S x))
theorem wp_rd {i : Nat} {env : Ev} {Q : D → Store → Prop} {d : D} (h : env[i]? = some (.val d)) : Wp (rd i env) S E Q ↔ Q d S := by
  unfold rd; rw [h]; exact Iff.rfl
theorem rd_val {i : Nat} {env : Ev} : rd i env = match env[i]? with
  | some (.val d) => pure d
  | _ => fail := rfl
theorem wp_asB {d : D} {Q : Bool → Store → Prop} : Wp (asB d) S E Q ↔ ∃ b, d = .bl b ∧ Q b S := by
  cases d with
  | bl b => exact ⟨fun h => ⟨b, rfl, h⟩, fun ⟨_, e, h⟩ => by cases e; exact h⟩
  | _ => exact ⟨False.elim, fun ⟨_, e, _⟩ => by cases e⟩
theorem wp_asI {d : D} {Q : Int → Store → Prop} : Wp (asI d) S E Q ↔ ∃ b, d = .int b ∧ Q b S := by
  cases d with
  | int b => exact ⟨fun h => ⟨b, rfl, h⟩, fun ⟨_, e, h⟩ => by cases e; exact h⟩
  | _ => exact ⟨False.elim, fun ⟨_, e, _⟩ => by cases e⟩
theorem wp_newOb {ob : Ob} {Q : D → Store → Prop} : Wp (newOb ob) S E Q ↔ Q (.obj S.length) (S ++ [ob]) := Iff.rfl
theorem wp_putH {h : Nat} {xs ys : List D} {j d : D} {Q : Unit → Store → Prop} (e : S[h]? = some (.lst xs)) (p : putI xs j d = some ys) (q : Q () (S.set h (.lst ys))) : Wp (putH (.obj h) j d) S E Q := by
  unfold Wp putH
  simp only [e, p]
  exact q
theorem wp_callN {n : Nat} {sem : List D → M D} {ds : List D} {Q : D → Store → Prop} (h : ds.length = n) : Wp (callN n sem ds) S E Q ↔ Wp (sem ds) S E Q := by
  unfold callN; rw [if_pos h]
theorem wp_itemsM {x : D} {Q : List D → Store → Prop} : Wp (itemsM x) S E Q ↔ ∃ d, itemsD x = some d ∧ Q d S := wp_ofO
theorem deref_obj {h : Nat} {xs : List D} (e : S[h]? = some (.lst xs)) : deref S (.obj h) = .lst xs := by
  show derefO h S[h]? = _
  rw [e]; rfl
theorem wp_body {n : Nat} {f : Ev → M Out} {ds : List D} {Q : D → Store → Prop} : Wp (bodyM n f ds) S E Q ↔ Wp (f (callE n ds)) S E fun o S' => match o with
    | .nx _ => Q .non S'
    | .rt d => Q d S'
    | _ => False := by
  unfold bodyM
  rw [wp_bind]
  constructor
  · intro h
    refine wp_mono h fun o S' h => ?_
    cases o <;> exact h
  · intro h
    refine wp_mono h fun o S' h => ?_
    cases o <;> exact h
theorem wp_seq {f r : Ev → M Out} {env : Ev} {Q : Out → Store → Prop} : Wp (seqM f r env) S E Q ↔ Wp (f env) S E fun o S' => match o with
    | .nx e => Wp (r e) S' E Q
    | o => Q o S' := by
  unfold seqM
  rw [wp_bind]
  constructor
  · intro h
    refine wp_mono h fun o S' h => ?_
    cases o <;> exact h
  · intro h
    refine wp_mono h fun o S' h => ?_
    cases o <;> exact h
theorem wp_set {i : Nat} {f : Ev → M Sl} {env : Ev} {Q : Out → Store → Prop} : Wp (setM i f env) S E Q ↔ Wp (f env) S E fun s S' => Q (.nx (env.set i s)) S' := by
  unfold setM
  rw [wp_bind]
  exact Iff.rfl
theorem wp_if {α : Type} {t : Ev → M Bool} {f r : Ev → M α} {env : Ev} {Q : α → Store → Prop} : Wp (ifM t f r env) S E Q ↔ Wp (t env) S E fun b S' => (b = true → Wp (f env) S' E Q) ∧ (b = false → Wp (r env) S' E Q) := by
  unfold ifM
  rw [wp_bind]
  constructor
  · intro h
    refine wp_mono h fun b S' h => ?_
    cases b
    · exact ⟨fun z => (by cases z), fun _ => h⟩
    · exact ⟨fun _ => h, fun z => (by cases z)⟩
  · intro h
    refine wp_mono h fun b S' h => ?_
    cases b
    · exact h.2 rfl
    · exact h.1 rfl
theorem wp_subH {fo fi fe : Ev → M D} {env : Ev} {Q : Out → Store → Prop} : Wp (subHM fo fi fe env) S E Q ↔ Wp (fe env) S E fun d S1 => Wp (fo env) S1 E fun x S2 => Wp (fi env) S2 E fun j S3 => Wp (putH x j d) S3 E fun _ S4 => Q (.nx env) S4 := by
  unfold subHM
  simp only [wp_bind, wp_pure]
theorem wp_subO {i : Nat} {fi fe : Ev → M D} {env : Ev} {Q : Out → Store → Prop} : Wp (subOM i fi fe env) S E Q ↔ Wp (fe env) S E fun d S1 => ∃ xs, ownX i env = some xs ∧ Wp (fi env) S1 E fun j S2 => ∃ ys, putI xs j d = some ys ∧ Q (.nx (env.set i (.own ys))) S2 := by
  unfold subOM
  simp only [wp_bind, wp_ofO]
  have h : ∀ (o : Option (List D)) S, Wp (setO i env o) S E Q ↔ ∃ ys, o = some ys ∧ Q (.nx (env.set i (.own ys))) S := fun o S => by
    cases o with
    | none => exact ⟨False.elim, fun ⟨_, e, _⟩ => by cases e⟩
    | some ys => exact ⟨fun h => ⟨ys, rfl, h⟩, fun ⟨_, e, h⟩ => by cases e; exact h⟩
  simp only [h]
theorem wp_par {is : List Nat} {f : Ev → M (List Sl)} {env : Ev} {Q : Out → Store → Prop} : Wp (parM is f env) S E Q ↔ Wp (f env) S E fun ss S' => ∃ e, setsE is ss env = some e ∧ Q (.nx e) S' := by
  unfold parM
  rw [wp_bind]
  have h : ∀ ss S, Wp (match setsE is ss env with | some env' => pure (.nx env') | none => fail : M Out) S E Q ↔ ∃ e, setsE is ss env = some e ∧ Q (.nx e) S := fun ss S => by
    cases setsE is ss env with
    | none => exact ⟨False.elim, fun ⟨_, e, _⟩ => by cases e⟩
    | some ys => exact ⟨fun h => ⟨ys, rfl, h⟩, fun ⟨_, e, h⟩ => by cases e; exact h⟩
  constructor
  · intro hh; exact wp_mono hh fun ss S' z => (h ss S').mp z
  · intro hh; exact wp_mono hh fun ss S' z => (h ss S').mpr z
theorem wp_unp {fg : D → Ev → Option Ev} {f : Ev → M D} {env : Ev} {Q : Out → Store → Prop} : Wp (unpM fg f env) S E Q ↔ Wp (f env) S E fun d S' => ∃ e, fg d env = some e ∧ Q (.nx e) S' := by
  unfold unpM
  simp only [wp_bind, wp_ofO, wp_pure]
theorem wp_chgO {i : Nat} {sem : Chg} {fa : Ev → M (List D)} {env : Ev} {xs : List D} {Q : Out → Store → Prop} (h : ownX i env = some xs) : Wp (chgS i sem fa env) S E Q ↔ Wp (fa env) S E fun ds S' => ∃ p, sem xs ds = some p ∧ Q (.nx (env.set i (.own p.2))) S' := by
  unfold chgS
  rw [ownX_eq h]
  simp only [wp_bind]
  have k : ∀ ds S, Wp (match sem xs ds with | some (_, ys) => pure (.nx (env.set i (.own ys))) | none => fail : M Out) S E Q ↔ ∃ p, sem xs ds = some p ∧ Q (.nx (env.set i (.own p.2))) S := fun ds S => by
    cases sem xs ds with
    | none => exact ⟨False.elim, fun ⟨_, e, _⟩ => by cases e⟩
    | some p => exact ⟨fun h => ⟨p, rfl, h⟩, fun ⟨_, e, h⟩ => by cases e; exact h⟩
  constructor
  · intro hh; exact wp_mono hh fun ss S' z => (k ss S').mp z
  · intro hh; exact wp_mono hh fun ss S' z => (k ss S').mpr z
theorem wp_consM {f : Ev → M D} {r : Ev → M (List D)} {env : Ev} {Q : List D → Store → Prop} : Wp (consM f r env) S E Q ↔ Wp (f env) S E fun x S1 => Wp (r env) S1 E fun xs S2 => Q (x :: xs) S2 := by
  unfold consM
  simp only [wp_bind, wp_pure]
theorem wp_consX {f : Ev → M Sl} {r : Ev → M (List Sl)} {env : Ev} {Q : List Sl → Store → Prop} : Wp (consX f r env) S E Q ↔ Wp (f env) S E fun x S1 => Wp (r env) S1 E fun xs S2 => Q (x :: xs) S2 := by
  unfold consX
  simp only [wp_bind, wp_pure]
theorem wp_mkTup {xs : List D} {Q : D → Store → Prop} (h : xs.length ≤ sizeLine) : Wp (mkTup xs) S E Q ↔ Q (.tup xs) S := by
  unfold mkTup; rw [if_pos h]; exact Iff.rfl
theorem wp_mkLst {xs : List D} {Q : List D → Store → Prop} (h : xs.length ≤ sizeLine) : Wp (mkLst xs) S E Q ↔ Q xs S := by
  unfold mkLst; rw [if_pos h]; exact Iff.rfl
theorem wp_andV {f r : Ev → M D} {env : Ev} {Q : D → Store → Prop} : Wp (andV f r env) S E Q ↔ Wp (f env) S E fun x S1 => ∃ b, x = .bl b ∧ (b = true → Wp (r env) S1 E Q) ∧ (b = false → Q (.bl false) S1) := by
  unfold andV
  simp only [wp_bind, wp_asB, wp_ite, wp_pure]
  simp
theorem wp_orV {f r : Ev → M D} {env : Ev} {Q : D → Store → Prop} : Wp (orV f r env) S E Q ↔ Wp (f env) S E fun x S1 => ∃ b, x = .bl b ∧ (b = true → Q (.bl true) S1) ∧ (b = false → Wp (r env) S1 E Q) := by
  unfold orV
  simp only [wp_bind, wp_asB, wp_ite, wp_pure]
  simp
theorem wp_andM {f r : Ev → M Bool} {env : Ev} {Q : Bool → Store → Prop} : Wp (andM f r env) S E Q ↔ Wp (f env) S E fun b S1 => (b = true → Wp (r env) S1 E Q) ∧ (b = false → Q false S1) := by
  unfold andM
  simp only [wp_bind, wp_ite, wp_pure]
  simp
theorem wp_orM {f r : Ev → M Bool} {env : Ev} {Q : Bool → Store → Prop} : Wp (orM f r env) S E Q ↔ Wp (f env) S E fun b S1 => (b = true → Q true S1) ∧ (b = false → Wp (r env) S1 E Q) := by
  unfold orM
  simp only [wp_bind, wp_ite, wp_pure]
  simp
theorem at0 {α : Type} {a : α} {l : List α} : atI (a :: l) 0 = some a := by
  unfold atI ixN
  simp
theorem ixN_nat {n i : Nat} (h : i < n) : ixN n (i : Int) = some i := by
  unfold ixN
  rw [if_pos (by omega), if_pos (by omega)]
  rfl
theorem at_nat {α : Type} {l : List α} {i : Nat} (h : i < l.length) : atI l (i : Int) = l[i]? := by
  unfold atI
  rw [ixN_nat h]
  rfl
end
section
variable {S : Store} {E : XQ}
theorem w_rd {i : Nat} {env : Ev} {Q : D → Store → Prop} (d : D) (h : env[i]? = some (.val d)) (q : Q d S) : Wp (rd i env) S E Q := (wp_rd h).mpr q
theorem w_rdB {i : Nat} {env : Ev} {Q : D → Store → Prop} (d : D) (h : env[i]? = some (.val d)) (q : Q d S) : Wp (rdB i env) S E Q := by
  unfold rdB; rw [h]; exact q
theorem w_rdO {i : Nat} {env : Ev} {Q : D → Store → Prop} (d : List D) (h : env[i]? = some (.own d)) (q : Q (.lst d) S) : Wp (rdB i env) S E Q := by
  unfold rdB; rw [h]; exact q
theorem w_add {i j : Int} {Q : D → Store → Prop} (q : Q (.int (i + j)) S) : Wp (op2 addD (.int i) (.int j)) S E Q := wp_op2.mpr ⟨_, rfl, q⟩
theorem w_sub {i j : Int} {Q : D → Store → Prop} (q : Q (.int (i - j)) S) : Wp (op2 subD (.int i) (.int j)) S E Q := wp_op2.mpr ⟨_, rfl, q⟩
theorem w_mul {i j : Int} {Q : D → Store → Prop} (h : (oki i || oki j) = true) (q : Q (.int (i * j)) S) : Wp (op2 mulD (.int i) (.int j)) S E Q := wp_op2.mpr ⟨_, if_pos h, q⟩
theorem w_mulL {i j : Int} {Q : D → Store → Prop} (h : oki i = true) (q : Q (.int (i * j)) S) : Wp (op2 mulD (.int i) (.int j)) S E Q := w_mul (by rw [h]; rfl) q
theorem w_mulR {i j : Int} {Q : D → Store → Prop} (h : oki j = true) (q : Q (.int (i * j)) S) : Wp (op2 mulD (.int i) (.int j)) S E Q := w_mul (by rw [h]; exact Bool.or_true _) q
theorem w_fdiv {i j : Int} {Q : D → Store → Prop} (h : 0 < j ∧ j.natAbs.log2 < 9000) (q : Q (.int (i / j)) S) : Wp (op2 fdivD (.int i) (.int j)) S E Q := wp_op2.mpr ⟨_, if_pos h, q⟩
theorem w_mod {i j : Int} {Q : D → Store → Prop} (h : 0 < j) (q : Q (.int (i % j)) S) : Wp (op2 modD (.int i) (.int j)) S E Q := wp_op2.mpr ⟨_, if_pos h, q⟩
theorem w_lt {i j : Int} {Q : D → Store → Prop} (q : Q (.bl (decide (i < j))) S) : Wp (op2 ltD (.int i) (.int j)) S E Q := wp_op2.mpr ⟨_, rfl, q⟩
theorem w_le {i j : Int} {Q : D → Store → Prop} (q : Q (.bl (decide (i ≤ j))) S) : Wp (op2 leD (.int i) (.int j)) S E Q := wp_op2.mpr ⟨_, rfl, q⟩
theorem w_gt {i j : Int} {Q : D → Store → Prop} (q : Q (.bl (decide (j < i))) S) : Wp (op2 gtD (.int i) (.int j)) S E Q := wp_op2.mpr ⟨_, rfl, q⟩
theorem w_ge {i j : Int} {Q : D → Store → Prop} (q : Q (.bl (decide (j ≤ i))) S) : Wp (op2 geD (.int i) (.int j)) S E Q := wp_op2.mpr ⟨_, rfl, q⟩
theorem w_op2 {sem : D → D → Option D} {x y d : D} {Q : D → Store → Prop} (h : sem (deref S x) (deref S y) = some d) (q : Q d S) : Wp (op2 sem x y) S E Q := wp_op2.mpr ⟨_, h, q⟩
theorem w_opN {α : Type} {sem : List D → Option α} {xs : List D} {d : α} {Q : α → Store → Prop} (h : sem (xs.map (deref S)) = some d) (q : Q d S) : Wp (opN sem xs) S E Q := wp_opN.mpr ⟨_, h, q⟩
theorem w_getM {x y d : D} {Q : D → Store → Prop} (h : getD (deref S x) y = some d) (q : Q d S) : Wp (getM x y) S E Q := wp_getM.mpr ⟨_, h, q⟩
theorem w_asB {b : Bool} {Q : Bool → Store → Prop} (q : Q b S) : Wp (asB (.bl b)) S E Q := q
theorem w_body {n : Nat} {f : Ev → M Out} {ds : List D} {Q : D → Store → Prop} (h : Wp (f (callE n ds)) S E fun o S' => match o with
    | .nx _ => Q .non S'
    | .rt d => Q d S'
    | _ => False) : Wp (bodyM n f ds) S E Q := wp_body.mpr h
theorem ex_some {α : Type} {o : Option α} {a : α} {P : α → Prop} (h : o = some a) (q : P a) : ∃ e, o = some e ∧ P e := ⟨a, h, q⟩
theorem w_call {n : Nat} {sem : List D → M D} {ds : List D} {Q : D → Store → Prop} (h : ds.length = n) (q : Wp (sem ds) S E Q) : Wp (callN n sem ds) S E Q := (wp_callN h).mpr q
theorem w_par {is : List Nat} {f : Ev → M (List Sl)} {env : Ev} {Q : Out → Store → Prop} (h : Wp (f env) S E fun ss S' => ∃ e, setsE is ss env = some e ∧ Q (.nx e) S') : Wp (parM is f env) S E Q := wp_par.mpr h
theorem w_tup {xs : List D} {Q : D → Store → Prop} (h : xs.length ≤ sizeLine) (q : Q (.tup xs) S) : Wp (mkTup xs) S E Q := (wp_mkTup h).mpr q
theorem w_lst {xs : List D} {Q : List D → Store → Prop} (h : xs.length ≤ sizeLine) (q : Q xs S) : Wp (mkLst xs) S E Q := (wp_mkLst h).mpr q
theorem w_slice {x d : D} {l h : Option Int} {Q : D → Store → Prop} (e : sliceD (deref S x) l h = some d) (q : Q d S) : Wp (sliceM x l h) S E Q := wp_sliceM.mpr ⟨_, e, q⟩
theorem w_items {x : D} {xs : List D} {Q : List D → Store → Prop} (e : itemsD x = some xs) (q : Q xs S) : Wp (itemsM x) S E Q := wp_itemsM.mpr ⟨_, e, q⟩
theorem w_ofO {α : Type} {o : Option α} {a : α} {Q : α → Store → Prop} (e : o = some a) (q : Q a S) : Wp (ofO o) S E Q := wp_ofO.mpr ⟨_, e, q⟩
theorem w_unp {fg : D → Ev → Option Ev} {f : Ev → M D} {env : Ev} {Q : Out → Store → Prop} (h : Wp (f env) S E fun d S' => ∃ e, fg d env = some e ∧ Q (.nx e) S') : Wp (unpM fg f env) S E Q := wp_unp.mpr h
theorem w_asI {b : Int} {Q : Int → Store → Prop} (q : Q b S) : Wp (asI (.int b)) S E Q := q
theorem w_pow {i j : Int} {Q : D → Store → Prop} (h : 0 ≤ j ∧ j ≤ 1000000 ∧ i.natAbs < 2 ^ 64) (q : Q (.int (i ^ j.toNat)) S) : Wp (op2 powD (.int i) (.int j)) S E Q := wp_op2.mpr ⟨_, if_pos h, q⟩
theorem w_new {ob : Ob} {Q : D → Store → Prop} (q : Q (.obj S.length) (S ++ [ob])) : Wp (newOb ob) S E Q := q
theorem w_chg {i : Nat} {sem : Chg} {fa : Ev → M (List D)} {env : Ev} {xs : List D} {Q : Out → Store → Prop} (h : ownX i env = some xs) (q : Wp (fa env) S E fun ds S' => ∃ p, sem xs ds = some p ∧ Q (.nx (env.set i (.own p.2))) S') : Wp (chgS i sem fa env) S E Q := (wp_chgO h).mpr q
theorem w_put {h : Nat} {xs ys : List D} {j d : D} {Q : Unit → Store → Prop} (e : S[h]? = some (.lst xs)) (p : putI xs j d = some ys) (q : Q () (S.set h (.lst ys))) : Wp (putH (.obj h) j d) S E Q := wp_putH e p q
end
/-- what changes nothing -/
abbrev Still {α : Type} (x : M α) (S : Store) (a : α) : Prop := Wp x S (fun _ _ _ => False) fun b S' => b = a ∧ S' = S
theorem Still.eq {α : Type} {x : M α} {S : Store} {a : α} (h : Still x S a) : x S = .ok a S := by
  obtain ⟨b, S', e, rfl, rfl⟩ := wp_ok h
  exact e
theorem w_comp {γ : Type} {fg : D → Ev → Option Ev} {fc : Ev → M Bool} {fe : Ev → M D} {base : Ev} {S : Store} {E : XQ} {Q : List D → Store → Prop} (xs : List γ) (enc : γ → D) (P : γ → Bool) (F : γ → D)
    (hs : ∀ x ∈ xs, ∃ env, fg (enc x) base = some env ∧ Still (fc env) S (P x) ∧ (P x = true → Still (fe env) S (F x))) (q : Q ((xs.filter P).map F) S) : Wp (compM fg fc fe base (xs.map enc)) S E Q := by
  have h : ∀ {xs : List γ}, (∀ x ∈ xs, ∃ env, fg (enc x) base = some env ∧ Still (fc env) S (P x) ∧ (P x = true → Still (fe env) S (F x))) → compM fg fc fe base (xs.map enc) S = .ok ((xs.filter P).map F) S := by
    intro xs
    induction xs with
    | nil => exact fun _ => rfl
    | cons x xs ih =>
      intro h
      obtain ⟨env, e1, e2, e3⟩ := h x List.mem_cons_self
      have ih' := ih fun y hy => h y (List.mem_cons_of_mem _ hy)
      simp only [List.map_cons, compM, e1]
      rw [bind_ok (show noEx (fc env) S = .ok (P x) S by simp only [noEx, e2.eq])]
      cases hp : P x with
      | false =>
        rw [if_neg Bool.false_ne_true, List.filter_cons_of_neg (by rw [hp]; exact Bool.false_ne_true)]
        exact ih'
      | true =>
        rw [if_pos rfl, List.filter_cons_of_pos hp, bind_ok (show noEx (fe env) S = .ok (F x) S by simp only [noEx, (e3 hp).eq]), bind_ok ih']
        rfl
  exact wp_of (h hs) q
theorem filter_tt {γ : Type} (xs : List γ) : xs.filter (fun _ => true) = xs := List.filter_eq_self.mpr fun _ _ => rfl
/-- a tuple of ints -/
abbrev tupI (xs : List Int) : D := .tup (xs.map D.int)
theorem okd_ints : ∀ (n : Nat) (xs : List Int), okdL n (xs.map D.int) = true
  | _, [] => by simp [okdL]
  | n, x :: xs => by
    simp only [List.map_cons, okdL, Bool.and_eq_true]
    exact ⟨by cases n <;> simp [okd], okd_ints n xs⟩
theorem okd_tupI (n : Nat) (xs : List Int) : okd (n + 1) (tupI xs) = true := by
  unfold tupI
  simp only [okd]
  exact okd_ints n xs
theorem eqdL_ints : ∀ (xs ys : List Int), eqdL (xs.map D.int) (ys.map D.int) = decide (xs = ys)
  | [], [] => by simp [eqdL]
  | [], _ :: _ => by simp [eqdL]
  | _ :: _, [] => by simp [eqdL]
  | x :: xs, y :: ys => by
    simp only [List.map_cons, eqdL, eqd, eqdL_ints xs ys, List.cons.injEq]
    by_cases h : x = y <;> by_cases h2 : xs = ys <;> simp [h, h2]
theorem eqd_tupI (xs ys : List Int) : eqd (tupI xs) (tupI ys) = decide (xs = ys) := by
  unfold tupI
  simp only [eqd]
  exact eqdL_ints xs ys
theorem any_ints (xs : List Int) (i : Int) : (xs.map D.int).any (fun y => eqd y (.int i)) = decide (i ∈ xs) := by
  induction xs with
  | nil => simp
  | cons x xs ih =>
    simp only [List.map_cons, List.any_cons, ih, eqd]
    by_cases h : i = x
    · subst h; simp
    · have : (x == i) = false := by simpa using fun e => h e.symm
      simp [this, h]
theorem in_tupI (xs : List Int) (i : Int) : inD (.int i) (tupI xs) = some (.bl (decide (i ∈ xs))) := by
  unfold tupI inD
  simp only
  rw [if_pos (by rw [Bool.and_eq_true]; exact ⟨rfl, okd_ints 60 xs⟩), any_ints]
theorem nin_tupI (xs : List Int) (i : Int) : ninD (.int i) (tupI xs) = some (.bl (!decide (i ∈ xs))) := by
  unfold tupI ninD
  simp only
  rw [if_pos (by rw [Bool.and_eq_true]; exact ⟨rfl, okd_ints 60 xs⟩), any_ints]
theorem sum_ints (xs : List Int) : sumS [.lst (xs.map D.int)] = some (.int xs.sum) := by
  unfold sumS
  simp only
  rw [intsOf_map]; rfl
theorem all_bls (xs : List Bool) : allS [.lst (xs.map D.bl)] = some (.bl (xs.all id)) := by
  unfold allS
  simp only
  rw [blsOf_map]; rfl
/-- x == [] of a list of plain data -/
theorem eq_nil {xs : List D} (h : okdL 59 xs = true) : eqD (.lst xs) (.lst []) = some (.bl xs.isEmpty) := by
  unfold eqD
  rw [if_pos (by simp [okd, okdL, h])]
  cases xs <;> simp [eqd, eqdL]
theorem ne_nil {xs : List D} (h : okdL 59 xs = true) : neD (.lst xs) (.lst []) = some (.bl (!xs.isEmpty)) := by
  unfold neD
  rw [if_pos (by simp [okd, okdL, h])]
  cases xs <;> simp [eqd, eqdL]
theorem okd_one : ∀ (n : Nat) (xs : List D), (∀ x ∈ xs, okd n x = true) → okdL n xs = true
  | _, [], _ => by simp [okdL]
  | n, x :: xs, h => by
    simp only [okdL, Bool.and_eq_true]
    exact ⟨h x List.mem_cons_self, okd_one n xs fun y hy => h y (List.mem_cons_of_mem _ hy)⟩
theorem sort_ok {xs : List D} (h : sortOk xs = true) : sortS [.lst xs] = some (sortD xs) := if_pos h
theorem isEmpty_fm {γ δ : Type} (p : γ → Bool) (f : γ → δ) (xs : List γ) : ((xs.filter p).map f).isEmpty = xs.all fun x => !p x := by
  induction xs with
  | nil => rfl
  | cons x xs ih =>
    cases h : p x with
    | true => simp [h]
    | false => simp [h, ih]
theorem at_mem {α : Type} {l : List α} {i : Int} (h0 : 0 ≤ i) (h : i < l.length) : ∃ d ∈ l, atI l i = some d := by
  obtain ⟨n, rfl⟩ := Int.eq_ofNat_of_zero_le h0
  have hn : n < l.length := by omega
  exact ⟨l[n], List.getElem_mem hn, by rw [at_nat hn, List.getElem?_eq_getElem hn]⟩
theorem at_ints {l : List Int} {i : Int} (h0 : 0 ≤ i) (h : i < l.length) : atI (l.map D.int) i = some (.int (l.getD i.toNat 0)) := by
  obtain ⟨n, rfl⟩ := Int.eq_ofNat_of_zero_le h0
  have hn : n < l.length := by omega
  rw [at_nat (by simpa using hn), List.getElem?_map, List.getElem?_eq_getElem hn]
  simp [List.getD, hn]
theorem rng1_ok {j : Int} (h0 : 0 ≤ j) (h : j ≤ 1000000) : rng1 [.int j] = some ((List.range j.toNat).map fun (i : Nat) => D.int (0 + (i : Int))) := by
  unfold rng1
  simp only
  rw [if_pos (by omega)]
theorem rng_get {n i : Nat} {lo : Int} {d : D} (h : ((List.range n).map fun (i : Nat) => D.int (lo + (i : Int)))[i]? = some d) : d = .int (lo + i) ∧ i < n := by
  rw [List.getElem?_map] at h
  by_cases hi : i < n
  · rw [List.getElem?_range hi] at h
    cases h
    exact ⟨rfl, hi⟩
  · rw [List.getElem?_eq_none (by simpa using hi)] at h
    cases h
theorem app_ok {xs : List D} {d : D} (h : xs.length ≤ 1000000) : appC xs [d] = some (.non, xs ++ [d]) := by
  unfold appC
  simp only
  rw [if_pos (by rw [sizeLine_eq]; omega)]
theorem w_revM {S : Store} {E : XQ} {x d : D} {Q : D → Store → Prop} (e : revD (deref S x) = some d) (q : Q d S) : Wp (revM x) S E Q := wp_revM.mpr ⟨_, e, q⟩
theorem eq_tupI (xs ys : List Int) : eqD (tupI xs) (tupI ys) = some (.bl (decide (xs = ys))) := by
  unfold eqD
  rw [if_pos (by rw [okd_tupI, okd_tupI]; rfl), eqd_tupI]
theorem eq_nilT {xs : List D} (h : okdL 59 xs = true) : eqD (.tup xs) (.tup []) = some (.bl xs.isEmpty) := by
  unfold eqD
  rw [if_pos (by simp [okd, okdL, h])]
  cases xs <;> simp [eqd, eqdL]
theorem rep_ok {v k : Int} (h0 : 0 ≤ k) (h : k ≤ 1000000) : repD [.int v] (.int k) = some ((List.replicate k.toNat v).map D.int) := by
  unfold repD
  simp only
  rw [if_pos ⟨by omega, by omega, by rw [sizeLine_eq]; simp; omega⟩]
  congr 1
  induction k.toNat with
  | zero => rfl
  | succ n ih => simp [List.replicate_succ, ih]
theorem put_ints {cs : List Int} {i v : Int} (h0 : 0 ≤ i) (h : i < cs.length) : putI (cs.map D.int) (.int i) (.int v) = some ((cs.set i.toNat v).map D.int) := by
  unfold putI
  obtain ⟨n, rfl⟩ := Int.eq_ofNat_of_zero_le h0
  have hn : n < cs.length := by omega
  simp only [List.length_map]
  rw [ixN_nat hn]
  simp
theorem at_last {s : List Int} (h : s ≠ []) : ∃ x ∈ s, atI (s.map D.int) (-1) = some (.int x) := by
  have hl : 0 < s.length := List.length_pos_iff.mpr h
  refine ⟨s[s.length - 1], List.getElem_mem _, ?_⟩
  unfold atI ixN
  rw [if_neg (by decide), if_pos (by simp; omega)]
  have : (-1 + ((s.map D.int).length : Int)).toNat = s.length - 1 := by simp; omega
  rw [this]
  show (s.map D.int)[s.length - 1]? = _
  rw [List.getElem?_map, List.getElem?_eq_getElem (by omega)]
  rfl
theorem sum_bound {xs : List Int} {B : Int} (hB : 0 ≤ B) (h : ∀ x ∈ xs, 0 ≤ x ∧ x ≤ B) : 0 ≤ xs.sum ∧ xs.sum ≤ xs.length * B := by
  induction xs with
  | nil => simp
  | cons x xs ih =>
    have h1 := ih fun y hy => h y (List.mem_cons_of_mem _ hy)
    have h2 := h x List.mem_cons_self
    rw [List.sum_cons, List.length_cons]
    have e : ((xs.length + 1 : Nat) : Int) * B = xs.length * B + B := by
      rw [Int.natCast_add, Int.add_mul]; simp
    rw [e]
    omega
end Pc

set_option Elab.async false
set_option linter.all false
set_option maxRecDepth 100000
set_option maxHeartbeats 4000000
namespace Hd
open PySem PySem.Spec PyProof.Rows L2 Pc
def top (i : Nat) : Stmt := PySem.Challenge.pw_poolcounts_k22_counts_that_pass.main.body.getD i (.Pass ⟨0, 0, 0, 0⟩)
def bnames : List PySem.Str := ["abs", "all", "int", "len", "max", "range", "repr", "sorted", "sum", "tuple"]
def N_sum_of : List PySem.Str := ["counts", "some", "kind"]
def b_sum_of : { f : Ev → M Out // ∀ (g : Gc) (G : Ge) (k : Nat) (X : Cx) (Wx : WX) (w0 : Wd), Bts bnames G → Cn g G k N_sum_of (defScope (top 1)) X → (∀ x, X.fn x = true) → Takes X Wx → PassesOwn (model X.prog X.w) X.A X.env X.xe → DSs g Wx w0 X (defBody (top 1)) f } :=
  ⟨_, fun g G k X Wx w0 B c fa tk po =>
    (dss_one (ds_ret (c.bf B (by kernel_rfl) (by kernel_rfl) bb_sum (isB _) (by kernel_rfl) c.s_sum (by kernel_rfl) (db_cons (by kernel_rfl) (dw_of (de_frz (c.comp [("kind", 2)] (di_comp c.ok.K (c.vB 1 (by kernel_rfl))) (by kernel_rfl) (fun X c => (dg_name (c.pgl 2 (by kernel_rfl)))) (fun X c => dts_nil) (fun X c => (c.sub (by kernel_rfl) (c.vB 0 (by kernel_rfl)) (c.vB 2 (by kernel_rfl)))) (by kernel_rfl) (fun _ _ => (by kernel_rfl))))) db_nil))))⟩
def s_sum_of : List D → M D := bodyM 3 b_sum_of.1

def N_passes : List PySem.Str := ["limits", "counts", "some", "number"]
def b_passes : { f : Ev → M Out // ∀ (g : Gc) (G : Ge) (k : Nat) (X : Cx) (Wx : WX) (w0 : Wd), Bts bnames G → Dfn g G k "sum_of" 2 s_sum_of → Cn g G k N_passes (defScope (top 3)) X → (∀ x, X.fn x = true) → Takes X Wx → PassesOwn (model X.prog X.w) X.A X.env X.xe → DSs g Wx w0 X (defBody (top 3)) f } :=
  ⟨_, fun g G k X Wx w0 B h_sum_of c fa tk po =>
    (dss_one (ds_ret (c.bf B (by kernel_rfl) (by kernel_rfl) bb_all (isB _) (by kernel_rfl) c.s_all (by kernel_rfl) (db_cons (by kernel_rfl) (dw_of (de_frz (c.comp [("some", 2), ("number", 3)] (di_comp c.ok.K (c.vB 0 (by kernel_rfl))) (by kernel_rfl) (fun X c => (c.tg (n := 2) (dgs_cons (dg_name (c.pgl 2 (by kernel_rfl))) (dgs_cons (dg_name (c.pgl 3 (by kernel_rfl))) dgs_nil (by kernel_rfl)) (by kernel_rfl)) (fun _ => (by kernel_rfl)) (fun _ => (by kernel_rfl)))) (fun X c => dts_nil) (fun X c => (de_cmp (dw_of (c.call h_sum_of (by kernel_rfl) takes_no (by kernel_rfl) (da_cons (by kernel_rfl) (c.v 1 (by kernel_rfl)) (da_cons (by kernel_rfl) (c.v 2 (by kernel_rfl)) da_nil)))) (c.vB 3 (by kernel_rfl)) ops_le (by kernel_rfl))) (by kernel_rfl) (fun _ _ => (by kernel_rfl))))) db_nil))))⟩
def s_passes : List D → M D := bodyM 4 b_passes.1

def N__law_deck : List PySem.Str := ["_law_script", "_law_cell", "_law_great_here", "_law_small", "_law_mixed"]
def b__law_deck : { f : Ev → M Out // ∀ (g : Gc) (G : Ge) (k : Nat) (X : Cx) (Wx : WX) (w0 : Wd), Bts bnames G → Cn g G k N__law_deck (defScope (top 5)) X → (∀ x, X.fn x = true) → Takes X Wx → PassesOwn (model X.prog X.w) X.A X.env X.xe → DSs g Wx w0 X (defBody (top 5)) f } :=
  ⟨_, fun g G k X Wx w0 B c fa tk po =>
    (dss_cons (c.par2 (i := 2) (j := 3) (by kernel_rfl) (by kernel_rfl) (by kernel_rfl) (dxs_cons (by kernel_rfl) (dx_val c.int) (dxs_cons (by kernel_rfl) (dx_val (de_bin (dw_of c.int) (dw_of (de_bin (dw_of c.int) (dw_of (c.bf B (by kernel_rfl) (by kernel_rfl) bb_len (isB _) (by kernel_rfl) c.s_len (by kernel_rfl) (db_cons (by kernel_rfl) (c.vB 0 (by kernel_rfl)) db_nil))) ops_mul)) c.add)) dxs_nil)) (by kernel_rfl) (by kernel_rfl))
    (dss_cons (ds_for po c.ok.calm (di_for c.ok.K (de_slice c.ok.K (c.vB 0 (by kernel_rfl)) do_none (do_some c.int))) (dg_name (c.pg fa 1 (by kernel_rfl))) (dss_one (ds_if (dt_cmp (c.vB 1 (by kernel_rfl)) (dw_of (de_bin (dw_of c.int) (dw_of c.int) ops_pow)) ops_ge (by kernel_rfl)) (dss_one (c.set (i := 2) fa (by kernel_rfl) (by kernel_rfl) (dx_val (de_bin (dw_of (de_bin (dw_of (de_bin (c.vB 2 (by kernel_rfl)) (dw_of c.int) ops_mul)) (c.vB 1 (by kernel_rfl)) c.add)) (dw_of (de_bin (dw_of c.int) (dw_of c.int) ops_pow)) ops_sub)))) (dss_cons (c.set (i := 4) fa (by kernel_rfl) (by kernel_rfl) (dx_val (de_bin (dw_of (de_bin (c.vB 3 (by kernel_rfl)) (dw_of c.int) ops_mul)) (dw_of (de_bin (dw_of c.int) (dw_of (c.bf B (by kernel_rfl) (by kernel_rfl) bb_abs (isB _) (by kernel_rfl) c.s_abs (by kernel_rfl) (db_cons (by kernel_rfl) (c.vB 1 (by kernel_rfl)) db_nil))) ops_mul)) c.add)))
    (dss_one (c.set (i := 3) fa (by kernel_rfl) (by kernel_rfl) (dx_val (de_bin (dw_of (c.bf B (by kernel_rfl) (by kernel_rfl) bb_int (isT _) (by kernel_rfl) c.s_int (by kernel_rfl) (db_cons (by kernel_rfl) (dw_of (de_bin (c.vB 4 (by kernel_rfl)) (dw_of (c.bf B (by kernel_rfl) (by kernel_rfl) bb_int (isT _) (by kernel_rfl) c.s_int (by kernel_rfl) (db_cons (by kernel_rfl) (dw_of (de_cmp (c.vB 1 (by kernel_rfl)) (dw_of c.int) ops_lt (by kernel_rfl))) db_nil))) c.add)) db_nil))) (dw_of c.int) ops_mod))))))) (fun _ => (by kernel_rfl)))
    (dss_one (ds_ret (de_mut (dl_list (da_cons (by kernel_rfl) (c.v 2 (by kernel_rfl)) (da_cons (by kernel_rfl) (c.v 3 (by kernel_rfl)) (da_cons (by kernel_rfl) c.int da_nil)))))))))⟩
def s__law_deck : List D → M D := bodyM 5 b__law_deck.1

def N__law_take : List PySem.Str := ["_law_deck_here", "_law_many", "_law_mixed", "_law_digit"]
def b__law_take : { f : Ev → M Out // ∀ (g : Gc) (G : Ge) (k : Nat) (X : Cx) (Wx : WX) (w0 : Wd), Bts bnames G → Cn g G k N__law_take (defScope (top 6)) X → (∀ x, X.fn x = true) → Takes X Wx → PassesOwn (model X.prog X.w) X.A X.env X.xe → DSs g Wx w0 X (defBody (top 6)) f } :=
  ⟨_, fun g G k X Wx w0 B c fa tk po =>
    (dss_cons (ds_if (dt_cmp (dw_of (c.sub (by kernel_rfl) (c.vB 0 (by kernel_rfl)) (dw_of c.int))) (dw_of c.int) ops_gt (by kernel_rfl)) (dss_cons (c.set (i := 3) fa (by kernel_rfl) (by kernel_rfl) (dx_val (de_bin (dw_of (c.bf B (by kernel_rfl) (by kernel_rfl) bb_int (isT _) (by kernel_rfl) c.s_int (by kernel_rfl) (db_cons (by kernel_rfl) (dw_of (c.sub (by kernel_rfl) (c.vB 0 (by kernel_rfl)) (dw_of c.int))) db_nil))) (c.vB 1 (by kernel_rfl)) ops_mod)))
    (dss_cons (ds_subH (by kernel_rfl) (by kernel_rfl) (de_bin (dw_of (c.sub (by kernel_rfl) (c.vB 0 (by kernel_rfl)) (dw_of c.int))) (c.vB 1 (by kernel_rfl)) ops_fdiv) (c.v 0 (by kernel_rfl)) c.int)
    (dss_one (ds_ret (c.v 3 (by kernel_rfl)))))) dss_nil)
    (dss_cons (ds_subH (by kernel_rfl) (by kernel_rfl) (de_bin (dw_of (c.sub (by kernel_rfl) (c.vB 0 (by kernel_rfl)) (dw_of c.int))) (dw_of c.int) c.add) (c.v 0 (by kernel_rfl)) c.int)
    (dss_cons (c.set (i := 2) fa (by kernel_rfl) (by kernel_rfl) (dx_val (de_bin (dw_of (de_bin (dw_of (c.sub (by kernel_rfl) (c.vB 0 (by kernel_rfl)) (dw_of c.int))) (dw_of c.int) ops_mul)) (dw_of (de_bin (dw_of c.int) (dw_of (c.sub (by kernel_rfl) (c.vB 0 (by kernel_rfl)) (dw_of c.int))) ops_mul)) c.add)))
    (dss_cons (ds_subH (by kernel_rfl) (by kernel_rfl) (de_bin (dw_of (c.bf B (by kernel_rfl) (by kernel_rfl) bb_int (isT _) (by kernel_rfl) c.s_int (by kernel_rfl) (db_cons (by kernel_rfl) (c.vB 2 (by kernel_rfl)) db_nil))) (dw_of c.int) ops_mod) (c.v 0 (by kernel_rfl)) c.int)
    (dss_one (ds_ret (de_bin (dw_of (de_bin (dw_of (de_bin (dw_of (c.bf B (by kernel_rfl) (by kernel_rfl) bb_int (isT _) (by kernel_rfl) c.s_int (by kernel_rfl) (db_cons (by kernel_rfl) (dw_of (de_bin (dw_of (c.sub (by kernel_rfl) (c.vB 0 (by kernel_rfl)) (dw_of c.int))) (dw_of (c.sub (by kernel_rfl) (c.vB 0 (by kernel_rfl)) (dw_of c.int))) ops_mul)) db_nil))) (dw_of c.int) ops_mod)) (dw_of c.int) ops_fdiv)) (c.vB 1 (by kernel_rfl)) ops_mod)))))))⟩
def s__law_take : List D → M D := bodyM 4 b__law_take.1

def N__law_pick : List PySem.Str := ["_law_deck_here", "_law_some"]
def b__law_pick : { f : Ev → M Out // ∀ (g : Gc) (G : Ge) (k : Nat) (X : Cx) (Wx : WX) (w0 : Wd), Bts bnames G → Dfn g G k "_law_take" 2 s__law_take → Cn g G k N__law_pick (defScope (top 7)) X → (∀ x, X.fn x = true) → Takes X Wx → PassesOwn (model X.prog X.w) X.A X.env X.xe → DSs g Wx w0 X (defBody (top 7)) f } :=
  ⟨_, fun g G k X Wx w0 B h__law_take c fa tk po =>
    (dss_one (ds_ret (c.sub (by kernel_rfl) (c.vB 1 (by kernel_rfl)) (dw_of (c.call h__law_take (by kernel_rfl) tk (by kernel_rfl) (da_cons (by kernel_rfl) (c.v 0 (by kernel_rfl)) (da_cons (by kernel_rfl) (c.bf B (by kernel_rfl) (by kernel_rfl) bb_len (isB _) (by kernel_rfl) c.s_len (by kernel_rfl) (db_cons (by kernel_rfl) (c.vB 1 (by kernel_rfl)) db_nil)) da_nil)))))))⟩
def s__law_pick : List D → M D := bodyM 2 b__law_pick.1

def N__law_sets : List PySem.Str := ["_law_kinds", "_law_found", "_law_number", "_law_some", "_law_kind"]
def b__law_sets : { f : Ev → M Out // ∀ (g : Gc) (G : Ge) (k : Nat) (X : Cx) (Wx : WX) (w0 : Wd), Bts bnames G → Cn g G k N__law_sets (defScope (top 8)) X → (∀ x, X.fn x = true) → Takes X Wx → PassesOwn (model X.prog X.w) X.A X.env X.xe → DSs g Wx w0 X (defBody (top 8)) f } :=
  ⟨_, fun g G k X Wx w0 B c fa tk po =>
    (dss_cons (c.set (i := 1) fa (by kernel_rfl) (by kernel_rfl) (dx_own (dl_list da_nil)))
    (dss_cons (ds_for po c.ok.calm (c.rng2 B (by kernel_rfl) (by kernel_rfl) (by kernel_rfl) (by kernel_rfl) (db_cons (by kernel_rfl) (dw_of c.int) (db_cons (by kernel_rfl) (dw_of (de_bin (dw_of c.int) (dw_of c.int) ops_pow)) db_nil))) (dg_name (c.pg fa 2 (by kernel_rfl))) (dss_cons (c.set (i := 3) fa (by kernel_rfl) (by kernel_rfl) (dx_val (c.bf B (by kernel_rfl) (by kernel_rfl) bb_tuple (isT _) (by kernel_rfl) c.s_tuple (by kernel_rfl) (db_cons (by kernel_rfl) (dw_of (de_frz (c.comp [("_law_kind", 4)] (c.rng1 B (by kernel_rfl) (by kernel_rfl) (by kernel_rfl) (db_cons (by kernel_rfl) (dw_of c.int) db_nil)) (by kernel_rfl) (fun X c => (dg_name (c.pgl 4 (by kernel_rfl)))) (fun X c => dts_one (dt_cmp (dw_of (de_bin (dw_of (c.bf B (by kernel_rfl) (by kernel_rfl) bb_int (isT _) (by kernel_rfl) c.s_int (by kernel_rfl) (db_cons (by kernel_rfl) (dw_of (de_bin (c.vB 2 (by kernel_rfl)) (dw_of (c.sub (by kernel_rfl) (dw_of (de_frz (dl_list (da_cons (by kernel_rfl) c.int (da_cons (by kernel_rfl) c.int (da_cons (by kernel_rfl) c.int (da_cons (by kernel_rfl) c.int da_nil))))))) (c.vB 4 (by kernel_rfl)))) ops_fdiv)) db_nil))) (dw_of c.int) ops_mod)) (dw_of c.int) c.eq (by kernel_rfl))) (fun X c => (c.v 4 (by kernel_rfl))) (by kernel_rfl) (fun _ _ => (by kernel_rfl))))) db_nil))))
    (dss_one (ds_if (dt_cmp (dw_of (c.sub (by kernel_rfl) (c.vB 3 (by kernel_rfl)) (dw_of (de_neg c.int)))) (c.vB 0 (by kernel_rfl)) ops_lt (by kernel_rfl)) (dss_one (ds_chg c.ok.K (c.pv 1 (by kernel_rfl)) mt_appendL ch_app (by kernel_rfl) (by kernel_rfl) (by decide) (da_cons (by kernel_rfl) (c.v 3 (by kernel_rfl)) da_nil))) dss_nil))) (fun _ => (by kernel_rfl)))
    (dss_one (ds_ret (de_frz (c.bn B (by kernel_rfl) (by kernel_rfl) bb_sorted (isB _) (by kernel_rfl) c.n_sorted (by kernel_rfl) (db_cons (by kernel_rfl) (c.vB 1 (by kernel_rfl)) db_nil)))))))⟩
def s__law_sets : List D → M D := bodyM 5 b__law_sets.1

def N__law_lies : List PySem.Str := ["_law_one", "_law_other", "_law_kind"]
def b__law_lies : { f : Ev → M Out // ∀ (g : Gc) (G : Ge) (k : Nat) (X : Cx) (Wx : WX) (w0 : Wd), Bts bnames G → Cn g G k N__law_lies (defScope (top 9)) X → (∀ x, X.fn x = true) → Takes X Wx → PassesOwn (model X.prog X.w) X.A X.env X.xe → DSs g Wx w0 X (defBody (top 9)) f } :=
  ⟨_, fun g G k X Wx w0 B c fa tk po =>
    (dss_one (ds_ret (de_cmp (dw_of (de_frz (c.comp [("_law_kind", 2)] (di_comp c.ok.K (c.vB 0 (by kernel_rfl))) (by kernel_rfl) (fun X c => (dg_name (c.pgl 2 (by kernel_rfl)))) (fun X c => dts_one (dt_cmp (c.vB 2 (by kernel_rfl)) (c.vB 1 (by kernel_rfl)) c.nin (by kernel_rfl))) (fun X c => (c.v 2 (by kernel_rfl))) (by kernel_rfl) (fun _ _ => (by kernel_rfl))))) (dw_of (de_frz (dl_list da_nil))) c.eq (by kernel_rfl))))⟩
def s__law_lies : List D → M D := bodyM 3 b__law_lies.1

def N__law_meets : List PySem.Str := ["_law_one", "_law_other", "_law_kind"]
def b__law_meets : { f : Ev → M Out // ∀ (g : Gc) (G : Ge) (k : Nat) (X : Cx) (Wx : WX) (w0 : Wd), Bts bnames G → Cn g G k N__law_meets (defScope (top 10)) X → (∀ x, X.fn x = true) → Takes X Wx → PassesOwn (model X.prog X.w) X.A X.env X.xe → DSs g Wx w0 X (defBody (top 10)) f } :=
  ⟨_, fun g G k X Wx w0 B c fa tk po =>
    (dss_one (ds_ret (de_cmp (dw_of (de_frz (c.comp [("_law_kind", 2)] (di_comp c.ok.K (c.vB 0 (by kernel_rfl))) (by kernel_rfl) (fun X c => (dg_name (c.pgl 2 (by kernel_rfl)))) (fun X c => dts_one (dt_cmp (c.vB 2 (by kernel_rfl)) (c.vB 1 (by kernel_rfl)) c.isin (by kernel_rfl))) (fun X c => (c.v 2 (by kernel_rfl))) (by kernel_rfl) (fun _ _ => (by kernel_rfl))))) (dw_of (de_frz (dl_list da_nil))) c.ne (by kernel_rfl))))⟩
def s__law_meets : List D → M D := bodyM 3 b__law_meets.1

def N__law_sum : List PySem.Str := ["_law_counts", "_law_some", "_law_kind"]
def b__law_sum : { f : Ev → M Out // ∀ (g : Gc) (G : Ge) (k : Nat) (X : Cx) (Wx : WX) (w0 : Wd), Bts bnames G → Cn g G k N__law_sum (defScope (top 11)) X → (∀ x, X.fn x = true) → Takes X Wx → PassesOwn (model X.prog X.w) X.A X.env X.xe → DSs g Wx w0 X (defBody (top 11)) f } :=
  ⟨_, fun g G k X Wx w0 B c fa tk po =>
    (dss_one (ds_ret (c.bf B (by kernel_rfl) (by kernel_rfl) bb_sum (isB _) (by kernel_rfl) c.s_sum (by kernel_rfl) (db_cons (by kernel_rfl) (dw_of (de_frz (c.comp [("_law_kind", 2)] (di_comp c.ok.K (c.vB 1 (by kernel_rfl))) (by kernel_rfl) (fun X c => (dg_name (c.pgl 2 (by kernel_rfl)))) (fun X c => dts_nil) (fun X c => (c.sub (by kernel_rfl) (c.vB 0 (by kernel_rfl)) (c.vB 2 (by kernel_rfl)))) (by kernel_rfl) (fun _ _ => (by kernel_rfl))))) db_nil))))⟩
def s__law_sum : List D → M D := bodyM 3 b__law_sum.1

def N__law_pools : List PySem.Str := ["_law_deck_here", "_law_kinds", "_law_many", "_law_most_here", "_law_turn", "_law_kind", "_law_sets_here", "_law_found", "_law_some", "_law_places"]
def b__law_pools : { f : Ev → M Out // ∀ (g : Gc) (G : Ge) (k : Nat) (X : Cx) (Wx : WX) (w0 : Wd), Bts bnames G → Dfn g G k "_law_take" 2 s__law_take → Dfn g G k "_law_pick" 2 s__law_pick → Dfn g G k "_law_sets" 1 s__law_sets → Cn g G k N__law_pools (defScope (top 12)) X → (∀ x, X.fn x = true) → Takes X Wx → PassesOwn (model X.prog X.w) X.A X.env X.xe → DSs g Wx w0 X (defBody (top 12)) f } :=
  ⟨_, fun g G k X Wx w0 B h__law_take h__law_pick h__law_sets c fa tk po =>
    (dss_cons (c.par2 (i := 6) (j := 7) (by kernel_rfl) (by kernel_rfl) (by kernel_rfl) (dxs_cons (by kernel_rfl) (dx_val (c.call h__law_sets (by kernel_rfl) tk (by kernel_rfl) (da_cons (by kernel_rfl) (c.v 1 (by kernel_rfl)) da_nil))) (dxs_cons (by kernel_rfl) (dx_own (dl_list da_nil)) dxs_nil)) (by kernel_rfl) (by kernel_rfl))
    (dss_cons (ds_for po c.ok.calm (c.rng1 B (by kernel_rfl) (by kernel_rfl) (by kernel_rfl) (db_cons (by kernel_rfl) (dw_of (de_bin (dw_of c.int) (dw_of (c.call h__law_take (by kernel_rfl) tk (by kernel_rfl) (da_cons (by kernel_rfl) (c.v 0 (by kernel_rfl)) (da_cons (by kernel_rfl) (c.v 2 (by kernel_rfl)) da_nil)))) c.add)) db_nil)) (dg_name (c.pg fa 4 (by kernel_rfl))) (dss_one (ds_chg c.ok.K (c.pv 7 (by kernel_rfl)) mt_appendL ch_app (by kernel_rfl) (by kernel_rfl) (by decide) (da_cons (by kernel_rfl) (de_tup (da_cons (by kernel_rfl) (c.call h__law_pick (by kernel_rfl) tk (by kernel_rfl) (da_cons (by kernel_rfl) (c.v 0 (by kernel_rfl)) (da_cons (by kernel_rfl) (c.v 6 (by kernel_rfl)) da_nil))) (da_cons (by kernel_rfl) (de_bin (dw_of c.int) (dw_of (c.call h__law_take (by kernel_rfl) tk (by kernel_rfl) (da_cons (by kernel_rfl) (c.v 0 (by kernel_rfl)) (da_cons (by kernel_rfl) (c.v 3 (by kernel_rfl)) da_nil)))) c.add) da_nil))) da_nil))) (fun _ => (by kernel_rfl)))
    (dss_cons (ds_for po c.ok.calm (c.rng1 B (by kernel_rfl) (by kernel_rfl) (by kernel_rfl) (db_cons (by kernel_rfl) (c.vB 1 (by kernel_rfl)) db_nil)) (dg_name (c.pg fa 5 (by kernel_rfl))) (dss_one (ds_if (dt_cmp (dw_of (de_frz (c.comp [("_law_some", 8), ("_law_places", 9)] (di_comp c.ok.K (c.vB 7 (by kernel_rfl))) (by kernel_rfl) (fun X c => (c.tg (n := 2) (dgs_cons (dg_name (c.pgl 8 (by kernel_rfl))) (dgs_cons (dg_name (c.pgl 9 (by kernel_rfl))) dgs_nil (by kernel_rfl)) (by kernel_rfl)) (fun _ => (by kernel_rfl)) (fun _ => (by kernel_rfl)))) (fun X c => dts_one (dt_cmp (c.vB 5 (by kernel_rfl)) (c.vB 8 (by kernel_rfl)) c.isin (by kernel_rfl))) (fun X c => c.int) (by kernel_rfl) (fun _ _ => (by kernel_rfl))))) (dw_of (de_frz (dl_list da_nil))) c.eq (by kernel_rfl)) (dss_one (ds_chg c.ok.K (c.pv 7 (by kernel_rfl)) mt_appendL ch_app (by kernel_rfl) (by kernel_rfl) (by decide) (da_cons (by kernel_rfl) (de_tup (da_cons (by kernel_rfl) (de_tup (da_cons (by kernel_rfl) (c.v 5 (by kernel_rfl)) da_nil)) (da_cons (by kernel_rfl) (de_bin (dw_of c.int) (dw_of (c.call h__law_take (by kernel_rfl) tk (by kernel_rfl) (da_cons (by kernel_rfl) (c.v 0 (by kernel_rfl)) (da_cons (by kernel_rfl) (c.v 3 (by kernel_rfl)) da_nil)))) c.add) da_nil))) da_nil))) dss_nil)) (fun _ => (by kernel_rfl)))
    (dss_one (ds_ret (c.bf B (by kernel_rfl) (by kernel_rfl) bb_tuple (isT _) (by kernel_rfl) c.s_tuple (by kernel_rfl) (db_cons (by kernel_rfl) (c.vB 7 (by kernel_rfl)) db_nil)))))))⟩
def s__law_pools : List D → M D := bodyM 10 b__law_pools.1

def N__law_most : List PySem.Str := ["_law_pools_here", "_law_some", "_law_kinds", "_law_places"]
def b__law_most : { f : Ev → M Out // ∀ (g : Gc) (G : Ge) (k : Nat) (X : Cx) (Wx : WX) (w0 : Wd), Bts bnames G → Dfn g G k "_law_meets" 2 s__law_meets → Cn g G k N__law_most (defScope (top 13)) X → (∀ x, X.fn x = true) → Takes X Wx → PassesOwn (model X.prog X.w) X.A X.env X.xe → DSs g Wx w0 X (defBody (top 13)) f } :=
  ⟨_, fun g G k X Wx w0 B h__law_meets c fa tk po =>
    (dss_one (ds_ret (c.bf B (by kernel_rfl) (by kernel_rfl) bb_sum (isB _) (by kernel_rfl) c.s_sum (by kernel_rfl) (db_cons (by kernel_rfl) (dw_of (de_frz (c.comp [("_law_kinds", 2), ("_law_places", 3)] (di_comp c.ok.K (c.vB 0 (by kernel_rfl))) (by kernel_rfl) (fun X c => (c.tg (n := 2) (dgs_cons (dg_name (c.pgl 2 (by kernel_rfl))) (dgs_cons (dg_name (c.pgl 3 (by kernel_rfl))) dgs_nil (by kernel_rfl)) (by kernel_rfl)) (fun _ => (by kernel_rfl)) (fun _ => (by kernel_rfl)))) (fun X c => dts_one (dt_val (by kernel_rfl) (c.call h__law_meets (by kernel_rfl) takes_no (by kernel_rfl) (da_cons (by kernel_rfl) (c.v 2 (by kernel_rfl)) (da_cons (by kernel_rfl) (c.v 1 (by kernel_rfl)) da_nil))))) (fun X c => (c.v 3 (by kernel_rfl))) (by kernel_rfl) (fun _ _ => (by kernel_rfl))))) db_nil))))⟩
def s__law_most : List D → M D := bodyM 4 b__law_most.1

def N__law_passed : List PySem.Str := ["_law_limits_here", "_law_counts", "_law_some", "_law_number"]
def b__law_passed : { f : Ev → M Out // ∀ (g : Gc) (G : Ge) (k : Nat) (X : Cx) (Wx : WX) (w0 : Wd), Bts bnames G → Dfn g G k "_law_sum" 2 s__law_sum → Cn g G k N__law_passed (defScope (top 14)) X → (∀ x, X.fn x = true) → Takes X Wx → PassesOwn (model X.prog X.w) X.A X.env X.xe → DSs g Wx w0 X (defBody (top 14)) f } :=
  ⟨_, fun g G k X Wx w0 B h__law_sum c fa tk po =>
    (dss_one (ds_ret (de_cmp (dw_of (de_frz (c.comp [("_law_some", 2), ("_law_number", 3)] (di_comp c.ok.K (c.vB 0 (by kernel_rfl))) (by kernel_rfl) (fun X c => (c.tg (n := 2) (dgs_cons (dg_name (c.pgl 2 (by kernel_rfl))) (dgs_cons (dg_name (c.pgl 3 (by kernel_rfl))) dgs_nil (by kernel_rfl)) (by kernel_rfl)) (fun _ => (by kernel_rfl)) (fun _ => (by kernel_rfl)))) (fun X c => dts_one (dt_cmp (dw_of (c.call h__law_sum (by kernel_rfl) takes_no (by kernel_rfl) (da_cons (by kernel_rfl) (c.v 1 (by kernel_rfl)) (da_cons (by kernel_rfl) (c.v 2 (by kernel_rfl)) da_nil)))) (c.vB 3 (by kernel_rfl)) ops_gt (by kernel_rfl))) (fun X c => c.int) (by kernel_rfl) (fun _ _ => (by kernel_rfl))))) (dw_of (de_frz (dl_list da_nil))) c.eq (by kernel_rfl))))⟩
def s__law_passed : List D → M D := bodyM 4 b__law_passed.1

def N__law_crosses : List PySem.Str := ["_law_one", "_law_other"]
def b__law_crosses : { f : Ev → M Out // ∀ (g : Gc) (G : Ge) (k : Nat) (X : Cx) (Wx : WX) (w0 : Wd), Bts bnames G → Dfn g G k "_law_lies" 2 s__law_lies → Dfn g G k "_law_meets" 2 s__law_meets → Cn g G k N__law_crosses (defScope (top 16)) X → (∀ x, X.fn x = true) → Takes X Wx → PassesOwn (model X.prog X.w) X.A X.env X.xe → DSs g Wx w0 X (defBody (top 16)) f } :=
  ⟨_, fun g G k X Wx w0 B h__law_lies h__law_meets c fa tk po =>
    (dss_one (ds_ret (de_and (c.call h__law_meets (by kernel_rfl) tk (by kernel_rfl) (da_cons (by kernel_rfl) (c.v 0 (by kernel_rfl)) (da_cons (by kernel_rfl) (c.v 1 (by kernel_rfl)) da_nil))) (de_and (de_not (c.call h__law_lies (by kernel_rfl) tk (by kernel_rfl) (da_cons (by kernel_rfl) (c.v 0 (by kernel_rfl)) (da_cons (by kernel_rfl) (c.v 1 (by kernel_rfl)) da_nil)))) (de_one (de_not (c.call h__law_lies (by kernel_rfl) tk (by kernel_rfl) (da_cons (by kernel_rfl) (c.v 1 (by kernel_rfl)) (da_cons (by kernel_rfl) (c.v 0 (by kernel_rfl)) da_nil)))))))))⟩
def s__law_crosses : List D → M D := bodyM 2 b__law_crosses.1

def N__law_limits : List PySem.Str := ["_law_deck_here", "_law_kinds", "_law_pools_here", "_law_wide", "_law_found", "_law_turn", "_law_some", "_law_more", "_law_other", "_law_number"]
def b__law_limits : { f : Ev → M Out // ∀ (g : Gc) (G : Ge) (k : Nat) (X : Cx) (Wx : WX) (w0 : Wd), Bts bnames G → Dfn g G k "_law_take" 2 s__law_take → Dfn g G k "_law_crosses" 2 s__law_crosses → Dfn g G k "_law_most" 2 s__law_most → Dfn g G k "_law_pick" 2 s__law_pick → Dfn g G k "_law_sets" 1 s__law_sets → Cn g G k N__law_limits (defScope (top 15)) X → (∀ x, X.fn x = true) → Takes X Wx → PassesOwn (model X.prog X.w) X.A X.env X.xe → DSs g Wx w0 X (defBody (top 15)) f } :=
  ⟨_, fun g G k X Wx w0 B h__law_take h__law_crosses h__law_most h__law_pick h__law_sets c fa tk po =>
    (dss_cons (c.set (i := 4) fa (by kernel_rfl) (by kernel_rfl) (dx_own (dl_list da_nil)))
    (dss_cons (ds_for po c.ok.calm (c.rng1 B (by kernel_rfl) (by kernel_rfl) (by kernel_rfl) (db_cons (by kernel_rfl) (dw_of (c.call h__law_take (by kernel_rfl) tk (by kernel_rfl) (da_cons (by kernel_rfl) (c.v 0 (by kernel_rfl)) (da_cons (by kernel_rfl) c.int da_nil)))) db_nil)) (dg_name (c.pg fa 5 (by kernel_rfl))) (dss_cons (c.set (i := 6) fa (by kernel_rfl) (by kernel_rfl) (dx_val (c.call h__law_pick (by kernel_rfl) tk (by kernel_rfl) (da_cons (by kernel_rfl) (c.v 0 (by kernel_rfl)) (da_cons (by kernel_rfl) (c.call h__law_sets (by kernel_rfl) tk (by kernel_rfl) (da_cons (by kernel_rfl) (c.v 1 (by kernel_rfl)) da_nil)) da_nil)))))
    (dss_one (ds_if (dt_cmp (dw_of (de_frz (c.comp [("_law_other", 8), ("_law_number", 9)] (di_comp c.ok.K (c.vB 4 (by kernel_rfl))) (by kernel_rfl) (fun X c => (c.tg (n := 2) (dgs_cons (dg_name (c.pgl 8 (by kernel_rfl))) (dgs_cons (dg_name (c.pgl 9 (by kernel_rfl))) dgs_nil (by kernel_rfl)) (by kernel_rfl)) (fun _ => (by kernel_rfl)) (fun _ => (by kernel_rfl)))) (fun X c => dts_one (dt_of_w (dw_or (dt_cmp (c.vB 8 (by kernel_rfl)) (c.vB 6 (by kernel_rfl)) c.eq (by kernel_rfl)) (dw_or1 (dt_val (by kernel_rfl) (c.call h__law_crosses (by kernel_rfl) takes_no (by kernel_rfl) (da_cons (by kernel_rfl) (c.v 8 (by kernel_rfl)) (da_cons (by kernel_rfl) (c.v 6 (by kernel_rfl)) da_nil)))))))) (fun X c => c.int) (by kernel_rfl) (fun _ _ => (by kernel_rfl))))) (dw_of (de_frz (dl_list da_nil))) c.eq (by kernel_rfl)) (dss_cons (c.set (i := 7) fa (by kernel_rfl) (by kernel_rfl) (dx_val (c.call h__law_pick (by kernel_rfl) tk (by kernel_rfl) (da_cons (by kernel_rfl) (c.v 0 (by kernel_rfl)) (da_cons (by kernel_rfl) (de_frz (dl_list (da_cons (by kernel_rfl) c.int (da_cons (by kernel_rfl) c.int (da_cons (by kernel_rfl) c.int (da_cons (by kernel_rfl) c.int (da_cons (by kernel_rfl) (de_neg c.int) (da_cons (by kernel_rfl) (c.v 3 (by kernel_rfl)) (da_cons (by kernel_rfl) (de_neg (c.v 3 (by kernel_rfl))) da_nil))))))))) da_nil)))))
    (dss_one (ds_chg c.ok.K (c.pv 4 (by kernel_rfl)) mt_appendL ch_app (by kernel_rfl) (by kernel_rfl) (by decide) (da_cons (by kernel_rfl) (de_tup (da_cons (by kernel_rfl) (c.v 6 (by kernel_rfl)) (da_cons (by kernel_rfl) (c.bf B (by kernel_rfl) (by kernel_rfl) bb_max (isB _) (by kernel_rfl) c.s_max (by kernel_rfl) (db_cons (by kernel_rfl) (dw_of c.int) (db_cons (by kernel_rfl) (dw_of (de_bin (dw_of (c.call h__law_most (by kernel_rfl) tk (by kernel_rfl) (da_cons (by kernel_rfl) (c.v 2 (by kernel_rfl)) (da_cons (by kernel_rfl) (c.v 6 (by kernel_rfl)) da_nil)))) (c.vB 7 (by kernel_rfl)) c.add)) db_nil))) da_nil))) da_nil)))) dss_nil))) (fun _ => (by kernel_rfl)))
    (dss_one (ds_ret (c.bf B (by kernel_rfl) (by kernel_rfl) bb_tuple (isT _) (by kernel_rfl) c.s_tuple (by kernel_rfl) (db_cons (by kernel_rfl) (c.vB 4 (by kernel_rfl)) db_nil))))))⟩
def s__law_limits : List D → M D := bodyM 10 b__law_limits.1

def N__law_great : List PySem.Str := ["_law_deck_here"]
def b__law_great : { f : Ev → M Out // ∀ (g : Gc) (G : Ge) (k : Nat) (X : Cx) (Wx : WX) (w0 : Wd), Bts bnames G → Dfn g G k "_law_pick" 2 s__law_pick → Cn g G k N__law_great (defScope (top 17)) X → (∀ x, X.fn x = true) → Takes X Wx → PassesOwn (model X.prog X.w) X.A X.env X.xe → DSs g Wx w0 X (defBody (top 17)) f } :=
  ⟨_, fun g G k X Wx w0 B h__law_pick c fa tk po =>
    (dss_one (ds_ret (c.call h__law_pick (by kernel_rfl) tk (by kernel_rfl) (da_cons (by kernel_rfl) (c.v 0 (by kernel_rfl)) (da_cons (by kernel_rfl) (de_frz (dl_list (da_cons (by kernel_rfl) c.int (da_cons (by kernel_rfl) c.int (da_cons (by kernel_rfl) c.int (da_cons (by kernel_rfl) (de_bin (dw_of (de_bin (dw_of c.int) (dw_of c.int) ops_pow)) (dw_of c.int) c.add) (da_cons (by kernel_rfl) (de_bin (dw_of (de_bin (dw_of c.int) (dw_of c.int) ops_pow)) (dw_of c.int) c.add) (da_cons (by kernel_rfl) (de_bin (dw_of (de_bin (dw_of c.int) (dw_of c.int) ops_pow)) (dw_of c.int) c.add) da_nil)))))))) da_nil)))))⟩
def s__law_great : List D → M D := bodyM 1 b__law_great.1

def N__law_times : List PySem.Str := ["_law_rows", "_law_share", "_law_some", "_law_number"]
def b__law_times : { f : Ev → M Out // ∀ (g : Gc) (G : Ge) (k : Nat) (X : Cx) (Wx : WX) (w0 : Wd), Bts bnames G → Cn g G k N__law_times (defScope (top 18)) X → (∀ x, X.fn x = true) → Takes X Wx → PassesOwn (model X.prog X.w) X.A X.env X.xe → DSs g Wx w0 X (defBody (top 18)) f } :=
  ⟨_, fun g G k X Wx w0 B c fa tk po =>
    (dss_one (ds_ret (c.bf B (by kernel_rfl) (by kernel_rfl) bb_tuple (isT _) (by kernel_rfl) c.s_tuple (by kernel_rfl) (db_cons (by kernel_rfl) (dw_of (de_frz (c.comp [("_law_some", 2), ("_law_number", 3)] (di_comp c.ok.K (c.vB 0 (by kernel_rfl))) (by kernel_rfl) (fun X c => (c.tg (n := 2) (dgs_cons (dg_name (c.pgl 2 (by kernel_rfl))) (dgs_cons (dg_name (c.pgl 3 (by kernel_rfl))) dgs_nil (by kernel_rfl)) (by kernel_rfl)) (fun _ => (by kernel_rfl)) (fun _ => (by kernel_rfl)))) (fun X c => dts_nil) (fun X c => (de_tup (da_cons (by kernel_rfl) (c.v 2 (by kernel_rfl)) (da_cons (by kernel_rfl) (de_bin (c.vB 3 (by kernel_rfl)) (c.vB 1 (by kernel_rfl)) ops_mul) da_nil)))) (by kernel_rfl) (fun _ _ => (by kernel_rfl))))) db_nil))))⟩
def s__law_times : List D → M D := bodyM 4 b__law_times.1

def N__law_near : List PySem.Str := ["_law_deck_here", "_law_kinds", "_law_limits_here", "_law_kind", "_law_some", "_law_number", "_law_found", "_law_left"]
def b__law_near : { f : Ev → M Out // ∀ (g : Gc) (G : Ge) (k : Nat) (X : Cx) (Wx : WX) (w0 : Wd), Bts bnames G → Dfn g G k "_law_pick" 2 s__law_pick → Dfn g G k "_law_take" 2 s__law_take → Cn g G k N__law_near (defScope (top 19)) X → (∀ x, X.fn x = true) → Takes X Wx → PassesOwn (model X.prog X.w) X.A X.env X.xe → DSs g Wx w0 X (defBody (top 19)) f } :=
  ⟨_, fun g G k X Wx w0 B h__law_pick h__law_take c fa tk po =>
    (dss_cons (ds_unp (by kernel_rfl) (c.call h__law_pick (by kernel_rfl) tk (by kernel_rfl) (da_cons (by kernel_rfl) (c.v 0 (by kernel_rfl)) (da_cons (by kernel_rfl) (c.v 2 (by kernel_rfl)) da_nil))) (c.tg (n := 2) (dgs_cons (dg_name (c.pg fa 4 (by kernel_rfl))) (dgs_cons (dg_name (c.pg fa 5 (by kernel_rfl))) dgs_nil (by kernel_rfl)) (by kernel_rfl)) (fun _ => (by kernel_rfl)) (fun _ => (by kernel_rfl))))
    (dss_cons (c.par2 (i := 6) (j := 7) (by kernel_rfl) (by kernel_rfl) (by kernel_rfl) (dxs_cons (by kernel_rfl) (dx_own (dl_rep (dl_list (da_cons (by kernel_rfl) c.int da_nil)) (c.v 1 (by kernel_rfl)))) (dxs_cons (by kernel_rfl) (dx_val (c.bf B (by kernel_rfl) (by kernel_rfl) bb_max (isB _) (by kernel_rfl) c.s_max (by kernel_rfl) (db_cons (by kernel_rfl) (dw_of c.int) (db_cons (by kernel_rfl) (dw_of (de_bin (c.vB 5 (by kernel_rfl)) (dw_of (c.call h__law_pick (by kernel_rfl) tk (by kernel_rfl) (da_cons (by kernel_rfl) (c.v 0 (by kernel_rfl)) (da_cons (by kernel_rfl) (de_frz (dl_list (da_cons (by kernel_rfl) c.int (da_cons (by kernel_rfl) c.int (da_cons (by kernel_rfl) c.int (da_cons (by kernel_rfl) (de_neg c.int) (da_cons (by kernel_rfl) c.int da_nil))))))) da_nil)))) c.add)) db_nil)))) dxs_nil)) (by kernel_rfl) (by kernel_rfl))
    (dss_cons (ds_for po c.ok.calm (di_for c.ok.K (de_slice c.ok.K (c.vB 4 (by kernel_rfl)) do_none (do_some (de_neg c.int)))) (dg_name (c.pg fa 3 (by kernel_rfl))) (dss_cons (ds_subO (c.pv 6 (by kernel_rfl)) (by kernel_rfl) (by kernel_rfl) (c.call h__law_take (by kernel_rfl) tk (by kernel_rfl) (da_cons (by kernel_rfl) (c.v 0 (by kernel_rfl)) (da_cons (by kernel_rfl) (de_bin (c.vB 7 (by kernel_rfl)) (dw_of c.int) c.add) da_nil))) (c.v 3 (by kernel_rfl)))
    (dss_one (c.set (i := 7) fa (by kernel_rfl) (by kernel_rfl) (dx_val (de_bin (c.vB 7 (by kernel_rfl)) (dw_of (c.sub (by kernel_rfl) (c.vB 6 (by kernel_rfl)) (c.vB 3 (by kernel_rfl)))) ops_sub))))) (fun _ => (by kernel_rfl)))
    (dss_cons (ds_subO (c.pv 6 (by kernel_rfl)) (by kernel_rfl) (by kernel_rfl) (c.v 7 (by kernel_rfl)) (c.sub (by kernel_rfl) (c.vB 4 (by kernel_rfl)) (dw_of (de_neg c.int))))
    (dss_cons (ds_for po c.ok.calm (c.rng1 B (by kernel_rfl) (by kernel_rfl) (by kernel_rfl) (db_cons (by kernel_rfl) (c.vB 1 (by kernel_rfl)) db_nil)) (dg_name (c.pg fa 3 (by kernel_rfl))) (dss_one (ds_if (dt_cmp (c.vB 3 (by kernel_rfl)) (c.vB 4 (by kernel_rfl)) c.nin (by kernel_rfl)) (dss_one (ds_subO (c.pv 6 (by kernel_rfl)) (by kernel_rfl) (by kernel_rfl) (c.call h__law_pick (by kernel_rfl) tk (by kernel_rfl) (da_cons (by kernel_rfl) (c.v 0 (by kernel_rfl)) (da_cons (by kernel_rfl) (de_frz (dl_list (da_cons (by kernel_rfl) c.int (da_cons (by kernel_rfl) c.int (da_cons (by kernel_rfl) c.int (da_cons (by kernel_rfl) (c.v 5 (by kernel_rfl)) da_nil)))))) da_nil))) (c.v 3 (by kernel_rfl)))) dss_nil)) (fun _ => (by kernel_rfl)))
    (dss_one (ds_ret (c.bf B (by kernel_rfl) (by kernel_rfl) bb_tuple (isT _) (by kernel_rfl) c.s_tuple (by kernel_rfl) (db_cons (by kernel_rfl) (c.vB 6 (by kernel_rfl)) db_nil)))))))))⟩
def s__law_near : List D → M D := bodyM 8 b__law_near.1

def N_law : List PySem.Str := ["_law_script", "_law_deck_here", "_law_turn", "_law_pools_here", "_law_limits_here", "_law_again", "_law_kinds", "_law_share", "_law_counts", "_law_due", "_law_less", "_law_count", "_law_kind"]
def b_law : { f : Ev → M Out // ∀ (g : Gc) (G : Ge) (k : Nat) (X : Cx) (Wx : WX) (w0 : Wd), Bts bnames G → Dfn g G k "passes" 2 s_passes → Dfn g G k "_law_passed" 2 s__law_passed → Dfn g G k "_law_take" 2 s__law_take → Dfn g G k "_law_near" 3 s__law_near → Dfn g G k "_law_limits" 4 s__law_limits → Dfn g G k "_law_times" 2 s__law_times → Dfn g G k "_law_pools" 4 s__law_pools → Dfn g G k "_law_great" 1 s__law_great → Dfn g G k "_law_deck" 1 s__law_deck → Cn g G k N_law (defScope (top 20)) X → (∀ x, X.fn x = true) → Takes X Wx → PassesOwn (model X.prog X.w) X.A X.env X.xe → DSs g Wx w0 X (defBody (top 20)) f } :=
  ⟨_, fun g G k X Wx w0 B h_passes h__law_passed h__law_take h__law_near h__law_limits h__law_times h__law_pools h__law_great h__law_deck c fa tk po =>
    (dss_cons (c.set (i := 1) fa (by kernel_rfl) (by kernel_rfl) (dx_val (c.call h__law_deck (by kernel_rfl) tk (by kernel_rfl) (da_cons (by kernel_rfl) (c.v 0 (by kernel_rfl)) da_nil))))
    (dss_cons (ds_for po c.ok.calm (c.rng1 B (by kernel_rfl) (by kernel_rfl) (by kernel_rfl) (db_cons (by kernel_rfl) (dw_of c.int) db_nil)) (dg_name (c.pg fa 2 (by kernel_rfl))) (dss_cons (c.par2 (i := 6) (j := 7) (by kernel_rfl) (by kernel_rfl) (by kernel_rfl) (dxs_cons (by kernel_rfl) (dx_val (de_bin (dw_of c.int) (dw_of (c.call h__law_take (by kernel_rfl) tk (by kernel_rfl) (da_cons (by kernel_rfl) (c.v 1 (by kernel_rfl)) (da_cons (by kernel_rfl) c.int da_nil)))) c.add)) (dxs_cons (by kernel_rfl) (dx_val (c.call h__law_great (by kernel_rfl) tk (by kernel_rfl) (da_cons (by kernel_rfl) (c.v 1 (by kernel_rfl)) da_nil))) dxs_nil)) (by kernel_rfl) (by kernel_rfl))
    (dss_cons (c.set (i := 3) fa (by kernel_rfl) (by kernel_rfl) (dx_val (c.call h__law_times (by kernel_rfl) tk (by kernel_rfl) (da_cons (by kernel_rfl) (c.call h__law_pools (by kernel_rfl) tk (by kernel_rfl) (da_cons (by kernel_rfl) (c.v 1 (by kernel_rfl)) (da_cons (by kernel_rfl) (c.v 6 (by kernel_rfl)) (da_cons (by kernel_rfl) c.int (da_cons (by kernel_rfl) c.int da_nil))))) (da_cons (by kernel_rfl) (c.v 7 (by kernel_rfl)) da_nil)))))
    (dss_cons (c.set (i := 4) fa (by kernel_rfl) (by kernel_rfl) (dx_val (c.call h__law_limits (by kernel_rfl) tk (by kernel_rfl) (da_cons (by kernel_rfl) (c.v 1 (by kernel_rfl)) (da_cons (by kernel_rfl) (c.v 6 (by kernel_rfl)) (da_cons (by kernel_rfl) (c.v 3 (by kernel_rfl)) (da_cons (by kernel_rfl) (c.v 7 (by kernel_rfl)) da_nil)))))))
    (dss_cons (ds_if (dt_cmp (c.vB 4 (by kernel_rfl)) (dw_of (de_tup da_nil)) c.eq (by kernel_rfl)) (dss_cons (ds_if (dt_cmp (dw_of (c.call h_passes (by kernel_rfl) tk (by kernel_rfl) (da_cons (by kernel_rfl) (c.v 4 (by kernel_rfl)) (da_cons (by kernel_rfl) (c.bf B (by kernel_rfl) (by kernel_rfl) bb_tuple (isT _) (by kernel_rfl) c.s_tuple (by kernel_rfl) (db_cons (by kernel_rfl) (dw_of (de_frz (c.comp [("_law_kind", 12)] (c.rng1 B (by kernel_rfl) (by kernel_rfl) (by kernel_rfl) (db_cons (by kernel_rfl) (c.vB 6 (by kernel_rfl)) db_nil)) (by kernel_rfl) (fun X c => (dg_name (c.pgl 12 (by kernel_rfl)))) (fun X c => dts_nil) (fun X c => (c.call h__law_take (by kernel_rfl) takes_no (by kernel_rfl) (da_cons (by kernel_rfl) (c.v 1 (by kernel_rfl)) (da_cons (by kernel_rfl) (de_bin (dw_of c.int) (dw_of c.int) ops_pow) da_nil)))) (by kernel_rfl) (fun _ _ => (by kernel_rfl))))) db_nil)) da_nil)))) (dw_of c.bl) ops_isnt (by kernel_rfl)) (dss_one (ds_ret c.bl)) dss_nil)
    (dss_one ds_cont)) dss_nil)
    (dss_one (ds_for po c.ok.calm (c.rng1 B (by kernel_rfl) (by kernel_rfl) (by kernel_rfl) (db_cons (by kernel_rfl) (dw_of c.int) db_nil)) (dg_name (c.pg fa 5 (by kernel_rfl))) (dss_cons (c.set (i := 8) fa (by kernel_rfl) (by kernel_rfl) (dx_val (c.call h__law_near (by kernel_rfl) tk (by kernel_rfl) (da_cons (by kernel_rfl) (c.v 1 (by kernel_rfl)) (da_cons (by kernel_rfl) (c.v 6 (by kernel_rfl)) (da_cons (by kernel_rfl) (c.v 4 (by kernel_rfl)) da_nil))))))
    (dss_cons (c.set (i := 9) fa (by kernel_rfl) (by kernel_rfl) (dx_val (c.call h__law_passed (by kernel_rfl) tk (by kernel_rfl) (da_cons (by kernel_rfl) (c.v 4 (by kernel_rfl)) (da_cons (by kernel_rfl) (c.v 8 (by kernel_rfl)) da_nil)))))
    (dss_cons (ds_if (dt_cmp (dw_of (c.bf B (by kernel_rfl) (by kernel_rfl) bb_repr (isB _) (by kernel_rfl) c.s_repr (by kernel_rfl) (db_cons (by kernel_rfl) (dw_of (de_frz (dl_list (da_cons (by kernel_rfl) (c.call h_passes (by kernel_rfl) tk (by kernel_rfl) (da_cons (by kernel_rfl) (c.v 4 (by kernel_rfl)) (da_cons (by kernel_rfl) (c.v 8 (by kernel_rfl)) da_nil))) (da_cons (by kernel_rfl) (c.call h_passes (by kernel_rfl) tk (by kernel_rfl) (da_cons (by kernel_rfl) (de_revT c.ok.K (c.vB 4 (by kernel_rfl))) (da_cons (by kernel_rfl) (c.v 8 (by kernel_rfl)) da_nil))) da_nil))))) db_nil))) (dw_of (c.bf B (by kernel_rfl) (by kernel_rfl) bb_repr (isB _) (by kernel_rfl) c.s_repr (by kernel_rfl) (db_cons (by kernel_rfl) (dw_of (de_frz (dl_list (da_cons (by kernel_rfl) (c.v 9 (by kernel_rfl)) (da_cons (by kernel_rfl) (c.v 9 (by kernel_rfl)) da_nil))))) db_nil))) c.ne (by kernel_rfl)) (dss_one (ds_ret c.bl)) dss_nil)
    (dss_cons (c.set (i := 10) fa (by kernel_rfl) (by kernel_rfl) (dx_val (c.bf B (by kernel_rfl) (by kernel_rfl) bb_tuple (isT _) (by kernel_rfl) c.s_tuple (by kernel_rfl) (db_cons (by kernel_rfl) (dw_of (de_frz (c.comp [("_law_count", 11)] (di_comp c.ok.K (c.vB 8 (by kernel_rfl))) (by kernel_rfl) (fun X c => (dg_name (c.pgl 11 (by kernel_rfl)))) (fun X c => dts_nil) (fun X c => (de_bin (c.vB 11 (by kernel_rfl)) (dw_of (c.call h__law_take (by kernel_rfl) takes_no (by kernel_rfl) (da_cons (by kernel_rfl) (c.v 1 (by kernel_rfl)) (da_cons (by kernel_rfl) (de_bin (c.vB 11 (by kernel_rfl)) (dw_of c.int) c.add) da_nil)))) ops_sub)) (by kernel_rfl) (fun _ _ => (by kernel_rfl))))) db_nil))))
    (dss_one (ds_if (dt_of_w (dw_or (dt_cmp (dw_of (c.bf B (by kernel_rfl) (by kernel_rfl) bb_repr (isB _) (by kernel_rfl) c.s_repr (by kernel_rfl) (db_cons (by kernel_rfl) (dw_of (c.call h_passes (by kernel_rfl) tk (by kernel_rfl) (da_cons (by kernel_rfl) (c.v 4 (by kernel_rfl)) (da_cons (by kernel_rfl) (c.v 10 (by kernel_rfl)) da_nil)))) db_nil))) (dw_of (c.bf B (by kernel_rfl) (by kernel_rfl) bb_repr (isB _) (by kernel_rfl) c.s_repr (by kernel_rfl) (db_cons (by kernel_rfl) (dw_of (c.call h__law_passed (by kernel_rfl) tk (by kernel_rfl) (da_cons (by kernel_rfl) (c.v 4 (by kernel_rfl)) (da_cons (by kernel_rfl) (c.v 10 (by kernel_rfl)) da_nil)))) db_nil))) c.ne (by kernel_rfl)) (dw_or1 (dt_of_w (dw_and (dt_val (by kernel_rfl) (c.v 9 (by kernel_rfl))) (dw_and1 (dt_not (dt_val (by kernel_rfl) (c.call h_passes (by kernel_rfl) tk (by kernel_rfl) (da_cons (by kernel_rfl) (c.v 4 (by kernel_rfl)) (da_cons (by kernel_rfl) (c.v 10 (by kernel_rfl)) da_nil))))))))))) (dss_one (ds_ret c.bl)) dss_nil)))))) (fun _ => (by kernel_rfl)))))))) (fun _ => (by kernel_rfl)))
    (dss_one (ds_ret c.bl))))⟩
def s_law : List D → M D := bodyM 13 b_law.1

def d0 : He.DefD := ⟨("sum_of", none), "sum_of", "sum_of", defArgs (top 1), defBody (top 1), defScope (top 1), [], []⟩
def d1 : He.DefD := ⟨("passes", none), "passes", "passes", defArgs (top 3), defBody (top 3), defScope (top 3), [], []⟩
def d2 : He.DefD := ⟨("_law_deck", none), "_law_deck", "_law_deck", defArgs (top 5), defBody (top 5), defScope (top 5), [], []⟩
def d3 : He.DefD := ⟨("_law_take", none), "_law_take", "_law_take", defArgs (top 6), defBody (top 6), defScope (top 6), [], []⟩
def d4 : He.DefD := ⟨("_law_pick", none), "_law_pick", "_law_pick", defArgs (top 7), defBody (top 7), defScope (top 7), [], []⟩
def d5 : He.DefD := ⟨("_law_sets", none), "_law_sets", "_law_sets", defArgs (top 8), defBody (top 8), defScope (top 8), [], []⟩
def d6 : He.DefD := ⟨("_law_lies", none), "_law_lies", "_law_lies", defArgs (top 9), defBody (top 9), defScope (top 9), [], []⟩
def d7 : He.DefD := ⟨("_law_meets", none), "_law_meets", "_law_meets", defArgs (top 10), defBody (top 10), defScope (top 10), [], []⟩
def d8 : He.DefD := ⟨("_law_sum", none), "_law_sum", "_law_sum", defArgs (top 11), defBody (top 11), defScope (top 11), [], []⟩
def d9 : He.DefD := ⟨("_law_pools", none), "_law_pools", "_law_pools", defArgs (top 12), defBody (top 12), defScope (top 12), [], []⟩
def d10 : He.DefD := ⟨("_law_most", none), "_law_most", "_law_most", defArgs (top 13), defBody (top 13), defScope (top 13), [], []⟩
def d11 : He.DefD := ⟨("_law_passed", none), "_law_passed", "_law_passed", defArgs (top 14), defBody (top 14), defScope (top 14), [], []⟩
def d12 : He.DefD := ⟨("_law_crosses", none), "_law_crosses", "_law_crosses", defArgs (top 16), defBody (top 16), defScope (top 16), [], []⟩
def d13 : He.DefD := ⟨("_law_limits", none), "_law_limits", "_law_limits", defArgs (top 15), defBody (top 15), defScope (top 15), [], []⟩
def d14 : He.DefD := ⟨("_law_great", none), "_law_great", "_law_great", defArgs (top 17), defBody (top 17), defScope (top 17), [], []⟩
def d15 : He.DefD := ⟨("_law_times", none), "_law_times", "_law_times", defArgs (top 18), defBody (top 18), defScope (top 18), [], []⟩
def d16 : He.DefD := ⟨("_law_near", none), "_law_near", "_law_near", defArgs (top 19), defBody (top 19), defScope (top 19), [], []⟩
def d17 : He.DefD := ⟨("law", none), "law", "law", defArgs (top 20), defBody (top 20), defScope (top 20), [], []⟩
def fn : List He.DefD := [d0, d1, d2, d3, d4, d5, d6, d7, d8, d9, d10, d11, d12, d13, d14, d15, d16, d17]
def gnames : List PySem.Str := ["sum_of", "passes", "_law_deck", "_law_take", "_law_pick", "_law_sets", "_law_lies", "_law_meets", "_law_sum", "_law_pools", "_law_most", "_law_passed", "_law_crosses", "_law_limits", "_law_great", "_law_times", "_law_near", "law"]
def fa : List He.Fa := gnames.map He.Fa.glo ++ bnames.map He.Fa.free
def loose : List PySem.Str := ["sum_of", "passes", "_law_deck", "_law_take", "_law_pick", "_law_sets", "_law_lies", "_law_meets", "_law_sum", "_law_pools", "_law_most", "_law_passed", "_law_crosses", "_law_limits", "_law_great", "_law_times", "_law_near"]
abbrev R : PySem.W.OpenRow := PySem.W.OpenLaw.row PySem.Challenge.rw_poolcounts_k22_counts_that_pass
abbrev hk : PySem.W.Hook := He.hookD 5 fa fn
def ob (s : PySem.W.SharedT) : He.AlD := He.obsDG 5 fa fn (HandSHeadRun.getT s)
theorem ob_eq (s : PySem.W.SharedT) : ob s = hk.obs s.abs := He.obsDG_eq (HandSHeadRun.getT_eq s)
theorem run (w : World) : HandSHeadRun.RunEq R (PySem.W.view R.prog [20]) hk ob 20000 loose w := by
  intro os
  kernel_rfl
def gcOf (K : PySem.W.Frag) : Gc := ⟨K, fun _ => 0⟩
theorem facts (P : Program) (w : World) (mg : PySem.Str → Option Value) {K : PySem.W.Frag} {h : Heap} {f : Addr} (X : K.In h) (G : h.Ns mainGlobals mg) (hf : mg ("law" : PySem.Str) = some (.ref f)) (c : He.SaysD fa fn K) :
    ∃ fd : FuncData, (∀ (s : Shared) (v : Value), BindsTo s fd ⟨[v], []⟩ [("_law_script", v)]) ∧ ∀ base : Heap, FnG (gcOf K) P w mg base 4 f fd ["_law_script"] s_law := by
  obtain ⟨fd0, F0⟩ := c.def_ 0 (d := d0) rfl
  have m0 := glo_of X G c (x := "sum_of") 0 rfl
  obtain ⟨fd1, F1⟩ := c.def_ 1 (d := d1) rfl
  have m1 := glo_of X G c (x := "passes") 1 rfl
  obtain ⟨fd2, F2⟩ := c.def_ 2 (d := d2) rfl
  have m2 := glo_of X G c (x := "_law_deck") 2 rfl
  obtain ⟨fd3, F3⟩ := c.def_ 3 (d := d3) rfl
  have m3 := glo_of X G c (x := "_law_take") 3 rfl
  obtain ⟨fd4, F4⟩ := c.def_ 4 (d := d4) rfl
  have m4 := glo_of X G c (x := "_law_pick") 4 rfl
  obtain ⟨fd5, F5⟩ := c.def_ 5 (d := d5) rfl
  have m5 := glo_of X G c (x := "_law_sets") 5 rfl
  obtain ⟨fd6, F6⟩ := c.def_ 6 (d := d6) rfl
  have m6 := glo_of X G c (x := "_law_lies") 6 rfl
  obtain ⟨fd7, F7⟩ := c.def_ 7 (d := d7) rfl
  have m7 := glo_of X G c (x := "_law_meets") 7 rfl
  obtain ⟨fd8, F8⟩ := c.def_ 8 (d := d8) rfl
  have m8 := glo_of X G c (x := "_law_sum") 8 rfl
  obtain ⟨fd9, F9⟩ := c.def_ 9 (d := d9) rfl
  have m9 := glo_of X G c (x := "_law_pools") 9 rfl
  obtain ⟨fd10, F10⟩ := c.def_ 10 (d := d10) rfl
  have m10 := glo_of X G c (x := "_law_most") 10 rfl
  obtain ⟨fd11, F11⟩ := c.def_ 11 (d := d11) rfl
  have m11 := glo_of X G c (x := "_law_passed") 11 rfl
  obtain ⟨fd12, F12⟩ := c.def_ 12 (d := d12) rfl
  have m12 := glo_of X G c (x := "_law_crosses") 12 rfl
  obtain ⟨fd13, F13⟩ := c.def_ 13 (d := d13) rfl
  have m13 := glo_of X G c (x := "_law_limits") 13 rfl
  obtain ⟨fd14, F14⟩ := c.def_ 14 (d := d14) rfl
  have m14 := glo_of X G c (x := "_law_great") 14 rfl
  obtain ⟨fd15, F15⟩ := c.def_ 15 (d := d15) rfl
  have m15 := glo_of X G c (x := "_law_times") 15 rfl
  obtain ⟨fd16, F16⟩ := c.def_ 16 (d := d16) rfl
  have m16 := glo_of X G c (x := "_law_near") 16 rfl
  obtain ⟨fd17, F17⟩ := c.def_ 17 (d := d17) rfl
  have m17 := glo_of X G c (x := "law") 17 rfl
  have ef := hf.symm.trans m17
  cases ef
  have bA := FunD.bindsA (ps := ["_law_script"]) F17 fun _ _ _ _ _ _ us hl => match us, hl with | [_], _ => rfl
  refine ⟨fd17, fun s v => bA s [v] rfl, fun base => ?_⟩
  have B : Bts bnames ⟨P, w, mg, base⟩ := bts_of X G c fun x hx => List.mem_append_right _ (List.mem_map_of_mem hx)
  have D_sum_of : Dfn (gcOf K) ⟨P, w, mg, base⟩ 1 "sum_of" 2 s_sum_of := dfn_of (g := gcOf K) (G := ⟨P, w, mg, base⟩) (k := 0) (N := N_sum_of) (ps := ["counts", "some"]) (fb := b_sum_of.1) F0 (by kernel_rfl) m0 rfl rfl
    (F0.bindsN fun _ _ _ _ _ _ us hl => match us, hl with | [_, _], _ => rfl) fun X Wx w0 c fa tk po => b_sum_of.2 (gcOf K) ⟨P, w, mg, base⟩ 0 X Wx w0 B c fa tk po
  have D_passes : Dfn (gcOf K) ⟨P, w, mg, base⟩ 2 "passes" 2 s_passes := dfn_of (g := gcOf K) (G := ⟨P, w, mg, base⟩) (k := 1) (N := N_passes) (ps := ["limits", "counts"]) (fb := b_passes.1) F1 (by kernel_rfl) m1 rfl rfl
    (F1.bindsN fun _ _ _ _ _ _ us hl => match us, hl with | [_, _], _ => rfl) fun X Wx w0 c fa tk po => b_passes.2 (gcOf K) ⟨P, w, mg, base⟩ 1 X Wx w0 B (D_sum_of.mono (by decide)) c fa tk po
  have D__law_deck : Dfn (gcOf K) ⟨P, w, mg, base⟩ 1 "_law_deck" 1 s__law_deck := dfn_of (g := gcOf K) (G := ⟨P, w, mg, base⟩) (k := 0) (N := N__law_deck) (ps := ["_law_script"]) (fb := b__law_deck.1) F2 (by kernel_rfl) m2 rfl rfl
    (F2.bindsN fun _ _ _ _ _ _ us hl => match us, hl with | [_], _ => rfl) fun X Wx w0 c fa tk po => b__law_deck.2 (gcOf K) ⟨P, w, mg, base⟩ 0 X Wx w0 B c fa tk po
  have D__law_take : Dfn (gcOf K) ⟨P, w, mg, base⟩ 1 "_law_take" 2 s__law_take := dfn_of (g := gcOf K) (G := ⟨P, w, mg, base⟩) (k := 0) (N := N__law_take) (ps := ["_law_deck_here", "_law_many"]) (fb := b__law_take.1) F3 (by kernel_rfl) m3 rfl rfl
    (F3.bindsN fun _ _ _ _ _ _ us hl => match us, hl with | [_, _], _ => rfl) fun X Wx w0 c fa tk po => b__law_take.2 (gcOf K) ⟨P, w, mg, base⟩ 0 X Wx w0 B c fa tk po
  have D__law_pick : Dfn (gcOf K) ⟨P, w, mg, base⟩ 2 "_law_pick" 2 s__law_pick := dfn_of (g := gcOf K) (G := ⟨P, w, mg, base⟩) (k := 1) (N := N__law_pick) (ps := ["_law_deck_here", "_law_some"]) (fb := b__law_pick.1) F4 (by kernel_rfl) m4 rfl rfl
    (F4.bindsN fun _ _ _ _ _ _ us hl => match us, hl with | [_, _], _ => rfl) fun X Wx w0 c fa tk po => b__law_pick.2 (gcOf K) ⟨P, w, mg, base⟩ 1 X Wx w0 B (D__law_take.mono (by decide)) c fa tk po
  have D__law_sets : Dfn (gcOf K) ⟨P, w, mg, base⟩ 1 "_law_sets" 1 s__law_sets := dfn_of (g := gcOf K) (G := ⟨P, w, mg, base⟩) (k := 0) (N := N__law_sets) (ps := ["_law_kinds"]) (fb := b__law_sets.1) F5 (by kernel_rfl) m5 rfl rfl
    (F5.bindsN fun _ _ _ _ _ _ us hl => match us, hl with | [_], _ => rfl) fun X Wx w0 c fa tk po => b__law_sets.2 (gcOf K) ⟨P, w, mg, base⟩ 0 X Wx w0 B c fa tk po
  have D__law_lies : Dfn (gcOf K) ⟨P, w, mg, base⟩ 1 "_law_lies" 2 s__law_lies := dfn_of (g := gcOf K) (G := ⟨P, w, mg, base⟩) (k := 0) (N := N__law_lies) (ps := ["_law_one", "_law_other"]) (fb := b__law_lies.1) F6 (by kernel_rfl) m6 rfl rfl
    (F6.bindsN fun _ _ _ _ _ _ us hl => match us, hl with | [_, _], _ => rfl) fun X Wx w0 c fa tk po => b__law_lies.2 (gcOf K) ⟨P, w, mg, base⟩ 0 X Wx w0 B c fa tk po
  have D__law_meets : Dfn (gcOf K) ⟨P, w, mg, base⟩ 1 "_law_meets" 2 s__law_meets := dfn_of (g := gcOf K) (G := ⟨P, w, mg, base⟩) (k := 0) (N := N__law_meets) (ps := ["_law_one", "_law_other"]) (fb := b__law_meets.1) F7 (by kernel_rfl) m7 rfl rfl
    (F7.bindsN fun _ _ _ _ _ _ us hl => match us, hl with | [_, _], _ => rfl) fun X Wx w0 c fa tk po => b__law_meets.2 (gcOf K) ⟨P, w, mg, base⟩ 0 X Wx w0 B c fa tk po
  have D__law_sum : Dfn (gcOf K) ⟨P, w, mg, base⟩ 1 "_law_sum" 2 s__law_sum := dfn_of (g := gcOf K) (G := ⟨P, w, mg, base⟩) (k := 0) (N := N__law_sum) (ps := ["_law_counts", "_law_some"]) (fb := b__law_sum.1) F8 (by kernel_rfl) m8 rfl rfl
    (F8.bindsN fun _ _ _ _ _ _ us hl => match us, hl with | [_, _], _ => rfl) fun X Wx w0 c fa tk po => b__law_sum.2 (gcOf K) ⟨P, w, mg, base⟩ 0 X Wx w0 B c fa tk po
  have D__law_pools : Dfn (gcOf K) ⟨P, w, mg, base⟩ 3 "_law_pools" 4 s__law_pools := dfn_of (g := gcOf K) (G := ⟨P, w, mg, base⟩) (k := 2) (N := N__law_pools) (ps := ["_law_deck_here", "_law_kinds", "_law_many", "_law_most_here"]) (fb := b__law_pools.1) F9 (by kernel_rfl) m9 rfl rfl
    (F9.bindsN fun _ _ _ _ _ _ us hl => match us, hl with | [_, _, _, _], _ => rfl) fun X Wx w0 c fa tk po => b__law_pools.2 (gcOf K) ⟨P, w, mg, base⟩ 2 X Wx w0 B (D__law_take.mono (by decide)) (D__law_pick.mono (by decide)) (D__law_sets.mono (by decide)) c fa tk po
  have D__law_most : Dfn (gcOf K) ⟨P, w, mg, base⟩ 2 "_law_most" 2 s__law_most := dfn_of (g := gcOf K) (G := ⟨P, w, mg, base⟩) (k := 1) (N := N__law_most) (ps := ["_law_pools_here", "_law_some"]) (fb := b__law_most.1) F10 (by kernel_rfl) m10 rfl rfl
    (F10.bindsN fun _ _ _ _ _ _ us hl => match us, hl with | [_, _], _ => rfl) fun X Wx w0 c fa tk po => b__law_most.2 (gcOf K) ⟨P, w, mg, base⟩ 1 X Wx w0 B (D__law_meets.mono (by decide)) c fa tk po
  have D__law_passed : Dfn (gcOf K) ⟨P, w, mg, base⟩ 2 "_law_passed" 2 s__law_passed := dfn_of (g := gcOf K) (G := ⟨P, w, mg, base⟩) (k := 1) (N := N__law_passed) (ps := ["_law_limits_here", "_law_counts"]) (fb := b__law_passed.1) F11 (by kernel_rfl) m11 rfl rfl
    (F11.bindsN fun _ _ _ _ _ _ us hl => match us, hl with | [_, _], _ => rfl) fun X Wx w0 c fa tk po => b__law_passed.2 (gcOf K) ⟨P, w, mg, base⟩ 1 X Wx w0 B (D__law_sum.mono (by decide)) c fa tk po
  have D__law_crosses : Dfn (gcOf K) ⟨P, w, mg, base⟩ 2 "_law_crosses" 2 s__law_crosses := dfn_of (g := gcOf K) (G := ⟨P, w, mg, base⟩) (k := 1) (N := N__law_crosses) (ps := ["_law_one", "_law_other"]) (fb := b__law_crosses.1) F12 (by kernel_rfl) m12 rfl rfl
    (F12.bindsN fun _ _ _ _ _ _ us hl => match us, hl with | [_, _], _ => rfl) fun X Wx w0 c fa tk po => b__law_crosses.2 (gcOf K) ⟨P, w, mg, base⟩ 1 X Wx w0 B (D__law_lies.mono (by decide)) (D__law_meets.mono (by decide)) c fa tk po
  have D__law_limits : Dfn (gcOf K) ⟨P, w, mg, base⟩ 3 "_law_limits" 4 s__law_limits := dfn_of (g := gcOf K) (G := ⟨P, w, mg, base⟩) (k := 2) (N := N__law_limits) (ps := ["_law_deck_here", "_law_kinds", "_law_pools_here", "_law_wide"]) (fb := b__law_limits.1) F13 (by kernel_rfl) m13 rfl rfl
    (F13.bindsN fun _ _ _ _ _ _ us hl => match us, hl with | [_, _, _, _], _ => rfl) fun X Wx w0 c fa tk po => b__law_limits.2 (gcOf K) ⟨P, w, mg, base⟩ 2 X Wx w0 B (D__law_take.mono (by decide)) (D__law_crosses.mono (by decide)) (D__law_most.mono (by decide)) (D__law_pick.mono (by decide)) (D__law_sets.mono (by decide)) c fa tk po
  have D__law_great : Dfn (gcOf K) ⟨P, w, mg, base⟩ 3 "_law_great" 1 s__law_great := dfn_of (g := gcOf K) (G := ⟨P, w, mg, base⟩) (k := 2) (N := N__law_great) (ps := ["_law_deck_here"]) (fb := b__law_great.1) F14 (by kernel_rfl) m14 rfl rfl
    (F14.bindsN fun _ _ _ _ _ _ us hl => match us, hl with | [_], _ => rfl) fun X Wx w0 c fa tk po => b__law_great.2 (gcOf K) ⟨P, w, mg, base⟩ 2 X Wx w0 B (D__law_pick.mono (by decide)) c fa tk po
  have D__law_times : Dfn (gcOf K) ⟨P, w, mg, base⟩ 1 "_law_times" 2 s__law_times := dfn_of (g := gcOf K) (G := ⟨P, w, mg, base⟩) (k := 0) (N := N__law_times) (ps := ["_law_rows", "_law_share"]) (fb := b__law_times.1) F15 (by kernel_rfl) m15 rfl rfl
    (F15.bindsN fun _ _ _ _ _ _ us hl => match us, hl with | [_, _], _ => rfl) fun X Wx w0 c fa tk po => b__law_times.2 (gcOf K) ⟨P, w, mg, base⟩ 0 X Wx w0 B c fa tk po
  have D__law_near : Dfn (gcOf K) ⟨P, w, mg, base⟩ 3 "_law_near" 3 s__law_near := dfn_of (g := gcOf K) (G := ⟨P, w, mg, base⟩) (k := 2) (N := N__law_near) (ps := ["_law_deck_here", "_law_kinds", "_law_limits_here"]) (fb := b__law_near.1) F16 (by kernel_rfl) m16 rfl rfl
    (F16.bindsN fun _ _ _ _ _ _ us hl => match us, hl with | [_, _, _], _ => rfl) fun X Wx w0 c fa tk po => b__law_near.2 (gcOf K) ⟨P, w, mg, base⟩ 2 X Wx w0 B (D__law_pick.mono (by decide)) (D__law_take.mono (by decide)) c fa tk po
  exact fnG_def (g := gcOf K) (G := ⟨P, w, mg, base⟩) (k := 3) (N := N_law) (ps := ["_law_script"]) F17 (by kernel_rfl) fun X Wx w0 c fa tk po => b_law.2 (gcOf K) ⟨P, w, mg, base⟩ 3 X Wx w0 B (D_passes.mono (by decide)) (D__law_passed.mono (by decide)) (D__law_take.mono (by decide)) (D__law_near.mono (by decide)) (D__law_limits.mono (by decide)) (D__law_times.mono (by decide)) (D__law_pools.mono (by decide)) (D__law_great.mono (by decide)) (D__law_deck.mono (by decide)) c fa tk po
end Hd
open PySem PySem.W PySem.Calls PyProof.Rows in
theorem Hd.done (mean : ∀ ns : List Int, ns.length ≤ 63 → (∀ z ∈ ns, Builtin.Int.intBits z ≤ 1048576) → ∃ S, Hd.s_law [.lst (ns.map Pc.D.int)] [] = .ok (.bl true) S) : PySem.Challenge.rw_poolcounts_k22_counts_that_pass.Holds := by
  w_on; o_law
  refine HandSHeadRun.head_any (r := Hd.R) (q := view Hd.R.prog [20]) (H := Hd.hk) (ob := Hd.ob) (M := 20000) (loose := Hd.loose) (d := HandSHeadRun.topDef Hd.R.prog 20) (kwd := []) Hd.ob_eq
    (by kernel_rfl) (fun s => by kernel_rfl) Hd.run (by kernel_rfl) (by kernel_rfl) (by kernel_rfl) (by rfl) (by first | assumption | decide +kernel) (by decide +kernel) ⟨rfl, rfl, rfl, rfl, rfl, by decide +kernel⟩ ?hw ?hc
  case hw => w_witness2
  case hc =>
    refine Pc.walkG (l := PySem.Challenge.rw_poolcounts_k22_counts_that_pass) (n := 63) (k := 4) (x := "_law_script") rfl (by decide) (by kernel_rfl) ⟨rfl, by decide, by decide⟩ ?_
    intro w mg fa h Y G hm
    obtain ⟨K, KX, c⟩ := Y
    have hmg : mg ("law" : PySem.Str) = some (.ref fa) := by
      have e : (HandSHeadRun.topDef Hd.R.prog 20).name = ("law" : PySem.Str) := by kernel_rfl
      rw [← e]
      exact hm
    obtain ⟨fd, hb, hF⟩ := Hd.facts (PySem.Challenge.rw_poolcounts_k22_counts_that_pass).prog w mg KX G hmg c
    exact ⟨Hd.gcOf K, fd, Hd.s_law, KX, hb, fun base _ _ => hF base, mean⟩

namespace Hd
open PySem PySem.Spec PyProof.Rows L2 Pc
local macro_rules | `(tactic| lcg_sub) => `(tactic| repeat (first
  | with_reducible refine wp_bind.mpr ?_
  | with_reducible refine wp_pure.mpr ?_
  | with_reducible refine wp_seq.mpr ?_
  | with_reducible refine wp_set.mpr ?_
  | with_reducible refine wp_subH.mpr ?_
  | with_reducible refine wp_consM.mpr ?_
  | with_reducible refine w_rd _ rfl ?_
  | with_reducible refine w_rdB _ rfl ?_
  | with_reducible refine w_rdO _ rfl ?_
  | with_reducible refine w_asB ?_
  | with_reducible refine w_add ?_
  | with_reducible refine w_sub ?_
  | with_reducible refine w_mulL (by first | assumption | decide) ?_
  | with_reducible refine w_mulR (by first | assumption | decide) ?_
  | with_reducible refine w_pow (by decide) ?_
  | with_reducible refine w_call rfl ?_
  | with_reducible refine w_par ?_
  | with_reducible refine w_unp ?_
  | with_reducible refine wp_consX.mpr ?_
  | with_reducible refine w_tup (by simp only [List.length_cons, List.length_nil]; decide) ?_
  | with_reducible refine w_lst (by simp only [List.length_cons, List.length_nil]; decide) ?_
  | with_reducible refine w_asI ?_
  | with_reducible refine w_new ?_
  | with_reducible refine w_slice rfl ?_
  | with_reducible refine w_items rfl ?_
  | with_reducible refine w_mod (by first | assumption | decide | omega) ?_
  | with_reducible refine w_fdiv (by first | assumption | exact ⟨by assumption, by assumption⟩ | decide) ?_
  | with_reducible refine w_lt ?_
  | with_reducible refine w_le ?_
  | with_reducible refine w_gt ?_
  | with_reducible refine w_ge ?_
  | with_reducible refine w_getM rfl ?_
  | with_reducible refine w_opN rfl ?_
  | with_reducible refine w_put rfl rfl ?_
  | with_reducible refine wp_if.mpr ?_
  | with_reducible refine w_ofO rfl ?_
  | with_reducible refine w_revM rfl ?_
  | with_reducible refine ex_some rfl ?_))

/-- the deck stands first -/
def DK (S R : Store) : Prop := ∃ a b c : Int, S = .lst [.int a, .int b, .int c] :: R ∧ 0 ≤ b ∧ b < 2 ^ 61 ∧ 0 ≤ c
theorem oki_of {i : Int} (h : -(2 ^ 64) < i) (h2 : i < 2 ^ 64) : oki i = true := by
  unfold oki
  rw [Bool.and_eq_true, decide_eq_true_eq, decide_eq_true_eq]
  exact ⟨h, h2⟩
theorem take_spec {S R : Store} {E : XQ} {m : Int} (h : DK S R) (hm : 0 < m) (hb : m.natAbs.log2 < 9000) : Wp (s__law_take [.obj 0, .int m]) S E fun d S' => ∃ i : Int, d = .int i ∧ 0 ≤ i ∧ i < m ∧ DK S' R := by
  obtain ⟨a, b, c, rfl, h1, h2, h3⟩ := h
  have ok1 : oki b = true := oki_of (by omega) (by omega)
  have hx := Int.emod_nonneg (b * 3202034522624059733 + 1181783497276652981 * (c + 1)) (b := 2305843009213693951) (by decide)
  have hy := Int.emod_lt_of_pos (b * 3202034522624059733 + 1181783497276652981 * (c + 1)) (b := 2305843009213693951) (by decide)
  have ok2 : oki ((b * 3202034522624059733 + 1181783497276652981 * (c + 1)) % 2305843009213693951) = true := oki_of (by omega) (by omega)
  unfold s__law_take
  refine w_body ?_
  dsimp only [b__law_take]
  lcg_sub
  refine ⟨fun ht => ?_, fun ht => ?_⟩
  · lcg_sub
    exact ⟨_, rfl, Int.emod_nonneg _ (by omega), Int.emod_lt_of_pos _ hm, a / m, b, c, rfl, h1, h2, h3⟩
  · lcg_sub
    exact ⟨_, rfl, Int.emod_nonneg _ (by omega), Int.emod_lt_of_pos _ hm, a, _, c + 1, rfl, hx, by omega, by omega⟩
theorem deck_spec {E : XQ} {ns : List Int} (hl : ns.length ≤ 63) : Wp (s__law_deck [.lst (ns.map D.int)]) [] E fun d S' => d = .obj 0 ∧ DK S' [] := by
  unfold s__law_deck
  refine w_body ?_
  dsimp only [b__law_deck]
  lcg_sub
  refine wp_for (fun i env S => ∃ g s : Int, ∃ x y, env = [.val (.lst (ns.map D.int)), x, .val (.int g), .val (.int s), y] ∧ S = [] ∧ 0 ≤ s ∧ s < 2 ^ 61) ⟨0, 2942 + 41 * ((ns.map D.int).length : Int), .no, .no, rfl, rfl, by omega, by simp; omega⟩ ?_ ?_
  · rintro i d env S hd ⟨g, s, x, y, rfl, rfl, h1, h2⟩
    obtain ⟨z, rfl⟩ : ∃ z : Int, d = .int z := by
      have := List.mem_of_getElem? hd
      unfold Pc.cutD at this
      have := List.mem_of_mem_drop (List.mem_of_mem_take this)
      obtain ⟨z, _, rfl⟩ := List.mem_map.mp this
      exact ⟨z, rfl⟩
    refine ⟨_, rfl, ?_⟩
    have hs : oki s = true := oki_of (by omega) (by omega)
    lcg_sub
    refine ⟨fun ht => ?_, fun ht => ?_⟩
    · lcg_sub
      exact ⟨_, _, _, _, rfl, rfl, h1, h2⟩
    · lcg_sub
      exact ⟨_, _, _, _, rfl, rfl, Int.emod_nonneg _ (by decide), Int.lt_of_lt_of_le (Int.emod_lt_of_pos _ (by decide)) (by decide)⟩
  · rintro env S ⟨g, s, x, y, rfl, rfl, h1, h2⟩
    lcg_sub
    exact ⟨rfl, g, s, 0, rfl, h1, h2, by omega⟩

theorem small_log {m : Int} (h : 0 < m) (h2 : m < 2 ^ 8000) : m.natAbs.log2 < 9000 := by
  obtain ⟨n, rfl⟩ := Int.eq_ofNat_of_zero_le (Int.le_of_lt h)
  have hn : n ≠ 0 := by intro e; subst e; cases h
  rw [Int.natAbs_natCast, Nat.log2_lt hn]
  have : n < 2 ^ 8000 := by exact_mod_cast h2
  exact Nat.lt_of_lt_of_le this (Nat.pow_le_pow_right (by decide) (by decide))

/-- the law's sets of k kinds, as they are found -/
def setN (n : Nat) : List Int := ((List.range 4).filter fun i => n / 2 ^ i % 2 == 1).map (fun i : Nat => (i : Int))
def setsN (k : Int) : List (List Int) := ((List.range 15).map fun i => setN (i + 1)).filter fun s => decide (s.getLastD 0 < k)
theorem sort_perm (L : List (List Int)) : ∃ L' : List (List Int), sortD (L.map tupI) = L'.map tupI ∧ L'.Perm L := by
  have h : (sortD (L.map tupI)).Perm (L.map tupI) := List.mergeSort_perm _ _
  have inj : ∀ {A : List D}, A.Perm (L.map tupI) → ∃ L' : List (List Int), A = L'.map tupI ∧ L'.Perm L := by
    intro A hA
    have hm : ∀ a ∈ A, ∃ l, tupI l = a := fun a ha => by
      obtain ⟨l, _, e⟩ := List.mem_map.mp (hA.subset ha)
      exact ⟨l, e⟩
    let un : D → List Int := fun d => match d with
      | .tup xs => xs.filterMap fun x => match x with
        | .int i => some i
        | _ => none
      | _ => []
    have hu : ∀ l, un (tupI l) = l := fun l => by
      show (l.map D.int).filterMap _ = l
      rw [List.filterMap_map]
      induction l with
      | nil => rfl
      | cons x l ih => simp [ih]
    refine ⟨A.map un, ?_, ?_⟩
    · rw [List.map_map]
      symm
      have : ∀ a ∈ A, (tupI ∘ un) a = a := fun a ha => by
        obtain ⟨l, rfl⟩ := hm a ha
        simp only [Function.comp, hu]
      rw [List.map_congr_left this]
      simp
    · have := hA.map un
      rw [List.map_map] at this
      have e : (un ∘ tupI) = id := funext hu
      rw [e, List.map_id] at this
      exact this
  exact inj h
theorem sets_spec {S : Store} {E : XQ} {k : Int} (hk : 1 ≤ k) (hk2 : k ≤ 4) : Wp (s__law_sets [.int k]) S E fun d S' => ∃ L : List (List Int), d = .lst (L.map tupI) ∧ S' = S ∧ L.Perm (setsN k) := by
  unfold s__law_sets
  refine w_body ?_
  dsimp only [b__law_sets]
  lcg_sub
  obtain ⟨L, eL, pL⟩ := sort_perm (setsN k)
  have hc : k = 1 ∨ k = 2 ∨ k = 3 ∨ k = 4 := by omega
  rcases hc with rfl | rfl | rfl | rfl
  · refine wp_of (a := .nx [.val (.int 1), .own ((setsN 1).map tupI), .val (.int 15), .val (tupI (setN 15)), .no]) (S' := S) (by kernel_rfl) ?_
    lcg_sub
    exact ⟨L, by rw [eL], rfl, pL⟩
  · refine wp_of (a := .nx [.val (.int 2), .own ((setsN 2).map tupI), .val (.int 15), .val (tupI (setN 15)), .no]) (S' := S) (by kernel_rfl) ?_
    lcg_sub
    exact ⟨L, by rw [eL], rfl, pL⟩
  · refine wp_of (a := .nx [.val (.int 3), .own ((setsN 3).map tupI), .val (.int 15), .val (tupI (setN 15)), .no]) (S' := S) (by kernel_rfl) ?_
    lcg_sub
    exact ⟨L, by rw [eL], rfl, pL⟩
  · refine wp_of (a := .nx [.val (.int 4), .own ((setsN 4).map tupI), .val (.int 15), .val (tupI (setN 15)), .no]) (S' := S) (by kernel_rfl) ?_
    lcg_sub
    exact ⟨L, by rw [eL], rfl, pL⟩

theorem pick_spec {S R : Store} {E : XQ} {L : List D} (h : DK S R) (hl : 0 < L.length) (hb : L.length < 2 ^ 60) : Wp (s__law_pick [.obj 0, .lst L]) S E fun d S' => d ∈ L ∧ DK S' R := by
  unfold s__law_pick
  refine w_body ?_
  dsimp only [b__law_pick]
  lcg_sub
  refine wp_mono (take_spec h (by omega) (small_log (by omega) (by omega))) ?_
  rintro d S' ⟨i, rfl, h0, h1, h'⟩
  obtain ⟨d, hd, e⟩ := at_mem h0 h1
  lcg_sub
  refine w_getM (d := d) e ?_
  lcg_sub
  exact ⟨hd, h'⟩
theorem pickT_spec {S R : Store} {E : XQ} {L : List D} (h : DK S R) (hl : 0 < L.length) (hb : L.length < 2 ^ 60) : Wp (s__law_pick [.obj 0, .tup L]) S E fun d S' => d ∈ L ∧ DK S' R := by
  unfold s__law_pick
  refine w_body ?_
  dsimp only [b__law_pick]
  lcg_sub
  refine wp_mono (take_spec h (by omega) (small_log (by omega) (by omega))) ?_
  rintro d S' ⟨i, rfl, h0, h1, h'⟩
  obtain ⟨d, hd, e⟩ := at_mem h0 h1
  lcg_sub
  refine w_getM (d := d) e ?_
  lcg_sub
  exact ⟨hd, h'⟩
theorem lies_spec {S : Store} {E : XQ} {a b : List Int} : Wp (s__law_lies [tupI a, tupI b]) S E fun d S' => d = .bl (a.all fun i => decide (i ∈ b)) ∧ S' = S := by
  unfold s__law_lies
  refine w_body ?_
  dsimp only [b__law_lies]
  lcg_sub
  refine w_comp a D.int (fun i => !decide (i ∈ b)) D.int (fun x hx => ⟨_, rfl, ?_, fun hp => ?_⟩) ?_
  · lcg_sub
    refine w_op2 (nin_tupI b x) ?_
    lcg_sub
    exact ⟨rfl, rfl⟩
  · lcg_sub
    exact ⟨rfl, rfl⟩
  · lcg_sub
    refine w_op2 (eq_nil (okd_ints _ _)) ?_
    lcg_sub
    refine ⟨?_, rfl⟩
    rw [isEmpty_fm]
    simp only [Bool.not_not]
theorem meets_spec {S : Store} {E : XQ} {a b : List Int} : Wp (s__law_meets [tupI a, tupI b]) S E fun d S' => d = .bl (a.any fun i => decide (i ∈ b)) ∧ S' = S := by
  unfold s__law_meets
  refine w_body ?_
  dsimp only [b__law_meets]
  lcg_sub
  refine w_comp a D.int (fun i => decide (i ∈ b)) D.int (fun x hx => ⟨_, rfl, ?_, fun hp => ?_⟩) ?_
  · lcg_sub
    refine w_op2 (in_tupI b x) ?_
    lcg_sub
    exact ⟨rfl, rfl⟩
  · lcg_sub
    exact ⟨rfl, rfl⟩
  · lcg_sub
    refine w_op2 (ne_nil (okd_ints _ _)) ?_
    lcg_sub
    refine ⟨?_, rfl⟩
    rw [isEmpty_fm, List.not_all_eq_any_not]
    simp only [Bool.not_not]
def sumO (cs s : List Int) : Int := (s.map fun i => cs.getD i.toNat 0).sum
theorem sum_of_spec {S : Store} {E : XQ} {cs s : List Int} (h : ∀ i ∈ s, 0 ≤ i ∧ i < cs.length) : Wp (s_sum_of [tupI cs, tupI s]) S E fun d S' => d = .int (sumO cs s) ∧ S' = S := by
  unfold s_sum_of
  refine w_body ?_
  dsimp only [b_sum_of]
  lcg_sub
  refine w_comp s D.int (fun _ => true) (fun i => .int (cs.getD i.toNat 0)) (fun x hx => ⟨_, rfl, ?_, fun hp => ?_⟩) ?_
  · lcg_sub
    exact ⟨rfl, rfl⟩
  · lcg_sub
    refine w_getM (d := .int (cs.getD x.toNat 0)) (at_ints (h x hx).1 (h x hx).2) ?_
    lcg_sub
    exact ⟨rfl, rfl⟩
  · lcg_sub
    rw [filter_tt]
    refine w_opN (d := .int (sumO cs s)) ?_ ?_
    · show sumS [.lst (s.map fun i => D.int (cs.getD i.toNat 0))] = _
      rw [show (s.map fun i => D.int (cs.getD i.toNat 0)) = (s.map fun i => cs.getD i.toNat 0).map D.int by rw [List.map_map]; rfl]
      exact sum_ints _
    · lcg_sub
      exact ⟨rfl, rfl⟩

/-- limits, pools: a set and a number each -/
abbrev encL (p : List Int × Int) : D := .tup [tupI p.1, .int p.2]
abbrev encLs (ps : List (List Int × Int)) : D := .tup (ps.map encL)
def passB (ls : List (List Int × Int)) (cs : List Int) : Bool := ls.all fun p => decide (sumO cs p.1 ≤ p.2)
def InK (n : Nat) (s : List Int) : Prop := ∀ i ∈ s, 0 ≤ i ∧ i < (n : Int)
theorem law_sum_spec {S : Store} {E : XQ} {cs s : List Int} (h : ∀ i ∈ s, 0 ≤ i ∧ i < cs.length) : Wp (s__law_sum [tupI cs, tupI s]) S E fun d S' => d = .int (sumO cs s) ∧ S' = S := by
  unfold s__law_sum
  refine w_body ?_
  dsimp only [b__law_sum]
  lcg_sub
  refine w_comp s D.int (fun _ => true) (fun i => .int (cs.getD i.toNat 0)) (fun x hx => ⟨_, rfl, ?_, fun hp => ?_⟩) ?_
  · lcg_sub
    exact ⟨rfl, rfl⟩
  · lcg_sub
    refine w_getM (d := .int (cs.getD x.toNat 0)) (at_ints (h x hx).1 (h x hx).2) ?_
    lcg_sub
    exact ⟨rfl, rfl⟩
  · lcg_sub
    rw [filter_tt]
    refine w_opN (d := .int (sumO cs s)) ?_ ?_
    · show sumS [.lst (s.map fun i => D.int (cs.getD i.toNat 0))] = _
      rw [show (s.map fun i => D.int (cs.getD i.toNat 0)) = (s.map fun i => cs.getD i.toNat 0).map D.int by rw [List.map_map]; rfl]
      exact sum_ints _
    · lcg_sub
      exact ⟨rfl, rfl⟩
theorem passes_spec {S : Store} {E : XQ} {ls : List (List Int × Int)} {cs : List Int} (h : ∀ p ∈ ls, InK cs.length p.1) : Wp (s_passes [encLs ls, tupI cs]) S E fun d S' => d = .bl (passB ls cs) ∧ S' = S := by
  unfold s_passes
  refine w_body ?_
  dsimp only [b_passes]
  lcg_sub
  refine w_comp ls encL (fun _ => true) (fun p => .bl (decide (sumO cs p.1 ≤ p.2))) (fun x hx => ⟨_, rfl, ?_, fun hp => ?_⟩) ?_
  · lcg_sub
    exact ⟨rfl, rfl⟩
  · lcg_sub
    refine wp_mono (sum_of_spec (h x hx)) ?_
    rintro _ _ ⟨rfl, rfl⟩
    lcg_sub
    exact ⟨rfl, rfl⟩
  · lcg_sub
    rw [filter_tt]
    refine w_opN (d := .bl (passB ls cs)) ?_ ?_
    · show allS [.lst (ls.map fun p => D.bl (decide (sumO cs p.1 ≤ p.2)))] = _
      rw [show (ls.map fun p => D.bl (decide (sumO cs p.1 ≤ p.2))) = (ls.map fun p => decide (sumO cs p.1 ≤ p.2)).map D.bl by rw [List.map_map]; rfl, all_bls]
      simp [passB, List.all_map]
    · lcg_sub
      exact ⟨rfl, rfl⟩
theorem passed_spec {S : Store} {E : XQ} {ls : List (List Int × Int)} {cs : List Int} (h : ∀ p ∈ ls, InK cs.length p.1) : Wp (s__law_passed [encLs ls, tupI cs]) S E fun d S' => d = .bl (passB ls cs) ∧ S' = S := by
  unfold s__law_passed
  refine w_body ?_
  dsimp only [b__law_passed]
  lcg_sub
  refine w_comp ls encL (fun p => decide (p.2 < sumO cs p.1)) (fun _ => .int 1) (fun x hx => ⟨_, rfl, ?_, fun hp => ?_⟩) ?_
  · lcg_sub
    refine wp_mono (law_sum_spec (h x hx)) ?_
    rintro _ _ ⟨rfl, rfl⟩
    lcg_sub
    exact ⟨rfl, rfl⟩
  · lcg_sub
    exact ⟨rfl, rfl⟩
  · lcg_sub
    refine w_op2 (eq_nil (okd_one _ _ fun x hx => ?_)) ?_
    · obtain ⟨_, _, rfl⟩ := List.mem_map.mp hx
      rfl
    · lcg_sub
      refine ⟨?_, rfl⟩
      rw [isEmpty_fm]
      congr 1
      unfold passB
      congr 1
      funext p
      rw [← decide_not]
      congr 1
      exact propext Int.not_lt
theorem most_spec {S : Store} {E : XQ} {ps : List (List Int × Int)} {s : List Int} : Wp (s__law_most [encLs ps, tupI s]) S E fun d S' => d = .int ((ps.filter fun p => p.1.any fun i => decide (i ∈ s)).map (·.2)).sum ∧ S' = S := by
  unfold s__law_most
  refine w_body ?_
  dsimp only [b__law_most]
  lcg_sub
  refine w_comp ps encL (fun p => p.1.any fun i => decide (i ∈ s)) (fun p => .int p.2) (fun x hx => ⟨_, rfl, ?_, fun hp => ?_⟩) ?_
  · lcg_sub
    refine wp_mono meets_spec ?_
    rintro _ _ ⟨rfl, rfl⟩
    lcg_sub
    exact ⟨rfl, rfl⟩
  · lcg_sub
    exact ⟨rfl, rfl⟩
  · lcg_sub
    refine w_opN (d := .int ((ps.filter fun p => p.1.any fun i => decide (i ∈ s)).map (·.2)).sum) ?_ ?_
    · rw [show ((ps.filter fun p => p.1.any fun i => decide (i ∈ s)).map fun p => D.int p.2) = ((ps.filter fun p => p.1.any fun i => decide (i ∈ s)).map (·.2)).map D.int by rw [List.map_map]; rfl]
      exact sum_ints _
    · lcg_sub
      exact ⟨rfl, rfl⟩
def crossB (a b : List Int) : Bool := (a.any fun i => decide (i ∈ b)) && !(a.all fun i => decide (i ∈ b)) && !(b.all fun i => decide (i ∈ a))
theorem crosses_spec {S : Store} {E : XQ} {a b : List Int} : Wp (s__law_crosses [tupI a, tupI b]) S E fun d S' => d = .bl (crossB a b) ∧ S' = S := by
  unfold s__law_crosses crossB
  refine w_body ?_
  dsimp only [b__law_crosses]
  lcg_sub
  refine wp_andV.mpr ?_
  lcg_sub
  refine wp_mono meets_spec ?_
  rintro _ _ ⟨rfl, rfl⟩
  refine ⟨_, rfl, fun h1 => ?_, fun h1 => ?_⟩
  · refine wp_andV.mpr ?_
    lcg_sub
    refine wp_mono lies_spec ?_
    rintro _ _ ⟨rfl, rfl⟩
    lcg_sub
    refine ⟨_, rfl, fun h2 => ?_, fun h2 => ?_⟩
    · lcg_sub
      refine wp_mono lies_spec ?_
      rintro _ _ ⟨rfl, rfl⟩
      lcg_sub
      rw [h1, h2]
      exact ⟨rfl, rfl⟩
    · lcg_sub
      rw [h1, h2]
      exact ⟨rfl, rfl⟩
  · lcg_sub
    rw [h1]
    exact ⟨rfl, rfl⟩
theorem great_spec {S R : Store} {E : XQ} (h : DK S R) : Wp (s__law_great [.obj 0]) S E fun d S' => ∃ i : Int, d = .int i ∧ 1 ≤ i ∧ i < 2 ^ 100 ∧ DK S' R := by
  unfold s__law_great
  refine w_body ?_
  dsimp only [b__law_great]
  lcg_sub
  refine wp_mono (pick_spec h (by simp) (by simp)) ?_
  rintro d S' ⟨hd, h'⟩
  lcg_sub
  simp only [List.mem_cons, List.not_mem_nil, or_false] at hd
  rcases hd with rfl | rfl | rfl | rfl | rfl | rfl <;> exact ⟨_, rfl, by decide, by decide, h'⟩

theorem sets_good {k : Int} (hk : 1 ≤ k) (hk2 : k ≤ 4) {L : List (List Int)} (h : L.Perm (setsN k)) : 0 < L.length ∧ L.length ≤ 15 ∧ ∀ s ∈ L, s ≠ [] ∧ InK k.toNat s ∧ s.Nodup := by
  have hc : k = 1 ∨ k = 2 ∨ k = 3 ∨ k = 4 := by omega
  have aux : 0 < (setsN k).length ∧ (setsN k).length ≤ 15 ∧ ∀ s ∈ setsN k, s ≠ [] ∧ (∀ i ∈ s, 0 ≤ i ∧ i < (k.toNat : Int)) ∧ s.Nodup := by
    rcases hc with rfl | rfl | rfl | rfl <;> decide +kernel
  refine ⟨by rw [h.length_eq]; exact aux.1, by rw [h.length_eq]; exact aux.2.1, fun s hs => aux.2.2 s (h.subset hs)⟩
/-- each is a set of kinds below n, its number at least 0, below B -/
def GoodL (n : Nat) (B : Int) (ps : List (List Int × Int)) : Prop := ∀ p ∈ ps, p.1 ≠ [] ∧ InK n p.1 ∧ 0 ≤ p.2 ∧ p.2 < B
theorem times_spec {S : Store} {E : XQ} {ps : List (List Int × Int)} {k : Int} (h : ∀ p ∈ ps, 0 ≤ p.2 ∧ p.2 < 2 ^ 60) : Wp (s__law_times [encLs ps, .int k]) S E fun d S' => d = encLs (ps.map fun p => (p.1, p.2 * k)) ∧ S' = S := by
  unfold s__law_times
  refine w_body ?_
  dsimp only [b__law_times]
  lcg_sub
  refine w_comp ps encL (fun _ => true) (fun p => encL (p.1, p.2 * k)) (fun x hx => ⟨_, rfl, ?_, fun hp => ?_⟩) ?_
  · lcg_sub
    exact ⟨rfl, rfl⟩
  · have ok : oki x.2 = true := oki_of (by have := h x hx; omega) (by have := h x hx; omega)
    lcg_sub
    exact ⟨rfl, rfl⟩
  · lcg_sub
    rw [filter_tt]
    refine ⟨?_, rfl⟩
    unfold encLs
    rw [List.map_map]
    rfl
theorem pools_spec {S R : Store} {E : XQ} {k many most : Int} (h : DK S R) (hk : 1 ≤ k) (hk2 : k ≤ 4) (hm : 0 < many) (hm2 : many < 100) (hs : 0 < most) (hs2 : most < 2 ^ 50) :
    Wp (s__law_pools [.obj 0, .int k, .int many, .int most]) S E fun d S' => ∃ ps, d = encLs ps ∧ GoodL k.toNat (2 ^ 51) ps ∧ ps.length ≤ 200 ∧ DK S' R := by
  unfold s__law_pools
  refine w_body ?_
  dsimp only [b__law_pools]
  lcg_sub
  refine wp_mono (sets_spec hk hk2) ?_
  rintro _ _ ⟨L, rfl, rfl, hL⟩
  obtain ⟨l0, l1, l2⟩ := sets_good hk hk2 hL
  lcg_sub
  refine wp_mono (take_spec h hm (small_log hm (by omega))) ?_
  rintro _ S' ⟨t, rfl, t0, t1, h'⟩
  lcg_sub
  refine w_ofO (rng1_ok (by omega) (by omega)) ?_
  refine wp_for (fun i env S => ∃ ps x y z, env = [.val (.obj 0), .val (.int k), .val (.int many), .val (.int most), x, .no, .val (.lst (L.map tupI)), .own (ps.map encL), y, z] ∧ ps.length ≤ i ∧ GoodL k.toNat (2 ^ 51) ps ∧ DK S R) ⟨[], .no, .no, .no, rfl, Nat.le_refl _, fun _ z => (by cases z), h'⟩ ?_ ?_
  · rintro i d env S hd ⟨ps, x, y, z, rfl, pl, pg, hS⟩
    obtain ⟨rfl, hi⟩ := rng_get hd
    refine ⟨_, rfl, ?_⟩
    refine w_chg rfl ?_
    lcg_sub
    refine wp_mono (pick_spec hS (by simpa using l0) (by simp; omega)) ?_
    rintro _ S1 ⟨hm1, h1⟩
    obtain ⟨s, hsL, rfl⟩ := List.mem_map.mp hm1
    lcg_sub
    refine wp_mono (take_spec h1 hs (small_log hs (by omega))) ?_
    rintro _ S2 ⟨u, rfl, u0, u1, h2⟩
    lcg_sub
    refine ex_some (app_ok (by simp; omega)) ?_
    refine ⟨ps ++ [(s, 1 + u)], _, _, _, by rw [List.map_append]; rfl, by simp; omega, fun p hp => ?_, h2⟩
    rcases List.mem_append.mp hp with hp | hp
    · exact pg p hp
    · rw [List.mem_singleton.mp hp]
      exact ⟨(l2 s hsL).1, (l2 s hsL).2.1, by simp; omega, by simp; omega⟩
  · rintro env S1 ⟨ps, x, y, z, rfl, pl, pg, hS⟩
    lcg_sub
    refine w_ofO (rng1_ok (by omega) (by omega)) ?_
    refine wp_for (fun i env S => ∃ ps x x' y z, env = [.val (.obj 0), .val (.int k), .val (.int many), .val (.int most), x, x', .val (.lst (L.map tupI)), .own (ps.map encL), y, z] ∧ ps.length ≤ 101 + i ∧ GoodL k.toNat (2 ^ 51) ps ∧ DK S R) ⟨ps, _, _, _, _, rfl, by simp at pl; omega, pg, hS⟩ ?_ ?_
    · rintro i d env S hd ⟨ps, x, x', y, z, rfl, pl, pg, hS⟩
      obtain ⟨rfl, hi⟩ := rng_get hd
      refine ⟨_, rfl, ?_⟩
      lcg_sub
      refine w_comp ps encL (fun p => decide ((0 + (i : Int)) ∈ p.1)) (fun _ => .int 1) (fun x hx => ⟨_, rfl, ?_, fun hp => ?_⟩) ?_
      · lcg_sub
        refine w_op2 (in_tupI _ _) ?_
        lcg_sub
        exact ⟨rfl, rfl⟩
      · lcg_sub
        exact ⟨rfl, rfl⟩
      · lcg_sub
        refine w_op2 (eq_nil (okd_one _ _ fun x hx => ?_)) ?_
        · obtain ⟨_, _, rfl⟩ := List.mem_map.mp hx
          rfl
        · lcg_sub
          refine ⟨fun ht => ?_, fun ht => ?_⟩
          · refine w_chg rfl ?_
            lcg_sub
            refine wp_mono (take_spec hS hs (small_log hs (by omega))) ?_
            rintro _ S2 ⟨u, rfl, u0, u1, h2⟩
            lcg_sub
            refine ex_some (app_ok (by simp; omega)) ?_
            refine ⟨ps ++ [([0 + (i : Int)], 1 + u)], _, _, _, _, by rw [List.map_append]; rfl, by simp; omega, fun p hp => ?_, h2⟩
            rcases List.mem_append.mp hp with hp | hp
            · exact pg p hp
            · rw [List.mem_singleton.mp hp]
              refine ⟨by simp, fun j hj => ?_, by simp; omega, by simp; omega⟩
              simp at hj
              omega
          · lcg_sub
            exact ⟨ps, _, _, _, _, rfl, by omega, pg, hS⟩
    · rintro env S2 ⟨ps, x, x', y, z, rfl, pl, pg, hS⟩
      lcg_sub
      exact ⟨ps, rfl, pg, by simp at pl; omega, hS⟩

theorem limits_spec {S R : Store} {E : XQ} {k wide : Int} {ps : List (List Int × Int)} (h : DK S R) (hk : 1 ≤ k) (hk2 : k ≤ 4) (hp : GoodL k.toNat (2 ^ 160) ps) (hl : ps.length ≤ 200) (hw : 0 ≤ wide) (hw2 : wide < 2 ^ 100) :
    Wp (s__law_limits [.obj 0, .int k, encLs ps, .int wide]) S E fun d S' => ∃ ls, d = encLs ls ∧ GoodL k.toNat (2 ^ 170) ls ∧ ls.length ≤ 10 ∧ DK S' R := by
  unfold s__law_limits
  refine w_body ?_
  dsimp only [b__law_limits]
  lcg_sub
  refine wp_mono (take_spec h (m := 6) (by decide) (by decide)) ?_
  rintro _ S1 ⟨t, rfl, t0, t1, h1⟩
  lcg_sub
  refine w_ofO (rng1_ok (by omega) (by omega)) ?_
  refine wp_for (fun i env S => ∃ ls x y z u v, env = [.val (.obj 0), .val (.int k), .val (encLs ps), .val (.int wide), .own (ls.map encL), x, y, z, u, v] ∧ ls.length ≤ i ∧ GoodL k.toNat (2 ^ 170) ls ∧ DK S R) ⟨[], .no, .no, .no, .no, .no, rfl, Nat.le_refl _, fun _ z => (by cases z), h1⟩ ?_ ?_
  · rintro i d env S hd ⟨ls, x, y, z, u, v, rfl, pl, pg, hS⟩
    obtain ⟨rfl, hi⟩ := rng_get hd
    refine ⟨_, rfl, ?_⟩
    lcg_sub
    refine wp_mono (sets_spec hk hk2) ?_
    rintro _ _ ⟨L, rfl, rfl, hL⟩
    obtain ⟨l0, l1, l2⟩ := sets_good hk hk2 hL
    lcg_sub
    refine wp_mono (pick_spec hS (by simpa using l0) (by simp; omega)) ?_
    rintro _ S2 ⟨hm1, h2⟩
    obtain ⟨s, hsL, rfl⟩ := List.mem_map.mp hm1
    lcg_sub
    refine w_comp ls encL (fun p => decide (p.1 = s) || crossB p.1 s) (fun _ => .int 1) (fun x hx => ⟨_, rfl, ?_, fun hp => ?_⟩) ?_
    · refine wp_orM.mpr ?_
      lcg_sub
      refine w_op2 (eq_tupI _ _) ?_
      lcg_sub
      refine ⟨fun h1 => ?_, fun h1 => ?_⟩
      · rw [h1]
        exact ⟨rfl, rfl⟩
      · lcg_sub
        refine wp_mono crosses_spec ?_
        rintro _ _ ⟨rfl, rfl⟩
        lcg_sub
        rw [h1]
        exact ⟨rfl, rfl⟩
    · lcg_sub
      exact ⟨rfl, rfl⟩
    · lcg_sub
      refine w_op2 (eq_nil (okd_one _ _ fun x hx => ?_)) ?_
      · obtain ⟨_, _, rfl⟩ := List.mem_map.mp hx
        rfl
      · lcg_sub
        refine ⟨fun ht => ?_, fun ht => ?_⟩
        · lcg_sub
          refine wp_mono (pick_spec h2 (by simp) (by simp)) ?_
          rintro _ S3 ⟨hm3, h3⟩
          obtain ⟨c, rfl, c0, c1⟩ : ∃ c : Int, _ = D.int c ∧ -(2 ^ 100) < c ∧ c < 2 ^ 100 := by
            simp only [List.mem_cons, List.not_mem_nil, or_false] at hm3
            rcases hm3 with e | e | e | e | e | e | e <;> exact ⟨_, e, by omega, by omega⟩
          lcg_sub
          refine w_chg rfl ?_
          lcg_sub
          refine wp_mono most_spec ?_
          rintro _ _ ⟨rfl, rfl⟩
          lcg_sub
          refine ex_some (app_ok (by simp; omega)) ?_
          have sb : ∀ x ∈ (ps.filter fun p => p.1.any fun i => decide (i ∈ s)).map (·.2), 0 ≤ x ∧ x ≤ 2 ^ 160 := fun x hx => by
            obtain ⟨p, hp', rfl⟩ := List.mem_map.mp hx
            have := hp p (List.mem_filter.mp hp').1
            omega
          have sb2 := sum_bound (B := 2 ^ 160) (by decide) sb
          have sl : ((ps.filter fun p => p.1.any fun i => decide (i ∈ s)).map (·.2)).length ≤ 200 := by
            rw [List.length_map]
            exact Nat.le_trans (List.length_filter_le _ _) hl
          have sb3 : ((ps.filter fun p => p.1.any fun i => decide (i ∈ s)).map (·.2)).sum ≤ 200 * 2 ^ 160 := Int.le_trans sb2.2 (Int.mul_le_mul_of_nonneg_right (by omega) (by decide))
          generalize ((ps.filter fun p => p.1.any fun i => decide (i ∈ s)).map (·.2)).sum = m at sb2 sb3 ⊢
          refine ⟨ls ++ [(s, if m + c > 0 then m + c else 0)], _, _, _, _, _, by rw [List.map_append]; rfl, by simp; omega, fun p hp' => ?_, h3⟩
          rcases List.mem_append.mp hp' with hp' | hp'
          · exact pg p hp'
          · rw [List.mem_singleton.mp hp']
            refine ⟨(l2 s hsL).1, (l2 s hsL).2.1, ?_, ?_⟩
            · show 0 ≤ (if m + c > 0 then m + c else 0)
              split <;> omega
            · show (if m + c > 0 then m + c else 0) < 2 ^ 170
              split <;> omega
        · lcg_sub
          exact ⟨ls, _, _, _, _, _, rfl, by omega, pg, h2⟩
  · rintro env S2 ⟨ls, x, y, z, u, v, rfl, pl, pg, hS⟩
    lcg_sub
    exact ⟨ls, rfl, pg, by simp at pl; omega, hS⟩

/-- counts: n of them, at least 0, below B -/
def GoodC (n : Nat) (B : Int) (cs : List Int) : Prop := cs.length = n ∧ ∀ c ∈ cs, 0 ≤ c ∧ c < B
theorem GoodC.set {n : Nat} {B : Int} {cs : List Int} {i : Nat} {v : Int} (h : GoodC n B cs) (h0 : 0 ≤ v) (h1 : v < B) : GoodC n B (cs.set i v) := by
  refine ⟨by rw [List.length_set]; exact h.1, fun c hc => ?_⟩
  rcases List.mem_or_eq_of_mem_set hc with hc | rfl
  · exact h.2 c hc
  · exact ⟨h0, h1⟩
theorem near_spec {S R : Store} {E : XQ} {k : Int} {ls : List (List Int × Int)} (h : DK S R) (hk : 1 ≤ k) (hk2 : k ≤ 4) (hp : GoodL k.toNat (2 ^ 170) ls) (hl : 0 < ls.length) (hl2 : ls.length ≤ 10) :
    Wp (s__law_near [.obj 0, .int k, encLs ls]) S E fun d S' => ∃ cs, d = tupI cs ∧ GoodC k.toNat (2 ^ 171) cs ∧ DK S' R := by
  unfold s__law_near
  refine w_body ?_
  dsimp only [b__law_near]
  lcg_sub
  refine wp_mono (pickT_spec h (by simpa using hl) (by simp; omega)) ?_
  rintro _ S1 ⟨hm1, h1⟩
  obtain ⟨⟨s, n⟩, hs, rfl⟩ := List.mem_map.mp hm1
  obtain ⟨s0, sK, n0, n1⟩ := hp _ hs
  simp only at s0 sK n0 n1
  lcg_sub
  refine w_ofO (rep_ok (by omega) (by omega)) ?_
  lcg_sub
  refine wp_mono (pick_spec h1 (by simp) (by simp)) ?_
  rintro _ S2 ⟨hm2, h2⟩
  obtain ⟨c, rfl, c0, c1⟩ : ∃ c : Int, _ = D.int c ∧ -1 ≤ c ∧ c ≤ 2 := by
    simp only [List.mem_cons, List.not_mem_nil, or_false] at hm2
    rcases hm2 with e | e | e | e | e <;> exact ⟨_, e, by omega, by omega⟩
  lcg_sub
  have gl : ∃ left : Int, (if n + c > 0 then n + c else 0) = left ∧ 0 ≤ left ∧ left < 2 ^ 171 := ⟨_, rfl, by split <;> omega, by split <;> omega⟩
  obtain ⟨left, el, g0, g1⟩ := gl
  rw [el]
  have gc : GoodC k.toNat (2 ^ 171) (List.replicate k.toNat 0) := ⟨by simp, fun c hc => by rw [List.eq_of_mem_replicate hc]; decide⟩
  refine wp_for (fun i env S => ∃ (cs : List Int) (left : Int) (x : Sl), env = [.val (.obj 0), .val (.int k), .val (encLs ls), x, .val (tupI s), .val (.int n), .own (cs.map D.int), .val (.int left)] ∧ GoodC k.toNat (2 ^ 171) cs ∧ 0 ≤ left ∧ left < 2 ^ 171 ∧ DK S R) ⟨_, left, .no, rfl, gc, g0, g1, h2⟩ ?_ ?_
  · rintro i d env S hd ⟨cs, left, x, rfl, gc, g0, g1, hS⟩
    obtain ⟨z, hz, rfl⟩ : ∃ z ∈ s, d = .int z := by
      have := List.mem_of_getElem? hd
      unfold Pc.cutD at this
      have := List.mem_of_mem_drop (List.mem_of_mem_take this)
      obtain ⟨z, hz, rfl⟩ := List.mem_map.mp this
      exact ⟨z, hz, rfl⟩
    obtain ⟨z0, z1⟩ := sK z hz
    refine ⟨_, rfl, ?_⟩
    lcg_sub
    refine wp_subO.mpr ?_
    lcg_sub
    refine wp_mono (take_spec hS (by omega) (small_log (by omega) (Int.lt_of_lt_of_le (b := 2 ^ 172) (by omega) (by decide)))) ?_
    rintro _ S3 ⟨v, rfl, v0, v1, h3⟩
    have zl : z < cs.length := by rw [gc.1]; omega
    refine ex_some rfl ?_
    lcg_sub
    refine ex_some (put_ints z0 zl) ?_
    lcg_sub
    refine w_getM (d := .int v) ?_ ?_
    · refine (at_ints z0 (by rw [List.length_set]; exact zl)).trans ?_
      simp [List.getD, show z.toNat < cs.length by omega]
    · lcg_sub
      exact ⟨_, _, _, rfl, gc.set v0 (by omega), by omega, by omega, h3⟩
  · rintro env S3 ⟨cs, left, x, rfl, gc, g0, g1, hS⟩
    lcg_sub
    refine wp_subO.mpr ?_
    obtain ⟨z, hz, ez⟩ := at_last s0
    obtain ⟨z0, z1⟩ := sK z hz
    have zl : z < cs.length := by rw [gc.1]; omega
    lcg_sub
    refine w_getM (d := .int z) ez ?_
    refine ex_some (put_ints z0 zl) ?_
    lcg_sub
    refine w_ofO (rng1_ok (by omega) (by omega)) ?_
    refine wp_for (fun i env S => ∃ (cs : List Int) (x : Sl), env = [.val (.obj 0), .val (.int k), .val (encLs ls), x, .val (tupI s), .val (.int n), .own (cs.map D.int), .val (.int left)] ∧ GoodC k.toNat (2 ^ 171) cs ∧ DK S R) ⟨_, _, rfl, gc.set g0 g1, hS⟩ ?_ ?_
    · rintro i d env S hd ⟨cs, x, rfl, gc, hS⟩
      obtain ⟨rfl, hi⟩ := rng_get hd
      refine ⟨_, rfl, ?_⟩
      lcg_sub
      refine w_op2 (nin_tupI _ _) ?_
      lcg_sub
      refine ⟨fun ht => ?_, fun ht => ?_⟩
      · refine wp_subO.mpr ?_
        lcg_sub
        refine wp_mono (pick_spec hS (by simp) (by simp)) ?_
        rintro _ S4 ⟨hm4, h4⟩
        obtain ⟨c, rfl, c0, c1⟩ : ∃ c : Int, _ = D.int c ∧ 0 ≤ c ∧ c < 2 ^ 171 := by
          simp only [List.mem_cons, List.not_mem_nil, or_false] at hm4
          rcases hm4 with e | e | e | e <;> exact ⟨_, e, by omega, by omega⟩
        refine ex_some rfl ?_
        lcg_sub
        refine ex_some (put_ints (by omega) (by rw [gc.1]; omega)) ?_
        exact ⟨_, _, rfl, gc.set c0 c1, h4⟩
      · lcg_sub
        exact ⟨cs, _, rfl, gc, hS⟩
    · rintro env S4 ⟨cs, x, rfl, gc, hS⟩
      lcg_sub
      exact ⟨cs, rfl, gc, hS⟩

theorem okd_encLs (ls : List (List Int × Int)) : okdL 59 (ls.map encL) = true := okd_one _ _ fun x hx => by
  obtain ⟨p, _, rfl⟩ := List.mem_map.mp hx
  show okdL 58 [tupI p.1, .int p.2] = true
  simp only [okdL, Bool.and_eq_true]
  exact ⟨okd_tupI 57 p.1, by simp [okd], trivial⟩
theorem pass_rev (ls : List (List Int × Int)) (cs : List Int) : passB ls.reverse cs = passB ls cs := by
  unfold passB
  rw [List.all_reverse]
theorem sumO_le {cs ds s : List Int} (h : ∀ i : Nat, ds.getD i 0 ≤ cs.getD i 0) : sumO ds s ≤ sumO cs s := by
  unfold sumO
  induction s with
  | nil => simp
  | cons x s ih =>
    simp only [List.map_cons, List.sum_cons]
    have := h x.toNat
    omega
theorem pass_less {ls : List (List Int × Int)} {cs ds : List Int} (h : ∀ i : Nat, ds.getD i 0 ≤ cs.getD i 0) (p : passB ls cs = true) : passB ls ds = true := by
  unfold passB at p ⊢
  rw [List.all_eq_true] at p ⊢
  intro q hq
  have h1 := of_decide_eq_true (p q hq)
  have h2 := sumO_le (s := q.1) h
  exact decide_eq_true (by omega)
theorem ne_same2 (b : Bool) : ∃ x y : PySem.Str, reprS [.lst [.bl b, .bl b]] = some (.str x) ∧ neD (.str x) (.str x) = some (.bl false) ∧ reprS [.bl b] = some (.str y) ∧ neD (.str y) (.str y) = some (.bl false) := by
  cases b
  · exact ⟨(D.lst [.bl false, .bl false]).toP.shown, (D.bl false).toP.shown, by kernel_rfl, by kernel_rfl, by kernel_rfl, by kernel_rfl⟩
  · exact ⟨(D.lst [.bl true, .bl true]).toP.shown, (D.bl true).toP.shown, by kernel_rfl, by kernel_rfl, by kernel_rfl, by kernel_rfl⟩
theorem law_mean (ns : List Int) (hl : ns.length ≤ 63) : ∃ S, s_law [.lst (ns.map D.int)] [] = .ok (.bl true) S := by
  suffices h : Wp (s_law [.lst (ns.map D.int)]) [] (fun _ _ _ => False) fun d _ => d = .bl true by
    obtain ⟨a, S, e, rfl⟩ := wp_ok h
    exact ⟨S, e⟩
  unfold s_law
  refine w_body ?_
  dsimp only [b_law]
  lcg_sub
  refine wp_mono (deck_spec hl) ?_
  rintro _ S1 ⟨rfl, h1⟩
  lcg_sub
  refine wp_for (fun i env S => ∃ a b c d e f g h j k l, env = [.val (.lst (ns.map D.int)), .val (.obj 0), a, b, c, d, e, f, g, h, j, k, l] ∧ DK S []) ⟨.no, .no, .no, .no, .no, .no, .no, .no, .no, .no, .no, rfl, h1⟩ ?_ ?_
  · rintro i d env S hd ⟨a1, a2, a3, a4, a5, a6, a7, a8, a9, a10, a11, rfl, hS⟩
    obtain ⟨rfl, hi⟩ := rng_get hd
    refine ⟨_, rfl, ?_⟩
    lcg_sub
    refine wp_mono (take_spec hS (m := 4) (by decide) (by decide)) ?_
    rintro _ S2 ⟨k, rfl, k0, k1, h2⟩
    lcg_sub
    refine wp_mono (great_spec h2) ?_
    rintro _ S3 ⟨sh, rfl, sh0, sh1, h3⟩
    lcg_sub
    refine wp_mono (pools_spec h3 (many := 5) (most := 6) (by omega) (by omega) (by decide) (by decide) (by decide) (by decide)) ?_
    rintro _ S4 ⟨ps, rfl, pg, pl, h4⟩
    lcg_sub
    refine wp_mono (times_spec fun p hp => ?_) ?_
    · have := pg p hp
      exact ⟨this.2.2.1, by have := this.2.2.2; omega⟩
    rintro _ _ ⟨rfl, rfl⟩
    have pg' : GoodL (1 + k).toNat (2 ^ 160) (ps.map fun p => (p.1, p.2 * sh)) := fun q hq => by
      obtain ⟨p, hp, rfl⟩ := List.mem_map.mp hq
      obtain ⟨q1, q2, q3, q4⟩ := pg p hp
      refine ⟨q1, q2, Int.mul_nonneg q3 (by omega), ?_⟩
      show p.2 * sh < 2 ^ 160
      have e1 : p.2 * sh ≤ 2 ^ 51 * sh := Int.mul_le_mul_of_nonneg_right (by omega) (by omega)
      have e2 : (2 ^ 51 : Int) * sh ≤ 2 ^ 51 * 2 ^ 100 := Int.mul_le_mul_of_nonneg_left (by omega) (by decide)
      omega
    lcg_sub
    refine wp_mono (limits_spec h4 (by omega) (by omega) pg' (by simpa using pl) (by omega) sh1) ?_
    rintro _ S5 ⟨ls, rfl, lg, ll, h5⟩
    lcg_sub
    refine w_op2 (eq_nilT (okd_encLs ls)) ?_
    lcg_sub
    refine ⟨fun ht => ?_, fun ht => ?_⟩
    · have e0 : ls = [] := by simpa using ht
      subst e0
      lcg_sub
      refine w_ofO (rng1_ok (by omega) (by omega)) ?_
      refine wp_comp (fun i ys S => ∃ cs : List Int, ys = cs.map D.int ∧ DK S []) ⟨[], rfl, h5⟩ ?_ ?_
      · rintro i d ys S hd ⟨cs, rfl, hS⟩
        obtain ⟨rfl, hi⟩ := rng_get hd
        refine ⟨_, rfl, ?_⟩
        lcg_sub
        refine ⟨fun _ => ?_, fun z => (by cases z)⟩
        lcg_sub
        refine wp_mono (take_spec hS (by decide) (by decide +kernel)) ?_
        rintro _ S6 ⟨c, rfl, c0, c1, h6⟩
        exact ⟨cs ++ [c], by simp, h6⟩
      · rintro ys S6 ⟨cs, rfl, h6⟩
        lcg_sub
        refine wp_mono (passes_spec (ls := []) (cs := cs) fun p hp => by cases hp) ?_
        rintro _ _ ⟨rfl, rfl⟩
        lcg_sub
        refine w_op2 (d := .bl false) rfl ?_
        lcg_sub
        refine ⟨fun z => (by cases z), fun _ => ?_⟩
        lcg_sub
        exact ⟨_, _, _, _, _, _, _, _, _, _, _, rfl, h6⟩
    · have l0 : 0 < ls.length := by
        cases ls with
        | nil => cases ht
        | cons _ _ => simp
      lcg_sub
      refine wp_for (fun i env S => ∃ a b c d e f g h j k', env = [.val (.lst (ns.map D.int)), .val (.obj 0), a, b, .val (encLs ls), c, .val (.int (1 + k)), d, e, f, g, h, j] ∧ k' = (0 : Nat) ∧ DK S []) ⟨_, _, _, _, _, _, _, _, _, 0, rfl, rfl, h5⟩ ?_ ?_
      · rintro i d env S hd ⟨b1, b2, b3, b4, b5, b6, b7, b8, b9, _, rfl, rfl, hS⟩
        refine ⟨_, rfl, ?_⟩
        lcg_sub
        refine wp_mono (near_spec hS (by omega) (by omega) lg l0 ll) ?_
        rintro _ S6 ⟨cs, rfl, gc, h6⟩
        have inK : ∀ p ∈ ls, InK cs.length p.1 := fun p hp => by rw [gc.1]; exact (lg p hp).2.1
        lcg_sub
        refine wp_mono (passed_spec inK) ?_
        rintro _ _ ⟨rfl, rfl⟩
        lcg_sub
        refine wp_mono (passes_spec inK) ?_
        rintro _ _ ⟨rfl, rfl⟩
        lcg_sub
        rw [← List.map_reverse]
        refine wp_mono (passes_spec (ls := ls.reverse) fun p hp => inK p (List.mem_reverse.mp hp)) ?_
        rintro _ _ ⟨rfl, rfl⟩
        rw [pass_rev]
        obtain ⟨x, y, r1, r2, r3, r4⟩ := ne_same2 (passB ls cs)
        lcg_sub
        refine w_opN r1 ?_
        lcg_sub
        refine w_opN r1 ?_
        lcg_sub
        refine w_op2 r2 ?_
        lcg_sub
        refine ⟨fun z => (by cases z), fun _ => ?_⟩
        lcg_sub
        refine wp_comp (fun i ys S => ∃ ds : List Int, ys = ds.map D.int ∧ ds.length = i ∧ (∀ j : Nat, j < i → 0 ≤ ds.getD j 0 ∧ ds.getD j 0 ≤ cs.getD j 0) ∧ DK S []) ⟨[], rfl, rfl, fun j hj => absurd hj (Nat.not_lt_zero _), h6⟩ ?_ ?_
        · rintro i d ys S hd ⟨ds, rfl, dl, dg, hS⟩
          rw [List.getElem?_map] at hd
          obtain ⟨c, hc, rfl⟩ := Option.map_eq_some_iff.mp hd
          obtain ⟨c0, c1⟩ := gc.2 c (List.mem_of_getElem? hc)
          refine ⟨_, rfl, ?_⟩
          lcg_sub
          refine ⟨fun _ => ?_, fun z => (by cases z)⟩
          lcg_sub
          refine wp_mono (take_spec hS (by omega) (small_log (by omega) (Int.lt_of_lt_of_le (b := 2 ^ 172) (by omega) (by decide)))) ?_
          rintro _ S7 ⟨v, rfl, v0, v1, h7⟩
          lcg_sub
          refine ⟨ds ++ [c - v], by simp, by simp [dl], fun j hj => ?_, h7⟩
          by_cases hj2 : j < i
          · have e : (ds ++ [c - v]).getD j 0 = ds.getD j 0 := by
              simp only [List.getD]
              rw [List.getElem?_append_left (by omega)]
            rw [e]
            exact dg j hj2
          · have ej : j = i := by omega
            subst ej
            have e : (ds ++ [c - v]).getD j 0 = c - v := by
              simp only [List.getD]
              rw [List.getElem?_append_right (by omega), dl]
              simp
            have e2 : cs.getD j 0 = c := by
              simp only [List.getD]
              rw [hc]; rfl
            rw [e, e2]
            omega
        · rintro ys S7 ⟨ds, rfl, dl, dg, h7⟩
          rw [List.length_map] at dl
          have le : ∀ j : Nat, ds.getD j 0 ≤ cs.getD j 0 := fun j => by
            by_cases hj : j < (cs.map D.int).length
            · exact (dg j hj).2
            · rw [List.length_map] at hj
              simp only [List.getD]
              rw [List.getElem?_eq_none (by omega), List.getElem?_eq_none (by omega)]
              exact Int.le_refl _
          have inD' : ∀ p ∈ ls, InK ds.length p.1 := fun p hp => by rw [dl]; exact inK p hp
          lcg_sub
          refine wp_orM.mpr ?_
          lcg_sub
          refine wp_mono (passes_spec inD') ?_
          rintro _ _ ⟨rfl, rfl⟩
          obtain ⟨x', y', q1, q2, q3, q4⟩ := ne_same2 (passB ls ds)
          lcg_sub
          refine w_opN q3 ?_
          lcg_sub
          refine wp_mono (passed_spec inD') ?_
          rintro _ _ ⟨rfl, rfl⟩
          lcg_sub
          refine w_opN q3 ?_
          lcg_sub
          refine w_op2 q4 ?_
          lcg_sub
          refine ⟨fun z => (by cases z), fun _ => ?_⟩
          refine wp_andM.mpr ?_
          lcg_sub
          refine ⟨fun hp => ?_, fun _ => ?_⟩
          · lcg_sub
            refine wp_mono (passes_spec inD') ?_
            rintro _ _ ⟨rfl, rfl⟩
            lcg_sub
            rw [pass_less le hp]
            refine ⟨fun z => (by cases z), fun _ => ?_⟩
            lcg_sub
            exact ⟨_, _, _, _, _, _, _, _, _, 0, rfl, rfl, h7⟩
          · refine ⟨fun z => (by cases z), fun _ => ?_⟩
            lcg_sub
            exact ⟨_, _, _, _, _, _, _, _, _, 0, rfl, rfl, h7⟩
      · rintro env S6 ⟨b1, b2, b3, b4, b5, b6, b7, b8, b9, _, rfl, rfl, hS⟩
        exact ⟨_, _, _, _, _, _, _, _, _, _, _, rfl, hS⟩
  · rintro env S2 ⟨a1, a2, a3, a4, a5, a6, a7, a8, a9, a10, a11, rfl, hS⟩
    lcg_sub
    rfl

end Hd
theorem PySem.Challenge.cw_poolcounts_k22_counts_that_pass_holds : PySem.Challenge.rw_poolcounts_k22_counts_that_pass.Holds := by
  exact Hd.done fun ns h _ => Hd.law_mean ns h
