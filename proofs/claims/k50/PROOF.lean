import PyProof.Rows.All
import Wide.All
import OpenK.AllK
import Wide.FinOn
import HandS.ForMost
import HandS.ForSpec
import HandS.IsInst
import HandS.Flow
import HandS.Deep
import HandS.ExcCtx
import HandS.HotCalls
import HandS.Lambda
import HandS.Wide
import HandS.WordsExc
import HandS.StrMore
import HandS.More
import HandS.Gcd
import HandS.RaiseMore
import HandS.Zip
import HandS.ExcInit
import HandS.ExcSuper
import KE.KExcSuper
import KE.KExcInit
import HandS.DeepEq
import HandS.Style
import HandS.WideBits
import PyProof.StrOps2
import HandS.ExcInitHot
import KE.KExcIs
import HandS.EndTab
import KE.RegKSuper
import KE.RegKIsAll
import HandS.Property
import HandS.TupLen
import HandS.FStr
import PyProof.Rows.StrMeet
import KE.GoesEnumKw
import PyProof.Draws
import KE.KOpsOwn
import HandS.SetKeys
import HandS.MakeKw
import HandS.NoneIn
import PyProof.ReprRoads
import PySem.Challenge.RW_leastgiven_k50_noises_from_digits
import PyProof.ReprLen
set_option Elab.async false
set_option linter.all false
set_option maxRecDepth 100000
/-! A data layer over the hand layer: values as deep data D, mutable lists as cells or as owned slots, and a plain Lean meaning for each statement. -/
namespace DL
open PySem L2
/-- deep data: what a value is when nobody changes it any more; obj n: the n-th cell of the store -/
inductive D where
  | non | bl (b : Bool) | int (i : Int) | str (x : Str)
  | lst (xs : List D) | tup (xs : List D)
  | obj (n : Nat)
  | dK (kvs : List (L2.Key × D)) | dT (kvs : List (List L2.Key × D))
  | ins (c : Str) (fs : List (Str × D))
  | con (v : V)
  deriving Inhabited
/-- an expression's value: data, or the token of the container that slot i owns -/
inductive W where
  | d (d : D) | own (i : Nat)
/-- what stands in a cell -/
inductive Cell where
  | lst (xs : List D)
  | dK (kvs : List (L2.Key × D)) | dT (kvs : List (List L2.Key × D))
  | ins (c : Str) (fs : List (Str × D))
/-- an exception -/
structure Exn where
  cls : Str
  fs : List (Str × D)
inductive Sl where
  | un | val (d : D) | own (c : Cell) | brw (c : Cell) | exn (x : Exn)
structure Z where
  sl : List Sl
  st : List Cell
inductive R (α : Type) where
  | ok (a : α) (z : Z)
  | err (x : Exn) (z : Z)
  | bad
abbrev M (α : Type) := Z → R α
inductive RS where
  | nx (z : Z) | bk (z : Z) | ct (z : Z) | rt (d : D) (z : Z)
  | err (x : Exn) (z : Z)
  | bad
abbrev MS := Z → RS
/-- a call's end -/
inductive RF where
  | ok (d : D) (st : List Cell)
  | err (x : Exn) (st : List Cell)
  | bad
abbrev MF := List Sl → List Cell → RF
def R.bind {α β : Type} (r : R α) (f : α → M β) : R β :=
  match r with
  | .ok a z => f a z
  | .err x st => .err x st
  | .bad => .bad
def R.bindS {α : Type} (r : R α) (f : α → MS) : RS :=
  match r with
  | .ok a z => f a z
  | .err x st => .err x st
  | .bad => .bad
def RS.bind (r : RS) (f : MS) : RS :=
  match r with
  | .nx z => f z
  | r => r
@[simp] theorem R.bind_ok {α β : Type} (a : α) (z : Z) (f : α → M β) : (R.ok a z).bind f = f a z := rfl
@[simp] theorem R.bind_err {α β : Type} (x : Exn) (st : Z) (f : α → M β) : (R.err x st : R α).bind f = .err x st := rfl
@[simp] theorem R.bind_bad {α β : Type} (f : α → M β) : (R.bad : R α).bind f = .bad := rfl
@[simp] theorem R.bindS_ok {α : Type} (a : α) (z : Z) (f : α → MS) : (R.ok a z).bindS f = f a z := rfl
@[simp] theorem R.bindS_err {α : Type} (x : Exn) (st : Z) (f : α → MS) : (R.err x st : R α).bindS f = .err x st := rfl
@[simp] theorem R.bindS_bad {α : Type} (f : α → MS) : (R.bad : R α).bindS f = .bad := rfl
@[simp] theorem RS.bind_nx (z : Z) (f : MS) : (RS.nx z).bind f = f z := rfl
@[simp] theorem RS.bind_bk (z : Z) (f : MS) : (RS.bk z).bind f = .bk z := rfl
@[simp] theorem RS.bind_ct (z : Z) (f : MS) : (RS.ct z).bind f = .ct z := rfl
@[simp] theorem RS.bind_rt (d : D) (z : Z) (f : MS) : (RS.rt d z).bind f = .rt d z := rfl
@[simp] theorem RS.bind_err (x : Exn) (st : Z) (f : MS) : (RS.err x st).bind f = .err x st := rfl
@[simp] theorem RS.bind_bad (f : MS) : RS.bad.bind f = .bad := rfl
/-! ### the relation -/
abbrev Fr := PySem.W.Frag
/-- a readable object: tracked outside E, or written -/
def RdL (K : Fr) (E : Addr → Prop) (H : Hp) (a : Addr) (vs : List V) : Prop :=
  (¬ E a ∧ Rd H a (.lst vs)) ∨
    ∃ (o : Obj) (its : Array Value) (n : Nat), K.lookup a = some o ∧ o.cls = .type "list" ∧ o.dict = none ∧ o.data = .seq its n ∧ its.size ≤ sizeLine ∧ Vals vs its.toList
def RdT (K : Fr) (E : Addr → Prop) (H : Hp) (a : Addr) (vs : List V) : Prop := ¬ E a ∧ H a = some (.tup vs)
theorem RdL.sq {K : Fr} {E : Addr → Prop} {H : Hp} {a : Addr} {vs : List V} (h : RdL K E H a vs) : SqL K H a vs := h.elim (fun h => .inl h.2) .inr
theorem RdT.sq {K : Fr} {E : Addr → Prop} {H : Hp} {a : Addr} {vs : List V} (h : RdT K E H a vs) : SqT K H a vs := .inl (.inl h.2)
/-- what the classes are, and the tables of code objects: where, of which name -/
structure Cl where
  f : Str → Option Addr
  T : List (Addr × Str) := []
instance : CoeFun Cl (fun _ => Str → Option Addr) := ⟨Cl.f⟩
/-- no table of code objects -/
def NB : HO → Prop
  | .tbl _ => False
  | _ => True
/-- the exception that is handled: its address, its class, its own dict -/
abbrev Xs := Option (Addr × Addr × Option Addr)
/-- an exception's own dict -/
def XdAt (E : Addr → Prop) (H : Hp) (dd : Option Addr) (vs : List (Str × V)) : Prop := match dd with
  | none => vs = []
  | some d => ¬ E d ∧ H d = some (.xd vs)
mutual
def Imm (K : Fr) (C : Cl) (L : List Addr) (E : Addr → Prop) (H : Hp) : V → D → Prop
  | v, .non => v = .non
  | v, .bl b => v = .bl b
  | v, .int i => v = .int i
  | v, .str x => v = .str x
  | v, .lst xs => ∃ a vs, v = .ref a ∧ RdL K E H a vs ∧ ImmL K C L E H vs xs
  | v, .tup xs => ∃ a vs, v = .ref a ∧ RdT K E H a vs ∧ ImmL K C L E H vs xs
  | v, .obj n => ∃ a, v = .ref a ∧ L[n]? = some a
  | v, .dK kvs => ∃ a vs od, v = .ref a ∧ ¬ E a ∧ H a = some (.frz od (.dK vs)) ∧ ImmK K C L E H vs kvs
  | v, .dT kvs => ∃ a vs od, v = .ref a ∧ ¬ E a ∧ H a = some (.frz od (.dT vs)) ∧ ImmT K C L E H vs kvs
  | v, .ins c fs => ∃ a dx A vs, v = .ref a ∧ C c = some A ∧ ¬ E a ∧ H a = some (.ins A dx vs) ∧ ImmF K C L E H vs fs
  | v, .con u => v = u
def ImmL (K : Fr) (C : Cl) (L : List Addr) (E : Addr → Prop) (H : Hp) : List V → List D → Prop
  | [], [] => True
  | v :: vs, d :: ds => Imm K C L E H v d ∧ ImmL K C L E H vs ds
  | [], _ :: _ => False
  | _ :: _, [] => False
def ImmK (K : Fr) (C : Cl) (L : List Addr) (E : Addr → Prop) (H : Hp) : List (L2.Key × V) → List (L2.Key × D) → Prop
  | [], [] => True
  | v :: vs, (k, d) :: ds => v.1 = k ∧ Imm K C L E H v.2 d ∧ ImmK K C L E H vs ds
  | [], _ :: _ => False
  | _ :: _, [] => False
def ImmT (K : Fr) (C : Cl) (L : List Addr) (E : Addr → Prop) (H : Hp) : List (List L2.Key × V) → List (List L2.Key × D) → Prop
  | [], [] => True
  | v :: vs, (k, d) :: ds => v.1 = k ∧ Imm K C L E H v.2 d ∧ ImmT K C L E H vs ds
  | [], _ :: _ => False
  | _ :: _, [] => False
def ImmF (K : Fr) (C : Cl) (L : List Addr) (E : Addr → Prop) (H : Hp) : List (Str × V) → List (Str × D) → Prop
  | [], [] => True
  | v :: vs, (k, d) :: ds => v.1 = k ∧ Imm K C L E H v.2 d ∧ ImmF K C L E H vs ds
  | [], _ :: _ => False
  | _ :: _, [] => False
end
/-- no tuple -/
def NTup : HO → Prop
  | .tup _ => False
  | _ => True
/-- something stands there, no tuple -/
def Here (H : Hp) (a : Addr) : Prop := ∃ o, H a = some o ∧ NTup o
theorem Here.ne {H : Hp} {a : Addr} (h : Here H a) (e : H a = none) : False := by
  obtain ⟨o, ho, _⟩ := h
  rw [e] at ho
  cases ho
theorem Here.keep {H H' : Hp} {a : Addr} (h : Here H a) (k : ∀ o, H a = some o → H' a = some o) : Here H' a := by
  obtain ⟨o, ho, n⟩ := h
  exact ⟨o, k o ho, n⟩
theorem here_upd {H : Hp} {p a : Addr} {o : HO} (h : Here H a) (n : NTup o) : Here (L2.upd H p o) a := by
  by_cases e : a = p
  · subst e
    exact ⟨o, L2.upd_same, n⟩
  · obtain ⟨u, hu, nu⟩ := h
    exact ⟨u, by rw [L2.upd_ne e]; exact hu, nu⟩
/-- what was frozen stays frozen; cells keep their places -/
structure Grow (L : List Addr) (E : Addr → Prop) (H : Hp) (L' : List Addr) (E' : Addr → Prop) (H' : Hp) : Prop where
  keep : ∀ a o, H a = some o → ¬ E a → NB o → H' a = some o ∧ ¬ E' a
  pre : ∀ (n : Nat) a, L[n]? = some a → L'[n]? = some a
  dom : ∀ a, H a ≠ none → H' a ≠ none
theorem Grow.refl {L : List Addr} {E : Addr → Prop} {H : Hp} : Grow L E H L E H := ⟨fun _ _ h n _ => ⟨h, n⟩, fun _ _ h => h, fun _ h => h⟩
theorem Grow.trans {L L1 L2 : List Addr} {E E1 E2 : Addr → Prop} {H H1 H2 : Hp} (g : Grow L E H L1 E1 H1) (h : Grow L1 E1 H1 L2 E2 H2) : Grow L E H L2 E2 H2 :=
  ⟨fun a o q n nb => let ⟨q1, n1⟩ := g.keep a o q n nb; h.keep a o q1 n1 nb, fun n a q => h.pre n a (g.pre n a q), fun a q => h.dom a (g.dom a q)⟩
section
variable {K : Fr} {C : Cl} {L L' : List Addr} {E E' : Addr → Prop} {H H' : Hp}
theorem Grow.rd (g : Grow L E H L' E' H') {a : Addr} {u : HO} (n : ¬ E a) (nb : NB u) (h : Rd H a u) : Rd H' a u ∧ ¬ E' a := by
  rcases h with h | ⟨o, h⟩
  · exact ⟨.inl (g.keep a _ h n nb).1, (g.keep a _ h n nb).2⟩
  · exact ⟨.inr ⟨o, (g.keep a _ h n trivial).1⟩, (g.keep a _ h n trivial).2⟩
theorem Grow.rdL (g : Grow L E H L' E' H') {a : Addr} {vs : List V} (h : RdL K E H a vs) : RdL K E' H' a vs := by
  rcases h with ⟨n, h⟩ | h
  · exact .inl ⟨(g.rd (u := .lst vs) n trivial h).2, (g.rd (u := .lst vs) n trivial h).1⟩
  · exact .inr h
theorem Grow.rdT (g : Grow L E H L' E' H') {a : Addr} {vs : List V} (h : RdT K E H a vs) : RdT K E' H' a vs := ⟨(g.keep a _ h.2 h.1 trivial).2, (g.keep a _ h.2 h.1 trivial).1⟩
theorem Grow.xd (g : Grow L E H L' E' H') {dd : Option Addr} {vs : List (Str × V)} (h : XdAt E H dd vs) : XdAt E' H' dd vs := by
  cases dd with
  | none => exact h
  | some d => exact ⟨(g.keep d _ h.2 h.1 trivial).2, (g.keep d _ h.2 h.1 trivial).1⟩
mutual
theorem Imm.stay (g : Grow L E H L' E' H') : ∀ (v : V) (d : D), Imm K C L E H v d → Imm K C L' E' H' v d
  | v, .non, h => by simp only [Imm] at h ⊢; exact h
  | v, .bl b, h => by simp only [Imm] at h ⊢; exact h
  | v, .int i, h => by simp only [Imm] at h ⊢; exact h
  | v, .str x, h => by simp only [Imm] at h ⊢; exact h
  | v, .lst xs, h => by
    simp only [Imm] at h ⊢
    obtain ⟨a, vs, e, r, q⟩ := h
    exact ⟨a, vs, e, g.rdL r, ImmL.stay g vs xs q⟩
  | v, .tup xs, h => by
    simp only [Imm] at h ⊢
    obtain ⟨a, vs, e, r, q⟩ := h
    exact ⟨a, vs, e, g.rdT r, ImmL.stay g vs xs q⟩
  | v, .obj n, h => by
    simp only [Imm] at h ⊢
    obtain ⟨a, e, q⟩ := h
    exact ⟨a, e, g.pre n a q⟩
  | v, .dK kvs, h => by
    simp only [Imm] at h ⊢
    obtain ⟨a, vs, od, e, n, r, q⟩ := h
    exact ⟨a, vs, od, e, (g.keep a _ r n trivial).2, (g.keep a _ r n trivial).1, ImmK.stay g vs kvs q⟩
  | v, .dT kvs, h => by
    simp only [Imm] at h ⊢
    obtain ⟨a, vs, od, e, n, r, q⟩ := h
    exact ⟨a, vs, od, e, (g.keep a _ r n trivial).2, (g.keep a _ r n trivial).1, ImmT.stay g vs kvs q⟩
  | v, .ins c fs, h => by
    simp only [Imm] at h ⊢
    obtain ⟨a, dx, A, vs, e, hc, n, r, q⟩ := h
    exact ⟨a, dx, A, vs, e, hc, (g.keep a _ r n trivial).2, (g.keep a _ r n trivial).1, ImmF.stay g vs fs q⟩
  | v, .con u, h => by simp only [Imm] at h ⊢; exact h
theorem ImmL.stay (g : Grow L E H L' E' H') : ∀ (vs : List V) (ds : List D), ImmL K C L E H vs ds → ImmL K C L' E' H' vs ds
  | [], [], _ => by simp only [ImmL]
  | v :: vs, d :: ds, h => by
    simp only [ImmL] at h ⊢
    exact ⟨Imm.stay g v d h.1, ImmL.stay g vs ds h.2⟩
  | [], _ :: _, h => by simp only [ImmL] at h
  | _ :: _, [], h => by simp only [ImmL] at h
theorem ImmK.stay (g : Grow L E H L' E' H') : ∀ (vs : List (L2.Key × V)) (ds : List (L2.Key × D)), ImmK K C L E H vs ds → ImmK K C L' E' H' vs ds
  | [], [], _ => by simp only [ImmK]
  | v :: vs, (k, d) :: ds, h => by
    simp only [ImmK] at h ⊢
    exact ⟨h.1, Imm.stay g v.2 d h.2.1, ImmK.stay g vs ds h.2.2⟩
  | [], _ :: _, h => by simp only [ImmK] at h
  | _ :: _, [], h => by simp only [ImmK] at h
theorem ImmT.stay (g : Grow L E H L' E' H') : ∀ (vs : List (List L2.Key × V)) (ds : List (List L2.Key × D)), ImmT K C L E H vs ds → ImmT K C L' E' H' vs ds
  | [], [], _ => by simp only [ImmT]
  | v :: vs, (k, d) :: ds, h => by
    simp only [ImmT] at h ⊢
    exact ⟨h.1, Imm.stay g v.2 d h.2.1, ImmT.stay g vs ds h.2.2⟩
  | [], _ :: _, h => by simp only [ImmT] at h
  | _ :: _, [], h => by simp only [ImmT] at h
theorem ImmF.stay (g : Grow L E H L' E' H') : ∀ (vs : List (Str × V)) (ds : List (Str × D)), ImmF K C L E H vs ds → ImmF K C L' E' H' vs ds
  | [], [], _ => by simp only [ImmF]
  | v :: vs, (k, d) :: ds, h => by
    simp only [ImmF] at h ⊢
    exact ⟨h.1, Imm.stay g v.2 d h.2.1, ImmF.stay g vs ds h.2.2⟩
  | [], _ :: _, h => by simp only [ImmF] at h
  | _ :: _, [], h => by simp only [ImmF] at h
end
/-- the exception that is handled, in a slot -/
def ExSl (K : Fr) (C : Cl) (L : List Addr) (E : Addr → Prop) (H : Hp) (xs : Xs) (v : V) (x : Exn) : Prop :=
  ∃ a A dd vs, v = .ref a ∧ xs = some (a, A, dd) ∧ C x.cls = some A ∧ XdAt E H dd vs ∧ ImmF K C L E H vs x.fs
theorem ExSl.stay {xs : Xs} {v : V} {x : Exn} (g : Grow L E H L' E' H') (h : ExSl K C L E H xs v x) : ExSl K C L' E' H' xs v x := by
  obtain ⟨a, A, dd, vs, e, hx, hc, r, q⟩ := h
  exact ⟨a, A, dd, vs, e, hx, hc, g.xd r, ImmF.stay g vs x.fs q⟩
end
end DL
set_option Elab.async false
set_option linter.all false
set_option maxRecDepth 100000
namespace DL
open PySem L2
/-- where a def was entered: what its callers own (E), the heap, the cells -/
structure Bs where
  K : Fr
  C : Cl
  E : Addr → Prop
  H0 : Hp
  L0 : List Addr
  A : Addr → Prop
  xs : Xs
/-- slot i owns what stands at a -/
def OwnAt (z : Z) (σ : St) (i : Nat) (a : Addr) : Prop := (∃ c, z.sl[i]? = some (.own c)) ∧ σ[i]? = some (some (.ref a))
/-- what may change or be dropped -/
def Ex (B : Bs) (z : Z) (σ : St) (L : List Addr) (a : Addr) : Prop := B.E a ∨ a ∈ L ∨ ∃ i, OwnAt z σ i a
section
variable (K : Fr) (C : Cl) (L : List Addr) (E : Addr → Prop) (H : Hp)
/-- a container's content at a -/
def CellRel (a : Addr) : Cell → Prop
  | .lst xs => ∃ vs, H a = some (.lst vs) ∧ ImmL K C L E H vs xs
  | .dK kvs => ∃ vs, H a = some (.dK vs) ∧ ImmK K C L E H vs kvs
  | .dT kvs => ∃ vs, H a = some (.dT vs) ∧ ImmT K C L E H vs kvs
  | .ins c fs => ∃ A dx vs, C c = some A ∧ H a = some (.ins A dx vs) ∧ ImmF K C L E H vs fs
/-- .. to be read -/
def ReadRel (a : Addr) : Cell → Prop
  | .lst xs => ∃ vs, SqL K H a vs ∧ ImmL K C L E H vs xs
  | .dK kvs => ∃ vs, Rd H a (.dK vs) ∧ ImmK K C L E H vs kvs
  | .dT kvs => ∃ vs, Rd H a (.dT vs) ∧ ImmT K C L E H vs kvs
  | .ins c fs => ∃ A dx vs, C c = some A ∧ H a = some (.ins A dx vs) ∧ ImmF K C L E H vs fs
def SlRel (BE : Addr → Prop) (xs : Xs) : Option Sl → Option (Option V) → Prop
  | some (.val d), some (some v) => Imm K C L E H v d
  | some (.own c), some (some v) => ∃ a, v = .ref a ∧ CellRel K C L E H a c
  | some (.brw c), some (some v) => ∃ a, v = .ref a ∧ ReadRel K C L E H a c ∧ BE a ∧ a ∉ L
  | some (.exn x), some (some v) => ExSl K C L E H xs v x
  | some .un, some _ => True
  | none, none => True
  | _, _ => False
structure StRel (S : List Cell) : Prop where
  len : L.length = S.length
  nd : L.Nodup
  ex : ∀ a ∈ L, E a
  at_ : ∀ (n : Nat) a c, L[n]? = some a → S[n]? = some c → CellRel K C L E H a c
end
theorem CellRel.read {K : Fr} {C : Cl} {L : List Addr} {E : Addr → Prop} {H : Hp} {a : Addr} : ∀ {c : Cell}, CellRel K C L E H a c → ReadRel K C L E H a c
  | .lst xs, ⟨vs, h, q⟩ => ⟨vs, SqL.of h, q⟩
  | .dK kvs, ⟨vs, h, q⟩ => ⟨vs, .inl h, q⟩
  | .dT kvs, ⟨vs, h, q⟩ => ⟨vs, .inl h, q⟩
  | .ins c fs, h => h
/-! ### tables of code objects -/
/-- the tables that are known hold; those that stood at the entry stand -/
structure TabR (T : List (Addr × Str)) (H0 H : Hp) : Prop where
  ok : LamX.Tabs T H
  old : ∀ a ps, H0 a = some (.tbl ps) → ∃ qs, H a = some (.tbl qs)
/-- what a change of the heap leaves -/
theorem TabR.keep {T : List (Addr × Str)} {H0 H H' : Hp} (t : TabR T H0 H) (k : ∀ b o, H b = some o → (∃ ps, o = .tbl ps) ∨ (∃ φ, o = .ext φ) → H' b = some o) : TabR T H0 H' := by
  refine ⟨fun p hp => ?_, fun a ps h => ?_⟩
  · obtain ⟨ps, h1, h2, h3⟩ := t.ok p hp
    refine ⟨ps, k _ _ h1 (.inl ⟨_, rfl⟩), h2, fun pos cv hc => ?_⟩
    obtain ⟨c, e1, e2⟩ := h3 pos cv hc
    exact ⟨c, e1, k _ _ e2 (.inr ⟨_, rfl⟩)⟩
  · obtain ⟨qs, hq⟩ := t.old a ps h
    exact ⟨qs, k _ _ hq (.inl ⟨_, rfl⟩)⟩
theorem TabR.all {T : List (Addr × Str)} {H0 H H' : Hp} (t : TabR T H0 H) (k : ∀ b o, H b = some o → H' b = some o) : TabR T H0 H' := t.keep fun b o h _ => k b o h
theorem TabR.new {T : List (Addr × Str)} {H0 H : Hp} {p : Addr} {o : HO} (t : TabR T H0 H) (hp : H p = none) : TabR T H0 (L2.upd H p o) := t.keep fun b u h _ => by
  by_cases e : b = p
  · rw [e, hp] at h; cases h
  · rw [L2.upd_ne e]; exact h
/-- no table, no code object -/
def NX : HO → Prop
  | .tbl _ => False
  | .ext _ => False
  | _ => True
theorem NX.nb : ∀ {o : HO}, NX o → NB o := fun {o} h => by
  cases o <;> first | trivial | exact h.elim
theorem TabR.but {T : List (Addr × Str)} {H0 H H' : Hp} {a : Addr} {u : HO} (t : TabR T H0 H) (ha : H a = some u) (n : NX u) (k : ∀ b o, b ≠ a → H b = some o → H' b = some o) : TabR T H0 H' := t.keep fun b v h z => by
  by_cases e : b = a
  · rw [e, ha] at h
    cases h
    rcases z with ⟨_, rfl⟩ | ⟨_, rfl⟩ <;> exact n.elim
  · exact k b v e h
theorem TabR.upd {T : List (Addr × Str)} {H0 H : Hp} {p : Addr} {o u : HO} (t : TabR T H0 H) (hp : H p = some u) (n : NX u) : TabR T H0 (L2.upd H p o) := t.but hp n fun b v e h => by rw [L2.upd_ne e]; exact h
theorem TabR.put {T : List (Addr × Str)} {H0 H : Hp} {p : Addr} {o : HO} (t : TabR T H0 H) (hp : H p = none) (n : NB o) : TabR T (L2.upd H0 p o) (L2.upd H p o) := by
  refine ⟨(t.new hp).ok, fun a ps h => ?_⟩
  by_cases e : a = p
  · rw [e, L2.upd_same] at h
    cases h
    exact n.elim
  · rw [L2.upd_ne e] at h ⊢
    exact t.old a ps h
theorem TabR.renew {T : List (Addr × Str)} {H0 H : Hp} {p : Addr} {o o' : HO} (t : TabR T (L2.upd H0 p o) H) (hp : H p = some o) (n : NX o) (n' : NB o') : TabR T (L2.upd H0 p o') (L2.upd H p o') := by
  refine ⟨(t.upd hp n).ok, fun a ps h => ?_⟩
  by_cases e : a = p
  · rw [e, L2.upd_same] at h
    cases h
    exact n'.elim
  · rw [L2.upd_ne e] at h ⊢
    exact t.old a ps (by rw [L2.upd_ne e]; exact h)
theorem TabR.unput {T : List (Addr × Str)} {H0 H : Hp} {p : Addr} {o : HO} (t : TabR T (L2.upd H0 p o) H) (h0 : H0 p = none) : TabR T H0 H :=
  ⟨t.ok, fun a ps h => t.old a ps (by rw [L2.upd_ne (fun e => by rw [e, h0] at h; cases h)]; exact h)⟩
theorem CellRel.nx {K : Fr} {C : Cl} {L : List Addr} {E : Addr → Prop} {H : Hp} {a : Addr} : ∀ {c : Cell}, CellRel K C L E H a c → ∃ o, H a = some o ∧ NX o
  | .lst _, ⟨_, h, _⟩ => ⟨_, h, trivial⟩
  | .dK _, ⟨_, h, _⟩ => ⟨_, h, trivial⟩
  | .dT _, ⟨_, h, _⟩ => ⟨_, h, trivial⟩
  | .ins _ _, ⟨_, _, _, _, h, _⟩ => ⟨_, h, trivial⟩
/-- the state of a def's body: z, over the values σ, the heap H, the cells at L -/
structure Rel (B : Bs) (z : Z) (σ : St) (H : Hp) (L : List Addr) : Prop where
  slot : ∀ i : Nat, SlRel B.K B.C L (Ex B z σ L) H B.A B.xs (z.sl[i]?) (σ[i]?)
  inj : ∀ i j a, OwnAt z σ i a → OwnAt z σ j a → i = j
  new : ∀ i a, OwnAt z σ i a → B.H0 a = none ∧ a ∉ L ∧ ¬ B.E a
  st : StRel B.K B.C L (Ex B z σ L) H z.st
  pre : ∀ (n : Nat) a, B.L0[n]? = some a → L[n]? = some a
  newc : ∀ a ∈ L, a ∈ B.L0 ∨ B.H0 a = none
  frame : ∀ a o, B.H0 a = some o → a ∉ B.L0 → NB o → H a = some o
  exd : ∀ a, Ex B z σ L a → Here H a
  ae : ∀ a, B.A a → B.E a
  tab : TabR B.C.T B.H0 H
/-- a value's meaning: data, or the token of a slot -/
def VRel (B : Bs) (z : Z) (σ : St) (H : Hp) (L : List Addr) (v : V) : W → Prop
  | .own i => σ[i]? = some (some v)
  | .d d => Imm B.K B.C L (Ex B z σ L) H v d
/-- how an exception lies behind a def: its class, its own dict -/
def ExnRel (K : Fr) (C : Cl) (L : List Addr) (E : Addr → Prop) (H : Hp) (x : Exn) (cls : Value) (dd : Option Addr) : Prop :=
  ∃ A vs, C x.cls = some A ∧ cls = .ref A ∧ XdAt E H dd vs ∧ ImmF K C L E H vs x.fs
/-- what stands behind a def, towards its caller -/
structure Back (B : Bs) (S : List Cell) (H : Hp) (L : List Addr) : Prop where
  st : StRel B.K B.C L (fun a => B.E a ∨ a ∈ L) H S
  pre : ∀ (n : Nat) a, B.L0[n]? = some a → L[n]? = some a
  newc : ∀ a ∈ L, a ∈ B.L0 ∨ B.H0 a = none
  frame : ∀ a o, B.H0 a = some o → a ∉ B.L0 → NB o → H a = some o
  exd : ∀ a, B.E a ∨ a ∈ L → Here H a
  tab : TabR B.C.T B.H0 H
theorem Back.there {B : Bs} {S : List Cell} {H : Hp} {L : List Addr} (b : Back B S H L) (a : Addr) (o : HO) (e : B.H0 a = some o) (n : a ∉ B.L0) : H a ≠ none := by
  by_cases nb : NB o
  · rw [b.frame a o e n nb]; intro z; cases z
  · cases o with
    | tbl ps =>
      obtain ⟨qs, hq⟩ := b.tab.old a ps e
      rw [hq]; intro z; cases z
    | _ => exact (nb trivial).elim
abbrev G (B : Bs) (z : Z) (σ : St) (L : List Addr) (H : Hp) (z' : Z) (σ' : St) (L' : List Addr) (H' : Hp) : Prop := Grow L (Ex B z σ L) H L' (Ex B z' σ' L') H'
/-- what is to be known behind an expression's end -/
def AftE (B : Bs) (E : WX) {α υ : Type} (vr : Z → Hp → List Addr → υ → α → Prop) (z : Z) (σ : St) (H : Hp) (L : List Addr) (Q : υ → Hp → Prop) : R α → Prop
  | .ok d z' => ∀ v H' L', Rel B z' σ H' L' → G B z σ L H z' σ L' H' → vr z' H' L' v d → Q v H'
  | .err x z' => ∀ cls dd H' L', Rel B z' σ H' L' → G B z σ L H z' σ L' H' → ExnRel B.K B.C L' (Ex B z' σ L') H' x cls dd → E cls dd σ H'
  | .bad => False
abbrev vV (B : Bs) (σ : St) (z : Z) (H : Hp) (L : List Addr) (v : V) (d : W) : Prop := VRel B z σ H L v d
def vVs (B : Bs) (σ : St) (z : Z) (H : Hp) (L : List Addr) : List V → List W → Prop
  | [], [] => True
  | v :: vs, d :: ds => VRel B z σ H L v d ∧ vVs B σ z H L vs ds
  | [], _ :: _ => False
  | _ :: _, [] => False
abbrev vB (_ : Z) (_ : Hp) (_ : List Addr) (b : Bool) (c : Bool) : Prop := b = c
structure PED (X : Cx) (B : Bs) (E : WX) (e : Expr) (m : M W) : Prop where
  ex : ∃ t, PE X e t ∧ ∀ z σ H L Q, Rel B z σ H L → AftE B E (vV B σ) z σ H L Q (m z) → t σ H Q
structure PTD (X : Cx) (B : Bs) (E : WX) (e : Expr) (m : M Bool) : Prop where
  ex : ∃ t, PT X e t ∧ ∀ z σ H L Q, Rel B z σ H L → AftE B E vB z σ H L Q (m z) → t σ H Q
structure PAD (X : Cx) (B : Bs) (E : WX) (es : List Expr) (m : M (List W)) : Prop where
  ex : ∃ t, PA X es t ∧ ∀ z σ H L Q, Rel B z σ H L → AftE B E (vVs B σ) z σ H L Q (m z) → t σ H Q
/-- what is to be known behind a statement's end -/
def AftS (B : Bs) (E : WX) (z0 : Z) (σ0 : St) (H0 : Hp) (L0 : List Addr) (N : Ends) : RS → Prop
  | .nx z => ∀ σ H L, Rel B z σ H L → G B z0 σ0 L0 H0 z σ L H → N.nx σ H
  | .bk z => ∀ σ H L, Rel B z σ H L → G B z0 σ0 L0 H0 z σ L H → N.bk σ H
  | .ct z => ∀ σ H L, Rel B z σ H L → G B z0 σ0 L0 H0 z σ L H → N.ct σ H
  | .rt d z => ∀ v σ H L, Rel B z σ H L → Imm B.K B.C L (fun a => B.E a ∨ a ∈ L) H v d → N.rt v H
  | .err x z => ∀ cls dd σ H L, Rel B z σ H L → G B z0 σ0 L0 H0 z σ L H → ExnRel B.K B.C L (Ex B z σ L) H x cls dd → E cls dd σ H
  | .bad => False
structure PSD (X : Cx) (B : Bs) (E : WX) (s : Stmt) (m : MS) : Prop where
  ex : ∃ t, PS X s t ∧ ∀ z σ H L N, Rel B z σ H L → AftS B E z σ H L N (m z) → t N σ H
structure PSsD (X : Cx) (B : Bs) (E : WX) (s : List Stmt) (m : MS) : Prop where
  ex : ∃ t, PSs X s t ∧ ∀ z σ H L N, Rel B z σ H L → AftS B E z σ H L N (m z) → t N σ H
section
variable {B : Bs} {E : WX} {α β υ ω : Type} {z : Z} {σ : St} {H : Hp} {L : List Addr}
/-- the step: behind the first part the second one -/
theorem AftE.bind {vr : Z → Hp → List Addr → υ → α → Prop} {vs : Z → Hp → List Addr → ω → β → Prop} {r : R α} {f : α → M β} {Q : ω → Hp → Prop} {Q1 : υ → Hp → Prop}
    (h : AftE B E vs z σ H L Q (r.bind f)) (hq : ∀ d z1 v H1 L1, Rel B z1 σ H1 L1 → G B z σ L H z1 σ L1 H1 → vr z1 H1 L1 v d → AftE B E vs z1 σ H1 L1 Q (f d z1) → Q1 v H1) :
    AftE B E vr z σ H L Q1 r := by
  cases r with
  | ok d z1 =>
    intro v H1 L1 R1 g hv
    refine hq d z1 v H1 L1 R1 g hv ?_
    have h' : AftE B E vs z σ H L Q (f d z1) := h
    cases e : f d z1 with
    | ok d2 z2 =>
      rw [e] at h'
      intro v2 H2 L2 R2 g2 hv2
      exact h' v2 H2 L2 R2 (g.trans g2) hv2
    | err x z2 =>
      rw [e] at h'
      exact fun cls dd H2 L2 R2 g2 => h' cls dd H2 L2 R2 (g.trans g2)
    | bad => rw [e] at h'; exact h'
  | err x S => exact h
  | bad => exact h
theorem AftS.from {z1 : Z} {σ1 : St} {H1 : Hp} {L1 : List Addr} {N : Ends} {r : RS} (g : G B z σ L H z1 σ1 L1 H1) (h : AftS B E z σ H L N r) : AftS B E z1 σ1 H1 L1 N r := by
  match r, h with
  | .nx z2, h => exact fun σ2 H2 L2 R2 g2 => h σ2 H2 L2 R2 (g.trans g2)
  | .bk z2, h => exact fun σ2 H2 L2 R2 g2 => h σ2 H2 L2 R2 (g.trans g2)
  | .ct z2, h => exact fun σ2 H2 L2 R2 g2 => h σ2 H2 L2 R2 (g.trans g2)
  | .rt d z2, h => exact h
  | .err x z2, h => exact fun cls dd σ2 H2 L2 R2 g2 => h cls dd σ2 H2 L2 R2 (g.trans g2)
  | .bad, h => exact h
theorem AftE.bindS {vr : Z → Hp → List Addr → υ → α → Prop} {r : R α} {f : α → MS} {N : Ends} {Q1 : υ → Hp → Prop}
    (h : AftS B E z σ H L N (r.bindS f)) (hq : ∀ d z1 v H1 L1, Rel B z1 σ H1 L1 → G B z σ L H z1 σ L1 H1 → vr z1 H1 L1 v d → AftS B E z1 σ H1 L1 N (f d z1) → Q1 v H1) :
    AftE B E vr z σ H L Q1 r := by
  cases r with
  | ok d z1 => exact fun v H1 L1 R1 g hv => hq d z1 v H1 L1 R1 g hv (AftS.from g h)
  | err x z1 => exact fun cls dd H1 L1 R1 g1 => h cls dd σ H1 L1 R1 g1
  | bad => exact h
/-- an end at once -/
theorem AftE.here {vr : Z → Hp → List Addr → υ → α → Prop} {d : α} {v : υ} {Q : υ → Hp → Prop} (R1 : Rel B z σ H L) (h : AftE B E vr z σ H L Q (.ok d z)) (hv : vr z H L v d) : Q v H :=
  h v H L R1 Grow.refl hv
end
theorem VRel.stay {B : Bs} {z z' : Z} {σ : St} {H H' : Hp} {L L' : List Addr} {v : V} {d : W} (g : G B z σ L H z' σ L' H') (h : VRel B z σ H L v d) : VRel B z' σ H' L' v d := by
  cases d with
  | own i => exact h
  | d d => exact Imm.stay g _ _ h
theorem vVs.stay {B : Bs} {z z' : Z} {σ : St} {H H' : Hp} {L L' : List Addr} (g : G B z σ L H z' σ L' H') : ∀ {vs : List V} {ds : List W}, vVs B σ z H L vs ds → vVs B σ z' H' L' vs ds
  | [], [], _ => trivial
  | v :: vs, d :: ds, h => ⟨VRel.stay g h.1, vVs.stay g h.2⟩
  | [], _ :: _, h => h.elim
  | _ :: _, [], h => h.elim
/-! ### constants, names -/
def mC (d : D) : M W := fun z => .ok (.d d) z
/-- the name in slot i -/
def mV (i : Nat) : M W := fun z => match z.sl[i]? with
  | some (.val d) => .ok (.d d) z
  | some (.own _) => .ok (.own i) z
  | some (.brw _) => .ok (.own i) z
  | some (.exn _) => .ok (.own i) z
  | _ => .bad
section
variable {X : Cx} {B : Bs} {E : WX} {e a b : Expr} {pos : Pos} {ma mb : M W}
theorem vrel_imm {z : Z} {σ : St} {H : Hp} {L : List Addr} {v : V} {d : D} (h : Imm B.K B.C L (Ex B z σ L) H v d) : VRel B z σ H L v (.d d) := h
theorem d_int {i : Int} {j} : PED X B E (.Constant (.int i) j pos) (mC (.int i)) := ⟨_, pe_int, fun z σ H L Q R h => AftE.here R h (by simp [VRel, Imm])⟩
theorem d_bl {i : Bool} {j} : PED X B E (.Constant (.bool i) j pos) (mC (.bl i)) := ⟨_, pe_bl, fun z σ H L Q R h => AftE.here R h (by simp [VRel, Imm])⟩
theorem d_non {j} : PED X B E (.Constant .none j pos) (mC .non) := ⟨_, pe_non, fun z σ H L Q R h => AftE.here R h (by simp [VRel, Imm])⟩
theorem d_str {x j} : PED X B E (.Constant (.str x) j pos) (mC (.str x)) := ⟨_, pe_str, fun z σ H L Q R h => AftE.here R h (by simp [VRel, Imm])⟩
theorem dv (i : Nat) {x : Str} (hN : X.N[i]? = some x := by rfl) (hv : Vis X.env.scope x := by first | exact Or.inl rfl | exact Or.inr (Or.inl rfl) | exact Or.inr (Or.inr rfl)) (hd : (x == ("__debug__" : Str)) = false := by decide)
    (hcd : (x == ("__classdict__" : Str)) = false := by decide) : PED X B E (.Name x pos) (mV i) := by
  refine ⟨_, pe_var hN hv hd hcd, fun z σ H L Q R h => ?_⟩
  have s := R.slot i
  unfold mV at h
  generalize hz : z.sl[i]? = o at h s
  generalize hσ : σ[i]? = p at s
  match o, p, s with
  | some (.val d), some (some v), s => exact ⟨v, hσ, AftE.here R h (vrel_imm s)⟩
  | some (.own c), some (some v), s => exact ⟨v, hσ, AftE.here (v := v) R h hσ⟩
  | some (.brw c), some (some v), s => exact ⟨v, hσ, AftE.here (v := v) R h hσ⟩
  | some (.exn c), some (some v), s => exact ⟨v, hσ, AftE.here (v := v) R h hσ⟩
  | some .un, _, _ => exact h.elim
  | none, _, _ => exact h.elim
end
end DL
set_option Elab.async false
set_option linter.all false
set_option maxRecDepth 100000
namespace DL
open PySem L2
section
variable {K : Fr} {C : Cl} {L L' : List Addr} {E E' : Addr → Prop} {H H' : Hp} {a : Addr}
theorem Same.dom (s : Same H H') (a : Addr) (h : H a ≠ none) : H' a ≠ none := by
  cases e : H a with
  | none => exact absurd e h
  | some o => rw [s a o e]; exact fun z => by cases z
theorem Grow.same (s : Same H H') : Grow L E H L E H' := ⟨fun a o h n _ => ⟨s a o h, n⟩, fun _ _ h => h, Same.dom s⟩
/-- a cell or an owned container whose own object is kept -/
theorem CellRel.stay (g : Grow L E H L' E' H') (h0 : ∀ o, H a = some o → H' a = some o) : ∀ {c : Cell}, CellRel K C L E H a c → CellRel K C L' E' H' a c
  | .lst xs, ⟨vs, h, q⟩ => ⟨vs, h0 _ h, ImmL.stay g _ _ q⟩
  | .dK kvs, ⟨vs, h, q⟩ => ⟨vs, h0 _ h, ImmK.stay g _ _ q⟩
  | .dT kvs, ⟨vs, h, q⟩ => ⟨vs, h0 _ h, ImmT.stay g _ _ q⟩
  | .ins c fs, ⟨A, dx, vs, hc, h, q⟩ => ⟨A, dx, vs, hc, h0 _ h, ImmF.stay g _ _ q⟩
theorem ReadRel.stay (g : Grow L E H L' E' H') (h0 : ∀ o, H a = some o → H' a = some o) : ∀ {c : Cell}, ReadRel K C L E H a c → ReadRel K C L' E' H' a c
  | .lst xs, ⟨vs, h, q⟩ => ⟨vs, by
      rcases h with (h | ⟨o, h⟩) | h
      · exact .inl (.inl (h0 _ h))
      · exact .inl (.inr ⟨o, h0 _ h⟩)
      · exact .inr h, ImmL.stay g _ _ q⟩
  | .dK kvs, ⟨vs, h, q⟩ => ⟨vs, h.elim (fun h => .inl (h0 _ h)) (fun ⟨o, h⟩ => .inr ⟨o, h0 _ h⟩), ImmK.stay g _ _ q⟩
  | .dT kvs, ⟨vs, h, q⟩ => ⟨vs, h.elim (fun h => .inl (h0 _ h)) (fun ⟨o, h⟩ => .inr ⟨o, h0 _ h⟩), ImmT.stay g _ _ q⟩
  | .ins c fs, ⟨A, dx, vs, hc, h, q⟩ => ⟨A, dx, vs, hc, h0 _ h, ImmF.stay g _ _ q⟩
theorem ReadRel.stayB (g : Grow L E H L' E' H') (h0 : ∀ o, H a = some o → NB o → H' a = some o) : ∀ {c : Cell}, ReadRel K C L E H a c → ReadRel K C L' E' H' a c
  | .lst xs, ⟨vs, h, q⟩ => ⟨vs, by
      rcases h with (h | ⟨o, h⟩) | h
      · exact .inl (.inl (h0 _ h trivial))
      · exact .inl (.inr ⟨o, h0 _ h trivial⟩)
      · exact .inr h, ImmL.stay g _ _ q⟩
  | .dK kvs, ⟨vs, h, q⟩ => ⟨vs, h.elim (fun h => .inl (h0 _ h trivial)) (fun ⟨o, h⟩ => .inr ⟨o, h0 _ h trivial⟩), ImmK.stay g _ _ q⟩
  | .dT kvs, ⟨vs, h, q⟩ => ⟨vs, h.elim (fun h => .inl (h0 _ h trivial)) (fun ⟨o, h⟩ => .inr ⟨o, h0 _ h trivial⟩), ImmT.stay g _ _ q⟩
  | .ins c fs, ⟨A, dx, vs, hc, h, q⟩ => ⟨A, dx, vs, hc, h0 _ h trivial, ImmF.stay g _ _ q⟩
theorem CellRel.here : ∀ {c : Cell}, CellRel K C L E H a c → Here H a
  | .lst xs, ⟨vs, h, q⟩ => ⟨_, h, trivial⟩
  | .dK kvs, ⟨vs, h, q⟩ => ⟨_, h, trivial⟩
  | .dT kvs, ⟨vs, h, q⟩ => ⟨_, h, trivial⟩
  | .ins c fs, ⟨A, dx, vs, hc, h, q⟩ => ⟨_, h, trivial⟩
theorem here_updC {c : Cell} {L1 : List Addr} {E1 : Addr → Prop} {b : Addr} {o : HO} (hc : CellRel K C L1 E1 (upd H a o) a c) (h : b ≠ a → Here H b) : Here (upd H a o) b := by
  by_cases e : b = a
  · subst e; exact hc.here
  · obtain ⟨u, hu, nu⟩ := h e
    exact ⟨u, by rw [upd_ne e]; exact hu, nu⟩
theorem CellRel.some : ∀ {c : Cell}, CellRel K C L E H a c → ∃ o, H a = some o
  | .lst xs, ⟨vs, h, q⟩ => ⟨_, h⟩
  | .dK kvs, ⟨vs, h, q⟩ => ⟨_, h⟩
  | .dT kvs, ⟨vs, h, q⟩ => ⟨_, h⟩
  | .ins c fs, ⟨A, dx, vs, hc, h, q⟩ => ⟨_, h⟩
end
section
variable {B : Bs} {z z' : Z} {σ σ' : St} {H H' : Hp} {L L' : List Addr}
theorem OwnAt.cell {i : Nat} {a : Addr} (R : Rel B z σ H L) (o : OwnAt z σ i a) : ∃ c, z.sl[i]? = some (.own c) ∧ CellRel B.K B.C L (Ex B z σ L) H a c := by
  obtain ⟨⟨c, e1⟩, e2⟩ := o
  have s := R.slot i
  rw [e1, e2] at s
  obtain ⟨b, e, q⟩ := s
  cases e
  exact ⟨c, e1, q⟩
/-- all that stood stands -/
theorem Rel.same (R : Rel B z σ H L) (s : Same H H') : Rel B z σ H' L := by
  have g : Grow L (Ex B z σ L) H L (Ex B z σ L) H' := Grow.same s
  refine ⟨fun i => ?_, R.inj, R.new, ⟨R.st.len, R.st.nd, R.st.ex, fun n a c h1 h2 => (R.st.at_ n a c h1 h2).stay g (s a)⟩, R.pre, R.newc, fun a o h n nb => s _ _ (R.frame a o h n nb), fun a h => ?_, R.ae, R.tab.all s⟩
  · have q := R.slot i
    generalize z.sl[i]? = x at q ⊢
    generalize σ[i]? = y at q ⊢
    match x, y, q with
    | some (.val d), some (some v), q => exact Imm.stay g _ _ q
    | some (.own c), some (some v), ⟨a, e, q⟩ => exact ⟨a, e, q.stay g (s a)⟩
    | some (.brw c), some (some v), ⟨a, e, q, b⟩ => exact ⟨a, e, q.stay g (s a), b⟩
    | some (.exn x), some (some v), q => exact ExSl.stay g q
    | some .un, some _, _ => trivial
    | none, none, _ => trivial
  · exact (R.exd a h).keep (s a)
theorem same_new {p : Addr} {o : HO} (hp : H p = none) : Same H (upd H p o) := fun b u e => by rw [upd_ne (ne_of_none e hp)]; exact e
/-- a new object -/
theorem Rel.upd_new {p : Addr} {o : HO} (R : Rel B z σ H L) (hp : H p = none) : Rel B z σ (upd H p o) L := R.same (same_new hp)
theorem G.new {p : Addr} {o : HO} (hp : H p = none) : G B z σ L H z σ L (upd H p o) := Grow.same (same_new hp)
theorem Rel.noEx {p : Addr} (R : Rel B z σ H L) (hp : H p = none) : ¬ Ex B z σ L p := fun h => (R.exd p h).ne hp
theorem Imm.new_lst {K : Fr} {C : Cl} {E : Addr → Prop} {p : Addr} {vs : List V} {xs : List D} (hp : H p = none) (hE : ¬ E p) (h : ImmL K C L E H vs xs) : Imm K C L E (upd H p (.lst vs)) (.ref p) (.lst xs) := by
  simp only [Imm]
  exact ⟨p, vs, rfl, .inl ⟨hE, .inl upd_same⟩, ImmL.stay (Grow.same (same_new hp)) _ _ h⟩
theorem Imm.new_tup {K : Fr} {C : Cl} {E : Addr → Prop} {p : Addr} {vs : List V} {xs : List D} (hp : H p = none) (hE : ¬ E p) (h : ImmL K C L E H vs xs) : Imm K C L E (upd H p (.tup vs)) (.ref p) (.tup xs) := by
  simp only [Imm]
  exact ⟨p, vs, rfl, ⟨hE, upd_same⟩, ImmL.stay (Grow.same (same_new hp)) _ _ h⟩
/-! ### contents -/
def Z.cont (z : Z) : W → Option Cell
  | .d (.lst xs) => some (.lst xs)
  | .d (.dK kvs) => some (.dK kvs)
  | .d (.dT kvs) => some (.dT kvs)
  | .d (.ins c fs) => some (.ins c fs)
  | .d (.obj n) => z.st[n]?
  | .own i => match z.sl[i]? with
    | some (.own c) => some c
    | some (.brw c) => some c
    | _ => none
  | _ => none
theorem Rel.read (R : Rel B z σ H L) {v : V} {d : W} {c : Cell} (h : VRel B z σ H L v d) (e : z.cont d = some c) : ∃ a, v = .ref a ∧ ReadRel B.K B.C L (Ex B z σ L) H a c := by
  cases d with
  | own i =>
    simp only [VRel] at h
    simp only [Z.cont] at e
    have s := R.slot i
    rw [h] at s
    generalize z.sl[i]? = o at e s
    match o, s with
    | some (.own k), ⟨a, ea, q⟩ =>
      cases e
      exact ⟨a, ea, q.read⟩
    | some (.brw k), ⟨a, ea, q, _⟩ =>
      cases e
      exact ⟨a, ea, q⟩
    | some (.exn k), _ => cases e
    | some (.val d), _ => cases e
    | some .un, _ => cases e
    | none, q => exact q.elim
  | d d =>
    cases d with
    | lst xs =>
      simp only [Z.cont, Option.some.injEq] at e
      subst e
      simp only [VRel, Imm] at h
      obtain ⟨a, vs, e, r, q⟩ := h
      exact ⟨a, e, vs, r.sq, q⟩
    | dK xs =>
      simp only [Z.cont, Option.some.injEq] at e
      subst e
      simp only [VRel, Imm] at h
      obtain ⟨a, vs, od, e, n, r, q⟩ := h
      exact ⟨a, e, vs, .inr ⟨od, r⟩, q⟩
    | dT xs =>
      simp only [Z.cont, Option.some.injEq] at e
      subst e
      simp only [VRel, Imm] at h
      obtain ⟨a, vs, od, e, n, r, q⟩ := h
      exact ⟨a, e, vs, .inr ⟨od, r⟩, q⟩
    | ins k fs =>
      simp only [Z.cont, Option.some.injEq] at e
      subst e
      simp only [VRel, Imm] at h
      obtain ⟨a, dx, A, vs, e, hc, n, r, q⟩ := h
      exact ⟨a, e, A, dx, vs, hc, r, q⟩
    | obj n =>
      simp only [Z.cont] at e
      simp only [VRel, Imm] at h
      obtain ⟨a, ea, hl⟩ := h
      exact ⟨a, ea, (R.st.at_ n a c hl e).read⟩
    | _ => cases e
theorem Rel.readL (R : Rel B z σ H L) {v : V} {d : W} {xs : List D} (h : VRel B z σ H L v d) (e : z.cont d = some (.lst xs)) : ∃ a vs, v = .ref a ∧ SqL B.K H a vs ∧ ImmL B.K B.C L (Ex B z σ L) H vs xs :=
  let ⟨a, e1, vs, h1, h2⟩ := R.read h e
  ⟨a, vs, e1, h1, h2⟩
/-! ### an owned container goes over to data -/
def shareAt (z : Z) (i : Nat) (d : D) : Z := { z with sl := z.sl.set i (.val d) }
def Cell.data : Cell → D
  | .lst xs => .lst xs
  | .dK kvs => .dK kvs
  | .dT kvs => .dT kvs
  | .ins c fs => .ins c fs
/-- a value that is to be stored -/
def mShare (d : W) : M D := fun z => match d with
  | .own i => match z.sl[i]? with
    | some (.own c) => .ok c.data (shareAt z i c.data)
    | _ => .bad
  | .d d => .ok d z
def isDictC : Cell → Bool
  | .dK _ => true
  | .dT _ => true
  | _ => false
theorem share_gen {i : Nat} {c : Cell} {a : Addr} (R : Rel B z σ H L) (e : z.sl[i]? = some (.own c)) (hv : σ[i]? = some (some (.ref a))) {H' : Hp} (hk : ∀ b o, b ≠ a → H b = some o → H' b = some o) (hna : H' a ≠ none)
    (hdd : ¬ Ex B (shareAt z i c.data) σ L a → G B z σ L H (shareAt z i c.data) σ L H' → Imm B.K B.C L (Ex B (shareAt z i c.data) σ L) H' (.ref a) c.data) :
    Rel B (shareAt z i c.data) σ H' L ∧ G B z σ L H (shareAt z i c.data) σ L H' ∧ Imm B.K B.C L (Ex B (shareAt z i c.data) σ L) H' (.ref a) c.data := by
  have own : OwnAt z σ i a := ⟨⟨c, e⟩, hv⟩
  have hi : i < z.sl.length := (List.getElem?_eq_some_iff.mp e).1
  have at_i : (shareAt z i c.data).sl[i]? = some (.val c.data) := by simp [shareAt, hi]
  have at_j : ∀ j, j ≠ i → (shareAt z i c.data).sl[j]? = z.sl[j]? := fun j h => by simp [shareAt, List.getElem?_set_ne (Ne.symm h)]
  have own_j : ∀ j b, OwnAt (shareAt z i c.data) σ j b → j ≠ i ∧ OwnAt z σ j b := fun j b ⟨⟨k, h1⟩, h2⟩ => by
    have hj : j ≠ i := fun h => by subst h; rw [at_i] at h1; cases h1
    rw [at_j j hj] at h1
    exact ⟨hj, ⟨k, h1⟩, h2⟩
  have sub : ∀ b, Ex B (shareAt z i c.data) σ L b → Ex B z σ L b := fun b h => h.imp id (Or.imp id fun ⟨j, o⟩ => ⟨j, (own_j j b o).2⟩)
  obtain ⟨n1, n2, n3⟩ := R.new i a own
  have na : ¬ Ex B (shareAt z i c.data) σ L a := fun h => by
    rcases h with h | h | ⟨j, o⟩
    · exact n3 h
    · exact n2 h
    · exact (own_j j a o).1 (R.inj j i a (own_j j a o).2 own)
  have exa : Ex B z σ L a := .inr (.inr ⟨i, own⟩)
  have g : G B z σ L H (shareAt z i c.data) σ L H' := ⟨fun b o h n _ => ⟨hk b o (fun q => n (q ▸ exa)) h, fun x => n (sub b x)⟩, fun _ _ h => h, fun b h => by
    by_cases q : b = a
    · rw [q]; exact hna
    · cases eb : H b with
      | none => exact absurd eb h
      | some o => rw [hk b o q eb]; intro z; cases z⟩
  have hd := hdd na g
  have tab' : TabR B.C.T B.H0 H' := by
    obtain ⟨c0, _, q0⟩ := own.cell R
    obtain ⟨o0, h0, x0⟩ := q0.nx
    exact R.tab.but h0 x0 hk
  refine ⟨⟨fun j => ?_, fun j k b o1 o2 => R.inj j k b (own_j j b o1).2 (own_j k b o2).2, fun j b o => R.new j b (own_j j b o).2, ?_, R.pre, R.newc, fun b o h n nb => hk b o (fun q => by rw [q, n1] at h; cases h) (R.frame b o h n nb), fun b h => (R.exd b (sub b h)).keep fun o ho => hk b o (fun q => na (q ▸ h)) ho, R.ae, tab'⟩, g, hd⟩
  · by_cases hj : j = i
    · subst hj
      rw [at_i, hv]
      exact hd
    · rw [at_j j hj]
      have q := R.slot j
      generalize hz : z.sl[j]? = x at q ⊢
      generalize hs : σ[j]? = y at q ⊢
      match x, y, q, hz, hs with
      | some (.val d), some (some v), q, _, _ => exact Imm.stay g _ _ q
      | some (.own c'), some (some v), ⟨b, e', q⟩, hz, hs =>
        refine ⟨b, e', q.stay g fun o h => hk b o (fun q' => ?_) h⟩
        have o2 : OwnAt z σ j b := ⟨⟨c', hz⟩, by rw [hs, e']⟩
        exact hj (R.inj j i a (q' ▸ o2) own)
      | some (.brw c'), some (some v), ⟨b, e', q, b1, b2⟩, _, _ => exact ⟨b, e', q.stay g fun o h => hk b o (fun q' => n3 (R.ae a (q' ▸ b1))) h, b1, b2⟩
      | some (.exn x), some (some v), q, _, _ => exact ExSl.stay g q
      | some .un, some _, _, _, _ => trivial
      | none, none, _, _, _ => trivial
  · exact ⟨R.st.len, R.st.nd, fun b h => .inr (.inl h), fun n b c h1 h2 => (R.st.at_ n b c h1 h2).stay g fun o h => hk b o (fun q => n2 (q ▸ List.mem_of_getElem? h1)) h⟩
theorem own_at {i : Nat} {c : Cell} {v : V} (R : Rel B z σ H L) (e : z.sl[i]? = some (.own c)) (hv : σ[i]? = some (some v)) : ∃ a, v = .ref a ∧ CellRel B.K B.C L (Ex B z σ L) H a c := by
  have s := R.slot i
  rw [e, hv] at s
  exact s
theorem share_own {i : Nat} {c : Cell} {v : V} (R : Rel B z σ H L) (e : z.sl[i]? = some (.own c)) (hv : σ[i]? = some (some v)) (hc : isDictC c = false) :
    Rel B (shareAt z i c.data) σ H L ∧ G B z σ L H (shareAt z i c.data) σ L H ∧ Imm B.K B.C L (Ex B (shareAt z i c.data) σ L) H v c.data := by
  obtain ⟨a, rfl, q⟩ := own_at R e hv
  refine share_gen R e hv (fun b o _ h => h) (by obtain ⟨o, ho⟩ := q.some; rw [ho]; intro z; cases z) fun na g => ?_
  cases c with
  | lst xs =>
    obtain ⟨vs, h, im⟩ := q
    simp only [Cell.data, Imm]
    exact ⟨a, vs, rfl, .inl ⟨na, .inl h⟩, ImmL.stay g _ _ im⟩
  | dK xs => cases hc
  | dT xs => cases hc
  | ins k fs =>
    obtain ⟨A, dx, vs, hc, h, im⟩ := q
    simp only [Cell.data, Imm]
    exact ⟨a, dx, A, vs, rfl, hc, na, h, ImmF.stay g _ _ im⟩
/-- a dict is locked for good -/
theorem share_dict {i : Nat} {c : Cell} {v : V} (R : Rel B z σ H L) (e : z.sl[i]? = some (.own c)) (hv : σ[i]? = some (some v)) (hc : isDictC c = true) :
    ∃ a u, v = .ref a ∧ H a = some u ∧ Mut (some u) ∧ ∀ od, Rel B (shareAt z i c.data) σ (upd H a (.frz od u)) L ∧ G B z σ L H (shareAt z i c.data) σ L (upd H a (.frz od u)) ∧ Imm B.K B.C L (Ex B (shareAt z i c.data) σ L) (upd H a (.frz od u)) v c.data := by
  obtain ⟨a, rfl, q⟩ := own_at R e hv
  cases c with
  | lst xs => cases hc
  | ins k fs => cases hc
  | dK xs =>
    obtain ⟨vs, h, im⟩ := q
    refine ⟨a, _, rfl, h, trivial, fun od => share_gen R e hv (fun b o n h => by rw [upd_ne n]; exact h) (by rw [upd_same]; intro z; cases z) fun na g => ?_⟩
    simp only [Cell.data, Imm]
    exact ⟨a, vs, od, rfl, na, upd_same, ImmK.stay g _ _ im⟩
  | dT xs =>
    obtain ⟨vs, h, im⟩ := q
    refine ⟨a, _, rfl, h, trivial, fun od => share_gen R e hv (fun b o n h => by rw [upd_ne n]; exact h) (by rw [upd_same]; intro z; cases z) fun na g => ?_⟩
    simp only [Cell.data, Imm]
    exact ⟨a, vs, od, rfl, na, upd_same, ImmT.stay g _ _ im⟩
/-- Q, now or when the thing is locked -/
def LockQ (Q : V → Hp → Prop) (v : V) (H : Hp) : Prop := Q v H ∨ ∃ a u, v = .ref a ∧ H a = some u ∧ Mut (some u) ∧ ∀ od, Q v (upd H a (.frz od u))
/-- what mShare leaves -/
theorem share_ok {d : W} {v : V} {E : WX} {vr : Z → Hp → List Addr → V → D → Prop} {Q : V → Hp → Prop} (R : Rel B z σ H L) (hv : VRel B z σ H L v d) (h : AftE B E vr z σ H L Q (mShare d z))
    (hr : ∀ z' H' d', Imm B.K B.C L (Ex B z' σ L) H' v d' → vr z' H' L v d') : LockQ Q v H := by
  cases d with
  | own i =>
    simp only [mShare] at h
    simp only [VRel] at hv
    generalize e : z.sl[i]? = o at h
    match o, h with
    | some (.own c), h =>
      cases hc : isDictC c with
      | false =>
        obtain ⟨R', g, q⟩ := share_own R e hv hc
        exact .inl (h v H L R' g (hr _ _ _ q))
      | true =>
        obtain ⟨a, u, ea, ha, mu, q⟩ := share_dict R e hv hc
        exact .inr ⟨a, u, ea, ha, mu, fun od => h v _ L (q od).1 (q od).2.1 (hr _ _ _ (q od).2.2)⟩
    | some (.val d), h => exact h.elim
    | some (.brw c), h => exact h.elim
    | some (.exn c), h => exact h.elim
    | some .un, h => exact h.elim
    | none, h => exact h.elim
  | d d => exact .inl (h v H L R Grow.refl (hr _ _ _ hv))
/-- .. but dicts -/
def mShareN (d : W) : M D := fun z => match d with
  | .own i => match z.sl[i]? with
    | some (.own c) => if isDictC c then .bad else .ok c.data (shareAt z i c.data)
    | _ => .bad
  | .d d => .ok d z
end
end DL
set_option Elab.async false
set_option linter.all false
set_option maxRecDepth 100000
namespace DL
open PySem L2
def mBind {α β : Type} (m : M α) (f : α → M β) : M β := fun z => (m z).bind f
def m2 (ma mb : M W) (f : W → W → M W) : M W := fun z => (ma z).bind fun x z1 => (mb z1).bind fun y z2 => f x y z2
/-- a value that is a bool -/
def asB (m : M W) : M Bool := fun z => (m z).bind fun d z1 => match d with
  | .d (.bl b) => .ok b z1
  | _ => .bad
section
variable {X : Cx} {B : Bs} {E : WX} {e a b : Expr} {pos : Pos} {ma mb : M W}
/-- an operation by values, and its meaning -/
def OpS (B : Bs) (E : WX) (r : R2) (f : W → W → M W) : Prop :=
  ∀ z σ H L Q x y vx vy, Rel B z σ H L → VRel B z σ H L vx x → VRel B z σ H L vy y → AftE B E (vV B σ) z σ H L Q (f x y z) → r vx vy H Q
theorem tOp_of {ta tb : TE} {r : R2} {f : W → W → M W} (hf : OpS B E r f) (ha : ∀ z σ H L Q, Rel B z σ H L → AftE B E (vV B σ) z σ H L Q (ma z) → ta σ H Q) (hb : ∀ z σ H L Q, Rel B z σ H L → AftE B E (vV B σ) z σ H L Q (mb z) → tb σ H Q)
    (z : Z) (σ : St) (H : Hp) (L : List Addr) (Q : VK) (R : Rel B z σ H L) (h : AftE B E (vV B σ) z σ H L Q (m2 ma mb f z)) : tOp r ta tb σ H Q := by
  refine ha z σ H L _ R (AftE.bind h fun x z1 vx H1 L1 R1 g1 h1 k1 => ?_)
  refine hb z1 σ H1 L1 _ R1 (AftE.bind k1 fun y z2 vy H2 L2 R2 g2 h2 k2 => ?_)
  exact hf z2 σ H2 L2 Q x y vx vy R2 (VRel.stay g2 h1) h2 k2
theorem d_op {op : Operator} {r : R2} {f : W → W → M W} (ho : OpR X (binaryOp op) r) (hf : OpS B E r f) (ha : PED X B E a ma) (hb : PED X B E b mb) : PED X B E (.BinOp a op b pos) (m2 ma mb f) := by
  obtain ⟨ta, pa, sa⟩ := ha
  obtain ⟨tb, pb, sb⟩ := hb
  exact ⟨_, pe_op ho pa pb, tOp_of hf sa sb⟩
theorem d_cmp {op : CmpOp} {r : R2} {f : W → W → M W} (ho : OpR X (compareOp op) r) (hf : OpS B E r f) (ha : PED X B E a ma) (hb : PED X B E b mb) (hm : behindInMarks op b = false) : PED X B E (.Compare a [op] [b] pos) (m2 ma mb f) := by
  obtain ⟨ta, pa, sa⟩ := ha
  obtain ⟨tb, pb, sb⟩ := hb
  exact ⟨_, pe_cmpR ho pa pb hm, tOp_of hf sa sb⟩
theorem asB_of {t : TE} {m : M W} (s : ∀ z σ H L Q, Rel B z σ H L → AftE B E (vV B σ) z σ H L Q (m z) → t σ H Q) (z : Z) (σ : St) (H : Hp) (L : List Addr) (Q : Bool → Hp → Prop) (R : Rel B z σ H L) (h : AftE B E vB z σ H L Q (asB m z)) :
    tTest t σ H Q := by
  refine s z σ H L _ R (AftE.bind h fun d z1 v H1 L1 R1 g1 h1 k1 => ?_)
  split at k1
  · rename_i b
    simp only [VRel, Imm] at h1
    exact ⟨b, h1, AftE.here R1 k1 rfl⟩
  · exact k1.elim
theorem d_tcmp {op : CmpOp} {r : R2} {f : W → W → M W} (ho : OpR X (compareOp op) r) (hf : OpS B E r f) (ha : PED X B E a ma) (hb : PED X B E b mb) (hm : behindInMarks op b = false) : PTD X B E (.Compare a [op] [b] pos) (asB (m2 ma mb f)) := by
  obtain ⟨ta, pa, sa⟩ := ha
  obtain ⟨tb, pb, sb⟩ := hb
  exact ⟨_, pt_cmpR ho pa pb hm, asB_of (tOp_of hf sa sb)⟩
/-! ### chains a op1 b op2 c -/
def mChain (ma mb mc : M W) (f g : W → W → M W) : M W := fun z => (ma z).bind fun x z1 => (mb z1).bind fun y z2 => (f x y z2).bind fun k z3 => match k with
  | .d (.bl true) => (mc z3).bind fun w z4 => g y w z4
  | .d (.bl false) => .ok (.d (.bl false)) z3
  | _ => .bad
theorem tChain_of {c : Expr} {mc : M W} {ta tb tc : TE} {r r' : R2} {f g : W → W → M W} (hf : OpS B E r f) (hg : OpS B E r' g) (ha : ∀ z σ H L Q, Rel B z σ H L → AftE B E (vV B σ) z σ H L Q (ma z) → ta σ H Q) (hb : ∀ z σ H L Q, Rel B z σ H L → AftE B E (vV B σ) z σ H L Q (mb z) → tb σ H Q)
    (hc : ∀ z σ H L Q, Rel B z σ H L → AftE B E (vV B σ) z σ H L Q (mc z) → tc σ H Q)
    (z : Z) (σ : St) (H : Hp) (L : List Addr) (Q : VK) (R : Rel B z σ H L) (h : AftE B E (vV B σ) z σ H L Q (mChain ma mb mc f g z)) : tChain r r' ta tb tc σ H Q := by
  refine ha z σ H L _ R (AftE.bind h fun x z1 vx H1 L1 R1 g1 h1 k1 => ?_)
  refine hb z1 σ H1 L1 _ R1 (AftE.bind k1 fun y z2 vy H2 L2 R2 g2 h2 k2 => ?_)
  refine hf z2 σ H2 L2 _ x y vx vy R2 (VRel.stay g2 h1) h2 (AftE.bind k2 fun k z3 vk H3 L3 R3 g3 h3 k3 => ?_)
  split at k3
  · simp only [VRel, Imm] at h3
    refine ⟨true, h3, ?_⟩
    rw [if_pos rfl]
    refine hc z3 σ H3 L3 _ R3 (AftE.bind k3 fun w z4 vw H4 L4 R4 g4 h4 k4 => ?_)
    exact hg z4 σ H4 L4 Q y w vy vw R4 (VRel.stay g4 (VRel.stay g3 h2)) h4 k4
  · simp only [VRel, Imm] at h3
    refine ⟨false, h3, ?_⟩
    rw [if_neg (by decide)]
    exact AftE.here R3 k3 (by simp [VRel, Imm])
  · exact k3.elim
theorem d_chain {c : Expr} {mc : M W} {op op' : CmpOp} {r r' : R2} {f g : W → W → M W} (ho : OpR X (compareOp op) r) (hf : OpS B E r f) (ho' : OpR X (compareOp op') r') (hg : OpS B E r' g) (ha : PED X B E a ma) (hb : PED X B E b mb) (hc : PED X B E c mc)
    (hm : lastMarks [op, op'] [b, c] = false := by with_unfolding_all rfl) : PED X B E (.Compare a [op, op'] [b, c] pos) (mChain ma mb mc f g) := by
  obtain ⟨ta, pa, sa⟩ := ha
  obtain ⟨tb, pb, sb⟩ := hb
  obtain ⟨tc, pc, sc⟩ := hc
  exact ⟨_, pe_chain ho ho' pa pb pc hm, tChain_of (c := c) hf hg sa sb sc⟩
theorem d_tchain {c : Expr} {mc : M W} {op op' : CmpOp} {r r' : R2} {f g : W → W → M W} (ho : OpR X (compareOp op) r) (hf : OpS B E r f) (ho' : OpR X (compareOp op') r') (hg : OpS B E r' g) (ha : PED X B E a ma) (hb : PED X B E b mb) (hc : PED X B E c mc)
    (hm : lastMarks [op, op'] [b, c] = false := by with_unfolding_all rfl) : PTD X B E (.Compare a [op, op'] [b, c] pos) (asB (mChain ma mb mc f g)) := by
  obtain ⟨ta, pa, sa⟩ := ha
  obtain ⟨tb, pb, sb⟩ := hb
  obtain ⟨tc, pc, sc⟩ := hc
  exact ⟨_, pt_chain ho ho' pa pb pc hm, asB_of (tChain_of (c := c) hf hg sa sb sc)⟩
/-! ### operations: by the two values alone -/
/-- a pure answer, flat -/
def flat (o : Option D) : M W := fun z => match o with
  | some d => .ok (.d d) z
  | none => .bad
theorem flat_of {z : Z} {σ : St} {H : Hp} {L : List Addr} {Q : VK} {o : Option D} (R : Rel B z σ H L) (h : AftE B E (vV B σ) z σ H L Q (flat o z)) : ∃ d, o = some d ∧ ∀ v, VRel B z σ H L v (.d d) → Q v H := by
  cases o with
  | some d => exact ⟨d, rfl, fun v hv => AftE.here R h hv⟩
  | none => exact h.elim
theorem vr_int {z : Z} {σ : St} {H : Hp} {L : List Addr} {v : V} {i : Int} (h : VRel B z σ H L v (.d (.int i))) : v = .int i := by simpa [VRel, Imm] using h
theorem vr_str {z : Z} {σ : St} {H : Hp} {L : List Addr} {v : V} {i : Str} (h : VRel B z σ H L v (.d (.str i))) : v = .str i := by simpa [VRel, Imm] using h
theorem vr_bl {z : Z} {σ : St} {H : Hp} {L : List Addr} {v : V} {i : Bool} (h : VRel B z σ H L v (.d (.bl i))) : v = .bl i := by simpa [VRel, Imm] using h
theorem vr_non {z : Z} {σ : St} {H : Hp} {L : List Addr} {v : V} (h : VRel B z σ H L v (.d .non)) : v = .non := by simpa [VRel, Imm] using h
theorem vr_int' {z : Z} {σ : St} {H : Hp} {L : List Addr} {i : Int} : VRel B z σ H L (.int i) (.d (.int i)) := by simp [VRel, Imm]
theorem vr_str' {z : Z} {σ : St} {H : Hp} {L : List Addr} {i : Str} : VRel B z σ H L (.str i) (.d (.str i)) := by simp [VRel, Imm]
theorem vr_bl' {z : Z} {σ : St} {H : Hp} {L : List Addr} {i : Bool} : VRel B z σ H L (.bl i) (.d (.bl i)) := by simp [VRel, Imm]
theorem vr_non' {z : Z} {σ : St} {H : Hp} {L : List Addr} : VRel B z σ H L .non (.d .non) := by simp [VRel, Imm]
/-- two ints in, something flat out, under a test -/
def fI (C : Int → Int → Bool) (g : Int → Int → D) (x y : W) : Option D := match x, y with
  | .d (.int i), .d (.int j) => if C i j then some (g i j) else none
  | _, _ => none
theorem opS_I {C : Int → Int → Prop} {k : Int → Int → Bool} {g : Int → Int → V} {g' : Int → Int → D} (hC : ∀ i j, k i j = true → C i j) (hg : ∀ z σ H L i j, VRel B z σ H L (g i j) (.d (g' i j))) : OpS B E (rI C g) (fun x y => flat (fI k g' x y)) := by
  intro z σ H L Q x y vx vy R hx hy h
  obtain ⟨d, ed, hq⟩ := flat_of R h
  unfold fI at ed
  split at ed
  · rename_i i j
    split at ed
    · rename_i hc
      cases ed
      exact ⟨i, j, vr_int hx, vr_int hy, hC i j hc, hq _ (hg ..)⟩
    · cases ed
  · cases ed
theorem opS_I0 {g : Int → Int → V} {g' : Int → Int → D} (hg : ∀ z σ H L i j, VRel B z σ H L (g i j) (.d (g' i j))) : OpS B E (rI0 g) (fun x y => flat (fI (fun _ _ => true) g' x y)) := by
  intro z σ H L Q x y vx vy R hx hy h
  obtain ⟨d, ed, hq⟩ := flat_of R h
  unfold fI at ed
  split at ed
  · rename_i i j
    cases ed
    exact ⟨i, j, vr_int hx, vr_int hy, hq _ (hg ..)⟩
  · cases ed
end
end DL
set_option Elab.async false
set_option linter.all false
set_option maxRecDepth 100000
namespace DL
open PySem L2
def fOr (f g : W → W → M W) : W → W → M W := fun x y z => match f x y z with
  | .bad => g x y z
  | r => r
section
variable {X : Cx} {B : Bs} {E : WX} {e a b : Expr} {pos : Pos} {ma mb : M W}
theorem OpS.or {r r' : R2} {f g : W → W → M W} (hf : OpS B E r f) (hg : OpS B E r' g) : OpS B E (fun x y H Q => r x y H Q ∨ r' x y H Q) (fOr f g) := by
  intro z σ H L Q x y vx vy R hx hy h
  unfold fOr at h
  split at h
  · exact .inr (hg z σ H L Q x y vx vy R hx hy h)
  · exact .inl (hf z σ H L Q x y vx vy R hx hy h)
theorem ImmL.append {K : Fr} {C : Cl} {L : List Addr} {Ee : Addr → Prop} {H : Hp} : ∀ {vs ws : List V} {ds es : List D}, ImmL K C L Ee H vs ds → ImmL K C L Ee H ws es → ImmL K C L Ee H (vs ++ ws) (ds ++ es)
  | [], ws, [], es, _, q => q
  | v :: vs, ws, d :: ds, es, h, q => by
    simp only [ImmL, List.cons_append] at h ⊢
    exact ⟨h.1, ImmL.append h.2 q⟩
  | [], _, _ :: _, _, h, _ => by simp only [ImmL] at h
  | _ :: _, _, [], _, h, _ => by simp only [ImmL] at h
theorem ImmL.length {K : Fr} {C : Cl} {L : List Addr} {Ee : Addr → Prop} {H : Hp} : ∀ {vs : List V} {ds : List D}, ImmL K C L Ee H vs ds → vs.length = ds.length
  | [], [], _ => rfl
  | v :: vs, d :: ds, h => by
    simp only [ImmL] at h
    simp [ImmL.length h.2]
  | [], _ :: _, h => by simp only [ImmL] at h
  | _ :: _, [], h => by simp only [ImmL] at h
theorem ImmL.get {K : Fr} {C : Cl} {L : List Addr} {Ee : Addr → Prop} {H : Hp} : ∀ {vs : List V} {ds : List D} {i : Nat} {d : D}, ImmL K C L Ee H vs ds → ds[i]? = some d → ∃ v, vs[i]? = some v ∧ Imm K C L Ee H v d
  | [], [], _, _, _, e => by simp at e
  | v :: vs, d :: ds, 0, d', h, e => by
    simp only [ImmL] at h
    simp only [List.getElem?_cons_zero, Option.some.injEq] at e
    subst e
    exact ⟨v, rfl, h.1⟩
  | v :: vs, d :: ds, i + 1, d', h, e => by
    simp only [ImmL] at h
    simp only [List.getElem?_cons_succ] at e
    obtain ⟨w, h1, h2⟩ := ImmL.get h.2 e
    exact ⟨w, by simpa using h1, h2⟩
  | [], _ :: _, _, _, h, _ => by simp only [ImmL] at h
  | _ :: _, [], _, _, h, _ => by simp only [ImmL] at h
theorem ImmL.take {K : Fr} {C : Cl} {L : List Addr} {Ee : Addr → Prop} {H : Hp} : ∀ {vs : List V} {ds : List D} (n : Nat), ImmL K C L Ee H vs ds → ImmL K C L Ee H (vs.take n) (ds.take n)
  | _, _, 0, _ => by simp [ImmL]
  | [], [], n + 1, _ => by simp [ImmL]
  | v :: vs, d :: ds, n + 1, h => by
    simp only [ImmL, List.take_succ_cons] at h ⊢
    exact ⟨h.1, ImmL.take n h.2⟩
  | [], _ :: _, _ + 1, h => by simp only [ImmL] at h
  | _ :: _, [], _ + 1, h => by simp only [ImmL] at h
theorem ImmL.drop {K : Fr} {C : Cl} {L : List Addr} {Ee : Addr → Prop} {H : Hp} : ∀ {vs : List V} {ds : List D} (n : Nat), ImmL K C L Ee H vs ds → ImmL K C L Ee H (vs.drop n) (ds.drop n)
  | _, _, 0, h => h
  | [], [], n + 1, _ => by simp [ImmL]
  | v :: vs, d :: ds, n + 1, h => by
    simp only [ImmL, List.drop_succ_cons] at h ⊢
    exact ImmL.drop n h.2
  | [], _ :: _, _ + 1, h => by simp only [ImmL] at h
  | _ :: _, [], _ + 1, h => by simp only [ImmL] at h
theorem ImmL.set {K : Fr} {C : Cl} {L : List Addr} {Ee : Addr → Prop} {H : Hp} {w : V} {x : D} (q : Imm K C L Ee H w x) : ∀ {vs : List V} {ds : List D} (n : Nat), ImmL K C L Ee H vs ds → ImmL K C L Ee H (vs.set n w) (ds.set n x)
  | [], [], n, _ => by simp [ImmL]
  | v :: vs, d :: ds, 0, h => by
    simp only [ImmL, List.set_cons_zero] at h ⊢
    exact ⟨q, h.2⟩
  | v :: vs, d :: ds, n + 1, h => by
    simp only [ImmL, List.set_cons_succ] at h ⊢
    exact ⟨h.1, ImmL.set q n h.2⟩
  | [], _ :: _, _, h => by simp only [ImmL] at h
  | _ :: _, [], _, h => by simp only [ImmL] at h
theorem ImmL.one {K : Fr} {C : Cl} {L : List Addr} {Ee : Addr → Prop} {H : Hp} {w : V} {x : D} (q : Imm K C L Ee H w x) : ImmL K C L Ee H [w] [x] := by simp only [ImmL, and_true]; exact q
/-- a new list is the answer -/
def newL (o : Option (List D)) : M W := fun z => match o with
  | some xs => .ok (.d (.lst xs)) z
  | none => .bad
theorem newL_of {z : Z} {σ : St} {H : Hp} {L : List Addr} {Q : VK} {o : Option (List D)} (R : Rel B z σ H L) (h : AftE B E (vV B σ) z σ H L Q (newL o z)) :
    ∃ xs, o = some xs ∧ ∀ vs p, ImmL B.K B.C L (Ex B z σ L) H vs xs → H p = none → Q (.ref p) (upd H p (.lst vs)) := by
  cases o with
  | some xs => exact ⟨xs, rfl, fun vs p q hp => h _ _ _ (R.upd_new hp) (G.new hp) (vrel_imm (Imm.new_lst hp (R.noEx hp) q))⟩
  | none => exact h.elim
def newT (o : Option (List D)) : M W := fun z => match o with
  | some xs => .ok (.d (.tup xs)) z
  | none => .bad
theorem newT_of {z : Z} {σ : St} {H : Hp} {L : List Addr} {Q : VK} {o : Option (List D)} (R : Rel B z σ H L) (h : AftE B E (vV B σ) z σ H L Q (newT o z)) :
    ∃ xs, o = some xs ∧ ∀ vs p, ImmL B.K B.C L (Ex B z σ L) H vs xs → H p = none → Q (.ref p) (upd H p (.tup vs)) := by
  cases o with
  | some xs => exact ⟨xs, rfl, fun vs p q hp => h _ _ _ (R.upd_new hp) (G.new hp) (vrel_imm (Imm.new_tup hp (R.noEx hp) q))⟩
  | none => exact h.elim
/-! ### + -/
def addI (x y : W) : M W := flat (fI (fun _ _ => true) (fun i j => .int (i + j)) x y)
def addS (x y : W) : M W := flat (match x, y with
  | .d (.str a), .d (.str b) => if a.length + b.length ≤ sizeLine then some (.str (a ++ b)) else none
  | _, _ => none)
def addT (x y : W) : M W := newT (match x, y with
  | .d (.tup (a :: as)), .d (.tup (b :: bs)) => if (a :: as).length + (b :: bs).length ≤ sizeLine then some ((a :: as) ++ (b :: bs)) else none
  | _, _ => none)
def addL (x y : W) : M W := fun z => newL (match z.cont x, z.cont y with
  | some (.lst a), some (.lst b) => if a.length + b.length ≤ sizeLine then some (a ++ b) else none
  | _, _ => none) z
def fAdd : W → W → M W := fOr addI (fOr addS (fOr addT addL))
/-- list + list, also of written ones -/
def rCatS (K : Fr) : R2 := fun x y H Q => ∃ l b xs zs, x = .ref l ∧ y = .ref b ∧ SqL K H l xs ∧ SqL K H b zs ∧ xs.length + zs.length ≤ sizeLine ∧ ∀ p, H p = none → Q (.ref p) (upd H p (.lst (xs ++ zs)))
theorem op_catS : OpR X (binaryOp .Add) (rCatS X.K) := by
  intro pins s σ H x y v u Q I rx ry h
  obtain ⟨l, b, xs, zs, rfl, rfl, hH, hB, hz, q⟩ := h
  cases rx
  cases ry
  obtain ⟨its, r, ⟨⟨cls, dd, data, sl⟩, n, e, hc, hdn, hd⟩, hl⟩ := I.list hH
  obtain ⟨its2, r2, ⟨⟨cls2, dd2, data2, sl2⟩, n2, e2, hc2, hdn2, hd2⟩, hl2⟩ := I.list hB
  simp only at hc hd hc2 hd2
  subst hc hd hc2 hd2
  have z1 := r.length
  have z2 := r2.length
  refine concat_meets ⟨_, e, rfl⟩ ⟨_, e2, rfl⟩ noFill_list_add seq_list_add PySem.F.slot_list_add PySem.F.entry_list_add (PySem.F.args_list_add_2 _ _)
    (PyProof.Rows.list_addW l b its.toArray its2.toArray n n2 dd dd2 sl sl2 (by simpa using (by omega : its.length + its2.length ≤ sizeLine))) ⟨e, e2, ?_⟩
  have ea : its.toArray ++ its2.toArray = (its ++ its2).toArray := by simp
  rw [ea]
  exact ⟨.ref _, _, I.lnew (t' := s.toks) (r.append r2) (by rw [List.length_append]; omega), rfl, q _ I.fresh⟩
theorem opS_addI : OpS B E (rI0 fun i j => .int (i + j)) addI := opS_I0 fun _ _ _ _ _ _ => vr_int'
theorem opS_addS : OpS B E (fun x y H Q => ∃ i j, x = .str i ∧ y = .str j ∧ i.length + j.length ≤ sizeLine ∧ Q (.str (i ++ j)) H) addS := by
  intro z σ H L Q x y vx vy R hx hy h
  obtain ⟨d, ed, hq⟩ := flat_of R h
  split at ed
  · rename_i a b
    split at ed
    · rename_i hc
      cases ed
      exact ⟨a, b, vr_str hx, vr_str hy, hc, hq _ vr_str'⟩
    · cases ed
  · cases ed
theorem opS_addT : OpS B E (rCatT B.K) addT := by
  intro z σ H L Q x y vx vy R hx hy h
  obtain ⟨d, ed, hq⟩ := newT_of R h
  split at ed
  · rename_i a as b bs
    split at ed
    · rename_i hc
      cases ed
      simp only [VRel, Imm] at hx hy
      obtain ⟨p, vs, rfl, r1, q1⟩ := hx
      obtain ⟨p2, vs2, rfl, r2, q2⟩ := hy
      have l1 := q1.length
      have l2 := q2.length
      refine ⟨p, p2, vs, vs2, rfl, rfl, r1.sq, r2.sq, (fun z => by rw [z] at l1; cases l1), by omega, (fun z => by rw [z] at l2; cases l2), fun _ p hp => hq _ p (q1.append q2) hp⟩
    · cases ed
  · cases ed
theorem opS_addL : OpS B E (rCatS B.K) addL := by
  intro z σ H L Q x y vx vy R hx hy h
  obtain ⟨d, ed, hq⟩ := newL_of R h
  split at ed
  · rename_i as bs e1 e2
    split at ed
    · rename_i hc
      cases ed
      obtain ⟨p, vs, rfl, r1, q1⟩ := R.readL hx e1
      obtain ⟨p2, vs2, rfl, r2, q2⟩ := R.readL hy e2
      have l1 := q1.length
      have l2 := q2.length
      exact ⟨p, p2, vs, vs2, rfl, rfl, r1, r2, by omega, fun p hp => hq _ p (q1.append q2) hp⟩
    · cases ed
  · cases ed
theorem d_add (hK : B.K = X.K) (ha : PED X B E a ma) (hb : PED X B E b mb) : PED X B E (.BinOp a .Add b pos) (m2 ma mb fAdd) := by
  have o := (op_add (X := X)).or ((op_add_str (X := X)).or ((op_catT (X := X)).or (op_catS (X := X))))
  rw [← hK] at o
  exact d_op o (opS_addI.or (opS_addS.or (opS_addT.or opS_addL))) ha hb
/-! ### - * // % ** -/
def fSub (x y : W) : M W := flat (fI (fun _ _ => true) (fun i j => .int (i - j)) x y)
theorem d_sub (ha : PED X B E a ma) (hb : PED X B E b mb) : PED X B E (.BinOp a .Sub b pos) (m2 ma mb fSub) := d_op op_sub (opS_I0 fun _ _ _ _ _ _ => vr_int') ha hb
/-- a product whose size is known -/
def okMul (i j : Int) : Bool := decide (i.natAbs < 2 ^ 64) || decide (j.natAbs < 2 ^ 64) || decide (i.natAbs.log2 + j.natAbs.log2 < 1000000)
theorem okMul_l {i j : Int} (h : i.natAbs < 2 ^ 64) : okMul i j = true := by simp [okMul, h]
theorem okMul_r {i j : Int} (h : j.natAbs < 2 ^ 64) : okMul i j = true := by simp [okMul, h]
def mulI (x y : W) : M W := flat (fI okMul (fun i j => .int (i * j)) x y)
theorem op_mulA : OpR X (binaryOp .Mult) (rI (fun i j => okMul i j = true) fun i j => .int (i * j)) := by
  intro pins s σ H x y v u Q I rx ry h
  obtain ⟨i, j, rfl, rfl, c, q⟩ := h
  by_cases h1 : i.natAbs.log2 + j.natAbs.log2 < 1000000
  · exact op_mulW pins s σ H _ _ v u Q I rx ry ⟨i, j, rfl, rfl, h1, q⟩
  · refine op_mul pins s σ H _ _ v u Q I rx ry ⟨i, j, rfl, rfl, ?_, q⟩
    simp only [okMul, Bool.or_eq_true, decide_eq_true_eq] at c
    rcases c with (c | c) | c
    · exact .inl (by omega)
    · exact .inr (by omega)
    · exact absurd c h1
/-- a list or a text times a number -/
def mulL (x y : W) : M W := fun z => newL (match z.cont x, y with
  | some (.lst a), .d (.int k) => if k < 2 ^ 63 ∧ -(2 ^ 63) ≤ k ∧ a.length * k.toNat ≤ sizeLine then some (List.replicate k.toNat a).flatten else none
  | _, _ => none) z
def okDiv (i j : Int) : Bool := decide (j ≠ 0) && decide (j.natAbs.log2 < 9000)
def fDiv (x y : W) : M W := flat (fI okDiv (fun i j => .int (i.fdiv j)) x y)
theorem op_fdivA : OpR X (binaryOp .FloorDiv) (rI (fun i j => okDiv i j = true) fun i j => .int (i.fdiv j)) := by
  intro pins s σ H x y v u Q I rx ry h
  obtain ⟨i, j, rfl, rfl, c, q⟩ := h
  obtain ⟨t, rfl⟩ := rx
  obtain ⟨t', rfl⟩ := ry
  simp only [okDiv, Bool.and_eq_true, decide_eq_true_eq] at c
  exact PyProof.Rows.floordiv_int c.1 ⟨.int _, H, I.tok _, ⟨_, rfl⟩, q⟩ (.inl (PyProof.noPylong_of_log2 c.2))
theorem d_fdiv (ha : PED X B E a ma) (hb : PED X B E b mb) : PED X B E (.BinOp a .FloorDiv b pos) (m2 ma mb fDiv) := d_op op_fdivA (opS_I (fun _ _ h => h) fun _ _ _ _ _ _ => vr_int') ha hb
def fMod (x y : W) : M W := flat (fI (fun _ j => decide (j ≠ 0)) (fun i j => .int (i.fmod j)) x y)
theorem d_mod (ha : PED X B E a ma) (hb : PED X B E b mb) : PED X B E (.BinOp a .Mod b pos) (m2 ma mb fMod) := d_op op_modN (opS_I (fun _ _ h => of_decide_eq_true h) fun _ _ _ _ _ _ => vr_int') ha hb
def okPow (i j : Int) : Bool := decide (0 ≤ j ∧ j ≤ 1000000 ∧ i.natAbs < 2 ^ 64)
theorem okPow_c {i j : Int} (h : okPow i j = true) : CPow i j := of_decide_eq_true (p := 0 ≤ j ∧ j ≤ 1000000 ∧ i.natAbs < 2 ^ 64) h
def fPow (x y : W) : M W := flat (fI okPow (fun i j => .int (i ^ j.toNat)) x y)
theorem d_pow (ha : PED X B E a ma) (hb : PED X B E b mb) : PED X B E (.BinOp a .Pow b pos) (m2 ma mb fPow) := d_op op_pow (opS_I (k := okPow) (fun _ _ h => okPow_c h) fun _ _ _ _ _ _ => vr_int') ha hb
def fShl (x y : W) : M W := flat (fI okPow (fun i j => .int (i * 2 ^ j.toNat)) x y)
theorem d_shl (ha : PED X B E a ma) (hb : PED X B E b mb) : PED X B E (.BinOp a .LShift b pos) (m2 ma mb fShl) := d_op op_shl (opS_I (k := okPow) (fun _ _ h => okPow_c h) fun _ _ _ _ _ _ => vr_int') ha hb
def fShr (x y : W) : M W := flat (fI (fun _ j => decide (0 ≤ j)) (fun i j => .int (i / 2 ^ j.toNat)) x y)
theorem d_shr (ha : PED X B E a ma) (hb : PED X B E b mb) : PED X B E (.BinOp a .RShift b pos) (m2 ma mb fShr) := d_op op_shr (opS_I (fun _ _ h => of_decide_eq_true h) fun _ _ _ _ _ _ => vr_int') ha hb
def fBand (x y : W) : M W := flat (fI (fun _ _ => true) (fun i j => .int (Builtin.bitAnd i j)) x y)
theorem d_band (ha : PED X B E a ma) (hb : PED X B E b mb) : PED X B E (.BinOp a .BitAnd b pos) (m2 ma mb fBand) := d_op op_and (opS_I0 fun _ _ _ _ _ _ => vr_int') ha hb
def fBor (x y : W) : M W := flat (fI (fun _ _ => true) (fun i j => .int (Builtin.bitOr i j)) x y)
theorem d_bor (ha : PED X B E a ma) (hb : PED X B E b mb) : PED X B E (.BinOp a .BitOr b pos) (m2 ma mb fBor) := d_op op_or (opS_I0 fun _ _ _ _ _ _ => vr_int') ha hb
/-! ### comparisons of ints -/
def cI (g : Int → Int → Bool) (x y : W) : M W := flat (fI (fun _ _ => true) (fun i j => .bl (g i j)) x y)
def fLt : W → W → M W := cI fun i j => decide (i < j)
def fLe : W → W → M W := cI fun i j => decide (i ≤ j)
def fGt : W → W → M W := cI fun i j => decide (j < i)
def fGe : W → W → M W := cI fun i j => decide (j ≤ i)
theorem opS_cI {g : Int → Int → Bool} : OpS B E (rI0 fun i j => .bl (g i j)) (cI g) := opS_I0 fun _ _ _ _ _ _ => vr_bl'
theorem d_lt (ha : PED X B E a ma) (hb : PED X B E b mb) : PED X B E (.Compare a [.Lt] [b] pos) (m2 ma mb fLt) := d_cmp op_lt opS_cI ha hb (nomark _)
theorem d_le (ha : PED X B E a ma) (hb : PED X B E b mb) : PED X B E (.Compare a [.LtE] [b] pos) (m2 ma mb fLe) := d_cmp op_le opS_cI ha hb (nomark _)
theorem d_gt (ha : PED X B E a ma) (hb : PED X B E b mb) : PED X B E (.Compare a [.Gt] [b] pos) (m2 ma mb fGt) := d_cmp op_gt opS_cI ha hb (nomark _)
theorem d_ge (ha : PED X B E a ma) (hb : PED X B E b mb) : PED X B E (.Compare a [.GtE] [b] pos) (m2 ma mb fGe) := d_cmp op_ge opS_cI ha hb (nomark _)
theorem dt_lt (ha : PED X B E a ma) (hb : PED X B E b mb) : PTD X B E (.Compare a [.Lt] [b] pos) (asB (m2 ma mb fLt)) := d_tcmp op_lt opS_cI ha hb (nomark _)
theorem dt_le (ha : PED X B E a ma) (hb : PED X B E b mb) : PTD X B E (.Compare a [.LtE] [b] pos) (asB (m2 ma mb fLe)) := d_tcmp op_le opS_cI ha hb (nomark _)
theorem dt_gt (ha : PED X B E a ma) (hb : PED X B E b mb) : PTD X B E (.Compare a [.Gt] [b] pos) (asB (m2 ma mb fGt)) := d_tcmp op_gt opS_cI ha hb (nomark _)
theorem dt_ge (ha : PED X B E a ma) (hb : PED X B E b mb) : PTD X B E (.Compare a [.GtE] [b] pos) (asB (m2 ma mb fGe)) := d_tcmp op_ge opS_cI ha hb (nomark _)
end
end DL
set_option Elab.async false
set_option linter.all false
set_option maxRecDepth 100000
namespace DL
open PySem L2
mutual
/-- the data that == looks at -/
def toPy : D → Option PyData
  | .non => some .none
  | .bl b => some (.bool b)
  | .int i => some (.int i)
  | .str x => some (.str x)
  | .lst xs => (toPys xs).map .list
  | .tup xs => (toPys xs).map .tuple
  | _ => none
def toPys : List D → Option (List PyData)
  | [] => some []
  | d :: ds => match toPy d, toPys ds with
    | some a, some as => some (a :: as)
    | _, _ => none
end
mutual
theorem dp_of {K : Fr} {C : Cl} {L : List Addr} {Ee : Addr → Prop} {H : Hp} : ∀ (v : V) (d : D) (p : PyData), Imm K C L Ee H v d → toPy d = some p → Dp K H v p
  | v, .non, p, h, e => by
    simp only [toPy, Option.some.injEq] at e
    simp only [Imm] at h
    subst e; subst h; exact .non
  | v, .bl b, p, h, e => by
    simp only [toPy, Option.some.injEq] at e
    simp only [Imm] at h
    subst e; subst h; exact .bl b
  | v, .int i, p, h, e => by
    simp only [toPy, Option.some.injEq] at e
    simp only [Imm] at h
    subst e; subst h; exact .int i
  | v, .str x, p, h, e => by
    simp only [toPy, Option.some.injEq] at e
    simp only [Imm] at h
    subst e; subst h; exact .str x
  | v, .lst xs, p, h, e => by
    simp only [toPy, Option.map_eq_some_iff] at e
    simp only [Imm] at h
    obtain ⟨ps, e, rfl⟩ := e
    obtain ⟨a, vs, rfl, r, q⟩ := h
    exact .lst r.sq (dps_of vs xs ps q e)
  | v, .tup xs, p, h, e => by
    simp only [toPy, Option.map_eq_some_iff] at e
    simp only [Imm] at h
    obtain ⟨ps, e, rfl⟩ := e
    obtain ⟨a, vs, rfl, r, q⟩ := h
    exact .tup r.sq (dps_of vs xs ps q e)
  | _, .obj _, _, _, e => by simp [toPy] at e
  | _, .dK _, _, _, e => by simp [toPy] at e
  | _, .dT _, _, _, e => by simp [toPy] at e
  | _, .ins _ _, _, _, e => by simp [toPy] at e
  | _, .con _, _, _, e => by simp [toPy] at e
theorem dps_of {K : Fr} {C : Cl} {L : List Addr} {Ee : Addr → Prop} {H : Hp} : ∀ (vs : List V) (ds : List D) (ps : List PyData), ImmL K C L Ee H vs ds → toPys ds = some ps → DpAll K H vs ps
  | [], [], ps, _, e => by
    simp only [toPys, Option.some.injEq] at e
    subst e; exact .nil
  | v :: vs, d :: ds, ps, h, e => by
    simp only [ImmL] at h
    simp only [toPys] at e
    split at e
    · rename_i a as e1 e2
      cases e
      exact .cons (dp_of v d a h.1 e1) (dps_of vs ds as h.2 e2)
    · cases e
  | [], _ :: _, _, h, _ => by simp only [ImmL] at h
  | _ :: _, [], _, h, _ => by simp only [ImmL] at h
end
/-- the data of a value, its container read -/
def Z.py (z : Z) (d : W) : Option PyData := match d with
  | .own i => (z.cont (.own i)).bind fun c => toPy c.data
  | .d (.obj n) => (z.cont (.d (.obj n))).bind fun c => toPy c.data
  | .d d => toPy d
section
variable {X : Cx} {B : Bs} {E : WX} {e a b : Expr} {pos : Pos} {ma mb : M W} {z : Z} {σ : St} {H : Hp} {L : List Addr}
theorem Rel.dp (R : Rel B z σ H L) {v : V} {d : W} {p : PyData} (h : VRel B z σ H L v d) (e : z.py d = some p) : Dp B.K H v p := by
  have key : ∀ c : Cell, z.cont d = some c → toPy c.data = some p → Dp B.K H v p := fun c ec ep => by
    obtain ⟨a, rfl, r⟩ := R.read h ec
    cases c with
    | lst xs =>
      simp only [Cell.data, toPy, Option.map_eq_some_iff] at ep
      obtain ⟨ps, ep, rfl⟩ := ep
      obtain ⟨vs, r, q⟩ := r
      exact .lst r (dps_of _ _ _ q ep)
    | dK _ => simp [Cell.data, toPy] at ep
    | dT _ => simp [Cell.data, toPy] at ep
    | ins _ _ => simp [Cell.data, toPy] at ep
  cases d with
  | own i =>
    simp only [Z.py, Option.bind_eq_some_iff] at e
    obtain ⟨c, e1, e2⟩ := e
    exact key c e1 e2
  | d d =>
    cases d with
    | obj n =>
      simp only [Z.py, Option.bind_eq_some_iff] at e
      obtain ⟨c, e1, e2⟩ := e
      exact key c e1 e2
    | _ => exact dp_of _ _ _ h e
/-! ### == != -/
def scalD : W → W → Bool
  | .d .non, .d .non => true | .d .non, .d (.int _) => true | .d (.int _), .d .non => true | .d .non, .d (.bl _) => true | .d (.bl _), .d .non => true | .d .non, .d (.str _) => true | .d (.str _), .d .non => true
  | .d (.int _), .d (.int _) => true | .d (.bl _), .d (.bl _) => true | .d (.str _), .d (.str _) => true
  | .d (.int _), .d (.str _) => true | .d (.str _), .d (.int _) => true | .d (.bl _), .d (.str _) => true | .d (.str _), .d (.bl _) => true
  | _, _ => false
/-- == of two scalars that scalD tells -/
def eqSc : W → W → Bool
  | .d .non, .d .non => true
  | .d (.int i), .d (.int j) => i == j
  | .d (.bl i), .d (.bl j) => i == j
  | .d (.str i), .d (.str j) => i == j
  | _, _ => false
def eqS (neg : Bool) (x y : W) : M W := flat (if scalD x y = true then some (.bl (eqSc x y ^^ neg)) else none)
def eqP (neg : Bool) (x y : W) : M W := fun z => flat (match z.py x, z.py y with
  | some a, some b => if SeqAt.shaped a = true ∧ SeqAt.shaped b = true then some (.bl (PyData.eqv a b ^^ neg)) else none
  | _, _ => none) z
def fEq : W → W → M W := fOr (eqS false) (eqP false)
def fNe : W → W → M W := fOr (eqS true) (eqP true)
theorem scal_of {x y : W} {vx vy : V} (hx : VRel B z σ H L vx x) (hy : VRel B z σ H L vy y) (h : scalD x y = true) : scal vx vy = true ∧ decide (vx = vy) = eqSc x y := by
  unfold scalD at h
  split at h
  case h_15 => cases h
  all_goals simp only [VRel, Imm] at hx hy
  all_goals subst hx
  all_goals subst hy
  all_goals first
    | exact ⟨rfl, dec_int⟩
    | exact ⟨rfl, dec_bl⟩
    | exact ⟨rfl, dec_str⟩
    | exact ⟨rfl, by simp [eqSc]⟩
theorem opS_eqS : OpS B E rEq (eqS false) := by
  intro z σ H L Q x y vx vy R hx hy h
  obtain ⟨d, ed, hq⟩ := flat_of R h
  split at ed
  · rename_i hs
    cases ed
    obtain ⟨h1, h2⟩ := scal_of hx hy hs
    refine ⟨h1, ?_⟩
    rw [h2]
    exact hq _ (by rw [Bool.xor_false]; exact vr_bl')
  · cases ed
theorem opS_neS : OpS B E rNe (eqS true) := by
  intro z σ H L Q x y vx vy R hx hy h
  obtain ⟨d, ed, hq⟩ := flat_of R h
  split at ed
  · rename_i hs
    cases ed
    obtain ⟨h1, h2⟩ := scal_of hx hy hs
    refine ⟨h1, ?_⟩
    rw [h2]
    exact hq _ (by rw [Bool.xor_true]; exact vr_bl')
  · cases ed
theorem opS_eqP : OpS B E (rEqD B.K) (eqP false) := by
  intro z σ H L Q x y vx vy R hx hy h
  obtain ⟨d, ed, hq⟩ := flat_of R h
  split at ed
  · rename_i a b e1 e2
    split at ed
    · rename_i hs
      cases ed
      exact ⟨a, b, R.dp hx e1, R.dp hy e2, hs.1, hs.2, hq _ (by rw [Bool.xor_false]; exact vr_bl')⟩
    · cases ed
  · cases ed
theorem opS_neP : OpS B E (rNeD B.K) (eqP true) := by
  intro z σ H L Q x y vx vy R hx hy h
  obtain ⟨d, ed, hq⟩ := flat_of R h
  split at ed
  · rename_i a b e1 e2
    split at ed
    · rename_i hs
      cases ed
      exact ⟨a, b, R.dp hx e1, R.dp hy e2, hs.1, hs.2, hq _ (by rw [Bool.xor_true]; exact vr_bl')⟩
    · cases ed
  · cases ed
/-- what every rule of ours wants of its place -/
structure Pl (X : Cx) (B : Bs) (E : WX) : Prop where
  K : B.K = X.K
  hu : X.A.units + 66 < cLine
  tk : L2N.Takes X E
  C : ∀ c A, B.C c = some A → X.mg c = some (.ref A)
  xs : ∀ a A dd, B.xs = some (a, A, dd) → ∃ oe, (a, oe) ∈ X.pn ∧ L2N.Zn (.ref A) dd oe ∧ ∃ vs, oe.data = .fields vs
theorem Pl.ps {X : Cx} {B : Bs} {E : WX} (P : Pl X B E) (σ : St) : PassesAt (L2N.CX X.prog X.w) X σ (WE E σ) := L2N.passAt P.tk σ
/-- nothing is let out -/
abbrev W0 : WX := fun _ _ _ _ => False
theorem takesN {X : Cx} : L2N.Takes X W0 := fun _ _ x => by
  obtain ⟨_, _, _, _, _, _, _, _, _, _, _, _, _, _, _, _, z⟩ := x
  exact z.elim
/-- .. where nothing is being handled -/
structure Plc (X : Cx) (B : Bs) (E : WX) : Prop extends Pl X B E where
  calm : X.calm = true
instance {X : Cx} {B : Bs} {E : WX} : Coe (Plc X B E) (Pl X B E) := ⟨Plc.toPl⟩
theorem d_eq (P : Pl X B E) (ha : PED X B E a ma) (hb : PED X B E b mb) : PED X B E (.Compare a [.Eq] [b] pos) (m2 ma mb fEq) := by
  have o := (op_eq (X := X)).or (op_eqD (X := X) (Nat.lt_of_le_of_lt (by omega) P.hu))
  rw [← P.K] at o
  exact d_cmp o (opS_eqS.or opS_eqP) ha hb (nomark _)
theorem d_ne (P : Pl X B E) (ha : PED X B E a ma) (hb : PED X B E b mb) : PED X B E (.Compare a [.NotEq] [b] pos) (m2 ma mb fNe) := by
  have o := (op_ne (X := X)).or (op_neD (X := X) (Nat.lt_of_le_of_lt (by omega) P.hu))
  rw [← P.K] at o
  exact d_cmp o (opS_neS.or opS_neP) ha hb (nomark _)
theorem dt_eq (P : Pl X B E) (ha : PED X B E a ma) (hb : PED X B E b mb) : PTD X B E (.Compare a [.Eq] [b] pos) (asB (m2 ma mb fEq)) := by
  have o := (op_eq (X := X)).or (op_eqD (X := X) (Nat.lt_of_le_of_lt (by omega) P.hu))
  rw [← P.K] at o
  exact d_tcmp o (opS_eqS.or opS_eqP) ha hb (nomark _)
theorem dt_ne (P : Pl X B E) (ha : PED X B E a ma) (hb : PED X B E b mb) : PTD X B E (.Compare a [.NotEq] [b] pos) (asB (m2 ma mb fNe)) := by
  have o := (op_ne (X := X)).or (op_neD (X := X) (Nat.lt_of_le_of_lt (by omega) P.hu))
  rw [← P.K] at o
  exact d_tcmp o (opS_neS.or opS_neP) ha hb (nomark _)
/-! ### is None -/
def isNonD : D → Bool
  | .non => true
  | _ => false
theorem non_iff {x : D} {v : V} (R : Rel B z σ H L) (h : VRel B z σ H L v (.d x)) : decide (v = .non) = true ∧ x = .non ∨ decide (v = .non) = false ∧ x ≠ .non ∨ (∃ u, x = .con u) := by
  cases x <;> simp only [VRel, Imm] at h <;> simp_all
  all_goals (try obtain ⟨a, h⟩ := h)
  all_goals simp_all
def fIs (neg : Bool) (x y : W) : M W := flat (match y with
  | .d .non => match x with
    | .d (.con _) => none
    | .own _ => none
    | .d x => some (.bl (isNonD x ^^ neg))
  | _ => none)
theorem opS_is : OpS B E (fun x y H Q => y = .non ∧ Q (.bl (decide (x = .non))) H) (fIs false) := by
  intro z σ H L Q x y vx vy R hx hy h
  obtain ⟨d, ed, hq⟩ := flat_of R h
  split at ed
  · refine ⟨vr_non hy, ?_⟩
    cases x with
    | own i => cases ed
    | d x =>
      rcases non_iff R hx with ⟨h1, rfl⟩ | ⟨h1, h2⟩ | ⟨u, rfl⟩
      · rw [h1]; cases ed; exact hq _ vr_bl'
      · rw [h1]
        cases x <;> first | (cases ed; exact hq _ vr_bl') | exact absurd rfl h2 | cases ed
      · cases ed
  · cases ed
theorem opS_isnot : OpS B E (fun x y H Q => y = .non ∧ Q (.bl (!decide (x = .non))) H) (fIs true) := by
  intro z σ H L Q x y vx vy R hx hy h
  obtain ⟨d, ed, hq⟩ := flat_of R h
  split at ed
  · refine ⟨vr_non hy, ?_⟩
    cases x with
    | own i => cases ed
    | d x =>
      rcases non_iff R hx with ⟨h1, rfl⟩ | ⟨h1, h2⟩ | ⟨u, rfl⟩
      · rw [h1]; cases ed; exact hq _ vr_bl'
      · rw [h1]
        cases x <;> first | (cases ed; exact hq _ vr_bl') | exact absurd rfl h2 | cases ed
      · cases ed
  · cases ed
theorem d_is (ha : PED X B E a ma) (hb : PED X B E b mb) : PED X B E (.Compare a [.Is] [b] pos) (m2 ma mb (fIs false)) := d_cmp op_isN opS_is ha hb (nomark _)
theorem d_isnot (ha : PED X B E a ma) (hb : PED X B E b mb) : PED X B E (.Compare a [.IsNot] [b] pos) (m2 ma mb (fIs true)) := d_cmp op_notN opS_isnot ha hb (nomark _)
theorem dt_is (ha : PED X B E a ma) (hb : PED X B E b mb) : PTD X B E (.Compare a [.Is] [b] pos) (asB (m2 ma mb (fIs false))) := d_tcmp op_isN opS_is ha hb (nomark _)
theorem dt_isnot (ha : PED X B E a ma) (hb : PED X B E b mb) : PTD X B E (.Compare a [.IsNot] [b] pos) (asB (m2 ma mb (fIs true))) := d_tcmp op_notN opS_isnot ha hb (nomark _)
/-! ### truth -/
/-- a value's truth -/
def Z.tru (z : Z) (d : W) : Option Bool := match d with
  | .d .non => some false
  | .d (.bl b) => some b
  | .d (.int i) => some (i != 0)
  | .d (.str y) => if y.length ≤ sizeLine then some ((y.length : Int) != 0) else none
  | .d (.tup xs) => some (!xs.isEmpty)
  | d => match z.cont d with
    | some (.lst xs) => some (!xs.isEmpty)
    | _ => none
def mTru (d : W) : M Bool := fun z => match z.tru d with
  | some b => .ok b z
  | none => .bad
theorem isEmpty_imm {K : Fr} {C : Cl} {L : List Addr} {Ee : Addr → Prop} {H : Hp} : ∀ {vs : List V} {ds : List D}, ImmL K C L Ee H vs ds → vs.isEmpty = ds.isEmpty
  | [], [], _ => rfl
  | _ :: _, _ :: _, _ => rfl
  | [], _ :: _, h => by simp only [ImmL] at h
  | _ :: _, [], h => by simp only [ImmL] at h
theorem Rel.truth (R : Rel B z σ H L) {v : V} {d : W} {k : Bool} (h : VRel B z σ H L v d) (e : z.tru d = some k) : TruV B.K v H k := by
  have key : ∀ c : Cell, z.cont d = some c → (match c with | .lst xs => some (!xs.isEmpty) | _ => none) = some k → TruV B.K v H k := fun c ec ek => by
    obtain ⟨a, rfl, r⟩ := R.read h ec
    cases c with
    | lst xs =>
      obtain ⟨vs, r, q⟩ := r
      cases ek
      exact .inl ⟨vs, r, by rw [isEmpty_imm q]⟩
    | _ => cases ek
  cases d with
  | own i =>
    simp only [Z.tru] at e
    split at e
    · rename_i c ec
      exact key _ ec e
    · cases e
  | d d =>
    cases d with
    | non => cases e; rw [vr_non h]; rfl
    | bl b => cases e; rw [vr_bl h]; rfl
    | int i => cases e; rw [vr_int h]; rfl
    | str y =>
      simp only [Z.tru] at e
      split at e
      · rename_i hy
        cases e
        rw [vr_str h]
        exact ⟨hy, rfl⟩
      · cases e
    | tup xs =>
      cases e
      simp only [VRel, Imm] at h
      obtain ⟨a, vs, rfl, r, q⟩ := h
      exact .inr (.inl ⟨vs, r.sq, by rw [isEmpty_imm q]⟩)
    | lst xs => exact key _ rfl (by simpa [Z.tru, Z.cont] using e)
    | obj n =>
      simp only [Z.tru] at e
      split at e
      · rename_i c ec
        exact key _ ec e
      · cases e
    | _ => simp [Z.tru, Z.cont] at e
theorem dt_truth (P : Pl X B E) (ha : PED X B E a ma) (he : ∀ whole, isTrue a X.env whole = (do let v ← whole; standAt a.pos; holding [v] (truthy v)) := by intro _; rfl) : PTD X B E a (mBind ma mTru) := by
  obtain ⟨ta, pa, sa⟩ := ha
  refine ⟨_, pt_truth pa he, fun z σ H L Q R h => ?_⟩
  refine sa z σ H L _ R (AftE.bind h fun d z1 v H1 L1 R1 g1 h1 k1 => ?_)
  unfold mTru at k1
  split at k1
  · rename_i b eb
    exact ⟨b, by rw [← P.K]; exact R1.truth h1 eb, AftE.here R1 k1 rfl⟩
  · exact k1.elim
/-! ### and, or, not as tests; if-expressions -/
def tyAnd (ma mb : M Bool) : M Bool := fun z => (ma z).bind fun c z1 => if c then mb z1 else .ok false z1
def tyOr (ma mb : M Bool) : M Bool := fun z => (ma z).bind fun c z1 => if c then .ok true z1 else mb z1
def tyNot (ma : M Bool) : M Bool := fun z => (ma z).bind fun c z1 => .ok (!c) z1
structure PWD (X : Cx) (B : Bs) (E : WX) (e : Expr) (m : M Bool) : Prop where
  ex : ∃ t, PW X e t ∧ ∀ z σ H L Q, Rel B z σ H L → AftE B E vB z σ H L Q (m z) → t σ H Q
variable {ta tb : M Bool} {rest : List Expr}
theorem PWD.pt (h : PWD X B E e ta) : PTD X B E e ta := let ⟨t, p, s⟩ := h; ⟨t, p.pt, s⟩
theorem dw_and1 (ha : PTD X B E a ta) : PWD X B E (.BoolOp .And [a] pos) ta := let ⟨t, p, s⟩ := ha; ⟨t, pw_and1 p, s⟩
theorem dw_or1 (ha : PTD X B E a ta) : PWD X B E (.BoolOp .Or [a] pos) ta := let ⟨t, p, s⟩ := ha; ⟨t, pw_or1 p, s⟩
theorem dw_and (ha : PTD X B E a ta) (hb : PWD X B E (.BoolOp .And (b :: rest) pos) tb) : PWD X B E (.BoolOp .And (a :: b :: rest) pos) (tyAnd ta tb) := by
  obtain ⟨t1, p1, s1⟩ := ha
  obtain ⟨t2, p2, s2⟩ := hb
  refine ⟨_, pw_and p1 p2, fun z σ H L Q R h => ?_⟩
  refine s1 z σ H L _ R (AftE.bind h fun c z1 v H1 L1 R1 g1 h1 k1 => ?_)
  cases h1
  cases c with
  | true => rw [if_pos rfl]; exact s2 z1 σ H1 L1 Q R1 k1
  | false => rw [if_neg (by decide)]; exact AftE.here R1 k1 rfl
theorem dw_or (ha : PTD X B E a ta) (hb : PWD X B E (.BoolOp .Or (b :: rest) pos) tb) : PWD X B E (.BoolOp .Or (a :: b :: rest) pos) (tyOr ta tb) := by
  obtain ⟨t1, p1, s1⟩ := ha
  obtain ⟨t2, p2, s2⟩ := hb
  refine ⟨_, pw_or p1 p2, fun z σ H L Q R h => ?_⟩
  refine s1 z σ H L _ R (AftE.bind h fun c z1 v H1 L1 R1 g1 h1 k1 => ?_)
  cases h1
  cases c with
  | true => rw [if_pos rfl]; exact AftE.here R1 k1 rfl
  | false => rw [if_neg (by decide)]; exact s2 z1 σ H1 L1 Q R1 k1
theorem dt_not (ha : PTD X B E a ta) : PTD X B E (.UnaryOp .Not a pos) (tyNot ta) := by
  obtain ⟨t1, p1, s1⟩ := ha
  refine ⟨_, pt_not p1, fun z σ H L Q R h => ?_⟩
  refine s1 z σ H L _ R (AftE.bind h fun c z1 v H1 L1 R1 g1 h1 k1 => ?_)
  cases h1
  exact AftE.here R1 k1 rfl
def mIf (c : M Bool) (ma mb : M W) : M W := fun z => (c z).bind fun k z1 => if k then ma z1 else mb z1
theorem d_ifExp {c : Expr} (hc : PTD X B E c ta) (ha : PED X B E a ma) (hb : PED X B E b mb) : PED X B E (.IfExp c a b pos) (mIf ta ma mb) := by
  obtain ⟨t1, p1, s1⟩ := hc
  obtain ⟨t2, p2, s2⟩ := ha
  obtain ⟨t3, p3, s3⟩ := hb
  refine ⟨_, pe_ifExp p1 p2 p3, fun z σ H L Q R h => ?_⟩
  refine s1 z σ H L _ R (AftE.bind h fun c z1 v H1 L1 R1 g1 h1 k1 => ?_)
  cases h1
  cases c with
  | true => rw [if_pos rfl]; exact s2 z1 σ H1 L1 Q R1 k1
  | false => rw [if_neg (by decide)]; exact s3 z1 σ H1 L1 Q R1 k1
/-! ### and, or, not as values -/
def mAnd (ma mb : M W) : M W := fun z => (ma z).bind fun x z1 => (mTru x z1).bind fun k z2 => if k then mb z2 else .ok x z2
def mOr (ma mb : M W) : M W := fun z => (ma z).bind fun x z1 => (mTru x z1).bind fun k z2 => if k then .ok x z2 else mb z2
def mNot (ma : M W) : M W := fun z => (ma z).bind fun x z1 => (mTru x z1).bind fun k z2 => .ok (.d (.bl (!k))) z2
theorem mTru_of {vr : Z → Hp → List Addr → V → W → Prop} {Q : V → Hp → Prop} {x : W} {v : V} {f : Bool → M W} (R : Rel B z σ H L) (hx : VRel B z σ H L v x) (h : AftE B E vr z σ H L Q ((mTru x z).bind f)) :
    ∃ k, TruV B.K v H k ∧ AftE B E vr z σ H L Q (f k z) := by
  unfold mTru at h
  generalize e : z.tru x = o at h
  match o, h with
  | some b, h => exact ⟨b, R.truth hx e, h⟩
  | none, h => exact h.elim
theorem d_one {op} (h : PED X B E a ma) : PED X B E (.BoolOp op [a] pos) ma := let ⟨t, p, s⟩ := h; ⟨t, pe_one p, s⟩
theorem d_and (P : Pl X B E) (ha : PED X B E a ma) (hb : PED X B E (.BoolOp .And (b :: rest) pos) mb) : PED X B E (.BoolOp .And (a :: b :: rest) pos) (mAnd ma mb) := by
  obtain ⟨t1, p1, s1⟩ := ha
  obtain ⟨t2, p2, s2⟩ := hb
  refine ⟨_, pe_andT p1 p2, fun z σ H L Q R h => ?_⟩
  refine s1 z σ H L _ R (AftE.bind h fun c z1 v H1 L1 R1 g1 h1 k1 => ?_)
  obtain ⟨k, q, k2⟩ := mTru_of R1 h1 k1
  refine ⟨k, by rw [← P.K]; exact q, ?_⟩
  cases k with
  | true => rw [if_pos rfl]; exact s2 z1 σ H1 L1 Q R1 k2
  | false => rw [if_neg (by decide)]; exact AftE.here R1 k2 h1
theorem d_or (P : Pl X B E) (ha : PED X B E a ma) (hb : PED X B E (.BoolOp .Or (b :: rest) pos) mb) : PED X B E (.BoolOp .Or (a :: b :: rest) pos) (mOr ma mb) := by
  obtain ⟨t1, p1, s1⟩ := ha
  obtain ⟨t2, p2, s2⟩ := hb
  refine ⟨_, pe_orT p1 p2, fun z σ H L Q R h => ?_⟩
  refine s1 z σ H L _ R (AftE.bind h fun c z1 v H1 L1 R1 g1 h1 k1 => ?_)
  obtain ⟨k, q, k2⟩ := mTru_of R1 h1 k1
  refine ⟨k, by rw [← P.K]; exact q, ?_⟩
  cases k with
  | true => rw [if_pos rfl]; exact AftE.here R1 k2 h1
  | false => rw [if_neg (by decide)]; exact s2 z1 σ H1 L1 Q R1 k2
theorem d_not (P : Pl X B E) (ha : PED X B E a ma) : PED X B E (.UnaryOp .Not a pos) (mNot ma) := by
  obtain ⟨t1, p1, s1⟩ := ha
  refine ⟨_, pe_notT p1, fun z σ H L Q R h => ?_⟩
  refine s1 z σ H L _ R (AftE.bind h fun c z1 v H1 L1 R1 g1 h1 k1 => ?_)
  obtain ⟨k, q, k2⟩ := mTru_of R1 h1 k1
  exact ⟨k, by rw [← P.K]; exact q, AftE.here R1 k2 vr_bl'⟩
def fNeg (x : W) : M W := flat (match x with
  | .d (.int i) => some (.int (-i))
  | _ => none)
theorem d_neg (ha : PED X B E a ma) : PED X B E (.UnaryOp .USub a pos) (mBind ma fNeg) := by
  obtain ⟨t1, p1, s1⟩ := ha
  refine ⟨_, pe_un un_neg p1, fun z σ H L Q R h => ?_⟩
  refine s1 z σ H L _ R (AftE.bind h fun c z1 v H1 L1 R1 g1 h1 k1 => ?_)
  obtain ⟨d, ed, hq⟩ := flat_of R1 k1
  split at ed
  · cases ed
    exact ⟨_, vr_int h1, hq _ vr_int'⟩
  · cases ed
end
end DL
set_option Elab.async false
set_option linter.all false
set_option maxRecDepth 100000
namespace DL
open PySem L2
abbrev vD (B : Bs) (σ : St) (z : Z) (H : Hp) (L : List Addr) (v : V) (d : D) : Prop := Imm B.K B.C L (Ex B z σ L) H v d
abbrev vDs (B : Bs) (σ : St) (z : Z) (H : Hp) (L : List Addr) (v : List V) (d : List D) : Prop := ImmL B.K B.C L (Ex B z σ L) H v d
/-- an expression that gives data -/
structure PXD (X : Cx) (B : Bs) (E : WX) (e : Expr) (m : M D) : Prop where
  ex : ∃ t, PE X e t ∧ ∀ z σ H L Q, Rel B z σ H L → AftE B E (vD B σ) z σ H L Q (m z) → t σ H Q
structure PXDs (X : Cx) (B : Bs) (E : WX) (es : List Expr) (m : M (List D)) : Prop where
  ex : ∃ t, PA X es t ∧ ∀ z σ H L Q, Rel B z σ H L → AftE B E (vDs B σ) z σ H L Q (m z) → t σ H Q
def mSh (m : M W) : M D := fun z => (m z).bind mShare
def mW (m : M D) : M W := fun z => (m z).bind fun d z1 => .ok (.d d) z1
def mNil : M (List D) := fun z => .ok [] z
def mCons (m : M D) (ms : M (List D)) : M (List D) := fun z => (m z).bind fun d z1 => (ms z1).bind fun ds z2 => .ok (d :: ds) z2
def wNil : M (List W) := fun z => .ok [] z
def wCons (m : M W) (ms : M (List W)) : M (List W) := fun z => (m z).bind fun d z1 => (ms z1).bind fun ds z2 => .ok (d :: ds) z2
section
variable {X : Cx} {B : Bs} {E : WX} {e a b : Expr} {es : List Expr} {pos : Pos} {m : M W} {md : M D} {ms : M (List D)} {ws : M (List W)} {z z' : Z} {σ : St} {H H' : Hp} {L : List Addr}
/-- what an expression leaves is locked, if that is wanted -/
theorem pe_lockV {t : TE} (p : PE X e t) : PE X e (fun σ H Q => t σ H (LockQ Q)) := by
  refine ⟨fun pins s σ H Q I h => thn (p.run pins s σ H _ I h) fun u s1 hh => ?_⟩
  obtain ⟨v, H1, I1, r, q⟩ := hh
  rcases q with q | ⟨a, o, ea, ha, mu, q⟩
  · exact ⟨v, H1, I1, r, q⟩
  · obtain ⟨od, I2⟩ := I1.lock ha mu
    exact ⟨v, _, I2, r, q od⟩
theorem d_sh (h : PED X B E e m) : PXD X B E e (mSh m) := by
  obtain ⟨t, p, s⟩ := h
  refine ⟨_, pe_lockV p, fun z σ H L Q R h => ?_⟩
  exact s z σ H L _ R (AftE.bind h fun d z1 v H1 L1 R1 g1 h1 k1 => share_ok R1 h1 k1 fun _ _ _ q => q)
theorem d_w (h : PXD X B E e md) : PED X B E e (mW md) := by
  obtain ⟨t, p, s⟩ := h
  refine ⟨t, p, fun z σ H L Q R h => ?_⟩
  exact s z σ H L _ R (AftE.bind h fun d z1 v H1 L1 R1 g1 h1 k1 => AftE.here R1 k1 h1)
theorem ds_nil : PXDs X B E [] mNil := ⟨_, pa_nil, fun z σ H L Q R h => AftE.here R h (by simp [vDs, ImmL])⟩
theorem ds_cons (ha : PXD X B E e md) (hr : PXDs X B E es ms) (hs : starEach (e :: es) X.env = (false, eval e X.env) :: starEach es X.env := by rfl) : PXDs X B E (e :: es) (mCons md ms) := by
  obtain ⟨t1, p1, s1⟩ := ha
  obtain ⟨t2, p2, s2⟩ := hr
  refine ⟨_, pa_cons p1 p2 hs, fun z σ H L Q R h => ?_⟩
  refine s1 z σ H L _ R (AftE.bind h fun d z1 v H1 L1 R1 g1 h1 k1 => ?_)
  refine s2 z1 σ H1 L1 _ R1 (AftE.bind k1 fun d2 z2 v2 H2 L2 R2 g2 h2 k2 => ?_)
  refine AftE.here R2 k2 ?_
  simp only [vDs, ImmL]
  exact ⟨Imm.stay g2 _ _ h1, h2⟩
theorem dw_nil : PAD X B E [] wNil := ⟨_, pa_nil, fun z σ H L Q R h => AftE.here R h trivial⟩
theorem dw_cons (ha : PED X B E e m) (hr : PAD X B E es ws) (hs : starEach (e :: es) X.env = (false, eval e X.env) :: starEach es X.env := by rfl) : PAD X B E (e :: es) (wCons m ws) := by
  obtain ⟨t1, p1, s1⟩ := ha
  obtain ⟨t2, p2, s2⟩ := hr
  refine ⟨_, pa_cons p1 p2 hs, fun z σ H L Q R h => ?_⟩
  refine s1 z σ H L _ R (AftE.bind h fun d z1 v H1 L1 R1 g1 h1 k1 => ?_)
  refine s2 z1 σ H1 L1 _ R1 (AftE.bind k1 fun d2 z2 v2 H2 L2 R2 g2 h2 k2 => ?_)
  exact AftE.here R2 k2 ⟨VRel.stay g2 h1, h2⟩
/-! ### displays -/
def okLen (ds : List D) : Option (List D) := if ds.length ≤ sizeLine then some ds else none
theorem d_lst (h : PXDs X B E es ms) : PED X B E (.List es pos) (mBind ms fun ds => newL (okLen ds)) := by
  obtain ⟨t, p, s⟩ := h
  refine ⟨_, pe_lst p, fun z σ H L Q R h => ?_⟩
  refine s z σ H L _ R (AftE.bind h fun d z1 v H1 L1 R1 g1 h1 k1 => ?_)
  obtain ⟨xs, e, q⟩ := newL_of R1 k1
  unfold okLen at e
  split at e
  · cases e
    exact ⟨by rw [ImmL.length h1]; assumption, fun p hp => q _ p h1 hp⟩
  · cases e
theorem d_tup {x1} (h : PXDs X B E es ms) : PED X B E (.Tuple es x1 pos) (mBind ms fun ds => newT (okLen ds)) := by
  obtain ⟨t, p, s⟩ := h
  refine ⟨_, pe_tup p, fun z σ H L Q R h => ?_⟩
  refine s z σ H L _ R (AftE.bind h fun d z1 v H1 L1 R1 g1 h1 k1 => ?_)
  obtain ⟨xs, e, q⟩ := newT_of R1 k1
  unfold okLen at e
  split at e
  · cases e
    exact ⟨by rw [ImmL.length h1]; assumption, fun p hp => q _ p h1 hp⟩
  · cases e
/-! ### a fresh container, to be owned -/
def Bs.add (B : Bs) (p : Addr) : Bs := { B with E := fun a => B.E a ∨ a = p }
/-- a new object that nothing refers to -/
structure Fresh (B : Bs) (z : Z) (σ : St) (H : Hp) (L : List Addr) (p : Addr) (c : Cell) : Prop where
  rel0 : Rel B z σ H L
  rel : Rel (B.add p) z σ H L
  cell : CellRel B.K B.C L (Ex (B.add p) z σ L) H p c
  h0 : B.H0 p = none
  nL : p ∉ L
  nE : ¬ Ex B z σ L p
abbrev vF (B : Bs) (σ : St) (Hi : Hp) (z : Z) (H : Hp) (L : List Addr) (v : V) (c : Cell) : Prop := ∃ p, v = .ref p ∧ Fresh B z σ H L p c ∧ Hi p = none
structure PFD (X : Cx) (B : Bs) (E : WX) (e : Expr) (m : M Cell) : Prop where
  ex : ∃ t, PE X e t ∧ ∀ z σ H L Q, Rel B z σ H L → AftE B E (vF B σ H) z σ H L Q (m z) → t σ H Q
theorem ex_add {p a : Addr} : Ex (B.add p) z σ L a ↔ Ex B z σ L a ∨ a = p := by
  constructor
  · rintro ((h | h) | h | h)
    · exact .inl (.inl h)
    · exact .inr h
    · exact .inl (.inr (.inl h))
    · exact .inl (.inr (.inr h))
  · rintro ((h | h | h) | h)
    · exact .inl (.inl h)
    · exact .inr (.inl h)
    · exact .inr (.inr h)
    · exact .inl (.inr h)
theorem Rel.h0 (R : Rel B z σ H L) {p : Addr} (hp : H p = none) : B.H0 p = none := by
  cases e : B.H0 p with
  | none => rfl
  | some o =>
    by_cases hl : p ∈ B.L0
    · obtain ⟨n, hn⟩ := List.getElem?_of_mem hl
      exact ((R.exd p (.inr (.inl (List.mem_of_getElem? (R.pre n p hn))))).ne hp).elim
    · by_cases nb : NB o
      · rw [R.frame p o e hl nb] at hp; cases hp
      · cases o with
        | tbl ps =>
          obtain ⟨qs, hq⟩ := R.tab.old p ps e
          rw [hq] at hp; cases hp
        | _ => exact (nb trivial).elim
theorem grow_add {p : Addr} {o : HO} (hp : H p = none) : Grow L (Ex B z σ L) H L (Ex (B.add p) z σ L) (upd H p o) :=
  ⟨fun a u h n _ => ⟨by rw [upd_ne (ne_of_none h hp)]; exact h, fun x => (ex_add.mp x).elim n (ne_of_none h hp)⟩, fun _ _ h => h, Same.dom (same_new hp)⟩
/-- the new object at p is laid, excluded -/
theorem Rel.lay (R : Rel B z σ H L) {p : Addr} {o : HO} (hp : H p = none) (hnt : NTup o := by exact trivial) : Rel (B.add p) z σ (upd H p o) L := by
  have g : Grow L (Ex B z σ L) H L (Ex (B.add p) z σ L) (upd H p o) := grow_add hp
  have st : ∀ {b : Addr} {c : Cell}, CellRel B.K B.C L (Ex B z σ L) H b c → CellRel B.K B.C L (Ex (B.add p) z σ L) (upd H p o) b c := fun {b c} q => by
    refine q.stay g fun u h => ?_
    rw [upd_ne (ne_of_none h hp)]; exact h
  refine ⟨fun i => ?_, R.inj, fun i a o => ⟨(R.new i a o).1, (R.new i a o).2.1, fun h => h.elim (R.new i a o).2.2 fun h => ?_⟩, ⟨R.st.len, R.st.nd, fun a h => .inr (.inl h), fun n a c h1 h2 => st (R.st.at_ n a c h1 h2)⟩, R.pre, R.newc, fun a u h n nb => ?_, fun a h => ?_, fun a h => .inl (R.ae a h), R.tab.new hp⟩
  · have q := R.slot i
    generalize z.sl[i]? = x at q ⊢
    generalize σ[i]? = y at q ⊢
    match x, y, q with
    | some (.val d), some (some v), q => exact Imm.stay g _ _ q
    | some (.own c), some (some v), ⟨a, e, q⟩ => exact ⟨a, e, st q⟩
    | some (.brw c), some (some v), ⟨a, e, q, b1, b2⟩ => exact ⟨a, e, q.stay g fun u h => by rw [upd_ne (ne_of_none h hp)]; exact h, b1, b2⟩
    | some (.exn x), some (some v), q => exact ExSl.stay g q
    | some .un, some _, _ => trivial
    | none, none, _ => trivial
  · obtain ⟨c, _, q⟩ := OwnAt.cell R o
    obtain ⟨u, hu⟩ := q.some
    rw [h, hp] at hu; cases hu
  · have q : H a = some u := R.frame a u h n nb
    rw [upd_ne (ne_of_none q hp)]; exact q
  · rcases ex_add.mp h with h | h
    · exact here_upd (R.exd a h) hnt
    · subst h; exact ⟨o, upd_same, hnt⟩
theorem Fresh.lst (R : Rel B z σ H L) {p : Addr} {vs : List V} {xs : List D} (hp : H p = none) (q : ImmL B.K B.C L (Ex B z σ L) H vs xs) : Fresh B z σ (upd H p (.lst vs)) L p (.lst xs) :=
  ⟨R.upd_new hp, R.lay hp, ⟨vs, upd_same, ImmL.stay (grow_add hp) _ _ q⟩, R.h0 hp, fun h => (R.exd p (.inr (.inl h))).ne hp, fun h => (R.exd p h).ne hp⟩
/-- a fresh list is the answer -/
def frL (o : Option (List D)) : M Cell := fun z => match o with
  | some xs => .ok (.lst xs) z
  | none => .bad
theorem frL_of {Q : VK} {o : Option (List D)} {Hi : Hp} (R : Rel B z σ H L) (hi : ∀ a, Hi a ≠ none → H a ≠ none) (h : AftE B E (vF B σ Hi) z σ H L Q (frL o z)) :
    ∃ xs, o = some xs ∧ ∀ vs p, ImmL B.K B.C L (Ex B z σ L) H vs xs → H p = none → Q (.ref p) (upd H p (.lst vs)) := by
  cases o with
  | some xs => exact ⟨xs, rfl, fun vs p q hp => h _ _ _ (R.upd_new hp) (G.new hp) ⟨p, rfl, Fresh.lst R hp q, Classical.byContradiction fun e => hi p e hp⟩⟩
  | none => exact h.elim
theorem df_lst (h : PXDs X B E es ms) : PFD X B E (.List es pos) (mBind ms fun ds => frL (okLen ds)) := by
  obtain ⟨t, p, s⟩ := h
  refine ⟨_, pe_lst p, fun z σ H L Q R h => ?_⟩
  refine s z σ H L _ R (AftE.bind h fun d z1 v H1 L1 R1 g1 h1 k1 => ?_)
  obtain ⟨xs, e, q⟩ := frL_of R1 g1.dom k1
  unfold okLen at e
  split at e
  · cases e
    exact ⟨by rw [ImmL.length h1]; assumption, fun p hp => q _ p h1 hp⟩
  · cases e
end
/-! ### slots are set -/
section
variable {X : Cx} {B : Bs} {E : WX} {z z' : Z} {σ σ' : St} {H H' : Hp} {L L' : List Addr}
def Z.set (z : Z) (i : Nat) (s : Sl) : Z := { z with sl := z.sl.set i s }
theorem SlRel.both {K : Fr} {C : Cl} {Ee BE : Addr → Prop} {xs : Xs} {x : Option Sl} {y : Option (Option V)} (h : SlRel K C L Ee H BE xs x y) : x.isSome = y.isSome := by
  match x, y, h with
  | some (.val _), some (some _), _ => rfl
  | some (.own _), some (some _), _ => rfl
  | some (.brw _), some (some _), _ => rfl
  | some (.exn _), some (some _), _ => rfl
  | some .un, some _, _ => rfl
  | none, none, _ => rfl
theorem Rel.lens (R : Rel B z σ H L) : z.sl.length = σ.length := by
  have h : ∀ i : Nat, i < z.sl.length ↔ i < σ.length := fun i => by
    have q := (R.slot i).both
    constructor
    · intro h
      have e : z.sl[i]?.isSome = true := by simp [h]
      rw [e] at q
      simpa using q.symm
    · intro h
      have e : σ[i]?.isSome = true := by simp [h]
      rw [e] at q
      simpa using q
  have h1 := h z.sl.length
  have h2 := h σ.length
  omega
/-- slot i is set to data, the other slots stand -/
theorem Rel.set_val (R : Rel B z σ H L) {i : Nat} {v : V} {d : D} (hv : Imm B.K B.C L (Ex B z σ L) H v d) : Rel B (z.set i (.val d)) (σ.set i (some v)) H L := by
  have own_j : ∀ j b, OwnAt (z.set i (.val d)) (σ.set i (some v)) j b → OwnAt z σ j b := fun j b ⟨⟨k, h1⟩, h2⟩ => by
    by_cases hj : j = i
    · subst hj
      unfold Z.set at h1
      simp only [List.getElem?_set] at h1
      split at h1
      · split at h1 <;> cases h1
      · simp at *
    · unfold Z.set at h1
      rw [List.getElem?_set_ne (Ne.symm hj)] at h1 h2
      exact ⟨⟨k, h1⟩, h2⟩
  have sub : ∀ b, Ex B (z.set i (.val d)) (σ.set i (some v)) L b → Ex B z σ L b := fun b h => h.imp id (Or.imp id fun ⟨j, o⟩ => ⟨j, own_j j b o⟩)
  have g : Grow L (Ex B z σ L) H L (Ex B (z.set i (.val d)) (σ.set i (some v)) L) H := ⟨fun b o h n _ => ⟨h, fun x => n (sub b x)⟩, fun _ _ h => h, fun _ h => h⟩
  refine ⟨fun j => ?_, fun j k b o1 o2 => R.inj j k b (own_j j b o1) (own_j k b o2), fun j b o => R.new j b (own_j j b o), ⟨R.st.len, R.st.nd, fun b h => .inr (.inl h), fun n b c h1 h2 => (R.st.at_ n b c h1 h2).stay g fun _ h => h⟩, R.pre, R.newc, R.frame, fun b h => R.exd b (sub b h), R.ae, R.tab⟩
  have q := R.slot j
  have len := R.lens
  by_cases hj : j = i
  · subst hj
    by_cases hlt : j < z.sl.length
    · unfold Z.set
      rw [List.getElem?_set_self hlt, List.getElem?_set_self (by omega)]
      exact Imm.stay g _ _ hv
    · unfold Z.set
      rw [List.getElem?_eq_none (by simpa using hlt), List.getElem?_eq_none (by simp; omega)]
      trivial
  · unfold Z.set
    rw [List.getElem?_set_ne (Ne.symm hj), List.getElem?_set_ne (Ne.symm hj)]
    generalize z.sl[j]? = x at q ⊢
    generalize σ[j]? = y at q ⊢
    match x, y, q with
    | some (.val d), some (some v), q => exact Imm.stay g _ _ q
    | some (.own c), some (some v), ⟨a, e, q⟩ => exact ⟨a, e, q.stay g fun _ h => h⟩
    | some (.brw c), some (some v), ⟨a, e, q, b⟩ => exact ⟨a, e, q.stay g fun _ h => h, b⟩
    | some (.exn x), some (some v), q => exact ExSl.stay g q
    | some .un, some _, _ => trivial
    | none, none, _ => trivial
/-- slot i is set to a fresh container -/
theorem Rel.set_own {p : Addr} {c : Cell} (F : Fresh B z σ H L p c) {i : Nat} : Rel B (z.set i (.own c)) (σ.set i (some (.ref p))) H L := by
  have R := F.rel
  have len := R.lens
  have own_j : ∀ j b, OwnAt (z.set i (.own c)) (σ.set i (some (.ref p))) j b → (j = i ∧ b = p) ∨ (j ≠ i ∧ OwnAt z σ j b) := fun j b ⟨⟨k, h1⟩, h2⟩ => by
    by_cases hj : j = i
    · subst hj
      simp only [List.getElem?_set] at h2
      split at h2
      · split at h2
        · cases h2; exact .inl ⟨rfl, rfl⟩
        · cases h2
      · simp at *
    · unfold Z.set at h1
      rw [List.getElem?_set_ne (Ne.symm hj)] at h1 h2
      exact .inr ⟨hj, ⟨k, h1⟩, h2⟩
  have sub : ∀ b, Ex B (z.set i (.own c)) (σ.set i (some (.ref p))) L b → Ex (B.add p) z σ L b := fun b h => by
    rcases h with h | h | ⟨j, o⟩
    · exact ex_add.mpr (.inl (.inl h))
    · exact ex_add.mpr (.inl (.inr (.inl h)))
    · rcases own_j j b o with ⟨_, h⟩ | ⟨_, h⟩
      · exact ex_add.mpr (.inr h)
      · exact ex_add.mpr (.inl (.inr (.inr ⟨j, h⟩)))
  have g : Grow L (Ex (B.add p) z σ L) H L (Ex B (z.set i (.own c)) (σ.set i (some (.ref p))) L) H := ⟨fun b o h n _ => ⟨h, fun x => n (sub b x)⟩, fun _ _ h => h, fun _ h => h⟩
  have np : ∀ j b, OwnAt z σ j b → b ≠ p := fun j b o h => (R.new j b o).2.2 (.inr h)
  refine ⟨fun j => ?_, fun j k b o1 o2 => ?_, fun j b o => ?_, ⟨R.st.len, R.st.nd, fun b h => .inr (.inl h), fun n b k h1 h2 => (R.st.at_ n b k h1 h2).stay g fun _ h => h⟩, R.pre, R.newc, R.frame, fun b h => R.exd b (sub b h), F.rel0.ae, F.rel0.tab⟩
  · have q := R.slot j
    by_cases hj : j = i
    · subst hj
      by_cases hlt : j < z.sl.length
      · unfold Z.set
        rw [List.getElem?_set_self hlt, List.getElem?_set_self (by omega)]
        exact ⟨p, rfl, F.cell.stay g fun _ h => h⟩
      · unfold Z.set
        rw [List.getElem?_eq_none (by simpa using hlt), List.getElem?_eq_none (by simp; omega)]
        trivial
    · have q0 := F.rel0.slot j
      unfold Z.set
      rw [List.getElem?_set_ne (Ne.symm hj), List.getElem?_set_ne (Ne.symm hj)]
      generalize z.sl[j]? = x at q q0 ⊢
      generalize σ[j]? = y at q q0 ⊢
      match x, y, q, q0 with
      | some (.val d), some (some v), q, _ => exact Imm.stay g _ _ q
      | some (.own c), some (some v), ⟨a, e, q⟩, _ => exact ⟨a, e, q.stay g fun _ h => h⟩
      | some (.brw c), some (some v), ⟨a, e, q, _, b2⟩, ⟨a', e', _, b1, _⟩ =>
        rw [e] at e'
        cases e'
        exact ⟨a, e, q.stay g fun _ h => h, b1, b2⟩
      | some (.exn x), some (some v), q, _ => exact ExSl.stay g q
      | some .un, some _, _, _ => trivial
      | none, none, _, _ => trivial
  · rcases own_j j b o1 with ⟨rfl, rfl⟩ | ⟨h1, h2⟩
    · rcases own_j k b o2 with ⟨h, _⟩ | ⟨_, h4⟩
      · exact h.symm
      · exact absurd rfl (np k b h4)
    · rcases own_j k b o2 with ⟨rfl, rfl⟩ | ⟨_, h4⟩
      · exact absurd rfl (np j b h2)
      · exact R.inj j k b h2 h4
  · rcases own_j j b o with ⟨rfl, rfl⟩ | ⟨h1, h2⟩
    · exact ⟨F.h0, F.nL, fun h => F.nE (.inl h)⟩
    · obtain ⟨n1, n2, n3⟩ := R.new j b h2
      exact ⟨n1, n2, fun h => n3 (.inl h)⟩
end
end DL
set_option Elab.async false
set_option linter.all false
set_option maxRecDepth 100000
namespace DL
open PySem L2
section
variable {X : Cx} {B : Bs} {E : WX} {e a b : Expr} {es : List Expr} {pos : Pos} {m : M W} {md : M D} {ms : MS} {z z' : Z} {σ σ' : St} {H H' : Hp} {L L' : List Addr} {st : Stmt} {rest : List Stmt}
/-! ### containers change -/
theorem upd_dom {p : Addr} {o : HO} (a : Addr) (h : H a ≠ none) : upd H p o a ≠ none := by
  by_cases e : a = p
  · subst e; rw [upd_same]; exact fun z => by cases z
  · rw [upd_ne e]; exact h
theorem Rel.cellNX (R : Rel B z σ H L) {n : Nat} {p : Addr} (hp : L[n]? = some p) : ∃ o, H p = some o ∧ NX o := by
  have hn : n < z.st.length := by rw [← R.st.len]; exact (List.getElem?_eq_some_iff.mp hp).1
  exact (R.st.at_ n p _ hp (List.getElem?_eq_getElem hn)).nx
theorem OwnAt.nx {i : Nat} {a : Addr} (R : Rel B z σ H L) (o : OwnAt z σ i a) : ∃ o, H a = some o ∧ NX o := by
  obtain ⟨c, _, q⟩ := o.cell R
  exact q.nx
/-- the object of the n-th cell is written -/
theorem Rel.upd_cell (R : Rel B z σ H L) {n : Nat} {p : Addr} {c : Cell} {o : HO} (hp : L[n]? = some p) (hc : CellRel B.K B.C L (Ex B z σ L) (upd H p o) p c) :
    Rel B { z with st := z.st.set n c } σ (upd H p o) L ∧ G B z σ L H { z with st := z.st.set n c } σ L (upd H p o) := by
  have hL : p ∈ L := List.mem_of_getElem? hp
  have exs : ∀ b, Ex B { z with st := z.st.set n c } σ L b ↔ Ex B z σ L b := fun b => Iff.rfl
  have g : G B z σ L H { z with st := z.st.set n c } σ L (upd H p o) := ⟨fun b u h q _ => ⟨by rw [upd_ne (fun z => q (by rw [z]; exact .inr (.inl hL)))]; exact h, q⟩, fun _ _ h => h, upd_dom⟩
  have st : ∀ {b : Addr} {k : Cell}, b ≠ p → CellRel B.K B.C L (Ex B z σ L) H b k → CellRel B.K B.C L (Ex B z σ L) (upd H p o) b k := fun {b k} hb q => by
    refine q.stay g fun u h => ?_
    rw [upd_ne hb]; exact h
  refine ⟨⟨fun i => ?_, R.inj, R.new, ⟨by simpa using R.st.len, R.st.nd, R.st.ex, fun k b d h1 h2 => ?_⟩, R.pre, R.newc, fun b u h q nb => ?_, fun b h => ?_, R.ae, let ⟨_, h1, h2⟩ := R.cellNX hp; R.tab.upd h1 h2⟩, g⟩
  · have q := R.slot i
    have nw := fun a => R.new i a
    have oi : ∀ b, OwnAt z σ i b → b ≠ p := fun b o h => (nw b o).2.1 (by rw [h]; exact hL)
    show SlRel B.K B.C L (Ex B z σ L) (upd H p _) B.A B.xs (z.sl[i]?) (σ[i]?)
    generalize hz : z.sl[i]? = x at q ⊢
    generalize hs : σ[i]? = y at q ⊢
    match x, y, q, hz, hs with
    | some (.val d), some (some v), q, _, _ => exact Imm.stay g _ _ q
    | some (.own c), some (some v), ⟨a, e, q⟩, hz, hs => exact ⟨a, e, st (oi a ⟨⟨c, hz⟩, by rw [hs, e]⟩) q⟩
    | some (.brw c), some (some v), ⟨a, e, q, b1, b2⟩, _, _ => exact ⟨a, e, q.stay g fun u h => by rw [upd_ne (fun z => b2 (by rw [z]; exact hL))]; exact h, b1, b2⟩
    | some (.exn x), some (some v), q, _, _ => exact ExSl.stay g q
    | some .un, some _, _, _, _ => trivial
    | none, none, _, _, _ => trivial
  · by_cases hk : k = n
    · subst hk
      rw [hp] at h1
      cases h1
      have : k < z.st.length := by have := (List.getElem?_eq_some_iff.mp h2).1; simpa using this
      rw [List.getElem?_set_self this] at h2
      cases h2
      exact hc
    · rw [List.getElem?_set_ne (Ne.symm hk)] at h2
      have hb : b ≠ p := fun h => hk (by
        subst h
        exact (List.getElem_inj (h₀ := (List.getElem?_eq_some_iff.mp h1).1) (h₁ := (List.getElem?_eq_some_iff.mp hp).1) R.st.nd).mp (by rw [(List.getElem?_eq_some_iff.mp h1).2, (List.getElem?_eq_some_iff.mp hp).2]))
      exact st hb (R.st.at_ k b d h1 h2)
  · have h' := R.frame b u h q nb
    by_cases e : b = p
    · subst e
      rcases R.newc b hL with h1 | h1
      · exact absurd h1 q
      · rw [h1] at h; cases h
    · rw [upd_ne e]; exact h'
  · exact here_updC hc fun _ => R.exd b h
/-- the object that slot i owns is written -/
theorem Rel.upd_own (R : Rel B z σ H L) {i : Nat} {p : Addr} {c : Cell} {o : HO} (hi : OwnAt z σ i p) (hc : CellRel B.K B.C L (Ex B z σ L) (upd H p o) p c) :
    Rel B (z.set i (.own c)) σ (upd H p o) L ∧ G B z σ L H (z.set i (.own c)) σ L (upd H p o) := by
  obtain ⟨n1, n2, n3⟩ := R.new i p hi
  have hlt : i < z.sl.length := (List.getElem?_eq_some_iff.mp hi.1.choose_spec).1
  have at_i : (z.set i (.own c)).sl[i]? = some (.own c) := by unfold Z.set; simp [hlt]
  have at_j : ∀ j, j ≠ i → (z.set i (.own c)).sl[j]? = z.sl[j]? := fun j h => by unfold Z.set; simp [List.getElem?_set_ne (Ne.symm h)]
  have own_j : ∀ j b, OwnAt (z.set i (.own c)) σ j b ↔ OwnAt z σ j b := fun j b => by
    by_cases h : j = i
    · subst h
      exact ⟨fun ⟨_, h2⟩ => ⟨hi.1, h2⟩, fun ⟨_, h2⟩ => ⟨⟨c, at_i⟩, h2⟩⟩
    · unfold OwnAt
      rw [at_j j h]
  have exs : ∀ b, Ex B (z.set i (.own c)) σ L b ↔ Ex B z σ L b := fun b => by
    unfold Ex
    simp only [own_j]
  have exe : Ex B (z.set i (.own c)) σ L = Ex B z σ L := funext fun b => propext (exs b)
  have pe : Ex B z σ L p := .inr (.inr ⟨i, hi⟩)
  have g : Grow L (Ex B z σ L) H L (Ex B z σ L) (upd H p o) := ⟨fun b u h q _ => ⟨by rw [upd_ne (fun z => q (by rw [z]; exact pe))]; exact h, q⟩, fun _ _ h => h, upd_dom⟩
  have st : ∀ {b : Addr} {k : Cell}, b ≠ p → CellRel B.K B.C L (Ex B z σ L) H b k → CellRel B.K B.C L (Ex B z σ L) (upd H p o) b k := fun {b k} hb q => by
    refine q.stay g fun u h => ?_
    rw [upd_ne hb]; exact h
  refine ⟨⟨fun j => ?_, fun j k b o1 o2 => R.inj j k b ((own_j j b).mp o1) ((own_j k b).mp o2), fun j b o => R.new j b ((own_j j b).mp o), ⟨R.st.len, R.st.nd, fun b h => .inr (.inl h), fun k b d h1 h2 => ?_⟩, R.pre, R.newc, fun b u h q nb => ?_, fun b h => ?_, R.ae, let ⟨_, h1, h2⟩ := hi.nx R; R.tab.upd h1 h2⟩, by unfold G; rw [exe]; exact g⟩
  · rw [exe]
    have q := R.slot j
    by_cases hj : j = i
    · subst hj
      rw [at_i, hi.2]
      exact ⟨p, rfl, hc⟩
    · rw [at_j j hj]
      have oi : ∀ b, OwnAt z σ j b → b ≠ p := fun b o h => hj (R.inj j i b o (by rw [h]; exact hi))
      generalize hz : z.sl[j]? = x at q ⊢
      generalize hs : σ[j]? = y at q ⊢
      match x, y, q, hz, hs with
      | some (.val d), some (some v), q, _, _ => exact Imm.stay g _ _ q
      | some (.own c), some (some v), ⟨a, e, q⟩, hz, hs => exact ⟨a, e, st (oi a ⟨⟨c, hz⟩, by rw [hs, e]⟩) q⟩
      | some (.brw c), some (some v), ⟨a, e, q, b1, b2⟩, _, _ => exact ⟨a, e, q.stay g fun u h => by rw [upd_ne (fun z => n3 (by rw [← z]; exact R.ae a b1))]; exact h, b1, b2⟩
      | some (.exn x), some (some v), q, _, _ => exact ExSl.stay g q
      | some .un, some _, _, _, _ => trivial
      | none, none, _, _, _ => trivial
  · rw [exe]
    exact st (fun z => n2 (by rw [← z]; exact List.mem_of_getElem? h1)) (R.st.at_ k b d h1 h2)
  · by_cases e : b = p
    · subst e; rw [n1] at h; cases h
    · rw [upd_ne e]; exact R.frame b u h q nb
  · exact here_updC hc fun _ => R.exd b ((exs b).mp h)
/-- what may be written: a cell, or what a slot owns -/
def Z.mut (z : Z) : W → Option Cell
  | .d (.obj n) => z.st[n]?
  | .own i => match z.sl[i]? with
    | some (.own c) => some c
    | _ => none
  | _ => none
/-- .. is written -/
def Z.put (z : Z) (x : W) (c : Cell) : Z := match x with
  | .d (.obj n) => { z with st := z.st.set n c }
  | .own i => z.set i (.own c)
  | _ => z
theorem Rel.write (R : Rel B z σ H L) {x : W} {v : V} {c : Cell} (hv : VRel B z σ H L v x) (e : z.mut x = some c) : ∃ p, v = .ref p ∧ CellRel B.K B.C L (Ex B z σ L) H p c ∧ Ex B z σ L p ∧
    ∀ (c' : Cell) (o : HO), CellRel B.K B.C L (Ex B z σ L) (upd H p o) p c' → Rel B (z.put x c') σ (upd H p o) L ∧ G B z σ L H (z.put x c') σ L (upd H p o) := by
  cases x with
  | own i =>
    simp only [VRel] at hv
    simp only [Z.mut] at e
    generalize hz : z.sl[i]? = s at e
    match s, e with
    | some (.own k), e =>
      cases e
      have q := R.slot i
      rw [hz, hv] at q
      obtain ⟨p, rfl, q⟩ := q
      have ow : OwnAt z σ i p := ⟨⟨c, hz⟩, hv⟩
      exact ⟨p, rfl, q, .inr (.inr ⟨i, ow⟩), fun c' o h => R.upd_own ow h⟩
    | some (.val _), e => cases e
    | some (.brw _), e => cases e
    | some .un, e => cases e
    | none, e => cases e
  | d d =>
    cases d with
    | obj n =>
      simp only [VRel, Imm] at hv
      obtain ⟨p, rfl, hp⟩ := hv
      exact ⟨p, rfl, R.st.at_ n p c hp e, .inr (.inl (List.mem_of_getElem? hp)), fun c' o h => R.upd_cell hp h⟩
    | _ => cases e
/-- a written container's own object is not read by frozen data -/
theorem grow_upd {p : Addr} {o : HO} {Ee : Addr → Prop} (h : Ee p) : Grow L Ee H L Ee (upd H p o) :=
  ⟨fun b u e n _ => ⟨by rw [upd_ne (fun z => n (by rw [z]; exact h))]; exact e, n⟩, fun _ _ h => h, upd_dom⟩
/-! ### targets -/
def AftG (B : Bs) (z0 : Z) (σ0 : St) (H0 : Hp) (L0 : List Addr) (Q : St → Hp → Prop) : R Unit → Prop
  | .ok _ z => ∀ σ H L, Rel B z σ H L → G B z0 σ0 L0 H0 z σ L H → Q σ H
  | _ => False
theorem AftG.from {z1 : Z} {σ1 : St} {H1 : Hp} {L1 : List Addr} {Q : St → Hp → Prop} {r : R Unit} (g : G B z σ L H z1 σ1 L1 H1) (h : AftG B z σ H L Q r) : AftG B z1 σ1 H1 L1 Q r := by
  match r, h with
  | .ok _ z2, h => exact fun σ2 H2 L2 R2 g2 => h σ2 H2 L2 R2 (g.trans g2)
  | .err _ _, h => exact h
  | .bad, h => exact h
structure PGD (X : Cx) (B : Bs) (tg : Expr) (m : D → M Unit) : Prop where
  ex : ∃ g, PG X tg g ∧ ∀ z σ H L v d Q, Rel B z σ H L → Imm B.K B.C L (Ex B z σ L) H v d → AftG B z σ H L Q (m d z) → g v σ H Q
structure PGDs (X : Cx) (B : Bs) (tgs : List Expr) (m : List D → M Unit) : Prop where
  ex : ∃ g, PGs X tgs g ∧ ∀ z σ H L vs ds Q, Rel B z σ H L → ImmL B.K B.C L (Ex B z σ L) H vs ds → AftG B z σ H L Q (m ds z) → g vs σ H Q
def gN (i : Nat) (d : D) : M Unit := fun z => .ok () (z.set i (.val d))
def gsN (is : List Nat) (ds : List D) : M Unit := fun z => match is, ds with
  | [], [] => .ok () z
  | i :: is, d :: ds => gsN is ds (z.set i (.val d))
  | _, _ => .bad
def gT (n : Nat) (m : List D → M Unit) (d : D) : M Unit := fun z => match d with
  | .tup ds => if ds.length = n then m ds z else .bad
  | _ => .bad
theorem grow_set_val {i : Nat} {v : V} {d : D} : Grow L (Ex B z σ L) H L (Ex B (z.set i (.val d)) (σ.set i (some v)) L) H := by
  refine ⟨fun b o h n _ => ⟨h, fun x => n ?_⟩, fun _ _ h => h, fun _ h => h⟩
  refine x.imp id (Or.imp id fun ⟨j, ⟨k, h1⟩, h2⟩ => ⟨j, ?_⟩)
  by_cases hj : j = i
  · subst hj
    unfold Z.set at h1
    simp only [List.getElem?_set] at h1
    split at h1
    · split at h1 <;> cases h1
    · simp at *
  · unfold Z.set at h1
    rw [List.getElem?_set_ne (Ne.symm hj)] at h1 h2
    exact ⟨⟨k, h1⟩, h2⟩
theorem dg_name (i : Nat) {x : Str} (hN : X.N.Nodup) (hi : X.N[i]? = some x := by rfl) (hx : Loc X.env.scope x := by first | exact .inl rfl | exact .inr rfl) (hf : X.fn x = true ∨ X.env.scope.names.lookup x = some .local := by first | exact .inl rfl | exact .inr rfl | assumption) :
    PGD X B (.Name x pos) (gN i) := ⟨_, pg_name hN hi hx hf, fun z σ H L v d Q R hv h => h _ _ _ (R.set_val hv) grow_set_val⟩
theorem dgs_nil : PGDs X B [] (gsN []) := ⟨_, pgs_nil, fun z σ H L vs ds Q R hv h => by
  cases ds with
  | nil =>
    cases vs with
    | nil => exact ⟨rfl, h _ _ _ R Grow.refl⟩
    | cons _ _ => simp only [ImmL] at hv
  | cons _ _ => exact h.elim⟩
theorem dgs_cons (i : Nat) {is : List Nat} {x : Str} (hN : X.N.Nodup) (hr : PGDs X B es (gsN is)) (hi : X.N[i]? = some x := by rfl) (hx : Loc X.env.scope x := by first | exact .inl rfl | exact .inr rfl)
    (hf : X.fn x = true ∨ X.env.scope.names.lookup x = some .local := by first | exact .inl rfl | exact .inr rfl | assumption) : PGDs X B (.Name x pos :: es) (gsN (i :: is)) := by
  obtain ⟨g, p, s⟩ := hr
  refine ⟨_, pgs_cons (pg_name hN hi hx hf) p, fun z σ H L vs ds Q R hv h => ?_⟩
  cases ds with
  | nil => exact h.elim
  | cons d ds =>
    cases vs with
    | nil => simp only [ImmL] at hv
    | cons v vs =>
      simp only [ImmL] at hv
      exact ⟨v, vs, rfl, s _ _ _ _ _ _ _ (R.set_val hv.1) (ImmL.stay grow_set_val _ _ hv.2) (AftG.from grow_set_val h)⟩
theorem dg_tup {k : Nat} {n : Nat} {gm : List D → M Unit} (P : Plc X B E) (hp : PGDs X B es gm) (hn : (assignEach es X.env).length = n := by rfl) (hst : (assignEach es X.env).findIdx? (·.1) = none := by rfl) : PGD X B (.Tuple es k pos) (gT n gm) := by
  obtain ⟨g, p, s⟩ := hp
  refine ⟨_, pg_tup P.calm p hn hst, fun z σ H L v d Q R hv h => ?_⟩
  unfold gT at h
  split at h
  · split at h
    · rename_i hl
      simp only [Imm] at hv
      obtain ⟨a, vs, rfl, r, q⟩ := hv
      rw [← P.K]
      exact ⟨a, vs, rfl, r.sq, by rw [q.length, hl], s _ _ _ _ _ _ _ R q h⟩
    · exact h.elim
  · exact h.elim
/-! ### statements -/
def sNx : MS := fun z => .nx z
def sSeq (a b : MS) : MS := fun z => (a z).bind b
def R.done (r : R Unit) : RS := match r with
  | .ok _ z => .nx z
  | _ => .bad
def sAsg (m : M D) (g : D → M Unit) : MS := fun z => (m z).bindS fun d z1 => (g d z1).done
/-- slot i gets the fresh container -/
def sOwn (i : Nat) (m : M Cell) : MS := fun z => (m z).bindS fun c z1 => .nx (z1.set i (.own c))
def sRet (m : M D) : MS := fun z => (m z).bindS fun d z1 => .rt d z1
def sExpr (m : M W) : MS := fun z => (m z).bindS fun _ z1 => .nx z1
def sIf (c : M Bool) (a b : MS) : MS := fun z => (c z).bindS fun k z1 => if k then a z1 else b z1
theorem AftS.ret {N : Ends} {d : D} {v : V} (R : Rel B z σ H L) (h : AftS B E z σ H L N (.rt d z)) (hv : Imm B.K B.C L (Ex B z σ L) H v d) : N.rt v H :=
  h v σ H L R (Imm.stay (⟨fun b o e n _ => ⟨e, fun x => n (x.imp id .inl)⟩, fun _ _ h => h, fun _ h => h⟩ : Grow L (Ex B z σ L) H L (fun a => B.E a ∨ a ∈ L) H) _ _ hv)
theorem dss_nil : PSsD X B E [] sNx := ⟨_, pss_nil, fun z σ H L N R h => h σ H L R Grow.refl⟩
theorem dss_cons {ms2 : MS} (h1 : PSD X B E st ms) (h2 : PSsD X B E rest ms2) : PSsD X B E (st :: rest) (sSeq ms ms2) := by
  obtain ⟨t1, p1, s1⟩ := h1
  obtain ⟨t2, p2, s2⟩ := h2
  refine ⟨_, pss_cons p1 p2, fun z σ H L N R h => ?_⟩
  refine s1 z σ H L _ R ?_
  unfold sSeq at h
  generalize ms z = r at h ⊢
  match r, h with
  | .nx z1, h => exact fun σ1 H1 L1 R1 g1 => s2 z1 σ1 H1 L1 N R1 (AftS.from g1 h)
  | .bk z1, h => exact h
  | .ct z1, h => exact h
  | .rt d z1, h => exact h
  | .err x S, h => exact h
  | .bad, h => exact h
theorem dss_one (h1 : PSD X B E st ms) : PSsD X B E [st] ms := let ⟨t, p, s⟩ := h1; ⟨t, pss_one p, s⟩
theorem d_asg {tg : Expr} {g : D → M Unit} (he : PXD X B E e md) (hg : PGD X B tg g) (hs : swapsWithSole [tg] e pos.line X.env = pure false := by rfl) (hw : swappedStores [tg] e X.env = pure none := by rfl)
    (h1 : (assignEach [tg] X.env).map (·.2) = [assign tg X.env] := by rfl) : PSD X B E (.Assign [tg] e pos) (sAsg md g) := by
  obtain ⟨t1, p1, s1⟩ := he
  obtain ⟨t2, p2, s2⟩ := hg
  refine ⟨_, ps_asg p1 p2 hs hw h1, fun z σ H L N R h => ?_⟩
  refine s1 z σ H L _ R (AftE.bindS h fun d z1 v H1 L1 R1 g1 h1 k1 => ?_)
  refine s2 z1 σ H1 L1 v d _ R1 h1 ?_
  generalize g d z1 = r at k1 ⊢
  match r, k1 with
  | .ok _ z2, k1 => exact k1
  | .err x S, k1 => exact k1.elim
  | .bad, k1 => exact k1
theorem ex_set_own {p : Addr} {c : Cell} {i : Nat} : ∀ b, Ex B (z.set i (.own c)) (σ.set i (some (.ref p))) L b → Ex (B.add p) z σ L b := fun b h => by
  rcases h with h | h | ⟨j, ⟨k, h1⟩, h2⟩
  · exact ex_add.mpr (.inl (.inl h))
  · exact ex_add.mpr (.inl (.inr (.inl h)))
  · by_cases hj : j = i
    · subst hj
      simp only [List.getElem?_set] at h2
      split at h2
      · split at h2
        · cases h2; exact ex_add.mpr (.inr rfl)
        · cases h2
      · simp at *
    · unfold Z.set at h1
      rw [List.getElem?_set_ne (Ne.symm hj)] at h1 h2
      exact ex_add.mpr (.inl (.inr (.inr ⟨j, ⟨k, h1⟩, h2⟩)))
theorem d_setOwn (i : Nat) {x : Str} {mc : M Cell} {pos' : Pos} (hN : X.N.Nodup) (he : PFD X B E e mc) (hi : X.N[i]? = some x := by rfl) (hx : Loc X.env.scope x := by first | exact .inl rfl | exact .inr rfl) (hs : swapsWith e (some (.Name x pos')) pos.line X.env = pure false := by rfl)
    (hf : X.fn x = true ∨ X.env.scope.names.lookup x = some .local := by first | exact .inl rfl | exact .inr rfl | assumption) : PSD X B E (.Assign [.Name x pos'] e pos) (sOwn i mc) := by
  obtain ⟨t1, p1, s1⟩ := he
  refine ⟨_, ps_set hN hi hx p1 hs hf, fun z σ H L N R h => ?_⟩
  refine s1 z σ H L _ R ?_
  unfold sOwn at h
  generalize mc z = r at h ⊢
  match r, h with
  | .ok c z1, h =>
    intro v H1 L1 R1 g1 ⟨p, e, F, hp⟩
    subst e
    refine h _ _ _ (Rel.set_own F) ⟨fun a o q n nb => ?_, g1.pre, g1.dom⟩
    obtain ⟨q1, n1⟩ := g1.keep a o q n nb
    refine ⟨q1, fun x => ?_⟩
    rcases ex_add.mp (ex_set_own a x) with h | h
    · exact n1 h
    · rw [h, hp] at q; cases q
  | .err x z1, h => exact fun cls dd H1 L1 R1 g1 => h cls dd σ H1 L1 R1 g1
  | .bad, h => exact h
theorem d_set (i : Nat) {x : Str} {pos' : Pos} (hN : X.N.Nodup) (he : PXD X B E e md) (hi : X.N[i]? = some x := by rfl) (hx : Loc X.env.scope x := by first | exact .inl rfl | exact .inr rfl) (hs : swapsWith e (some (.Name x pos')) pos.line X.env = pure false := by rfl)
    (hf : X.fn x = true ∨ X.env.scope.names.lookup x = some .local := by first | exact .inl rfl | exact .inr rfl | assumption) : PSD X B E (.Assign [.Name x pos'] e pos) (sAsg md (gN i)) := by
  obtain ⟨t1, p1, s1⟩ := he
  refine ⟨_, ps_set hN hi hx p1 hs hf, fun z σ H L N R h => ?_⟩
  refine s1 z σ H L _ R (AftE.bindS h fun d z1 v H1 L1 R1 g1 h1 k1 => ?_)
  exact k1 _ _ _ (R1.set_val h1) grow_set_val
theorem d_ret (he : PXD X B E e md) : PSD X B E (.Return (some e) pos) (sRet md) := by
  obtain ⟨t1, p1, s1⟩ := he
  refine ⟨_, ps_ret p1, fun z σ H L N R h => ?_⟩
  exact s1 z σ H L _ R (AftE.bindS h fun d z1 v H1 L1 R1 g1 h1 k1 => AftS.ret R1 k1 h1)
theorem d_retN : PSD X B E (.Return none pos) (fun z => .rt .non z) := ⟨_, ps_retN, fun z σ H L N R h => AftS.ret R h (by simp [Imm])⟩
theorem d_expr (he : PED X B E e m) (hs : swapsWith e none pos.line X.env = pure false := by rfl) : PSD X B E (.Expr e pos) (sExpr m) := by
  obtain ⟨t1, p1, s1⟩ := he
  refine ⟨_, ps_expr p1 hs, fun z σ H L N R h => ?_⟩
  exact s1 z σ H L _ R (AftE.bindS h fun d z1 v H1 L1 R1 g1 h1 k1 => k1 σ H1 L1 R1 Grow.refl)
theorem d_doc {x j} {pos' : Pos} : PSD X B E (.Expr (.Constant (.str x) j pos) pos') sNx := ⟨_, ps_doc, fun z σ H L N R h => h σ H L R Grow.refl⟩
theorem d_pass : PSD X B E (.Pass pos) sNx := ⟨_, ps_pass, fun z σ H L N R h => h σ H L R Grow.refl⟩
theorem d_break : PSD X B E (.Break pos) (fun z => .bk z) := ⟨_, ps_break, fun z σ H L N R h => h σ H L R Grow.refl⟩
theorem d_continue : PSD X B E (.Continue pos) (fun z => .ct z) := ⟨_, ps_continue, fun z σ H L N R h => h σ H L R Grow.refl⟩
theorem d_if {c : Expr} {mc : M Bool} {s1 s2 : List Stmt} {m1 m2 : MS} (hc : PTD X B E c mc) (h1 : PSsD X B E s1 m1) (h2 : PSsD X B E s2 m2) : PSD X B E (.If c s1 s2 pos) (sIf mc m1 m2) := by
  obtain ⟨tc, pc, sc⟩ := hc
  obtain ⟨t1, p1, q1⟩ := h1
  obtain ⟨t2, p2, q2⟩ := h2
  refine ⟨_, ps_if pc p1 p2, fun z σ H L N R h => ?_⟩
  refine sc z σ H L _ R (AftE.bindS h fun c z1 v H1 L1 R1 g1 h1 k1 => ?_)
  cases h1
  cases c with
  | true => rw [if_pos rfl]; exact q1 z1 σ H1 L1 N R1 k1
  | false => rw [if_neg (by decide)]; exact q2 z1 σ H1 L1 N R1 k1
/-! ### x op= e -/
def sAug (i : Nat) (m : M D) (f : W → W → M W) : MS := fun z => (mV i z).bindS fun x _ => (m z).bindS fun y z1 => (f x (.d y) z1).bindS fun w z2 => match w with
  | .d d => .nx (z2.set i (.val d))
  | .own _ => .bad
theorem d_aug (i : Nat) {x : Str} {pos' : Pos} {op : Operator} {r : R2} {f : W → W → M W} (hN : X.N.Nodup) (ho : OpR X (inplaceOp op) r) (hf : OpS B E r f) (he : PXD X B E e md) (hi : X.N[i]? = some x := by rfl) (hx : Loc X.env.scope x := by first | exact .inl rfl | exact .inr rfl)
    (hfx : X.fn x = true ∨ X.env.scope.names.lookup x = some .local := by first | exact .inl rfl | exact .inr rfl | assumption) : PSD X B E (.AugAssign (.Name x pos') op e pos) (sAug i md f) := by
  obtain ⟨t1, p1, s1⟩ := he
  refine ⟨_, ps_aug hN hi hx p1 ho hfx, fun z σ H L N R h => ?_⟩
  have s := R.slot i
  unfold sAug mV at h
  generalize z.sl[i]? = o at h s
  generalize hσ : σ[i]? = q at s
  match o, q, s with
  | some (.val d), some (some v), s =>
    refine ⟨v, hσ, ?_⟩
    refine s1 z σ H L _ R (AftE.bindS h fun y z1 vy H1 L1 R1 g1 h1 k1 => ?_)
    refine hf z1 σ H1 L1 _ (.d d) (.d y) v vy R1 (Imm.stay g1 _ _ s) h1 (AftE.bindS k1 fun w z2 vw H2 L2 R2 g2 h2 k2 => ?_)
    cases w with
    | own _ => exact k2.elim
    | d d2 => exact k2 _ _ _ (R2.set_val h2) grow_set_val
  | some (.own c), some (some v), s =>
    refine ⟨v, hσ, ?_⟩
    refine s1 z σ H L _ R (AftE.bindS h fun y z1 vy H1 L1 R1 g1 h1 k1 => ?_)
    refine hf z1 σ H1 L1 _ (.own i) (.d y) v vy R1 hσ h1 (AftE.bindS k1 fun w z2 vw H2 L2 R2 g2 h2 k2 => ?_)
    cases w with
    | own _ => exact k2.elim
    | d d2 => exact k2 _ _ _ (R2.set_val h2) grow_set_val
  | some (.brw c), some (some v), s =>
    refine ⟨v, hσ, ?_⟩
    refine s1 z σ H L _ R (AftE.bindS h fun y z1 vy H1 L1 R1 g1 h1 k1 => ?_)
    refine hf z1 σ H1 L1 _ (.own i) (.d y) v vy R1 hσ h1 (AftE.bindS k1 fun w z2 vw H2 L2 R2 g2 h2 k2 => ?_)
    cases w with
    | own _ => exact k2.elim
    | d d2 => exact k2 _ _ _ (R2.set_val h2) grow_set_val
  | some (.exn c), some (some v), s =>
    refine ⟨v, hσ, ?_⟩
    refine s1 z σ H L _ R (AftE.bindS h fun y z1 vy H1 L1 R1 g1 h1 k1 => ?_)
    refine hf z1 σ H1 L1 _ (.own i) (.d y) v vy R1 hσ h1 (AftE.bindS k1 fun w z2 vw H2 L2 R2 g2 h2 k2 => ?_)
    cases w with
    | own _ => exact k2.elim
    | d d2 => exact k2 _ _ _ (R2.set_val h2) grow_set_val
  | some .un, _, _ => exact h.elim
  | none, _, _ => exact h.elim
def fAddI : W → W → M W := fOr addI addS
theorem d_augAdd (i : Nat) {x : Str} {pos' : Pos} (hN : X.N.Nodup) (he : PXD X B E e md) (hi : X.N[i]? = some x := by rfl) (hx : Loc X.env.scope x := by first | exact .inl rfl | exact .inr rfl)
    (hfx : X.fn x = true ∨ X.env.scope.names.lookup x = some .local := by first | exact .inl rfl | exact .inr rfl | assumption) : PSD X B E (.AugAssign (.Name x pos') .Add e pos) (sAug i md fAddI) :=
  d_aug i hN (iop_add.or iop_add_str) (opS_addI.or opS_addS) he hi hx hfx
theorem d_augSub (i : Nat) {x : Str} {pos' : Pos} (hN : X.N.Nodup) (he : PXD X B E e md) (hi : X.N[i]? = some x := by rfl) (hx : Loc X.env.scope x := by first | exact .inl rfl | exact .inr rfl)
    (hfx : X.fn x = true ∨ X.env.scope.names.lookup x = some .local := by first | exact .inl rfl | exact .inr rfl | assumption) : PSD X B E (.AugAssign (.Name x pos') .Sub e pos) (sAug i md fSub) :=
  d_aug i hN iop_sub (opS_I0 fun _ _ _ _ _ _ => vr_int') he hi hx hfx
/-! ### o[i] = e -/
def setItemZ (z : Z) (o : W) (i : W) (d : D) : Option Z := match i, z.mut o with
  | .d (.int k), some (.lst xs) => match ixN xs.length k with
    | some j => some (z.put o (.lst (xs.set j d)))
    | none => none
  | _, _ => none
def gSubD (mo mi : M W) (d : D) : M Unit := fun z => (mo z).bind fun o z1 => (mi z1).bind fun i z2 => match setItemZ z2 o i d with
  | some z3 => .ok () z3
  | none => .bad
theorem AftG.bind {α υ : Type} {vr : Z → Hp → List Addr → υ → α → Prop} {r : R α} {f : α → M Unit} {Q : St → Hp → Prop} {Q1 : υ → Hp → Prop}
    (h : AftG B z σ H L Q (r.bind f)) (hq : ∀ d z1 v H1 L1, Rel B z1 σ H1 L1 → G B z σ L H z1 σ L1 H1 → vr z1 H1 L1 v d → AftG B z1 σ H1 L1 Q (f d z1) → Q1 v H1) :
    AftE B E vr z σ H L Q1 r := by
  cases r with
  | ok d z1 => exact fun v H1 L1 R1 g hv => hq d z1 v H1 L1 R1 g hv (AftG.from g h)
  | err x S => exact h.elim
  | bad => exact h.elim
theorem dg_sub {o i : Expr} {mo mi : M W} (ho : PED X B E o mo) (hi : PED X B E i mi)
    (ha : ∀ v, assign (.Subscript o i pos) X.env v = (do
      let ov ← holding [v] (eval o X.env)
      let iv ← holding [v, ov] (eval i X.env)
      standAt pos
      holding [v, ov, iv] (setItem ov iv v)
      release [v, ov, iv] []) := by intro _; rfl) : PGD X B (.Subscript o i pos) (gSubD mo mi) := by
  obtain ⟨t1, p1, s1⟩ := ho
  obtain ⟨t2, p2, s2⟩ := hi
  refine ⟨_, pg_sub p1 p2 set_list ha, fun z σ H L v d Q R hv h => ?_⟩
  refine s1 z σ H L _ R (AftG.bind h fun x z1 vx H1 L1 R1 g1 h1 k1 => ?_)
  refine s2 z1 σ H1 L1 _ R1 (AftG.bind k1 fun y z2 vy H2 L2 R2 g2 h2 k2 => ?_)
  have hd := Imm.stay g2 _ _ (Imm.stay g1 _ _ hv)
  have hx := VRel.stay g2 h1
  generalize e : setItemZ z2 x y d = o at k2
  match o, k2 with
  | some z3, k2 =>
    unfold setItemZ at e
    split at e
    · rename_i k xs e2
      split at e
      · rename_i j ej
        cases e
        obtain ⟨p, rfl, ⟨vs, hp, im⟩, ex, up⟩ := R2.write hx e2
        have u := up (.lst (xs.set j d)) (.lst (vs.set j v)) ⟨_, upd_same, ImmL.stay (grow_upd ex) _ _ (ImmL.set hd j im)⟩
        exact ⟨p, vs, k, j, rfl, vr_int h2, hp, by rw [im.length]; exact ej, k2 _ _ _ u.1 u.2⟩
      · cases e
    · cases e
end
/-! ### while -/
/-- at most f turns -/
def whileGo (c : M Bool) (b : MS) : Nat → MS
  | 0, _ => .bad
  | f + 1, z => (c z).bindS fun k z1 => if k then match b z1 with
      | .nx z2 => whileGo c b f z2
      | .ct z2 => whileGo c b f z2
      | .bk z2 => .nx z2
      | .rt d z2 => .rt d z2
      | .err x S => .err x S
      | .bad => .bad
    else .nx z1
/-- more turns than any loop of ours takes -/
def Fuel : Nat := 2 ^ 80
def sWhile (c : M Bool) (b : MS) : MS := whileGo c b Fuel
/-! ### for over data -/
def forGo (g : D → M Unit) (b : MS) : List D → MS
  | [], z => .nx z
  | d :: ds, z => match g d z with
    | .ok _ z1 => match b z1 with
      | .nx z2 => forGo g b ds z2
      | .ct z2 => forGo g b ds z2
      | .bk z2 => .nx z2
      | .rt d z2 => .rt d z2
      | .err x S => .err x S
      | .bad => .bad
    | _ => .bad
/-- an iterator that yields the data ds, whatever stands meanwhile -/
structure ItD (K : Fr) (C : Cl) (L : List Addr) (Ee : Addr → Prop) (H : Hp) (J : It) (ds : List D) : Prop where
  go : ∀ (i : Nat) d (B1 : Bs) z1 σ1 H1 L1, B1.K = K → B1.C = C → ds[i]? = some d → Rel B1 z1 σ1 H1 L1 → Grow L Ee H L1 (Ex B1 z1 σ1 L1) H1 → J.go i H1 ∧ ∀ v H2, J.yld i H1 v H2 → Same H1 H2 ∧ Imm K C L1 (Ex B1 z1 σ1 L1) H2 v d
  stop : ∀ (B1 : Bs) z1 σ1 H1 L1, B1.K = K → Rel B1 z1 σ1 H1 L1 → Grow L Ee H L1 (Ex B1 z1 σ1 L1) H1 → J.stop ds.length H1
structure PID (X : Cx) (B : Bs) (E : WX) (tg it : Expr) (m : M (List D)) : Prop where
  ex : ∃ w, PI X tg it w ∧ ∀ z σ H L (Q : It → Hp → Prop), Rel B z σ H L → AftE B E (fun z' H' L' (J : It) ds => ItD B.K B.C L' (Ex B z' σ L') H' J ds) z σ H L Q (m z) → w σ H Q
def sFor (m : M (List D)) (g : D → M Unit) (b : MS) : MS := fun z => (m z).bindS fun ds z1 => forGo g b ds z1
section
variable {X : Cx} {B : Bs} {E : WX} {e a b : Expr} {es : List Expr} {pos : Pos} {m : M W} {md : M D} {ms : MS} {z z' : Z} {σ σ' : St} {H H' : Hp} {L L' : List Addr} {st : Stmt} {rest : List Stmt}
/-- the state of a loop that has the rest r to do: what is known of it -/
def LoopAt (B : Bs) (E : WX) (z0 : Z) (σ0 : St) (H0 : Hp) (L0 : List Addr) (N : Ends) (k : MS) (σ : St) (H : Hp) : Prop :=
  ∃ z L, Rel B z σ H L ∧ G B z0 σ0 L0 H0 z σ L H ∧ AftS B E z σ H L N (k z)
/-- a turn's end -/
def sTurn (r : RS) (k : MS) : RS := match r with
  | .nx z2 => k z2
  | .ct z2 => k z2
  | .bk z2 => .nx z2
  | .rt d z2 => .rt d z2
  | .err x S => .err x S
  | .bad => .bad
theorem AftS.loop {z0 : Z} {σ0 : St} {H0 : Hp} {L0 : List Addr} {N : Ends} {r : RS} {k : MS} (g0 : G B z0 σ0 L0 H0 z σ L H) (h : AftS B E z σ H L N (sTurn r k)) :
    AftS B E z σ H L { nx := LoopAt B E z0 σ0 H0 L0 N k, rt := N.rt, bk := N.nx, ct := LoopAt B E z0 σ0 H0 L0 N k } r := by
  match r, h with
  | .nx z2, h => exact fun σ H L R g => ⟨z2, L, R, g0.trans g, AftS.from g h⟩
  | .ct z2, h => exact fun σ H L R g => ⟨z2, L, R, g0.trans g, AftS.from g h⟩
  | .bk z2, h => exact h
  | .rt d z2, h => exact h
  | .err x S, h => exact h
  | .bad, h => exact h
theorem d_while {c : Expr} {mc : M Bool} {body : List Stmt} (hp : PassesOwn (model X.prog X.w) X.A X.env X.xe) (hc : PTD X B E c mc) (hb : PSsD X B E body ms) : PSD X B E (.While c body [] pos) (sWhile mc ms) := by
  obtain ⟨tc, pc, sc⟩ := hc
  obtain ⟨tb, pb, sb⟩ := hb
  refine ⟨_, ps_while hp pc pb, fun z σ H L N R h => ?_⟩
  refine ⟨fun f σ1 H1 => LoopAt B E z σ H L N (whileGo mc ms f) σ1 H1, ⟨Fuel, z, L, R, Grow.refl, h⟩, ?_⟩
  rintro f σ1 H1 ⟨z1, L1, R1, g1, h1⟩
  cases f with
  | zero => exact h1.elim
  | succ f =>
    refine sc z1 σ1 H1 L1 _ R1 (AftE.bindS h1 fun c z2 v H2 L2 R2 g2 h2 k2 => ?_)
    cases h2
    cases c with
    | false => rw [if_neg (by decide)]; exact k2 σ1 H2 L2 R2 Grow.refl
    | true =>
      rw [if_pos rfl]
      refine ⟨LoopAt B E z σ H L N (whileGo mc ms f), fun σ' H' q => ⟨f, Nat.lt_succ_self f, q⟩, ?_⟩
      refine sb z2 σ1 H2 L2 _ R2 (AftS.loop (g1.trans g2) ?_)
      have k2' : AftS B E z2 σ1 H2 L2 N (if true = true then (match ms z2 with
        | .nx z2 => whileGo mc ms f z2
        | .ct z2 => whileGo mc ms f z2
        | .bk z2 => .nx z2
        | .rt d z2 => .rt d z2
        | .err x S => .err x S
        | .bad => .bad) else .nx z2) := k2
      rw [if_pos rfl] at k2'
      unfold sTurn
      exact k2'
theorem d_for {tg it : Expr} {body : List Stmt} {mi : M (List D)} {g : D → M Unit} (P : Plc X B E) (hp : PassesOwn (model X.prog X.w) X.A X.env X.xe) (hi : PID X B E tg it mi) (hg : PGD X B tg g) (hb : PSsD X B E body ms)
    (hs : ∀ x, foldedSetIterable it X.env x = pure x := by intro _; rfl) : PSD X B E (.For tg it body [] pos) (sFor mi g ms) := by
  obtain ⟨ti, pi, si⟩ := hi
  obtain ⟨tg', pg, sg⟩ := hg
  obtain ⟨tb, pb, sb⟩ := hb
  refine ⟨_, ps_for hp P.calm pi pg pb hs, fun z σ H L N R h => ?_⟩
  refine si z σ H L _ R (AftE.bindS h fun ds z1 J H1 L1 R1 g1 hJ k1 => ?_)
  refine ⟨fun i m σ2 H2 => m = ds.length - i ∧ i ≤ ds.length ∧ LoopAt B E z1 σ H1 L1 N (forGo g ms (ds.drop i)) σ2 H2, ⟨ds.length, rfl, Nat.zero_le _, z1, L1, R1, Grow.refl, by simpa using k1⟩, ?_⟩
  rintro i m σ2 H2 ⟨rfl, hil, z2, L2, R2, g2, h2⟩
  by_cases hl : i = ds.length
  · subst hl
    rw [List.drop_length] at h2
    exact .inl ⟨hJ.stop B z2 σ2 H2 L2 rfl R2 g2, h2 σ2 H2 L2 R2 Grow.refl⟩
  · have hlt : i < ds.length := by omega
    have ed : ds.drop i = ds[i] :: ds.drop (i + 1) := List.drop_eq_getElem_cons hlt
    rw [ed] at h2
    obtain ⟨jg, jy⟩ := hJ.go i ds[i] B z2 σ2 H2 L2 rfl rfl (List.getElem?_eq_getElem hlt) R2 g2
    refine .inr ⟨jg, fun σ3 H3 => i + 1 ≤ ds.length ∧ LoopAt B E z1 σ H1 L1 N (forGo g ms (ds.drop (i + 1))) σ3 H3, fun σ3 H3 q => ⟨ds.length - (i + 1), by omega, rfl, q.1, q.2⟩, fun v H3 hy => ?_⟩
    obtain ⟨sm, im⟩ := jy v H3 hy
    have R3 := R2.same sm
    have g3 : G B z2 σ2 L2 H2 z2 σ2 L2 H3 := Grow.same sm
    unfold forGo at h2
    refine sg z2 σ2 H3 L2 v ds[i] _ R3 im ?_
    generalize eg : g ds[i] z2 = r at h2
    match r, h2 with
    | .ok _ z4, h2 =>
      intro σ4 H4 L4 R4 g4
      have h2' : AftS B E z2 σ2 H2 L2 N (sTurn (ms z4) (forGo g ms (ds.drop (i + 1)))) := h2
      have h4 : AftS B E z4 σ4 H4 L4 N (sTurn (ms z4) (forGo g ms (ds.drop (i + 1)))) := AftS.from (g3.trans g4) h2'
      have q := AftS.loop (g2.trans (g3.trans g4)) h4
      refine sb z4 σ4 H4 L4 _ R4 ?_
      generalize ms z4 = r4 at q ⊢
      match r4, q with
      | .nx z5, q => exact fun σ H L R g => ⟨hlt, q σ H L R g⟩
      | .ct z5, q => exact fun σ H L R g => ⟨hlt, q σ H L R g⟩
      | .bk z5, q => exact q
      | .rt d z5, q => exact q
      | .err x S, q => exact q
      | .bad, q => exact q
    | .err x S, h2 => exact h2.elim
    | .bad, h2 => exact h2.elim
end
end DL
set_option Elab.async false
set_option linter.all false
set_option maxRecDepth 100000
namespace DL
open PySem PySem.Spec L2
abbrev envOfC := @PyProof.Rows.envOfC
def ArgRel (K : Fr) (C : Cl) (L : List Addr) (E : Addr → Prop) (H : Hp) (xs : Xs) : List V → List Sl → Prop
  | [], [] => True
  | v :: vs, .val d :: as => Imm K C L E H v d ∧ ArgRel K C L E H xs vs as
  | v :: vs, .exn x :: as => ExSl K C L E H xs v x ∧ ArgRel K C L E H xs vs as
  | v :: vs, .brw c :: as => (∃ a, v = .ref a ∧ ReadRel K C L E H a c ∧ E a ∧ a ∉ L) ∧ ArgRel K C L E H xs vs as
  | _, _ => False
/-- what is to be known behind a call -/
def AftF (K : Fr) (C : Cl) (E : Addr → Prop) (H : Hp) (L : List Addr) (Q : VK) (X : XK) : RF → Prop
  | .ok d S => ∀ v H' L', Back ⟨K, C, E, H, L, E, none⟩ S H' L' → Imm K C L' (fun a => E a ∨ a ∈ L') H' v d → Q v H'
  | .err x S => ∀ cls dd H' L', Back ⟨K, C, E, H, L, E, none⟩ S H' L' → ExnRel K C L' (fun a => E a ∨ a ∈ L') H' x cls dd → X cls dd H'
  | .bad => False
/-- the promise of a def that means m -/
def spD (K : Fr) (C : Cl) (xs : Xs) (n : Nat) (m : MF) : Sp := fun vs H Q X =>
  ∃ (L : List Addr) (E : Addr → Prop) (S : List Cell) (as : List Sl), vs.length = n ∧ as.length = n ∧ StRel K C L E H S ∧ ((∀ a, E a → Here H a) ∧ LamX.Tabs C.T H) ∧ ArgRel K C L E H xs vs as ∧ AftF K C E H L Q X (m as S)
/-- a body as a def's meaning: n slots -/
def fnM (n : Nat) (mb : MS) : MF := fun as S => match mb ⟨as ++ List.replicate (n - as.length) .un, S⟩ with
  | .nx z => .ok .non z.st
  | .rt d z => .ok d z.st
  | .err x z => .err x z.st
  | _ => .bad
theorem ExnRel.weak {K : Fr} {C : Cl} {L : List Addr} {E E' : Addr → Prop} {H : Hp} {x : Exn} {cls : Value} {dd : Option Addr} (sub : ∀ a, E' a → E a) (h : ExnRel K C L E H x cls dd) : ExnRel K C L E' H x cls dd := by
  have g : Grow L E H L E' H := ⟨fun b o e n _ => ⟨e, fun x => n (sub b x)⟩, fun _ _ h => h, fun _ h => h⟩
  obtain ⟨A, vs, h1, h2, h3, h4⟩ := h
  exact ⟨A, vs, h1, h2, g.xd h3, ImmF.stay g _ _ h4⟩
theorem StRel.weak {K : Fr} {C : Cl} {L : List Addr} {E E' : Addr → Prop} {H : Hp} {S : List Cell} (h : StRel K C L E H S) (sub : ∀ a, E' a → E a) (ex : ∀ a ∈ L, E' a) : StRel K C L E' H S :=
  ⟨h.len, h.nd, ex, fun n a c h1 h2 => (h.at_ n a c h1 h2).stay (⟨fun b o e n _ => ⟨e, fun x => n (sub b x)⟩, fun _ _ h => h, fun _ h => h⟩ : Grow L E H L E' H) fun _ h => h⟩
section
variable {B : Bs} {z z' : Z} {σ σ' : St} {H H' : Hp} {L L' : List Addr}
theorem Rel.back (R : Rel B z σ H L) : Back B z.st H L :=
  ⟨R.st.weak (fun a h => h.imp id .inl) (fun a h => .inr h), R.pre, R.newc, R.frame, fun a h => R.exd a (h.imp id .inl), R.tab⟩
theorem ArgRel.get {K : Fr} {C : Cl} {E : Addr → Prop} {xs : Xs} : ∀ {vs : List V} {as : List Sl} (i : Nat), ArgRel K C L E H xs vs as → SlRel K C L E H E xs (as[i]?) ((vs.map some)[i]?)
  | [], [], i, _ => by simp [SlRel]
  | v :: vs, .val d :: as, 0, h => by simpa [SlRel] using h.1
  | v :: vs, .val d :: as, i + 1, h => by simpa using ArgRel.get i h.2
  | v :: vs, .brw c :: as, 0, h => by simpa [SlRel] using h.1
  | v :: vs, .brw c :: as, i + 1, h => by simpa using ArgRel.get i h.2
  | v :: vs, .exn c :: as, 0, h => by simpa [SlRel] using h.1
  | v :: vs, .exn c :: as, i + 1, h => by simpa using ArgRel.get i h.2
  | [], _ :: _, _, h => h.elim
  | _ :: _, [], _, h => h.elim
  | _ :: _, .un :: _, _, h => h.elim
  | _ :: _, .own _ :: _, _, h => h.elim
theorem ArgRel.notOwn {K : Fr} {C : Cl} {E : Addr → Prop} {xs : Xs} : ∀ {vs : List V} {as : List Sl} (i : Nat) (c : Cell), ArgRel K C L E H xs vs as → as[i]? ≠ some (.own c)
  | [], [], i, _, _ => by simp
  | v :: vs, .val d :: as, 0, _, h => by simp
  | v :: vs, .val d :: as, i + 1, c, h => by simpa using ArgRel.notOwn i c h.2
  | v :: vs, .brw _ :: as, 0, _, h => by simp
  | v :: vs, .brw _ :: as, i + 1, c, h => by simpa using ArgRel.notOwn i c h.2
  | v :: vs, .exn _ :: as, 0, _, h => by simp
  | v :: vs, .exn _ :: as, i + 1, c, h => by simpa using ArgRel.notOwn i c h.2
  | [], _ :: _, _, _, h => h.elim
  | _ :: _, [], _, _, h => h.elim
  | _ :: _, .un :: _, _, _, h => h.elim
  | _ :: _, .own _ :: _, _, _, h => h.elim
/-- the entry of a def -/
theorem Rel.entry {K : Fr} {C : Cl} {E : Addr → Prop} {xs : Xs} {S : List Cell} {N : List Str} {vs : List V} {as : List Sl} (hl : vs.length = as.length) (st : StRel K C L E H S) (exd : (∀ a, E a → Here H a) ∧ LamX.Tabs C.T H) (ar : ArgRel K C L E H xs vs as) :
    Rel ⟨K, C, E, H, L, E, xs⟩ ⟨as ++ List.replicate (N.length - as.length) .un, S⟩ (start N vs) H L := by
  have no : ∀ i a, ¬ OwnAt (⟨as ++ List.replicate (N.length - as.length) .un, S⟩ : Z) (start N vs) i a := fun i a ⟨⟨c, h⟩, _⟩ => by
    simp only [List.getElem?_append] at h
    split at h
    · exact ArgRel.notOwn i c ar h
    · simp [List.getElem?_replicate] at h
  have exs : ∀ a, Ex ⟨K, C, E, H, L, E, xs⟩ ⟨as ++ List.replicate (N.length - as.length) .un, S⟩ (start N vs) L a ↔ E a := fun a =>
    ⟨fun h => h.elim id fun h => h.elim (st.ex a) fun ⟨i, o⟩ => (no i a o).elim, .inl⟩
  have exe : Ex ⟨K, C, E, H, L, E, xs⟩ ⟨as ++ List.replicate (N.length - as.length) .un, S⟩ (start N vs) L = E := funext fun a => propext (exs a)
  refine ⟨fun i => ?_, fun i j a o => (no i a o).elim, fun i a o => (no i a o).elim, by rw [exe]; exact st, fun _ _ h => h, fun _ h => .inl h, fun _ _ h _ _ => h, by rw [exe]; exact exd.1, fun _ h => h, ⟨exd.2, fun a ps h => ⟨ps, h⟩⟩⟩
  rw [exe]
  have q := ArgRel.get i ar
  show SlRel K C L E H E xs ((as ++ List.replicate (N.length - as.length) .un)[i]?) ((vs.map some ++ List.replicate (N.length - vs.length) none)[i]?)
  by_cases h : i < as.length
  · rw [List.getElem?_append_left h, List.getElem?_append_left (by simpa [hl] using h)]
    exact q
  · rw [List.getElem?_append_right (by omega), List.getElem?_append_right (by simp [hl]; omega), List.length_map, hl]
    simp only [List.getElem?_replicate]
    split
    · trivial
    · trivial
end
section
variable {P : Program} {w : World} {K : Fr} {mg : Str → Option Value} {base : Heap} {C : Cl}
/-- a def of the text that may raise: its body -/
theorem okN {x qual : Str} {st : Stmt} {f : Addr} {fd : FuncData} {N ps : List Str} {k : Nat} {sp : Sp} (F : Fun K x qual st f fd) (S : FnScope N ps (defScope st)) (len : ∀ vs H Q E, sp vs H Q E → vs.length = ps.length)
    (hbody : ∀ (cdv : Value) (A : Around) (outer : List Env) (s : Shared) (H : Hp) (vs : List V) (Q : VK) (E : XK), Room k (A.deeper (envOfC qual (defScope st) s.heap.objs.size f cdv)) → sp vs H Q E →
      ∃ t, PSs (cxOf (L2N.CX P w) P w K mg base N qual (defScope st) f cdv A outer s H E) (defBody st) t ∧ t { nx := fun _ H' => Q .non H', rt := Q } (start N vs) H) : FnOk P w K mg base (L2N.CX P w) (k + 1) f fd ps sp := by
  obtain ⟨oc, od, kV, doc, pm, an, cdv, ct, osl, rfl, lk, hcd⟩ := F.ex
  exact fn_of lk hcd S len fun A outer s H vs Q E hr hsp => hbody cdv A outer s H vs Q E hr hsp
/-- THE RULE of a def: its body's meaning -/
theorem fn_D {x qual : Str} {st : Stmt} {f : Addr} {fd : FuncData} {N ps : List Str} {k : Nat} {mb : MS} (F : Fun K x qual st f fd) (S : FnScope N ps (defScope st)) (hC : ∀ c A, C c = some A → mg c = some (.ref A))
    (hbody : ∀ (cdv : Value) (A : Around) (outer : List Env) (s : Shared) (H : Hp) (E : XK) (B : Bs), B.C = C → B.xs = none → Room k (A.deeper (envOfC qual (defScope st) s.heap.objs.size f cdv)) →
      Plc (cxOf (L2N.CX P w) P w K mg base N qual (defScope st) f cdv A outer s H E) B (fun cls d _ H => E cls d H) → PassesOwn (model P w) (A.deeper (envOfC qual (defScope st) s.heap.objs.size f cdv)) (envOfC qual (defScope st) s.heap.objs.size f cdv) (cxOf (L2N.CX P w) P w K mg base N qual (defScope st) f cdv A outer s H E).xe →
      PSsD (cxOf (L2N.CX P w) P w K mg base N qual (defScope st) f cdv A outer s H E) B (fun cls d _ H => E cls d H) (defBody st) mb) :
    FnOk P w K mg base (L2N.CX P w) (k + 1) f fd ps (spD K C none ps.length (fnM N.length mb)) := by
  refine okN F S (fun vs H Q E h => ?_) (fun cdv A outer s H vs Q E hr h => ?_)
  · obtain ⟨_, _, _, _, h, _⟩ := h
    exact h
  · obtain ⟨L, E', S', as, h1, h2, st', exd, ar, h⟩ := h
    have tk : L2N.Takes (cxOf (L2N.CX P w) P w K mg base N qual (defScope st) f cdv A outer s H E) (fun cls d _ H => E cls d H) := L2N.takes_of rfl rfl rfl rfl
    obtain ⟨t, p, sm⟩ := hbody cdv A outer s H E ⟨K, C, E', H, L, E', none⟩ rfl rfl hr ⟨⟨rfl, by have := hr.un; show _ < _; exact Nat.lt_of_le_of_lt (by show A.units + 3 + 66 ≤ A.units + 3 + 16 * k + 200; omega) this, tk, hC, fun _ _ _ h => nomatch h⟩, rfl⟩ (passes_of rfl)
    refine ⟨t, p, ?_⟩
    refine sm ⟨as ++ List.replicate (N.length - as.length) .un, S'⟩ (start N vs) H L _ (Rel.entry (by rw [h1, h2]) st' exd ar) ?_
    unfold fnM at h
    generalize mb ⟨as ++ List.replicate (N.length - as.length) .un, S'⟩ = r at h ⊢
    match r, h with
    | .nx z, h => exact fun σ H' L' R g => h .non H' L' R.back (by simp [Imm])
    | .rt d z, h => exact fun v σ H' L' R q => h v H' L' R.back q
    | .err x z, h => exact fun cls dd σ H' L' R g q => h cls dd H' L' R.back (ExnRel.weak (fun a h => h.imp id .inl) q)
    | .bad, h => exact h.elim
    | .bk _, h => exact h.elim
    | .ct _, h => exact h.elim
/-- a def of the text, by its name, that means m -/
structure FD (P : Program) (w : World) (K : Fr) (mg : Str → Option Value) (base : Heap) (C : Cl) (k : Nat) (x : Str) (n : Nat) (m : MF) : Prop where
  ex : ∃ f fd ps, FnOk P w K mg base (L2N.CX P w) k f fd ps (spD K C none n m) ∧ mg x = some (.ref f) ∧ PySem.W.keepIn K (.ref f) = true ∧ Binds K fd ps []
theorem FD.mono {j k n : Nat} {x : Str} {m : MF} (F : FD P w K mg base C j x n m) (h : j ≤ k) : FD P w K mg base C k x n m :=
  let ⟨f, fd, ps, h1, h2⟩ := F; ⟨f, fd, ps, h1.mono h, h2⟩
/-- a plainer meaning: where it says something, m says it too -/
theorem FD.imp {k n : Nat} {x : Str} {m m' : MF} (F : FD P w K mg base C k x n m) (h : ∀ as S, as.length = n → m' as S ≠ .bad → m as S = m' as S) : FD P w K mg base C k x n m' := by
  obtain ⟨f, fd, ps, h1, h2⟩ := F
  refine ⟨f, fd, ps, h1.imp fun vs H Q E ⟨L, E', S, as, q1, q2, q3, q4, q5, q6⟩ => ⟨L, E', S, as, q1, q2, q3, q4, q5, ?_⟩, h2⟩
  rw [h as S q2 (fun e => by rw [e] at q6; exact q6)]
  exact q6
end
/-! ### calls -/
def toArg (z : Z) : W → Option Sl
  | .d d => some (.val d)
  | .own i => match z.sl[i]? with
    | some (.own c) => some (.brw c)
    | some (.brw c) => some (.brw c)
    | _ => none
def toArgs (z : Z) : List W → Option (List Sl)
  | [] => some []
  | x :: xs => match toArg z x, toArgs z xs with
    | some a, some as => some (a :: as)
    | _, _ => none
def callF (n : Nat) (m : MF) (xs : List W) : M D := fun z => if xs.length = n then match toArgs z xs with
  | some as => match m as z.st with
    | .ok d S => .ok d { z with st := S }
    | .err x S => .err x { z with st := S }
    | .bad => .bad
  | none => .bad
  else .bad
def mCall (n : Nat) (m : MF) (ws : M (List W)) : M D := fun z => (ws z).bind fun xs z1 => callF n m xs z1
section
variable {X : Cx} {B : Bs} {E : WX} {e : Expr} {es : List Expr} {p pos : Pos} {ws : M (List W)} {z z' : Z} {σ σ' : St} {H H' : Hp} {L L' : List Addr} {x : Str} {m : MF} {k n : Nat}
theorem args_of {ex : Xs} (R : Rel B z σ H L) : ∀ {vs : List V} {xs : List W} {as : List Sl}, vVs B σ z H L vs xs → toArgs z xs = some as → ArgRel B.K B.C L (Ex B z σ L) H ex vs as ∧ vs.length = as.length
  | [], [], as, _, e => by cases e; exact ⟨trivial, rfl⟩
  | v :: vs, x :: xs, as, h, e => by
    unfold toArgs at e
    split at e
    · rename_i a as' e1 e2
      cases e
      obtain ⟨q, l⟩ := args_of R h.2 e2
      cases x with
      | d d =>
        cases e1
        exact ⟨⟨h.1, q⟩, by simp [l]⟩
      | own i =>
        have hv : σ[i]? = some (some v) := h.1
        have s := R.slot i
        simp only [toArg] at e1
        rw [hv] at s
        generalize hz : z.sl[i]? = o at e1 s
        match o, e1, s with
        | some (.own c), e1, ⟨a, ea, r⟩ =>
          cases e1
          subst ea
          have ow : OwnAt z σ i a := ⟨⟨c, hz⟩, hv⟩
          exact ⟨⟨⟨a, rfl, r.read, .inr (.inr ⟨i, ow⟩), (R.new i a ow).2.1⟩, q⟩, by simp [l]⟩
        | some (.brw c), e1, ⟨a, ea, r, b1, b2⟩ =>
          cases e1
          exact ⟨⟨⟨a, ea, r, .inl (R.ae a b1), b2⟩, q⟩, by simp [l]⟩
        | some (.exn _), e1, _ => cases e1
        | some (.val _), e1, _ => cases e1
        | some .un, e1, _ => cases e1
        | none, e1, _ => cases e1
    · cases e
  | [], _ :: _, _, h, _ => h.elim
  | _ :: _, [], _, h, _ => h.elim
/-- behind a callee: our state again -/
theorem Rel.behind (R : Rel B z σ H L) {S : List Cell} (b : Back ⟨B.K, B.C, Ex B z σ L, H, L, Ex B z σ L, none⟩ S H' L') :
    Rel B { z with st := S } σ H' L' ∧ G B z σ L H { z with st := S } σ L' H' ∧ (∀ a, (Ex B z σ L a ∨ a ∈ L') ↔ Ex B { z with st := S } σ L' a) ∧ Back B S H' L' := by
  have sub : ∀ a ∈ L, a ∈ L' := fun a h => by
    obtain ⟨n, hn⟩ := List.getElem?_of_mem h
    exact List.mem_of_getElem? (b.pre n a hn)
  have exs : ∀ a, (Ex B z σ L a ∨ a ∈ L') ↔ Ex B { z with st := S } σ L' a := fun a => by
    constructor
    · rintro ((h | h | h) | h)
      · exact .inl h
      · exact .inr (.inl (sub a h))
      · exact .inr (.inr h)
      · exact .inr (.inl h)
    · rintro (h | h | h)
      · exact .inl (.inl h)
      · exact .inr h
      · exact .inl (.inr (.inr h))
  have exe : (fun a => Ex B z σ L a ∨ a ∈ L') = Ex B { z with st := S } σ L' := funext fun a => propext (exs a)
  have old : ∀ a o, H a = some o → a ∈ L' → a ∈ L := fun a o h h' => (b.newc a h').elim id fun q => by
    have q' : H a = none := q
    rw [q'] at h; cases h
  have fr : ∀ a o, H a = some o → a ∉ L → NB o → H' a = some o := b.frame
  have g : G B z σ L H { z with st := S } σ L' H' := ⟨fun a o h n nb => ⟨fr a o h (fun q => n (.inr (.inl q))) nb, fun q => ((exs a).mpr q).elim n fun q => n (.inr (.inl (old a o h q)))⟩, b.pre, fun a h => by
    by_cases q : a ∈ L
    · exact fun e => (b.exd a (.inr (sub a q))).ne e
    · cases e : H a with
      | none => exact absurd e h
      | some o => exact b.there a o e q⟩
  have n0 : ∀ a, H a = none → B.H0 a = none := fun a h => R.h0 h
  have newc : ∀ a ∈ L', a ∈ B.L0 ∨ B.H0 a = none := fun a h => (b.newc a h).elim (R.newc a) fun q => .inr (n0 a q)
  have frame : ∀ a o, B.H0 a = some o → a ∉ B.L0 → NB o → H' a = some o := fun a o h n nb => fr a o (R.frame a o h n nb) (fun q => (R.newc a q).elim n fun q => by rw [q] at h; cases h) nb
  have pre : ∀ (n : Nat) a, B.L0[n]? = some a → L'[n]? = some a := fun n a h => b.pre n a (R.pre n a h)
  have tab : TabR B.C.T B.H0 H' := ⟨b.tab.ok, fun a ps h => let ⟨qs, hq⟩ := R.tab.old a ps h; b.tab.old a qs hq⟩
  have st' : StRel B.K B.C L' (Ex B { z with st := S } σ L') H' S := by
    rw [← exe]
    exact b.st
  refine ⟨⟨fun i => ?_, R.inj, fun i a o => ?_, st', pre, newc, frame, fun a h => g_exd a h, R.ae, tab⟩, g, exs, ⟨st'.weak (fun a h => h.imp id .inl) (fun a h => .inr h), pre, newc, frame, fun a h => h.elim (fun h => b.exd a (.inl (.inl h))) fun h => b.exd a (.inr h), tab⟩⟩
  · have q := R.slot i
    show SlRel B.K B.C L' (Ex B { z with st := S } σ L') H' B.A B.xs (z.sl[i]?) (σ[i]?)
    generalize hz : z.sl[i]? = x at q ⊢
    generalize hs : σ[i]? = y at q ⊢
    match x, y, q, hz, hs with
    | some (.val d), some (some v), q, _, _ => exact Imm.stay g _ _ q
    | some (.own c), some (some v), ⟨a, e, q⟩, hz, hs =>
      exact ⟨a, e, q.stay g fun o h => fr a o h (R.new i a ⟨⟨c, hz⟩, by rw [hs, e]⟩).2.1 (by obtain ⟨u, hu, nu⟩ := q.nx; rw [h] at hu; cases hu; exact nu.nb)⟩
    | some (.brw c), some (some v), ⟨a, e, q, b1, b2⟩, _, _ =>
      refine ⟨a, e, q.stayB g fun o h => fr a o h b2, b1, fun h => ?_⟩
      cases eh : H a with
      | none => exact ((R.exd a (.inl (R.ae a b1))).ne eh).elim
      | some o => exact b2 (old a o eh h)
    | some (.exn x), some (some v), q, _, _ => exact ExSl.stay g q
    | some .un, some _, _, _, _ => trivial
    | none, none, _, _, _ => trivial
  · obtain ⟨n1, n2, n3⟩ := R.new i a o
    obtain ⟨c, _, q⟩ := OwnAt.cell R o
    obtain ⟨u, hu⟩ := q.some
    exact ⟨n1, fun h => n2 (old a u hu h), n3⟩
  where
    g_exd (a : Addr) (h : Ex B { z with st := S } σ L' a) : Here H' a := by
      rcases h with h | h | h
      · exact b.exd a (.inl (.inl h))
      · exact b.exd a (.inr h)
      · exact b.exd a (.inl (.inr (.inr h)))
theorem vVs.len {vs : List V} : ∀ {xs : List W}, vVs B σ z H L vs xs → vs.length = xs.length := by
  induction vs with
  | nil => intro xs h; cases xs with
    | nil => rfl
    | cons _ _ => exact h.elim
  | cons v vs ih => intro xs h; cases xs with
    | nil => exact h.elim
    | cons x xs => simp [ih h.2]
theorem callF_of {Q : VK} {vs : List V} {xs : List W} {n : Nat} (R : Rel B z σ H L) (hv : vVs B σ z H L vs xs) (h : AftE B E (vD B σ) z σ H L Q (callF n m xs z)) : spD B.K B.C none n m vs H Q (WE E σ) := by
  unfold callF at h
  split at h
  case isFalse => exact h.elim
  rename_i hn
  rw [← hv.len] at hn
  generalize ea : toArgs z xs = o at h
  match o, h with
  | some as, h =>
    obtain ⟨ar, al⟩ := args_of (ex := none) R hv ea
    refine ⟨L, Ex B z σ L, z.st, as, hn, by rw [← al]; exact hn, R.st, ⟨R.exd, R.tab.ok⟩, ar, ?_⟩
    dsimp only at h
    generalize m as z.st = r at h ⊢
    match r, h with
    | .ok d S, h =>
      intro v H' L' b q
      obtain ⟨R', g, exs, _⟩ := R.behind b
      refine h v H' L' R' g ?_
      have exe : (fun a => Ex B z σ L a ∨ a ∈ L') = Ex B { z with st := S } σ L' := funext fun a => propext (exs a)
      show Imm B.K B.C L' _ H' v d
      rw [← exe]
      exact q
    | .err x S, h =>
      intro cls dd H' L' b q
      obtain ⟨R', g, exs, bk⟩ := R.behind b
      exact h cls dd H' L' R' g (ExnRel.weak (fun a h => (exs a).mpr h) q)
    | .bad, h => exact h.elim
  | none, h => dsimp only at h; exact h.elim
theorem d_call {C : Cl} (P : Pl X B E) (hC : B.C = C) (F : FD X.prog X.w X.K X.mg X.base C k x n m) (hr : Room k X.A) (ha : PAD X B E (e :: es) ws) (hg : Gl X x := by rfl) (hdb : (x == ("__debug__" : Str)) = false := by decide)
    (he : starEach (e :: es) X.env = (false, eval e X.env) :: starEach es X.env := by rfl) (hpl : (backTo pos (starEach es X.env)).any (·.1) = false := by rfl) : PXD X B E (.Call (.Name x p) (e :: es) [] pos) (mCall n m ws) := by
  obtain ⟨f, fd, ps, h1, h2, h3, h4⟩ := F
  obtain ⟨t, pa, sa⟩ := ha
  refine ⟨_, pe_callS h1 hr hg h2 h3 h4 P.ps pa hdb he hpl, fun z σ H L Q R h => ?_⟩
  refine sa z σ H L _ R (AftE.bind h fun xs z1 vs H1 L1 R1 g1 hv k1 => ?_)
  have k2 := callF_of R1 hv k1
  rw [hC, P.K] at k2
  exact k2
theorem d_call0 {C : Cl} (P : Pl X B E) (hC : B.C = C) (F : FD X.prog X.w X.K X.mg X.base C k x n m) (hr : Room k X.A) (hg : Gl X x := by rfl) (hdb : (x == ("__debug__" : Str)) = false := by decide) :
    PXD X B E (.Call (.Name x p) [] [] pos) (mCall n m wNil) := by
  obtain ⟨f, fd, ps, h1, h2, h3, h4⟩ := F
  refine ⟨fun σ H Q => spD X.K C none n m [] H Q (WE E σ), ⟨fun pins s σ H Q I h => ?_⟩, fun z σ H L Q R h => ?_⟩
  · refine wpAny_Call_Name_kw (ld_glob I hg h2 ?_ hdb)
    exact PySem.W.callWith_K0 I.kIn h3 (run_fnS h1 hr h4 (P.ps σ) I .nil h)
  · have k2 := callF_of (vs := []) (xs := []) R trivial h
    rw [hC, P.K] at k2
    exact k2
end
end DL
set_option Elab.async false
set_option linter.all false
set_option maxRecDepth 100000
namespace DL
open PySem L2
section
variable {X : Cx} {B : Bs} {E : WX} {e a b o : Expr} {es : List Expr} {p pos apos cpos p2 : Pos} {ma mb m : M W} {md : M D} {ws : M (List W)} {z z' : Z} {σ σ' : St} {H H' : Hp} {L L' : List Addr} {x : Str}
/-! ### xs[i] -/
def fIx (x y : W) : M W := fun z => match y with
  | .d (.int i) => match x with
    | .d (.str s) => if s.length ≤ sizeLine then match atI s.cps.toList i with
      | some c => .ok (.d (.str ⟨#[c]⟩)) z
      | none => .bad
      else .bad
    | .d (.tup ds) => match atI ds i with
      | some d => .ok (.d d) z
      | none => .bad
    | x => match z.cont x with
      | some (.lst ds) => match atI ds i with
        | some d => .ok (.d d) z
        | none => .bad
      | _ => .bad
  | _ => .bad
theorem atI_imm {K : Fr} {C : Cl} {Ee : Addr → Prop} {vs : List V} {ds : List D} {i : Int} {d : D} (h : ImmL K C L Ee H vs ds) (e : atI ds i = some d) : ∃ v, atI vs i = some v ∧ Imm K C L Ee H v d := by
  unfold atI at e ⊢
  rw [h.length]
  cases ej : ixN ds.length i with
  | none => rw [ej] at e; cases e
  | some j =>
    rw [ej] at e
    obtain ⟨v, h1, h2⟩ := ImmL.get h e
    exact ⟨v, h1, h2⟩
theorem d_ix (P : Pl X B E) (ha : PED X B E a ma) (hb : PED X B E b mb) (hs : PlainIx b := by exact fun _ _ => rfl) : PED X B E (.Subscript a b pos) (m2 ma mb fIx) := by
  obtain ⟨ta, pa, sa⟩ := ha
  obtain ⟨tb, pb, sb⟩ := hb
  refine ⟨_, pe_ix ix_seq pa pb hs, tOp_of ?_ sa sb⟩
  intro z σ H L Q x y vx vy R hx hy h
  rw [← P.K]
  unfold fIx at h
  split at h
  · rename_i i
    have hy' := vr_int hy
    split at h
    · rename_i s
      split at h
      · rename_i hl
        split at h
        · rename_i c ec
          exact .inr (.inr ⟨s, i, c, vr_str hx, hy', hl, ec, AftE.here R h vr_str'⟩)
        · exact h.elim
      · exact h.elim
    · rename_i ds
      split at h
      · rename_i d ed
        simp only [VRel, Imm] at hx
        obtain ⟨q, vs, rfl, r, im⟩ := hx
        obtain ⟨v, h1, h2⟩ := atI_imm im ed
        exact .inr (.inl ⟨q, vs, i, v, rfl, hy', r.sq, h1, AftE.here R h h2⟩)
      · exact h.elim
    · split at h
      · rename_i ds ec
        split at h
        · rename_i d ed
          obtain ⟨q, vs, rfl, r, im⟩ := R.readL hx ec
          obtain ⟨v, h1, h2⟩ := atI_imm im ed
          exact .inl ⟨q, vs, i, v, rfl, hy', r, h1, AftE.here R h h2⟩
        · exact h.elim
      · exact h.elim
  · exact h.elim
/-! ### xs[lo:hi] -/
structure POD (X : Cx) (B : Bs) (E : WX) (e : Option Expr) (m : M (Option Int)) : Prop where
  ex : ∃ t, PO X e t ∧ ∀ z σ H L (Q : Option Int → Hp → Prop), Rel B z σ H L → AftE B E (fun _ _ _ a b => a = b) z σ H L Q (m z) → t σ H Q
def oNone : M (Option Int) := fun z => .ok none z
def oSome (m : M W) : M (Option Int) := fun z => (m z).bind fun w z1 => match w with
  | .d (.int i) => .ok (some i) z1
  | _ => .bad
theorem do_none : POD X B E none oNone := ⟨_, po_none, fun z σ H L Q R h => AftE.here R h rfl⟩
theorem do_some (h : PED X B E e m) : POD X B E (some e) (oSome m) := by
  obtain ⟨t, pa, sa⟩ := h
  refine ⟨_, po_some pa, fun z σ H L Q R h => ?_⟩
  refine sa z σ H L _ R (AftE.bind h fun w z1 v H1 L1 R1 g1 h1 k1 => ?_)
  split at k1
  · exact ⟨_, vr_int h1, AftE.here R1 k1 rfl⟩
  · exact k1.elim
/-- the items of xs[lo:hi] -/
def cutD {α : Type} (xs : List α) (lo hi : Option Int) : List α := (xs.drop (HT.sIx xs.length 0 lo)).take (HT.sIx xs.length xs.length hi - HT.sIx xs.length 0 lo)
theorem ImmL.cut {K : Fr} {C : Cl} {Ee : Addr → Prop} {vs : List V} {ds : List D} {lo hi : Option Int} (h : ImmL K C L Ee H vs ds) : ImmL K C L Ee H (cutV vs lo hi) (cutD ds lo hi) := by
  unfold cutV cutD
  rw [h.length]
  exact ImmL.take _ (ImmL.drop _ h)
def slS (x : W) (lo hi : Option Int) : M W := flat (match x with
  | .d (.str s) => if s.length ≤ sizeLine then some (.str (cutS s lo hi)) else none
  | _ => none)
def slT (x : W) (lo hi : Option Int) : M W := newT (match x with
  | .d (.tup ds) => if HT.sIx ds.length 0 lo = 0 ∧ HT.sIx ds.length ds.length hi = ds.length then none else some (cutD ds lo hi)
  | _ => none)
def slL (x : W) (lo hi : Option Int) : M W := fun z => newL (match z.cont x with
  | some (.lst ds) => some (cutD ds lo hi)
  | _ => none) z
def fSl (x : W) (lo hi : Option Int) : M W := fun z => match slS x lo hi z with
  | .bad => match slT x lo hi z with
    | .bad => slL x lo hi z
    | r => r
  | r => r
def mSl (m : M W) (ml mh : M (Option Int)) : M W := fun z => (m z).bind fun x z1 => (ml z1).bind fun lo z2 => (mh z2).bind fun hi z3 => fSl x lo hi z3
theorem d_slice {lo hi : Option Expr} {ml mh : M (Option Int)} (P : Pl X B E) (ha : PED X B E a m) (hl : POD X B E lo ml) (hh : POD X B E hi mh) : PED X B E (.Subscript a (.Slice lo hi none p2) pos) (mSl m ml mh) := by
  obtain ⟨ta, pa, sa⟩ := ha
  obtain ⟨tl, pl, sl⟩ := hl
  obtain ⟨th, ph, sh⟩ := hh
  refine ⟨_, pe_slice (sl_str.or (sl_tup.or sl_list)) pa pl ph, fun z σ H L Q R h => ?_⟩
  refine sa z σ H L _ R (AftE.bind h fun x z1 v H1 L1 R1 g1 h1 k1 => ?_)
  refine sl z1 σ H1 L1 _ R1 (AftE.bind k1 fun lo' z2 lo H2 L2 R2 g2 h2 k2 => ?_)
  refine sh z2 σ H2 L2 _ R2 (AftE.bind k2 fun hi' z3 hi H3 L3 R3 g3 h3 k3 => ?_)
  subst h2
  subst h3
  have hx := VRel.stay g3 (VRel.stay g2 h1)
  rw [← P.K]
  unfold fSl at k3
  split at k3
  · split at k3
    · obtain ⟨xs, e, q⟩ := newL_of R3 k3
      split at e
      · rename_i ds ec
        cases e
        obtain ⟨q', vs, rfl, r, im⟩ := R3.readL hx ec
        exact .inr (.inr ⟨q', vs, rfl, r, fun p hp => q _ p im.cut hp⟩)
      · cases e
    · obtain ⟨xs, e, q⟩ := newT_of R3 k3
      split at e
      · rename_i ds
        split at e
        · cases e
        · rename_i hn
          cases e
          simp only [VRel, Imm] at hx
          obtain ⟨q', vs, rfl, r, im⟩ := hx
          exact .inr (.inl ⟨q', vs, rfl, r.sq, by rw [im.length]; exact hn, fun p hp => q _ p im.cut hp⟩)
      · cases e
  · obtain ⟨d, e, q⟩ := flat_of R3 k3
    split at e
    · rename_i s _
      split at e
      · rename_i hs
        cases e
        exact .inl ⟨s, vr_str hx, hs, q _ vr_str'⟩
      · cases e
    · cases e
/-! ### calls of built-in names -/
def CallS (B : Bs) (E : WX) (r : List V → Hp → VK → Prop) (f : List W → M W) : Prop :=
  ∀ z σ H L Q xs vs, Rel B z σ H L → vVs B σ z H L vs xs → AftE B E (vV B σ) z σ H L Q (f xs z) → r vs H Q
theorem CallR.or {f : Value} {r r' : List V → Hp → VK → Prop} (h : CallR X f r) (h' : CallR X f r') : CallR X f (fun vs H Q => r vs H Q ∨ r' vs H Q) :=
  fun pins s σ H xs us Q I rx q => q.elim (h pins s σ H xs us Q I rx) (h' pins s σ H xs us Q I rx)
def kOr (f g : List W → M W) : List W → M W := fun xs z => match f xs z with
  | .bad => g xs z
  | r => r
theorem CallS.or {r r' : List V → Hp → VK → Prop} {f g : List W → M W} (hf : CallS B E r f) (hg : CallS B E r' g) : CallS B E (fun vs H Q => r vs H Q ∨ r' vs H Q) (kOr f g) := by
  intro z σ H L Q xs vs R hv h
  unfold kOr at h
  split at h
  · exact .inr (hg z σ H L Q xs vs R hv h)
  · exact .inl (hf z σ H L Q xs vs R hv h)
theorem d_callB {id : String} {r : List V → Hp → VK → Prop} {f : List W → M W} (hc : CallR X (.builtin id) r) (hf : CallS B E r f) (ha : PAD X B E (e :: es) ws) (hg : Gl X x) (hm : X.mg x = none) (hv : bootBuiltins x = some (.builtin id))
    (hn : x ≠ "__name__" := by decide) (hdb : (x == ("__debug__" : Str)) = false := by decide)
    (he : starEach (e :: es) X.env = (false, eval e X.env) :: starEach es X.env := by rfl) (hpl : (backTo pos (starEach es X.env)).any (·.1) = false := by rfl) : PED X B E (.Call (.Name x p) (e :: es) [] pos) (mBind ws f) := by
  obtain ⟨t, pa, sa⟩ := ha
  refine ⟨_, pe_callB hc hg hm hv pa hn hdb he hpl, fun z σ H L Q R h => ?_⟩
  exact sa z σ H L _ R (AftE.bind h fun xs z1 vs H1 L1 R1 g1 h1 k1 => hf z1 σ H1 L1 Q xs vs R1 h1 k1)
theorem d_callTy {T : String} {r : List V → Hp → VK → Prop} {f : List W → M W} (hc : CallR X (.type T) r) (hf : CallS B E r f) (ha : PAD X B E (e :: es) ws) (hg : Gl X x) (hm : X.mg x = none) (hv : bootBuiltins x = some (.type T))
    (hn : x ≠ "__name__" := by decide) (hdb : (x == ("__debug__" : Str)) = false := by decide)
    (he : starEach (e :: es) X.env = (false, eval e X.env) :: starEach es X.env := by rfl) (hpl : (backTo pos (starEach es X.env)).any (·.1) = false := by rfl) : PED X B E (.Call (.Name x p) (e :: es) [] pos) (mBind ws f) := by
  obtain ⟨t, pa, sa⟩ := ha
  refine ⟨_, pe_callTy hc hg hm hv pa hn hdb he hpl, fun z σ H L Q R h => ?_⟩
  exact sa z σ H L _ R (AftE.bind h fun xs z1 vs H1 L1 R1 g1 h1 k1 => hf z1 σ H1 L1 Q xs vs R1 h1 k1)
theorem d_callBfun {id : String} {r : List V → Hp → VK → Prop} {f : List W → M W} (hc : CallR X (.builtin id) r) (hf : CallS B E r f) (ha : PAD X B E (e :: es) ws) (hg : Gl X x) (hm : X.mg x = some (.builtin id)) (hdb : (x == ("__debug__" : Str)) = false := by decide)
    (he : starEach (e :: es) X.env = (false, eval e X.env) :: starEach es X.env := by rfl) (hpl : (backTo pos (starEach es X.env)).any (·.1) = false := by rfl) : PED X B E (.Call (.Name x p) (e :: es) [] pos) (mBind ws f) := by
  obtain ⟨t, pa, sa⟩ := ha
  refine ⟨_, pe_callBfun hc hg hm pa hdb he hpl, fun z σ H L Q R h => ?_⟩
  exact sa z σ H L _ R (AftE.bind h fun xs z1 vs H1 L1 R1 g1 h1 k1 => hf z1 σ H1 L1 Q xs vs R1 h1 k1)
theorem vvs1 {vs : List V} {w : W} (h : vVs B σ z H L vs [w]) : ∃ v, vs = [v] ∧ VRel B z σ H L v w := by
  cases vs with
  | nil => exact h.elim
  | cons v vs => cases vs with
    | nil => exact ⟨v, rfl, h.1⟩
    | cons _ _ => exact h.2.elim
theorem vvs2 {vs : List V} {w u : W} (h : vVs B σ z H L vs [w, u]) : ∃ v y, vs = [v, y] ∧ VRel B z σ H L v w ∧ VRel B z σ H L y u := by
  cases vs with
  | nil => exact h.elim
  | cons v vs =>
    obtain ⟨y, rfl, h2⟩ := vvs1 h.2
    exact ⟨v, y, rfl, h.1, h2⟩
/-- len -/
def fLen (xs : List W) : M W := fun z => flat (match xs with
  | [.d (.str s)] => if s.length ≤ sizeLine then some (.int s.length) else none
  | [.d (.tup ds)] => some (.int ds.length)
  | [w] => match z.cont w with
    | some (.lst ds) => some (.int ds.length)
    | _ => none
  | _ => none) z
theorem callS_len (P : Pl X B E) : CallS B E (fun xs H Q => ∃ x n, xs = [x] ∧ LenV X.K x H n ∧ Q (.int n) H) fLen := by
  intro z σ H L Q xs vs R hv h
  obtain ⟨d, ed, q⟩ := flat_of R h
  rw [← P.K]
  split at ed
  · split at ed
    · rename_i s hs
      cases ed
      obtain ⟨v, rfl, r⟩ := vvs1 hv
      rw [vr_str r]
      exact ⟨_, s.length, rfl, ⟨hs, rfl⟩, q _ vr_int'⟩
    · cases ed
  · rename_i ds
    cases ed
    obtain ⟨v, rfl, r⟩ := vvs1 hv
    simp only [VRel, Imm] at r
    obtain ⟨a, vs, rfl, r, im⟩ := r
    exact ⟨_, vs.length, rfl, .inr ⟨vs, r.sq, rfl⟩, q _ (by rw [im.length]; exact vr_int')⟩
  · split at ed
    · rename_i ds ec
      cases ed
      obtain ⟨v, rfl, r⟩ := vvs1 hv
      obtain ⟨a, vs, rfl, r, im⟩ := R.readL r ec
      exact ⟨_, vs.length, rfl, .inl ⟨vs, r, rfl⟩, q _ (by rw [im.length]; exact vr_int')⟩
    · cases ed
  · cases ed
theorem d_len (P : Pl X B E) (hm : X.mg "len" = none) (ha : PED X B E e m) (hg : Gl X "len" := by rfl) (he : starEach [e] X.env = (false, eval e X.env) :: starEach [] X.env := by rfl) : PED X B E (.Call (.Name "len" p) [e] [] pos) (mBind (wCons m wNil) fLen) :=
  d_callB call_len (callS_len P) (dw_cons ha dw_nil he) hg hm PySem.boot_len (he := he)
/-- a function of one int (a truth value) -/
def fInt1 (xs : List W) : M W := flat (match xs with
  | [.d (.int i)] => some (.int i)
  | [.d (.bl k)] => some (.int (if k then 1 else 0))
  | _ => none)
theorem callS_int1 : CallS B E (fun xs H Q => (∃ i, xs = [.int i] ∧ Q (.int i) H) ∨ ∃ k, xs = [.bl k] ∧ Q (.int (if k then 1 else 0)) H) fInt1 := by
  intro z σ H L Q xs vs R hv h
  obtain ⟨d, ed, q⟩ := flat_of R h
  split at ed
  · cases ed
    obtain ⟨v, rfl, r⟩ := vvs1 hv
    rw [vr_int r]
    exact .inl ⟨_, rfl, q _ vr_int'⟩
  · cases ed
    obtain ⟨v, rfl, r⟩ := vvs1 hv
    rw [vr_bl r]
    exact .inr ⟨_, rfl, q _ vr_int'⟩
  · cases ed
/-- int(text) of a text that is a number -/
def fIntS (xs : List W) : M W := flat (match xs with
  | [.d (.str s)] => if s.length ≤ 640 then (PySem.intText? s).map .int else none
  | _ => none)
theorem callS_intS : CallS B E (fun xs H Q => ∃ a n, xs = [.str a] ∧ PySem.intText? a = some n ∧ a.length ≤ 640 ∧ Q (.int n) H) fIntS := by
  intro z σ H L Q xs vs R hv h
  obtain ⟨d, ed, q⟩ := flat_of R h
  split at ed
  · split at ed
    · rename_i s hs
      obtain ⟨n, en, rfl⟩ := Option.map_eq_some_iff.mp ed
      obtain ⟨v, rfl, r⟩ := vvs1 hv
      rw [vr_str r]
      exact ⟨s, n, rfl, en, hs, q _ vr_int'⟩
    · cases ed
  · cases ed
def fInt : List W → M W := kOr fInt1 fIntS
theorem d_int_ (hm : X.mg "int" = none) (ha : PED X B E e m) (hg : Gl X "int" := by rfl) (he : starEach [e] X.env = (false, eval e X.env) :: starEach [] X.env := by rfl) : PED X B E (.Call (.Name "int" p) [e] [] pos) (mBind (wCons m wNil) fInt) :=
  d_callTy (CallR.or call_int1 call_int_str) (callS_int1.or callS_intS) (dw_cons ha dw_nil he) hg hm (by decide +kernel) (he := he)
/-- str of a number, of a text -/
def fStr (xs : List W) : M W := flat (match xs with
  | [.d (.int i)] => if i.natAbs.log2 < 1920 then some (.str (toString i)) else none
  | [.d (.str s)] => some (.str s)
  | _ => none)
theorem callS_str : CallS B E (fun xs H Q => (∃ i, xs = [.int i] ∧ i.natAbs.log2 < 1920 ∧ Q (.str (toString i)) H) ∨ ∃ a, xs = [.str a] ∧ Q (.str a) H) fStr := by
  intro z σ H L Q xs vs R hv h
  obtain ⟨d, ed, q⟩ := flat_of R h
  split at ed
  · split at ed
    · rename_i i hi
      cases ed
      obtain ⟨v, rfl, r⟩ := vvs1 hv
      rw [vr_int r]
      exact .inl ⟨_, rfl, hi, q _ vr_str'⟩
    · cases ed
  · cases ed
    obtain ⟨v, rfl, r⟩ := vvs1 hv
    rw [vr_str r]
    exact .inr ⟨_, rfl, q _ vr_str'⟩
  · cases ed
/-- abs -/
def fAbs (xs : List W) : M W := flat (match xs with
  | [.d (.int i)] => some (.int (if i < 0 then -i else i))
  | _ => none)
theorem callS_abs : CallS B E (fun xs H Q => ∃ i, xs = [.int i] ∧ Q (.int (if i < 0 then -i else i)) H) fAbs := by
  intro z σ H L Q xs vs R hv h
  obtain ⟨d, ed, q⟩ := flat_of R h
  split at ed
  · cases ed
    obtain ⟨v, rfl, r⟩ := vvs1 hv
    rw [vr_int r]
    exact ⟨_, rfl, q _ vr_int'⟩
  · cases ed
theorem d_abs (hm : X.mg "abs" = none) (ha : PED X B E e m) (hg : Gl X "abs" := by rfl) (he : starEach [e] X.env = (false, eval e X.env) :: starEach [] X.env := by rfl) : PED X B E (.Call (.Name "abs" p) [e] [] pos) (mBind (wCons m wNil) fAbs) :=
  d_callB call_abs callS_abs (dw_cons ha dw_nil he) hg hm (by decide +kernel) (he := he)
/-- two ints -/
def fI2 (g : Int → Int → Int) (xs : List W) : M W := flat (match xs with
  | [.d (.int i), .d (.int j)] => some (.int (g i j))
  | _ => none)
theorem callS_I2 {g : Int → Int → Int} : CallS B E (fun xs H Q => ∃ i j, xs = [.int i, .int j] ∧ Q (.int (g i j)) H) (fI2 g) := by
  intro z σ H L Q xs vs R hv h
  obtain ⟨d, ed, q⟩ := flat_of R h
  split at ed
  · cases ed
    obtain ⟨v, y, rfl, r, r2⟩ := vvs2 hv
    rw [vr_int r, vr_int r2]
    exact ⟨_, _, rfl, q _ vr_int'⟩
  · cases ed
def fMin2 : List W → M W := fI2 fun i j => if j < i then j else i
def fMax2 : List W → M W := fI2 fun i j => if j > i then j else i
def fGcd : List W → M W := fI2 fun a b => ((Nat.gcd a.natAbs b.natAbs : Nat) : Int)
theorem d_min2 (P : Plc X B E) (hm : X.mg "min" = none) (ha : PAD X B E (a :: b :: []) ws) (hg : Gl X "min" := by rfl) (he : starEach [a, b] X.env = (false, eval a X.env) :: starEach [b] X.env := by rfl) (hpl : (backTo pos (starEach [b] X.env)).any (·.1) = false := by rfl) : PED X B E (.Call (.Name "min" p) [a, b] [] pos) (mBind ws fMin2) :=
  d_callB (call_min2 P.calm) callS_I2 ha hg hm (by decide +kernel) (he := he) (hpl := hpl)
theorem d_max2 (P : Plc X B E) (hm : X.mg "max" = none) (ha : PAD X B E (a :: b :: []) ws) (hg : Gl X "max" := by rfl) (he : starEach [a, b] X.env = (false, eval a X.env) :: starEach [b] X.env := by rfl) (hpl : (backTo pos (starEach [b] X.env)).any (·.1) = false := by rfl) : PED X B E (.Call (.Name "max" p) [a, b] [] pos) (mBind ws fMax2) :=
  d_callB (call_max2 P.calm) callS_I2 ha hg hm (by decide +kernel) (he := he) (hpl := hpl)
end
end DL
set_option Elab.async false
set_option linter.all false
set_option maxRecDepth 100000
namespace DL
open PySem L2
section
variable {X : Cx} {B : Bs} {E : WX} {e a b o : Expr} {es : List Expr} {p pos apos cpos p2 : Pos} {ma mb m : M W} {md : M D} {ws : M (List W)} {z z' : Z} {σ σ' : St} {H H' : Hp} {L L' : List Addr} {x : Str}
theorem d_str_ (hm : X.mg "str" = none) (ha : PED X B E e m) (hg : Gl X "str" := by rfl) (he : starEach [e] X.env = (false, eval e X.env) :: starEach [] X.env := by rfl) : PED X B E (.Call (.Name "str" p) [e] [] pos) (mBind (wCons m wNil) fStr) :=
  d_callTy (CallR.or call_str_int SkE.call_str_str) callS_str (dw_cons ha dw_nil he) hg hm (by decide +kernel) (he := he)
/-! ### all, any, list, tuple, sum -/
/-- a list of truth values -/
def bools : List D → Option (List Bool)
  | [] => some []
  | .bl b :: ds => (bools ds).map (b :: ·)
  | _ :: _ => none
theorem bools_imm {K : Fr} {C : Cl} {Ee : Addr → Prop} : ∀ {vs : List V} {ds : List D} {bs : List Bool}, ImmL K C L Ee H vs ds → bools ds = some bs → vs = bs.map V.bl
  | [], [], bs, _, e => by cases e; rfl
  | v :: vs, .bl b :: ds, bs, h, e => by
    simp only [bools, Option.map_eq_some_iff] at e
    obtain ⟨cs, e, rfl⟩ := e
    simp only [ImmL, Imm] at h
    rw [h.1, bools_imm h.2 e]
    rfl
  | [], _ :: _, _, h, _ => by simp only [ImmL] at h
  | _ :: _, [], _, h, _ => by simp only [ImmL] at h
  | v :: vs, .non :: ds, bs, h, e => by simp [bools] at e
  | v :: vs, .int _ :: ds, bs, h, e => by simp [bools] at e
  | v :: vs, .str _ :: ds, bs, h, e => by simp [bools] at e
  | v :: vs, .lst _ :: ds, bs, h, e => by simp [bools] at e
  | v :: vs, .tup _ :: ds, bs, h, e => by simp [bools] at e
  | v :: vs, .obj _ :: ds, bs, h, e => by simp [bools] at e
  | v :: vs, .dK _ :: ds, bs, h, e => by simp [bools] at e
  | v :: vs, .dT _ :: ds, bs, h, e => by simp [bools] at e
  | v :: vs, .ins _ _ :: ds, bs, h, e => by simp [bools] at e
  | v :: vs, .con _ :: ds, bs, h, e => by simp [bools] at e
def intsD : List D → Option (List Int)
  | [] => some []
  | .int b :: ds => (intsD ds).map (b :: ·)
  | _ :: _ => none
theorem intsD_imm {K : Fr} {C : Cl} {Ee : Addr → Prop} : ∀ {vs : List V} {ds : List D} {bs : List Int}, ImmL K C L Ee H vs ds → intsD ds = some bs → vs = bs.map V.int
  | [], [], bs, _, e => by cases e; rfl
  | v :: vs, .int b :: ds, bs, h, e => by
    simp only [intsD, Option.map_eq_some_iff] at e
    obtain ⟨cs, e, rfl⟩ := e
    simp only [ImmL, Imm] at h
    rw [h.1, intsD_imm h.2 e]
    rfl
  | [], _ :: _, _, h, _ => by simp only [ImmL] at h
  | _ :: _, [], _, h, _ => by simp only [ImmL] at h
  | v :: vs, .non :: ds, bs, h, e => by simp [intsD] at e
  | v :: vs, .bl _ :: ds, bs, h, e => by simp [intsD] at e
  | v :: vs, .str _ :: ds, bs, h, e => by simp [intsD] at e
  | v :: vs, .lst _ :: ds, bs, h, e => by simp [intsD] at e
  | v :: vs, .tup _ :: ds, bs, h, e => by simp [intsD] at e
  | v :: vs, .obj _ :: ds, bs, h, e => by simp [intsD] at e
  | v :: vs, .dK _ :: ds, bs, h, e => by simp [intsD] at e
  | v :: vs, .dT _ :: ds, bs, h, e => by simp [intsD] at e
  | v :: vs, .ins _ _ :: ds, bs, h, e => by simp [intsD] at e
  | v :: vs, .con _ :: ds, bs, h, e => by simp [intsD] at e
def strsD : List D → Option (List Str)
  | [] => some []
  | .str b :: ds => (strsD ds).map (b :: ·)
  | _ :: _ => none
theorem strsD_imm {K : Fr} {C : Cl} {Ee : Addr → Prop} : ∀ {vs : List V} {ds : List D} {bs : List Str}, ImmL K C L Ee H vs ds → strsD ds = some bs → vs = bs.map V.str
  | [], [], bs, _, e => by cases e; rfl
  | v :: vs, .str b :: ds, bs, h, e => by
    simp only [strsD, Option.map_eq_some_iff] at e
    obtain ⟨cs, e, rfl⟩ := e
    simp only [ImmL, Imm] at h
    rw [h.1, strsD_imm h.2 e]
    rfl
  | [], _ :: _, _, h, _ => by simp only [ImmL] at h
  | _ :: _, [], _, h, _ => by simp only [ImmL] at h
  | v :: vs, .non :: ds, bs, h, e => by simp [strsD] at e
  | v :: vs, .bl _ :: ds, bs, h, e => by simp [strsD] at e
  | v :: vs, .int _ :: ds, bs, h, e => by simp [strsD] at e
  | v :: vs, .lst _ :: ds, bs, h, e => by simp [strsD] at e
  | v :: vs, .tup _ :: ds, bs, h, e => by simp [strsD] at e
  | v :: vs, .obj _ :: ds, bs, h, e => by simp [strsD] at e
  | v :: vs, .dK _ :: ds, bs, h, e => by simp [strsD] at e
  | v :: vs, .dT _ :: ds, bs, h, e => by simp [strsD] at e
  | v :: vs, .ins _ _ :: ds, bs, h, e => by simp [strsD] at e
  | v :: vs, .con _ :: ds, bs, h, e => by simp [strsD] at e
theorem strsD_map (xs : List Str) : strsD (xs.map D.str) = some xs := by
  induction xs with
  | nil => rfl
  | cons x xs ih => simp [strsD, ih]
theorem intsD_map (xs : List Int) : intsD (xs.map D.int) = some xs := by
  induction xs with
  | nil => rfl
  | cons x xs ih => simp [intsD, ih]
theorem bools_map (xs : List Bool) : bools (xs.map D.bl) = some xs := by
  induction xs with
  | nil => rfl
  | cons x xs ih => simp [bools, ih]
/-- a list's content among the one argument -/
def Z.lst1 (z : Z) (xs : List W) : Option (List D) := match xs with
  | [w] => match z.cont w with
    | some (.lst ds) => some ds
    | _ => none
  | _ => none
theorem Rel.lst1 (R : Rel B z σ H L) {vs : List V} {xs : List W} {ds : List D} (hv : vVs B σ z H L vs xs) (e : z.lst1 xs = some ds) : ∃ a us, vs = [.ref a] ∧ SqL B.K H a us ∧ ImmL B.K B.C L (Ex B z σ L) H us ds := by
  unfold Z.lst1 at e
  split at e
  · split at e
    · rename_i ec
      cases e
      obtain ⟨v, rfl, r⟩ := vvs1 hv
      obtain ⟨a, us, rfl, h1, h2⟩ := R.readL r ec
      exact ⟨a, us, rfl, h1, h2⟩
    · cases e
  · cases e
def fAll (xs : List W) : M W := fun z => flat (match (z.lst1 xs).bind bools with
  | some bs => some (.bl (bs.all id))
  | none => none) z
def fAny (xs : List W) : M W := fun z => flat (match (z.lst1 xs).bind bools with
  | some bs => some (.bl (bs.any id))
  | none => none) z
def fSum (xs : List W) : M W := fun z => flat (match (z.lst1 xs).bind intsD with
  | some bs => some (.int bs.sum)
  | none => none) z
theorem callS_all (P : Pl X B E) : CallS B E (rAll X.K) fAll := by
  intro z σ H L Q xs vs R hv h
  obtain ⟨d, ed, q⟩ := flat_of R h
  rw [← P.K]
  split at ed
  · rename_i bs eb
    cases ed
    obtain ⟨ds, e1, e2⟩ := Option.bind_eq_some_iff.mp eb
    obtain ⟨a, us, rfl, h1, h2⟩ := R.lst1 hv e1
    exact ⟨a, bs, rfl, by rw [← bools_imm h2 e2]; exact h1, q _ vr_bl'⟩
  · cases ed
theorem callS_any (P : Pl X B E) : CallS B E (rAny X.K) fAny := by
  intro z σ H L Q xs vs R hv h
  obtain ⟨d, ed, q⟩ := flat_of R h
  rw [← P.K]
  split at ed
  · rename_i bs eb
    cases ed
    obtain ⟨ds, e1, e2⟩ := Option.bind_eq_some_iff.mp eb
    obtain ⟨a, us, rfl, h1, h2⟩ := R.lst1 hv e1
    exact ⟨a, bs, rfl, by rw [← bools_imm h2 e2]; exact h1, q _ vr_bl'⟩
  · cases ed
theorem callS_sum (P : Pl X B E) : CallS B E (rSum X.K) fSum := by
  intro z σ H L Q xs vs R hv h
  obtain ⟨d, ed, q⟩ := flat_of R h
  rw [← P.K]
  split at ed
  · rename_i bs eb
    cases ed
    obtain ⟨ds, e1, e2⟩ := Option.bind_eq_some_iff.mp eb
    obtain ⟨a, us, rfl, h1, h2⟩ := R.lst1 hv e1
    exact ⟨a, bs, rfl, by rw [← intsD_imm h2 e2]; exact h1, q _ vr_int'⟩
  · cases ed
theorem d_all (P : Plc X B E) (hm : X.mg "all" = none) (ha : PED X B E e m) (hg : Gl X "all" := by rfl) (he : starEach [e] X.env = (false, eval e X.env) :: starEach [] X.env := by rfl) : PED X B E (.Call (.Name "all" p) [e] [] pos) (mBind (wCons m wNil) fAll) :=
  d_callB (cr_all P.calm) (callS_all P) (dw_cons ha dw_nil he) hg hm (by decide +kernel) (he := he)
theorem d_any (P : Plc X B E) (hm : X.mg "any" = none) (ha : PED X B E e m) (hg : Gl X "any" := by rfl) (he : starEach [e] X.env = (false, eval e X.env) :: starEach [] X.env := by rfl) : PED X B E (.Call (.Name "any" p) [e] [] pos) (mBind (wCons m wNil) fAny) :=
  d_callB (cr_any P.calm) (callS_any P) (dw_cons ha dw_nil he) hg hm (by decide +kernel) (he := he)
theorem d_sum (P : Plc X B E) (hm : X.mg "sum" = none) (ha : PED X B E e m) (hg : Gl X "sum" := by rfl) (he : starEach [e] X.env = (false, eval e X.env) :: starEach [] X.env := by rfl) : PED X B E (.Call (.Name "sum" p) [e] [] pos) (mBind (wCons m wNil) fSum) :=
  d_callB (cr_sum P.calm) (callS_sum P) (dw_cons ha dw_nil he) hg hm (by decide +kernel) (he := he)
/-- a sequence's items: list or tuple -/
def Z.seq (z : Z) (w : W) : Option (List D) := match w with
  | .d (.tup ds) => some ds
  | w => match z.cont w with
    | some (.lst ds) => some ds
    | _ => none
theorem Rel.seq (R : Rel B z σ H L) {v : V} {w : W} {ds : List D} (hv : VRel B z σ H L v w) (e : z.seq w = some ds) : ∃ a us, v = .ref a ∧ (SqL B.K H a us ∨ SqT B.K H a us) ∧ ImmL B.K B.C L (Ex B z σ L) H us ds := by
  unfold Z.seq at e
  split at e
  · cases e
    simp only [VRel, Imm] at hv
    obtain ⟨a, us, rfl, h1, h2⟩ := hv
    exact ⟨a, us, rfl, .inr h1.sq, h2⟩
  · split at e
    · rename_i ec
      cases e
      obtain ⟨a, us, rfl, h1, h2⟩ := R.readL hv ec
      exact ⟨a, us, rfl, .inl h1, h2⟩
    · cases e
def fList (xs : List W) : M W := fun z => newL (match xs with
  | [w] => z.seq w
  | _ => none) z
def rListOf (K : Fr) : List V → Hp → VK → Prop := fun xs H Q => ∃ p ys, xs = [.ref p] ∧ (SqL K H p ys ∨ SqT K H p ys) ∧ ∀ l, H l = none → Q (.ref l) (upd H l (.lst ys))
theorem callS_list (P : Pl X B E) : CallS B E (rListOf X.K) fList := by
  intro z σ H L Q xs vs R hv h
  obtain ⟨ds, ed, q⟩ := newL_of R h
  rw [← P.K]
  split at ed
  · obtain ⟨v, rfl, r⟩ := vvs1 hv
    obtain ⟨a, us, rfl, h1, h2⟩ := R.seq r ed
    exact ⟨a, us, rfl, h1, fun l hl => q us l h2 hl⟩
  · cases ed
theorem d_list (P : Pl X B E) (hm : X.mg "list" = none) (ha : PED X B E e m) (hg : Gl X "list" := by rfl) (he : starEach [e] X.env = (false, eval e X.env) :: starEach [] X.env := by rfl) : PED X B E (.Call (.Name "list" p) [e] [] pos) (mBind (wCons m wNil) fList) :=
  d_callTy (r := rListOf X.K) call_list_of (callS_list P) (dw_cons ha dw_nil he) hg hm (by decide +kernel) (he := he)
/-- .. as a fresh list -/
def fListF (xs : List W) : M Cell := fun z => frL (match xs with
  | [w] => z.seq w
  | _ => none) z
theorem df_list (P : Pl X B E) (hm : X.mg "list" = none) (ha : PED X B E e m) (hg : Gl X "list" := by rfl) (he : starEach [e] X.env = (false, eval e X.env) :: starEach [] X.env := by rfl) : PFD X B E (.Call (.Name "list" p) [e] [] pos) (mBind (wCons m wNil) fListF) := by
  obtain ⟨t, pa, sa⟩ := (dw_cons ha dw_nil he : PAD X B E [e] (wCons m wNil))
  refine ⟨_, pe_callTy (r := rListOf X.K) call_list_of hg hm (by decide +kernel) pa (he := he), fun z σ H L Q R h => ?_⟩
  refine sa z σ H L _ R (AftE.bind h fun xs z1 vs H1 L1 R1 g1 hv k1 => ?_)
  obtain ⟨ds, ed, q⟩ := frL_of R1 g1.dom k1
  rw [← P.K]
  split at ed
  · obtain ⟨v, rfl, r⟩ := vvs1 hv
    obtain ⟨a, us, rfl, h1, h2⟩ := R1.seq r ed
    exact ⟨a, us, rfl, h1, fun l hl => q us l h2 hl⟩
  · cases ed
def fTuple (xs : List W) : M W := fun z => match xs with
  | [.d (.tup ds)] => .ok (.d (.tup ds)) z
  | [w] => newT (match z.cont w with
    | some (.lst ds) => some ds
    | _ => none) z
  | _ => .bad
def rTupOf (K : Fr) : List V → Hp → VK → Prop := fun xs H Q => ∃ p ys, xs = [.ref p] ∧ ((SqL K H p ys ∧ ∀ l, H l = none → Q (.ref l) (upd H l (.tup ys))) ∨ (SqT K H p ys ∧ Q (.ref p) H))
theorem callS_tuple (P : Pl X B E) : CallS B E (rTupOf X.K) fTuple := by
  intro z σ H L Q xs vs R hv h
  rw [← P.K]
  unfold fTuple at h
  split at h
  · rename_i ds
    obtain ⟨v, rfl, r⟩ := vvs1 hv
    have r' := r
    simp only [VRel, Imm] at r'
    obtain ⟨a, us, rfl, h1, h2⟩ := r'
    exact ⟨a, us, rfl, .inr ⟨h1.sq, AftE.here R h r⟩⟩
  · obtain ⟨ds, ed, q⟩ := newT_of R h
    split at ed
    · rename_i ec
      cases ed
      obtain ⟨v, rfl, r⟩ := vvs1 hv
      obtain ⟨a, us, rfl, h1, h2⟩ := R.readL r ec
      exact ⟨a, us, rfl, .inl ⟨h1, fun l hl => q us l h2 hl⟩⟩
    · cases ed
  · exact h.elim
theorem d_tuple (P : Pl X B E) (hm : X.mg "tuple" = none) (ha : PED X B E e m) (hg : Gl X "tuple" := by rfl) (he : starEach [e] X.env = (false, eval e X.env) :: starEach [] X.env := by rfl) : PED X B E (.Call (.Name "tuple" p) [e] [] pos) (mBind (wCons m wNil) fTuple) :=
  d_callTy (r := rTupOf X.K) call_tuple_of (callS_tuple P) (dw_cons ha dw_nil he) hg hm (by decide +kernel) (he := he)
/-! ### isinstance -/
inductive Ty where | non | bl | int | str | lst | tup | dct
  deriving DecidableEq
def Ty.name : Ty → String
  | .non => "NoneType" | .bl => "bool" | .int => "int" | .str => "str" | .lst => "list" | .tup => "tuple" | .dct => "dict"
def Ty.isa : Ty → Ty → Bool
  | .bl, .int => true
  | a, b => a == b
theorem kit_all (a b : Ty) : kitB a.name b.name = some (a.isa b) := by cases a <;> cases b <;> decide +kernel
/-- a value's type -/
def Z.ty (z : Z) (w : W) : Option Ty := match w with
  | .d .non => some .non
  | .d (.bl _) => some .bl
  | .d (.int _) => some .int
  | .d (.str _) => some .str
  | .d (.tup _) => some .tup
  | .d (.dK _) => some .dct
  | w => match z.cont w with
    | some (.lst _) => some .lst
    | _ => none
theorem tyL {K : Fr} {a : Addr} {us : List V} (h : SqL K H a us) : TyX K H (.ref a) (.type "list") := by
  rcases h with (h | ⟨o, h⟩) | ⟨o, its, n, hk, hc, _⟩
  · exact .base (.lst h)
  · exact .base (.frz h)
  · exact .kList hk hc
theorem tyT {K : Fr} {a : Addr} {us : List V} (h : SqT K H a us) : TyX K H (.ref a) (.type "tuple") := by
  rcases h with (h | ⟨o, h⟩) | ⟨o, its, n, hk, hc, _⟩
  · exact .base (.tup h)
  · exact .fTuple h
  · exact .kTuple hk hc
theorem Rel.tyX (R : Rel B z σ H L) {v : V} {w : W} {t : Ty} (hv : VRel B z σ H L v w) (e : z.ty w = some t) : TyX B.K H v (.type t.name) := by
  have key : ∀ c : Cell, z.cont w = some c → (match c with | .lst _ => some Ty.lst | _ => none) = some t → TyX B.K H v (.type t.name) := fun c ec ek => by
    obtain ⟨a, rfl, r⟩ := R.read hv ec
    cases c with
    | lst xs =>
      cases ek
      obtain ⟨vs, r, q⟩ := r
      exact tyL r
    | _ => cases ek
  cases w with
  | own i =>
    simp only [Z.ty] at e
    split at e
    · rename_i ec
      exact key _ ec e
    · cases e
  | d d =>
    cases d with
    | non => cases e; rw [vr_non hv]; exact .base .non
    | bl k => cases e; rw [vr_bl hv]; exact .base (.bl k)
    | int i => cases e; rw [vr_int hv]; exact .base (.int i)
    | str s => cases e; rw [vr_str hv]; exact .base (.str s)
    | tup ds =>
      cases e
      simp only [VRel, Imm] at hv
      obtain ⟨a, us, rfl, h1, h2⟩ := hv
      exact tyT h1.sq
    | dK ds =>
      cases e
      simp only [VRel, Imm] at hv
      obtain ⟨a, us, od, rfl, n, h1, h2⟩ := hv
      exact .fDict h1
    | lst ds => exact key _ rfl (by simpa [Z.ty, Z.cont] using e)
    | obj n =>
      simp only [Z.ty] at e
      split at e
      · rename_i ec
        exact key _ ec e
      · cases e
    | _ => simp [Z.ty, Z.cont] at e
/-- isinstance(x, T), T a built-in type -/
def fIsi (T : Ty) (w : W) : M W := fun z => flat (match z.ty w with
  | some t => some (.bl (t.isa T))
  | none => none) z
theorem d_isi (T : Ty) {pt : Pos} (P : Pl X B E) (hm : X.mg "isinstance" = none) {nm : Str} (hmT : X.mg nm = none) (hT : bootBuiltins nm = some (.type T.name)) (ha : PED X B E e m) (hg : Gl X "isinstance" := by rfl) (hgT : Gl X nm := by rfl) (hn : nm ≠ "__name__" := by decide) (hdb : (nm == ("__debug__" : Str)) = false := by decide)
    (he : starEach [e, .Name nm pt] X.env = (false, eval e X.env) :: starEach [.Name nm pt] X.env := by rfl) (he2 : starEach [.Name nm pt] X.env = (false, eval (.Name nm pt) X.env) :: starEach [] X.env := by rfl) (hpl : (backTo pos (starEach [.Name nm pt] X.env)).any (·.1) = false := by rfl) :
    PED X B E (.Call (.Name "isinstance" p) [e, .Name nm pt] [] pos) (mBind m (fIsi T)) := by
  obtain ⟨t, pa, sa⟩ := ha
  refine ⟨_, pe_callB call_isi hg hm (by decide +kernel) (pa_cons pa (pa_cons (pe_bltn hgT hmT hT (v := .ty T.name) rfl hn hdb) pa_nil he2) he) (he := he) (hpl := hpl), fun z σ H L Q R h => ?_⟩
  refine sa z σ H L _ R (AftE.bind h fun w z1 v H1 L1 R1 g1 hv k1 => ?_)
  obtain ⟨d, ed, q⟩ := flat_of R1 k1
  split at ed
  · rename_i ty et
    cases ed
    rw [← P.K]
    exact ⟨v, .ty T.name, .type ty.name, .type T.name, ty.isa T, rfl, .ty _, R1.tyX hv et, kit_ty (kit_all ty T), q _ vr_bl'⟩
  · cases ed
/-- isinstance(x, (A, B)) -/
def fIsi2 (T U : Ty) (w : W) : M W := fun z => flat (match z.ty w with
  | some t => some (.bl (t.isa T || t.isa U))
  | none => none) z
theorem d_isi2 (T U : Ty) {pt pu ptt : Pos} {k : Nat} (P : Pl X B E) (hm : X.mg "isinstance" = none) {nm nu : Str} (hmT : X.mg nm = none) (hmU : X.mg nu = none) (hT : bootBuiltins nm = some (.type T.name)) (hU : bootBuiltins nu = some (.type U.name)) (ha : PED X B E e m)
    (hg : Gl X "isinstance" := by rfl) (hgT : Gl X nm := by rfl) (hgU : Gl X nu := by rfl) (hn : nm ≠ "__name__" := by decide) (hdb : (nm == ("__debug__" : Str)) = false := by decide) (hnu : nu ≠ "__name__" := by decide) (hdbu : (nu == ("__debug__" : Str)) = false := by decide)
    (he : starEach [e, .Tuple [.Name nm pt, .Name nu pu] k ptt] X.env = (false, eval e X.env) :: starEach [.Tuple [.Name nm pt, .Name nu pu] k ptt] X.env := by rfl)
    (he2 : starEach [.Tuple [.Name nm pt, .Name nu pu] k ptt] X.env = (false, eval (.Tuple [.Name nm pt, .Name nu pu] k ptt) X.env) :: starEach [] X.env := by rfl) (hpl : (backTo pos (starEach [.Tuple [.Name nm pt, .Name nu pu] k ptt] X.env)).any (·.1) = false := by rfl)
    (he3 : starEach [.Name nm pt, .Name nu pu] X.env = (false, eval (.Name nm pt) X.env) :: starEach [.Name nu pu] X.env := by rfl) (he4 : starEach [.Name nu pu] X.env = (false, eval (.Name nu pu) X.env) :: starEach [] X.env := by rfl) :
    PED X B E (.Call (.Name "isinstance" p) [e, .Tuple [.Name nm pt, .Name nu pu] k ptt] [] pos) (mBind m (fIsi2 T U)) := by
  obtain ⟨t, pa, sa⟩ := ha
  refine ⟨_, pe_callB call_isiT hg hm (by decide +kernel) (pa_cons pa (pa_cons (pe_tup (pa_cons (pe_bltn hgT hmT hT (v := .ty T.name) rfl hn hdb) (pa_cons (pe_bltn hgU hmU hU (v := .ty U.name) rfl hnu hdbu) pa_nil he4) he3)) pa_nil he2) he) (he := he) (hpl := hpl), fun z σ H L Q R h => ?_⟩
  refine sa z σ H L _ R (AftE.bind h fun w z1 v H1 L1 R1 g1 hv k1 => ?_)
  refine ⟨by show 2 ≤ sizeLine; decide, fun q hq => ?_⟩
  have R2 := R1.upd_new (o := .tup [.ty T.name, .ty U.name]) hq
  have hv2 : VRel B z1 σ (upd H1 q (.tup [.ty T.name, .ty U.name])) L1 v w := VRel.stay (G.new hq) hv
  have k2 : AftE B E (vV B σ) z1 σ (upd H1 q (.tup [.ty T.name, .ty U.name])) L1 Q (fIsi2 T U w z1) := by
    unfold fIsi2 flat at k1 ⊢
    generalize (match z1.ty w with
      | some t => some (D.bl (t.isa T || t.isa U))
      | none => none) = r at k1 ⊢
    match r, k1 with
    | some d, k1 => exact fun v H' L' R' g' hv' => k1 v H' L' R' ((G.new hq).trans g') hv'
    | none, k1 => exact k1
  obtain ⟨d, ed, qq⟩ := flat_of R2 k2
  split at ed
  · rename_i ty et
    cases ed
    refine ⟨v, q, [.ty T.name, .ty U.name], .type ty.name, [.type T.name, .type U.name], ty.isa T || ty.isa U, rfl, upd_same, .cons (.ty _) (.cons (.ty _) .nil), by rw [← P.K]; exact R2.tyX hv2 et, ?_, qq _ vr_bl'⟩
    refine kitAny_cons (kit_ty (kit_all ty T)) (fun hf => ?_) (fun ht => by rw [ht]; rfl)
    refine kitAny_cons (kit_ty (kit_all ty U)) (fun hf2 => ?_) (fun ht => by rw [ht, Bool.or_true])
    rw [hf, hf2]
    exact kitAny_nil
  · cases ed
end
end DL
set_option Elab.async false
set_option linter.all false
set_option maxRecDepth 100000
namespace DL
open PySem L2
section
variable {X : Cx} {B : Bs} {E : WX} {e a b o tg : Expr} {es elts : List Expr} {p pos apos cpos p2 tpos : Pos} {kk : Nat} {ma mb m : M W} {md : M D} {ws : M (List W)} {z z' : Z} {σ σ' : St} {H H' : Hp} {L L' : List Addr} {x : Str}
/-! ### in -/
def flatD : D → Bool
  | .non => true | .bl _ => true | .int _ => true | .str _ => true | _ => false
/-- == of flat data -/
def eqF : D → D → Bool
  | .non, .non => true
  | .bl a, .bl b => a == b
  | .bl a, .int b => (if a then 1 else 0) == b
  | .int a, .bl b => a == (if b then 1 else 0)
  | .int a, .int b => a == b
  | .str a, .str b => a == b
  | _, _ => false
theorem flat_imm {K : Fr} {C : Cl} {Ee : Addr → Prop} {v : V} {d : D} (h : Imm K C L Ee H v d) (f : flatD d = true) : flatV v = true := by
  cases d <;> simp only [Imm] at h <;> first | (subst h; rfl) | cases f
theorem eqF_imm {K : Fr} {C : Cl} {Ee : Addr → Prop} {v w : V} {d e : D} (h : Imm K C L Ee H v d) (h' : Imm K C L Ee H w e) (f : flatD d = true) (f' : flatD e = true) : eqV v w = eqF d e := by
  cases d <;> simp only [Imm] at h <;> first | cases f | skip
  all_goals subst h
  all_goals cases e <;> simp only [Imm] at h' <;> first | cases f' | skip
  all_goals subst h'
  all_goals rfl
theorem allFlat_imm {K : Fr} {C : Cl} {Ee : Addr → Prop} : ∀ {vs : List V} {ds : List D}, ImmL K C L Ee H vs ds → ds.all flatD = true → vs.all flatV = true
  | [], [], _, _ => rfl
  | v :: vs, d :: ds, h, f => by
    simp only [ImmL] at h
    simp only [List.all_cons, Bool.and_eq_true] at f ⊢
    exact ⟨flat_imm h.1 f.1, allFlat_imm h.2 f.2⟩
  | [], _ :: _, h, _ => by simp only [ImmL] at h
  | _ :: _, [], h, _ => by simp only [ImmL] at h
theorem inV_imm {K : Fr} {C : Cl} {Ee : Addr → Prop} {x : V} {d : D} (hx : Imm K C L Ee H x d) (fx : flatD d = true) : ∀ {vs : List V} {ds : List D}, ImmL K C L Ee H vs ds → ds.all flatD = true → inV x vs = ds.any fun y => eqF y d
  | [], [], _, _ => rfl
  | v :: vs, d' :: ds, h, f => by
    simp only [ImmL] at h
    simp only [List.all_cons, Bool.and_eq_true] at f
    have ih := inV_imm hx fx h.2 f.2
    unfold inV at ih ⊢
    rw [List.any_cons, List.any_cons, ih, eqF_imm h.1 hx f.1 fx]
  | [], _ :: _, h, _ => by simp only [ImmL] at h
  | _ :: _, [], h, _ => by simp only [ImmL] at h
def inS (neg : Bool) (x y : W) : M W := flat (match x, y with
  | .d (.str a), .d (.str b) => match a.cps.toList with
    | [c] => some (.bl (decide (c ∈ b.cps.toList) ^^ neg))
    | _ => none
  | _, _ => none)
def inF (neg : Bool) (x y : W) : M W := fun z => flat (match x, z.seq y with
  | .d d, some ds => if flatD d && ds.all flatD then some (.bl ((ds.any fun y => eqF y d) ^^ neg)) else none
  | _, _ => none) z
def inP (neg : Bool) (x y : W) : M W := fun z => flat (match z.py x, z.py y with
  | some a, some (.list bs) => if SeqAt.shaped a = true ∧ SeqAt.shaped (.list bs) = true then some (.bl ((bs.any fun y => PyData.eqv y a) ^^ neg)) else none
  | _, _ => none) z
def fIn : W → W → M W := fOr (inS false) (fOr (inF false) (inP false))
def fNin : W → W → M W := fOr (inS true) (fOr (inF true) (inP true))
theorem str1 {a : Str} {c : Nat} (h : a.cps.toList = [c]) : a = ⟨#[c]⟩ := by
  cases a with
  | mk cps =>
    have : cps = #[c] := by
      apply Array.ext'
      simpa using h
    rw [this]
theorem opS_inS : OpS B E (fun x y H Q => ∃ (c : Nat) (z : Str), x = .str ⟨#[c]⟩ ∧ y = .str z ∧ Q (.bl (decide (c ∈ z.cps.toList))) H) (inS false) := by
  intro z σ H L Q x y vx vy R hx hy h
  obtain ⟨d, ed, q⟩ := flat_of R h
  split at ed
  · rename_i a b
    split at ed
    · rename_i c ec
      cases ed
      exact ⟨c, b, by rw [vr_str hx, str1 ec], vr_str hy, q _ (by rw [Bool.xor_false]; exact vr_bl')⟩
    · cases ed
  · cases ed
theorem opS_ninS : OpS B E (fun x y H Q => ∃ (c : Nat) (z : Str), x = .str ⟨#[c]⟩ ∧ y = .str z ∧ Q (.bl (!decide (c ∈ z.cps.toList))) H) (inS true) := by
  intro z σ H L Q x y vx vy R hx hy h
  obtain ⟨d, ed, q⟩ := flat_of R h
  split at ed
  · rename_i a b
    split at ed
    · rename_i c ec
      cases ed
      exact ⟨c, b, by rw [vr_str hx, str1 ec], vr_str hy, q _ (by rw [Bool.xor_true]; exact vr_bl')⟩
    · cases ed
  · cases ed
theorem opS_inF : OpS B E (rIn B.K false) (inF false) := by
  intro z σ H L Q x y vx vy R hx hy h
  obtain ⟨d, ed, q⟩ := flat_of R h
  split at ed
  · rename_i d ds es
    split at ed
    · rename_i hf
      cases ed
      rw [Bool.and_eq_true] at hf
      obtain ⟨a, us, rfl, h1, h2⟩ := R.seq hy es
      exact ⟨a, us, rfl, h1, flat_imm hx hf.1, allFlat_imm h2 hf.2, q _ (by rw [if_neg (by decide), inV_imm hx hf.1 h2 hf.2, Bool.xor_false]; exact vr_bl')⟩
    · cases ed
  · cases ed
theorem opS_ninF : OpS B E (rIn B.K true) (inF true) := by
  intro z σ H L Q x y vx vy R hx hy h
  obtain ⟨d, ed, q⟩ := flat_of R h
  split at ed
  · rename_i d ds es
    split at ed
    · rename_i hf
      cases ed
      rw [Bool.and_eq_true] at hf
      obtain ⟨a, us, rfl, h1, h2⟩ := R.seq hy es
      exact ⟨a, us, rfl, h1, flat_imm hx hf.1, allFlat_imm h2 hf.2, q _ (by rw [if_pos rfl, inV_imm hx hf.1 h2 hf.2, Bool.xor_true]; exact vr_bl')⟩
    · cases ed
  · cases ed
theorem opS_inP : OpS B E (rInD B.K) (inP false) := by
  intro z σ H L Q x y vx vy R hx hy h
  obtain ⟨d, ed, q⟩ := flat_of R h
  split at ed
  · rename_i a bs e1 e2
    split at ed
    · rename_i hs
      cases ed
      exact ⟨a, bs, R.dp hx e1, R.dp hy e2, hs.1, hs.2, q _ (by rw [Bool.xor_false]; exact vr_bl')⟩
    · cases ed
  · cases ed
theorem opS_ninP : OpS B E (rNotInD B.K) (inP true) := by
  intro z σ H L Q x y vx vy R hx hy h
  obtain ⟨d, ed, q⟩ := flat_of R h
  split at ed
  · rename_i a bs e1 e2
    split at ed
    · rename_i hs
      cases ed
      exact ⟨a, bs, R.dp hx e1, R.dp hy e2, hs.1, hs.2, q _ (by rw [Bool.xor_true]; exact vr_bl')⟩
    · cases ed
  · cases ed
theorem d_in (P : Pl X B E) (ha : PED X B E a ma) (hb : PED X B E b mb) (hm : behindInMarks .In b = false := by rfl) : PED X B E (.Compare a [.In] [b] pos) (m2 ma mb fIn) := by
  have o := (op_in_sign (X := X)).or ((op_in_seq (X := X)).or (op_inD (X := X) (Nat.lt_of_le_of_lt (by omega) P.hu)))
  rw [← P.K] at o
  exact d_cmp o (opS_inS.or (opS_inF.or opS_inP)) ha hb hm
theorem d_nin (P : Pl X B E) (ha : PED X B E a ma) (hb : PED X B E b mb) (hm : behindInMarks .NotIn b = false := by rfl) : PED X B E (.Compare a [.NotIn] [b] pos) (m2 ma mb fNin) := by
  have o := (op_notIn_sign (X := X)).or ((op_notIn_seq (X := X)).or (op_notInD (X := X) (Nat.lt_of_le_of_lt (by omega) P.hu)))
  rw [← P.K] at o
  exact d_cmp o (opS_ninS.or (opS_ninF.or opS_ninP)) ha hb hm
theorem dt_in (P : Pl X B E) (ha : PED X B E a ma) (hb : PED X B E b mb) (hm : behindInMarks .In b = false := by rfl) : PTD X B E (.Compare a [.In] [b] pos) (asB (m2 ma mb fIn)) := by
  have o := (op_in_sign (X := X)).or ((op_in_seq (X := X)).or (op_inD (X := X) (Nat.lt_of_le_of_lt (by omega) P.hu)))
  rw [← P.K] at o
  exact d_tcmp o (opS_inS.or (opS_inF.or opS_inP)) ha hb hm
theorem dt_nin (P : Pl X B E) (ha : PED X B E a ma) (hb : PED X B E b mb) (hm : behindInMarks .NotIn b = false := by rfl) : PTD X B E (.Compare a [.NotIn] [b] pos) (asB (m2 ma mb fNin)) := by
  have o := (op_notIn_sign (X := X)).or ((op_notIn_seq (X := X)).or (op_notInD (X := X) (Nat.lt_of_le_of_lt (by omega) P.hu)))
  rw [← P.K] at o
  exact d_tcmp o (opS_ninS.or (opS_ninF.or opS_ninP)) ha hb hm
/-! ### what a for walks -/
/-- list, tuple or text, by the value -/
def iSeq (K : Fr) (tl : TE) : TI := fun σ H R => tl σ H fun x H1 => (∃ a, x = .ref a ∧ (∃ xs, SqL K H1 a xs) ∧ R (Itl K a) H1) ∨ (∃ a, x = .ref a ∧ (∃ xs, SqT K H1 a xs) ∧ R (Itt K a) H1) ∨ ∃ s, x = .str s ∧ R (Its s) H1
theorem pi_seq {l : Expr} {tl : TE} (hl : PE X l tl) : PI X tg l (iSeq X.K tl) := by
  have fr : ∀ {pins : List (Addr × Obj)} {σ : St} {H1 : Hp} {s1 : Shared}, Inv X pins σ H1 s1 → ∀ b ∈ [s1.heap.objs.size], FpOk X pins H1 b := fun {pins σ H1 s1} I1 b hb => by
    have e : b = s1.heap.objs.size := by simpa using hb
    subst e
    exact I1.fpOk (Nat.le_refl _) (I1.hok.fresh (Nat.le_refl _))
  refine ⟨fun pins s σ H R I h => ?_⟩
  refine thn (hl.run pins s σ H _ I h) fun v s1 ⟨x, H1, I1, r1, q1⟩ => ?_
  rcases q1 with ⟨a, e, ⟨xs, hq⟩, q⟩ | ⟨a, e, ⟨xs, hq⟩, q⟩ | ⟨y, e, q⟩
  · subst e
    cases r1
    obtain ⟨its, rv, p, hz⟩ := I1.list hq
    refine wpAny_pyIter_list p.isList ?_
    exact ⟨s1.heap.objs.size, [s1.heap.objs.size], _, _, H1, rfl, I1.kept (t' := s1.toks) fun b o e => Heap.get?_push_of_some _ e, turn_list a _, ⟨_, Heap.get?_push_size _ rfl, rfl, rfl⟩, fr I1, q⟩
  · subst e
    cases r1
    obtain ⟨its, rv, p, hz⟩ := I1.tuple hq
    refine PySem.wpAny_pyIter_tuple (show s1.heap.IsTuple a its.toArray from p) ?_
    exact ⟨s1.heap.objs.size, [s1.heap.objs.size], _, _, H1, rfl, I1.kept (t' := s1.toks) fun b o e => Heap.get?_push_of_some _ e, turn_tuple a _, ⟨_, Heap.get?_push_size _ rfl, rfl, rfl⟩, fr I1, q⟩
  · subst e
    obtain ⟨t, rfl⟩ := r1
    cases ha : y.cps.all (· < 128)
    · exact wpAny_pyIter_wide ha (pi_one (tk := s1.toks) I1 _ (turn_str _ y t "str_iterator" (.inr rfl)) ⟨_, Heap.get?_push_size _ rfl, rfl, rfl⟩ q)
    · exact wpAny_pyIter_ascii ha (pi_one (tk := s1.toks) I1 _ (turn_str _ y t "str_ascii_iterator" (.inl rfl)) ⟨_, Heap.get?_push_size _ rfl, rfl, rfl⟩ q)
def signsD (s : Str) : List D := s.cps.toList.map fun c => .str ⟨#[c]⟩
def itemsOf (d : D) : M (List D) := fun z => match d with
  | .lst ds => .ok ds z
  | .tup ds => .ok ds z
  | .str s => .ok (signsD s) z
  | _ => .bad
theorem itD_list {a : Addr} {us : List V} {ds : List D} (h : RdL B.K (Ex B z σ L) H a us) (im : ImmL B.K B.C L (Ex B z σ L) H us ds) : ItD B.K B.C L (Ex B z σ L) H (Itl B.K a) ds := by
  refine ⟨fun i d B1 z1 σ1 H1 L1 eK eC hi R1 g => ?_, fun B1 z1 σ1 H1 L1 eK R1 g => ⟨us, (g.rdL h).sq, by rw [im.length]; exact Nat.le_refl _⟩⟩
  have h1 := (g.rdL h).sq
  have im1 := ImmL.stay g _ _ im
  obtain ⟨v, e1, e2⟩ := ImmL.get im1 hi
  refine ⟨⟨us, v, h1, e1⟩, fun w H2 hy => ?_⟩
  obtain ⟨rfl, hy⟩ := hy
  have := hy us h1
  rw [e1] at this
  cases this
  exact ⟨Same.refl _, e2⟩
theorem itD_tup {a : Addr} {us : List V} {ds : List D} (h : RdT B.K (Ex B z σ L) H a us) (im : ImmL B.K B.C L (Ex B z σ L) H us ds) : ItD B.K B.C L (Ex B z σ L) H (Itt B.K a) ds := by
  refine ⟨fun i d B1 z1 σ1 H1 L1 eK eC hi R1 g => ?_, fun B1 z1 σ1 H1 L1 eK R1 g => ⟨us, (g.rdT h).sq, by rw [im.length]; exact Nat.le_refl _⟩⟩
  have h1 := (g.rdT h).sq
  have im1 := ImmL.stay g _ _ im
  obtain ⟨v, e1, e2⟩ := ImmL.get im1 hi
  refine ⟨⟨us, v, h1, e1⟩, fun w H2 hy => ?_⟩
  obtain ⟨rfl, hy⟩ := hy
  have := hy us h1
  rw [e1] at this
  cases this
  exact ⟨Same.refl _, e2⟩
theorem itD_str {s : Str} : ItD B.K B.C L (Ex B z σ L) H (Its s) (signsD s) := by
  refine ⟨fun i d B1 z1 σ1 H1 L1 eK eC hi R1 g => ?_, fun B1 z1 σ1 H1 L1 eK R1 g => by simp [signsD, Its]⟩
  simp only [signsD, List.getElem?_map, Option.map_eq_some_iff] at hi
  obtain ⟨c, hc, rfl⟩ := hi
  have hc' : s.cps[i]? = some c := by simpa using hc
  refine ⟨(Array.getElem?_eq_some_iff.mp hc').1, fun w H2 hy => ?_⟩
  obtain ⟨rfl, c', hc2, rfl⟩ := hy
  rw [hc'] at hc2
  cases hc2
  exact ⟨Same.refl _, by simp [Imm]⟩
theorem di_seq (P : Pl X B E) (h : PXD X B E e md) : PID X B E tg e (mBind md itemsOf) := by
  obtain ⟨t, pa, sa⟩ := h
  refine ⟨_, pi_seq pa, fun z σ H L Q R h => ?_⟩
  refine sa z σ H L _ R (AftE.bind h fun d z1 v H1 L1 R1 g1 hv k1 => ?_)
  rw [← P.K]
  unfold itemsOf at k1
  split at k1
  · simp only [vD, Imm] at hv
    obtain ⟨a, us, rfl, h1, h2⟩ := hv
    exact .inl ⟨a, rfl, ⟨us, h1.sq⟩, AftE.here R1 k1 (itD_list h1 h2)⟩
  · simp only [vD, Imm] at hv
    obtain ⟨a, us, rfl, h1, h2⟩ := hv
    exact .inr (.inl ⟨a, rfl, ⟨us, h1.sq⟩, AftE.here R1 k1 (itD_tup h1 h2)⟩)
  · simp only [vD, Imm] at hv
    exact .inr (.inr ⟨_, hv, AftE.here R1 k1 itD_str⟩)
  · exact k1.elim
/-! range -/
def rangeD (lo : Int) (n : Nat) : List D := (List.range n).map fun i : Nat => .int (lo + (i : Int))
theorem itD_range {lo : Int} {n : Nat} : ItD B.K B.C L (Ex B z σ L) H (Itr lo n) (rangeD lo n) := by
  refine ⟨fun i d B1 z1 σ1 H1 L1 eK eC hi R1 g => ?_, fun B1 z1 σ1 H1 L1 eK R1 g => by simp [rangeD, Itr]⟩
  have hlt : i < n := by have := (List.getElem?_eq_some_iff.mp hi).1; simpa [rangeD] using this
  simp only [rangeD, List.getElem?_map, List.getElem?_range hlt, Option.map_some, Option.some.injEq] at hi
  refine ⟨hlt, fun w H2 hy => ?_⟩
  obtain ⟨rfl, rfl⟩ := hy
  subst hi
  exact ⟨Same.refl _, by simp [Imm]⟩
def okRg (i : Int) : Bool := decide (i.natAbs < 4611686018427387904)
theorem okRg_b {i : Int} (h : okRg i = true) : -(2 ^ 62) ≤ i ∧ i < 2 ^ 62 := by
  have := of_decide_eq_true (p := i.natAbs < 4611686018427387904) h
  omega
def fRange1 (xs : List W) : M (List D) := fun z => match xs with
  | [.d (.int j)] => if okRg j then .ok (rangeD 0 j.toNat) z else .bad
  | _ => .bad
def fRange2 (xs : List W) : M (List D) := fun z => match xs with
  | [.d (.int i), .d (.int j)] => if okRg i && okRg j then .ok (rangeD i (j - i).toNat) z else .bad
  | _ => .bad
theorem di_range1 (hm : X.mg "range" = none) (ha : PED X B E a m) (hg : Gl X "range" := by rfl) (hs : starEach [a] X.env = [(false, eval a X.env)] := by rfl) : PID X B E tg (.Call (.Name "range" p) [a] [] pos) (mBind (wCons m wNil) fRange1) := by
  obtain ⟨t, pa, sa⟩ := (dw_cons ha dw_nil hs : PAD X B E [a] (wCons m wNil))
  refine ⟨_, pi_range1 hg hm pa hs, fun z σ H L Q R h => ?_⟩
  refine sa z σ H L _ R (AftE.bind h fun xs z1 vs H1 L1 R1 g1 hv k1 => ?_)
  unfold fRange1 at k1
  split at k1
  · rename_i j
    split at k1
    · rename_i hj
      obtain ⟨v, rfl, r⟩ := vvs1 hv
      rw [vr_int r]
      have hj' := okRg_b hj
      exact ⟨j, rfl, hj'.1, hj'.2, AftE.here R1 k1 itD_range⟩
    · exact k1.elim
  · exact k1.elim
theorem di_range2 (hm : X.mg "range" = none) (ha : PED X B E a ma) (hb : PED X B E b mb) (hg : Gl X "range" := by rfl) (hs : starEach [a, b] X.env = [(false, eval a X.env), (false, eval b X.env)] := by rfl) (hs2 : starEach [b] X.env = [(false, eval b X.env)] := by rfl)
    (hs3 : starEach [a, b] X.env = (false, eval a X.env) :: starEach [b] X.env := by rfl) : PID X B E tg (.Call (.Name "range" p) [a, b] [] pos) (mBind (wCons ma (wCons mb wNil)) fRange2) := by
  obtain ⟨t, pa, sa⟩ := (dw_cons ha (dw_cons hb dw_nil hs2) hs3 : PAD X B E [a, b] (wCons ma (wCons mb wNil)))
  refine ⟨_, pi_range2 hg hm pa hs hs2, fun z σ H L Q R h => ?_⟩
  refine sa z σ H L _ R (AftE.bind h fun xs z1 vs H1 L1 R1 g1 hv k1 => ?_)
  unfold fRange2 at k1
  split at k1
  · rename_i i j
    split at k1
    · rename_i hj
      obtain ⟨v, y, rfl, r, r2⟩ := vvs2 hv
      rw [vr_int r, vr_int r2]
      rw [Bool.and_eq_true] at hj
      have h1 := okRg_b hj.1
      have h2 := okRg_b hj.2
      exact ⟨i, j, rfl, ⟨h1.1, h1.2, h2.1, h2.2⟩, AftE.here R1 k1 itD_range⟩
    · exact k1.elim
  · exact k1.elim
/-! enumerate, zip of lists -/
def enumD (ds : List D) : List D := ds.zipIdx.map fun q => .tup [.int (q.2 : Nat), q.1]
theorem itD_enum {a : Addr} {us : List V} {ds : List D} (h : RdL B.K (Ex B z σ L) H a us) (im : ImmL B.K B.C L (Ex B z σ L) H us ds) : ItD B.K B.C L (Ex B z σ L) H (Ite B.K a) (enumD ds) := by
  refine ⟨fun i d B1 z1 σ1 H1 L1 eK eC hi R1 g => ?_, fun B1 z1 σ1 H1 L1 eK R1 g => ⟨us, (g.rdL h).sq, by rw [im.length]; simp [enumD]⟩⟩
  have h1 := (g.rdL h).sq
  have im1 := ImmL.stay g _ _ im
  simp only [enumD, List.getElem?_map, List.getElem?_zipIdx, Option.map_eq_some_iff] at hi
  obtain ⟨q, ⟨d', hd, rfl⟩, rfl⟩ := hi
  obtain ⟨v, e1, e2⟩ := ImmL.get im1 hd
  refine ⟨⟨us, v, h1, e1⟩, fun w H2 hy => ?_⟩
  obtain ⟨T, x, rfl, hT, rfl, hy⟩ := hy
  have := hy us h1
  rw [e1] at this
  cases this
  refine ⟨same_new hT, Imm.new_tup hT (R1.noEx hT) ?_⟩
  simp only [ImmL, Imm, and_true]
  exact ⟨by simp, e2⟩
def fEnum (xs : List D) : M (List D) := fun z => match xs with
  | [.lst ds] => .ok (enumD ds) z
  | _ => .bad
theorem di_enum (P : Pl X B E) (hm : X.mg "enumerate" = none) (ha : PXD X B E e md) (hg : Gl X "enumerate" := by rfl) (hs : starEach [e] X.env = [(false, eval e X.env)] := by rfl) :
    PID X B E (.Tuple elts kk tpos) (.Call (.Name "enumerate" p) [e] [] pos) (mBind (mCons md mNil) fEnum) := by
  obtain ⟨t, pa, sa⟩ := (ds_cons ha ds_nil hs : PXDs X B E [e] (mCons md mNil))
  refine ⟨_, pi_enum hg hm pa hs, fun z σ H L Q R h => ?_⟩
  refine sa z σ H L _ R (AftE.bind h fun xs z1 vs H1 L1 R1 g1 hv k1 => ?_)
  unfold fEnum at k1
  rw [← P.K]
  split at k1
  · cases vs with
    | nil => simp only [vDs, ImmL] at hv
    | cons v vs => cases vs with
      | cons _ _ => simp only [vDs, ImmL] at hv; exact hv.2.elim
      | nil =>
        simp only [vDs, ImmL, Imm] at hv
        obtain ⟨⟨a, us, rfl, h1, h2⟩, _⟩ := hv
        exact ⟨a, us, rfl, h1.sq, AftE.here R1 k1 (itD_enum h1 h2)⟩
  · exact k1.elim
def zipD (xs ys : List D) : List D := (xs.zip ys).map fun q => .tup [q.1, q.2]
theorem itD_zip {a b : Addr} {us ws : List V} {ds es : List D} (h : RdL B.K (Ex B z σ L) H a us) (im : ImmL B.K B.C L (Ex B z σ L) H us ds) (h' : RdL B.K (Ex B z σ L) H b ws) (im' : ImmL B.K B.C L (Ex B z σ L) H ws es) : ItD B.K B.C L (Ex B z σ L) H (Itz B.K a b) (zipD ds es) := by
  refine ⟨fun i d B1 z1 σ1 H1 L1 eK eC hi R1 g => ?_, fun B1 z1 σ1 H1 L1 eK R1 g => ⟨us, ws, (g.rdL h).sq, (g.rdL h').sq, by rw [im.length, im'.length]; simp [zipD]; omega⟩⟩
  have h1 := (g.rdL h).sq
  have h1' := (g.rdL h').sq
  have im1 := ImmL.stay g _ _ im
  have im1' := ImmL.stay g _ _ im'
  simp only [zipD, List.getElem?_map, Option.map_eq_some_iff] at hi
  obtain ⟨q, hq, rfl⟩ := hi
  rw [List.getElem?_zip_eq_some] at hq
  obtain ⟨v, e1, e2⟩ := ImmL.get im1 hq.1
  obtain ⟨v', e1', e2'⟩ := ImmL.get im1' hq.2
  refine ⟨⟨us, ws, v, v', h1, h1', e1, e1'⟩, fun w H2 hy => ?_⟩
  obtain ⟨T, x, y, rfl, hT, rfl, hy, hy'⟩ := hy
  have := hy us h1
  rw [e1] at this
  cases this
  have := hy' ws h1'
  rw [e1'] at this
  cases this
  refine ⟨same_new hT, Imm.new_tup hT (R1.noEx hT) ?_⟩
  simp only [ImmL, and_true]
  exact ⟨e2, e2'⟩
theorem itD_zipT {a b : Addr} {us ws : List V} {ds es : List D} (h : RdT B.K (Ex B z σ L) H a us) (im : ImmL B.K B.C L (Ex B z σ L) H us ds) (h' : RdT B.K (Ex B z σ L) H b ws) (im' : ImmL B.K B.C L (Ex B z σ L) H ws es) : ItD B.K B.C L (Ex B z σ L) H (RZ.ItzT B.K a b) (zipD ds es) := by
  refine ⟨fun i d B1 z1 σ1 H1 L1 eK eC hi R1 g => ?_, fun B1 z1 σ1 H1 L1 eK R1 g => ⟨us, ws, (g.rdT h).sq, (g.rdT h').sq, by rw [im.length, im'.length]; simp [zipD]; omega⟩⟩
  have h1 := (g.rdT h).sq
  have h1' := (g.rdT h').sq
  have im1 := ImmL.stay g _ _ im
  have im1' := ImmL.stay g _ _ im'
  simp only [zipD, List.getElem?_map, Option.map_eq_some_iff] at hi
  obtain ⟨q, hq, rfl⟩ := hi
  rw [List.getElem?_zip_eq_some] at hq
  obtain ⟨v, e1, e2⟩ := ImmL.get im1 hq.1
  obtain ⟨v', e1', e2'⟩ := ImmL.get im1' hq.2
  refine ⟨⟨us, ws, v, v', h1, h1', e1, e1'⟩, fun w H2 hy => ?_⟩
  obtain ⟨T, x, y, rfl, hT, rfl, hy, hy'⟩ := hy
  have := hy us h1
  rw [e1] at this
  cases this
  have := hy' ws h1'
  rw [e1'] at this
  cases this
  refine ⟨same_new hT, Imm.new_tup hT (R1.noEx hT) ?_⟩
  simp only [ImmL, and_true]
  exact ⟨e2, e2'⟩
def fZip (xs : List D) : M (List D) := fun z => match xs with
  | [.lst ds, .lst es] => .ok (zipD ds es) z
  | [.tup ds, .tup es] => .ok (zipD ds es) z
  | _ => .bad
theorem di_zip {b : Expr} {mdb : M D} (P : Pl X B E) (hm : X.mg "zip" = none) (ha : PXD X B E e md) (hb : PXD X B E b mdb) (hg : Gl X "zip" := by rfl) (hs : starEach [e, b] X.env = (false, eval e X.env) :: starEach [b] X.env := by rfl) (hs2 : starEach [b] X.env = (false, eval b X.env) :: starEach [] X.env := by rfl) (hpl : (backTo pos (starEach [b] X.env)).any (·.1) = false := by rfl) :
    PID X B E (.Tuple elts kk tpos) (.Call (.Name "zip" p) [e, b] [] pos) (mBind (mCons md (mCons mdb mNil)) fZip) := by
  obtain ⟨t, pa, sa⟩ := (ds_cons ha (ds_cons hb ds_nil hs2) hs : PXDs X B E [e, b] (mCons md (mCons mdb mNil)))
  refine ⟨_, RZ.pi_zipA hg hm pa hs hpl, fun z σ H L Q R h => ?_⟩
  refine sa z σ H L _ R (AftE.bind h fun xs z1 vs H1 L1 R1 g1 hv k1 => ?_)
  unfold fZip at k1
  rw [← P.K]
  split at k1
  · match vs, hv with
    | [v, w], hv =>
      simp only [vDs, ImmL, Imm] at hv
      obtain ⟨⟨a, us, rfl, h1, h2⟩, ⟨b, ws, rfl, h3, h4⟩, _⟩ := hv
      exact ⟨a, b, us, ws, rfl, .inl ⟨h1.sq, h3.sq, AftE.here R1 k1 (itD_zip h1 h2 h3 h4)⟩⟩
    | [], hv => simp only [vDs, ImmL] at hv
    | [v], hv => simp only [vDs, ImmL] at hv; exact hv.2.elim
    | v :: w :: x :: r, hv => simp only [vDs, ImmL] at hv; exact hv.2.2.elim
  · match vs, hv with
    | [v, w], hv =>
      simp only [vDs, ImmL, Imm] at hv
      obtain ⟨⟨a, us, rfl, h1, h2⟩, ⟨b, ws, rfl, h3, h4⟩, _⟩ := hv
      exact ⟨a, b, us, ws, rfl, .inr ⟨h1.sq, h3.sq, AftE.here R1 k1 (itD_zipT h1 h2 h3 h4)⟩⟩
    | [], hv => simp only [vDs, ImmL] at hv
    | [v], hv => simp only [vDs, ImmL] at hv; exact hv.2.elim
    | v :: w :: x :: r, hv => simp only [vDs, ImmL] at hv; exact hv.2.2.elim
  · exact k1.elim
end
end DL
set_option Elab.async false
set_option linter.all false
set_option maxRecDepth 100000
namespace DL
open PySem L2
/-! ### slots forgotten -/
def wipeL (sl : List Sl) : List Nat → List Sl
  | [] => sl
  | v :: vs => (wipeL sl vs).set v .un
def Z.wipe (z : Z) (vs : List Nat) : Z := { z with sl := wipeL z.sl vs }
/-- the slots vs as they were, where they held data -/
def backL (sl old : List Sl) : List Nat → List Sl
  | [] => sl
  | v :: vs => match old[v]? with
    | some (.val d) => (backL sl old vs).set v (.val d)
    | _ => backL sl old vs
def Z.restore (z : Z) (old : Z) (vs : List Nat) : Z := { z with sl := backL z.sl old.sl vs }
/-- the slots vs hold no container -/
def Z.calmAt (z : Z) (vs : List Nat) : Bool := vs.all fun v => match z.sl[v]? with
  | some (.val _) => true
  | some .un => true
  | _ => false
section
variable {X : Cx} {B : Bs} {E : WX} {e a b o tg it elt : Expr} {es elts : List Expr} {p pos : Pos} {ma mb m : M W} {md : M D} {ws : M (List W)} {z z' : Z} {σ σ' : St} {H H' : Hp} {L L' : List Addr} {x : Str}
theorem Rel.set_un (R : Rel B z σ H L) (i : Nat) : Rel B (z.set i .un) (σ.set i none) H L ∧ Grow L (Ex B z σ L) H L (Ex B (z.set i .un) (σ.set i none) L) H := by
  have own_j : ∀ j b, OwnAt (z.set i .un) (σ.set i none) j b → OwnAt z σ j b := fun j b ⟨⟨k, h1⟩, h2⟩ => by
    by_cases hj : j = i
    · subst hj
      unfold Z.set at h1
      simp only [List.getElem?_set] at h1
      split at h1
      · split at h1 <;> cases h1
      · simp at *
    · unfold Z.set at h1
      rw [List.getElem?_set_ne (Ne.symm hj)] at h1 h2
      exact ⟨⟨k, h1⟩, h2⟩
  have sub : ∀ b, Ex B (z.set i .un) (σ.set i none) L b → Ex B z σ L b := fun b h => h.imp id (Or.imp id fun ⟨j, o⟩ => ⟨j, own_j j b o⟩)
  have g : Grow L (Ex B z σ L) H L (Ex B (z.set i .un) (σ.set i none) L) H := ⟨fun b o h n _ => ⟨h, fun x => n (sub b x)⟩, fun _ _ h => h, fun _ h => h⟩
  refine ⟨⟨fun j => ?_, fun j k b o1 o2 => R.inj j k b (own_j j b o1) (own_j k b o2), fun j b o => R.new j b (own_j j b o), ⟨R.st.len, R.st.nd, fun b h => .inr (.inl h), fun n b c h1 h2 => (R.st.at_ n b c h1 h2).stay g fun _ h => h⟩, R.pre, R.newc, R.frame, fun b h => R.exd b (sub b h), R.ae, R.tab⟩, g⟩
  have q := R.slot j
  have len := R.lens
  by_cases hj : j = i
  · subst hj
    unfold Z.set
    by_cases hlt : j < z.sl.length
    · rw [List.getElem?_set_self hlt, List.getElem?_set_self (by omega)]
      trivial
    · rw [List.getElem?_eq_none (by simpa using hlt), List.getElem?_eq_none (by simp; omega)]
      trivial
  · unfold Z.set
    rw [List.getElem?_set_ne (Ne.symm hj), List.getElem?_set_ne (Ne.symm hj)]
    generalize z.sl[j]? = x at q ⊢
    generalize σ[j]? = y at q ⊢
    match x, y, q with
    | some (.val d), some (some v), q => exact Imm.stay g _ _ q
    | some (.own c), some (some v), ⟨a, e, q⟩ => exact ⟨a, e, q.stay g fun _ h => h⟩
    | some (.brw c), some (some v), ⟨a, e, q, b⟩ => exact ⟨a, e, q.stay g fun _ h => h, b⟩
    | some (.exn x), some (some v), q => exact ExSl.stay g q
    | some .un, some _, _ => trivial
    | none, none, _ => trivial
theorem Rel.wiped : ∀ (vs : List Nat) {z : Z} {σ : St}, Rel B z σ H L → Rel B (z.wipe vs) (wipe σ vs) H L ∧ Grow L (Ex B z σ L) H L (Ex B (z.wipe vs) (wipe σ vs) L) H
  | [], z, σ, R => ⟨R, Grow.refl⟩
  | v :: vs, z, σ, R => by
    obtain ⟨R1, g1⟩ := Rel.wiped vs R
    obtain ⟨R2, g2⟩ := R1.set_un v
    exact ⟨R2, g1.trans g2⟩
theorem wipeL_get (sl : List Sl) : ∀ (vs : List Nat) (i : Nat), i ∉ vs → (wipeL sl vs)[i]? = sl[i]?
  | [], _, _ => rfl
  | v :: vs, i, h => by
    unfold wipeL
    rw [List.getElem?_set_ne (fun q => h (by rw [q]; exact List.mem_cons_self)), wipeL_get sl vs i fun q => h (List.mem_cons_of_mem _ q)]
theorem wipe_get (σ : St) : ∀ (vs : List Nat) (i : Nat), i ∉ vs → (wipe σ vs)[i]? = σ[i]?
  | [], _, _ => rfl
  | v :: vs, i, h => by
    unfold L2.wipe
    rw [List.getElem?_set_ne (fun q => h (by rw [q]; exact List.mem_cons_self)), wipe_get σ vs i fun q => h (List.mem_cons_of_mem _ q)]
theorem wipeL_at (sl : List Sl) : ∀ (vs : List Nat) (i : Nat), i ∈ vs → i < sl.length → (wipeL sl vs)[i]? = some .un
  | [], _, h, _ => by simp at h
  | v :: vs, i, h, hl => by
    unfold wipeL
    by_cases e : v = i
    · subst e
      have : ∀ vs, (wipeL sl vs).length = sl.length := fun vs => by
        induction vs with
        | nil => rfl
        | cons v vs ih => unfold wipeL; rw [List.length_set, ih]
      rw [List.getElem?_set_self (by rw [this]; exact hl)]
    · rw [List.getElem?_set_ne e]
      exact wipeL_at sl vs i ((List.mem_cons.mp h).resolve_left fun q => e q.symm) hl
theorem backL_get (sl old : List Sl) : ∀ (vs : List Nat) (i : Nat), i ∉ vs → (backL sl old vs)[i]? = sl[i]?
  | [], _, _ => rfl
  | v :: vs, i, h => by
    unfold backL
    split
    · rw [List.getElem?_set_ne (fun q => h (by rw [q]; exact List.mem_cons_self)), backL_get sl old vs i fun q => h (List.mem_cons_of_mem _ q)]
    · exact backL_get sl old vs i fun q => h (List.mem_cons_of_mem _ q)
theorem backL_length (sl old : List Sl) : ∀ vs : List Nat, (backL sl old vs).length = sl.length
  | [] => rfl
  | v :: vs => by
    unfold backL
    split
    · rw [List.length_set, backL_length sl old vs]
    · exact backL_length sl old vs
theorem backL_at (sl old : List Sl) : ∀ (vs : List Nat) (i : Nat), i ∈ vs → i < sl.length → sl[i]? = some .un → (∃ d, (backL sl old vs)[i]? = some (.val d) ∧ old[i]? = some (.val d)) ∨ (backL sl old vs)[i]? = some .un
  | [], _, h, _, _ => by simp at h
  | v :: vs, i, h, hl, hu => by
    unfold backL
    by_cases hi : i ∈ vs
    · have ih := backL_at sl old vs i hi hl hu
      split
      · rename_i d ed
        by_cases e : v = i
        · subst e
          rw [List.getElem?_set_self (by rw [backL_length]; exact hl)]
          exact .inl ⟨d, rfl, ed⟩
        · rw [List.getElem?_set_ne e]
          exact ih
      · exact ih
    · have e : i = v := (List.mem_cons.mp h).resolve_right hi
      subst e
      split
      · rename_i d ed
        rw [List.getElem?_set_self (by rw [backL_length]; exact hl)]
        exact .inl ⟨d, rfl, ed⟩
      · exact .inr (by rw [backL_get sl old vs i hi]; exact hu)
/-- behind a block: the slots vs again -/
theorem Rel.restore {z0 zw : Z} {H0 : Hp} {L0 : List Addr} {vs : List Nat} (R0 : Rel B z0 σ H0 L0) (R : Rel B zw (wipe σ vs) H L) (g : Grow L0 (Ex B z0 σ L0) H0 L (Ex B zw (wipe σ vs) L) H) (hu : ∀ i ∈ vs, i < zw.sl.length → zw.sl[i]? = some .un) :
    Rel B (zw.restore z0 vs) σ H L ∧ Grow L (Ex B zw (wipe σ vs) L) H L (Ex B (zw.restore z0 vs) σ L) H := by
  have lw := R.lens
  rw [wipe_length] at lw
  have own_j : ∀ j b, OwnAt (zw.restore z0 vs) σ j b → OwnAt zw (wipe σ vs) j b := fun j b ⟨⟨k, h1⟩, h2⟩ => by
    have hb : (backL zw.sl z0.sl vs)[j]? = some (.own k) := h1
    by_cases hj : j ∈ vs
    · have hl : j < zw.sl.length := by rw [lw]; exact (List.getElem?_eq_some_iff.mp h2).1
      rcases backL_at zw.sl z0.sl vs j hj hl (hu j hj hl) with ⟨d, e, _⟩ | e
      · rw [e] at hb; cases hb
      · rw [e] at hb; cases hb
    · rw [backL_get _ _ vs j hj] at hb
      exact ⟨⟨k, hb⟩, by rw [wipe_get σ vs j hj]; exact h2⟩
  have sub : ∀ b, Ex B (zw.restore z0 vs) σ L b → Ex B zw (wipe σ vs) L b := fun b h => h.imp id (Or.imp id fun ⟨j, o⟩ => ⟨j, own_j j b o⟩)
  have g1 : Grow L (Ex B zw (wipe σ vs) L) H L (Ex B (zw.restore z0 vs) σ L) H := ⟨fun b o h n _ => ⟨h, fun x => n (sub b x)⟩, fun _ _ h => h, fun _ h => h⟩
  refine ⟨⟨fun j => ?_, fun j k b o1 o2 => R.inj j k b (own_j j b o1) (own_j k b o2), fun j b o => R.new j b (own_j j b o), ⟨R.st.len, R.st.nd, fun b h => .inr (.inl h), fun n b c h1 h2 => (R.st.at_ n b c h1 h2).stay g1 fun _ h => h⟩, R.pre, R.newc, R.frame, fun b h => R.exd b (sub b h), R.ae, R.tab⟩, g1⟩
  show SlRel B.K B.C L _ H B.A B.xs ((backL zw.sl z0.sl vs)[j]?) (σ[j]?)
  by_cases hj : j ∈ vs
  · by_cases hl : j < zw.sl.length
    · rcases backL_at zw.sl z0.sl vs j hj hl (hu j hj hl) with ⟨d, e, e0⟩ | e
      · rw [e]
        have q := R0.slot j
        rw [e0] at q
        generalize σ[j]? = y at q ⊢
        match y, q with
        | some (some v), q => exact Imm.stay (g.trans g1) _ _ q
      · rw [e]
        have : ∃ w, σ[j]? = some w := ⟨_, List.getElem?_eq_getElem (by omega)⟩
        obtain ⟨w, hw⟩ := this
        rw [hw]
        trivial
    · rw [List.getElem?_eq_none (by rw [backL_length]; omega), List.getElem?_eq_none (by omega)]
      trivial
  · rw [backL_get _ _ vs j hj]
    have q := R.slot j
    rw [wipe_get σ vs j hj] at q
    generalize zw.sl[j]? = x at q ⊢
    generalize σ[j]? = y at q ⊢
    match x, y, q with
    | some (.val d), some (some v), q => exact Imm.stay g1 _ _ q
    | some (.own c), some (some v), ⟨a, e, q⟩ => exact ⟨a, e, q.stay g1 fun _ h => h⟩
    | some (.brw c), some (some v), ⟨a, e, q, b⟩ => exact ⟨a, e, q.stay g1 fun _ h => h, b⟩
    | some (.exn x), some (some v), q => exact ExSl.stay g1 q
    | some .un, some _, _ => trivial
    | none, none, _ => trivial
/-! ### list comprehensions -/
/-- a target that sets slots among vs alone -/
structure PGC (X : Cx) (B : Bs) (vs : List Nat) (tg : Expr) (m : D → M Unit) : Prop where
  ex : ∃ g, PG X tg g ∧ ∀ z σ H L v d (Q : St → Hp → Prop), Rel B z σ H L → Imm B.K B.C L (Ex B z σ L) H v d →
    (match m d z with
      | .ok _ z' => ∀ σ', wipe σ' vs = wipe σ vs → Rel B z' σ' H L → G B z σ L H z' σ' L H → Q σ' H
      | _ => False) → g v σ H Q
theorem wipe_set {σ : St} {v : Option V} : ∀ {vs : List Nat} {i : Nat}, i ∈ vs → wipe (σ.set i v) vs = wipe σ vs := fun {vs i} h => by
  apply List.ext_getElem?
  intro j
  by_cases hj : j ∈ vs
  · have key : ∀ τ : St, (wipe τ vs)[j]? = if j < τ.length then some none else none := fun τ => by
      clear h
      induction vs with
      | nil => simp at hj
      | cons u us ih =>
        unfold L2.wipe
        by_cases e : u = j
        · subst e
          simp only [List.getElem?_set, wipe_length]
          split <;> simp_all
        · rw [List.getElem?_set_ne e]
          exact ih ((List.mem_cons.mp hj).resolve_left fun q => e q.symm)
    rw [key, key, List.length_set]
  · rw [wipe_get _ _ _ hj, wipe_get _ _ _ hj, List.getElem?_set_ne (fun q => hj (by rw [← q]; exact h))]
theorem gc_name {vs : List Nat} (i : Nat) {x : Str} (hN : X.N.Nodup) (hi : X.N[i]? = some x := by rfl) (hv : i ∈ vs := by decide) (hx : Loc X.env.scope x := by first | exact .inl rfl | exact .inr rfl) (hf : X.fn x = true ∨ X.env.scope.names.lookup x = some .local := by first | exact .inl rfl | exact .inr rfl | assumption) :
    PGC X B vs (.Name x pos) (gN i) := ⟨_, pg_name hN hi hx hf, fun z σ H L v d Q R hd h => h _ (wipe_set hv) (R.set_val hd) grow_set_val⟩
structure PGCs (X : Cx) (B : Bs) (vs : List Nat) (tgs : List Expr) (m : List D → M Unit) : Prop where
  ex : ∃ g, PGs X tgs g ∧ ∀ z σ H L us ds (Q : St → Hp → Prop), Rel B z σ H L → ImmL B.K B.C L (Ex B z σ L) H us ds →
    (match m ds z with
      | .ok _ z' => ∀ σ', wipe σ' vs = wipe σ vs → Rel B z' σ' H L → G B z σ L H z' σ' L H → Q σ' H
      | _ => False) → g us σ H Q
theorem gcs_nil {vs : List Nat} : PGCs X B vs [] (gsN []) := ⟨_, pgs_nil, fun z σ H L us ds Q R hv h => by
  cases ds with
  | nil =>
    cases us with
    | nil => exact ⟨rfl, h _ rfl R Grow.refl⟩
    | cons _ _ => simp only [ImmL] at hv
  | cons _ _ => exact h.elim⟩
theorem gcs_cons {vs : List Nat} (i : Nat) {is : List Nat} {x : Str} (hN : X.N.Nodup) (hr : PGCs X B vs es (gsN is)) (hi : X.N[i]? = some x := by rfl) (hv : i ∈ vs := by decide) (hx : Loc X.env.scope x := by first | exact .inl rfl | exact .inr rfl)
    (hf : X.fn x = true ∨ X.env.scope.names.lookup x = some .local := by first | exact .inl rfl | exact .inr rfl | assumption) : PGCs X B vs (.Name x pos :: es) (gsN (i :: is)) := by
  obtain ⟨g, p, s⟩ := hr
  refine ⟨_, pgs_cons (pg_name hN hi hx hf) p, fun z σ H L us ds Q R hd h => ?_⟩
  cases ds with
  | nil => exact h.elim
  | cons d ds =>
    cases us with
    | nil => simp only [ImmL] at hd
    | cons v us =>
      simp only [ImmL] at hd
      refine ⟨v, us, rfl, s _ _ _ _ _ _ _ (R.set_val hd.1) (ImmL.stay grow_set_val _ _ hd.2) ?_⟩
      have h' : (match gsN is ds (z.set i (.val d)) with
        | .ok _ z' => ∀ σ', wipe σ' vs = wipe σ vs → Rel B z' σ' H L → G B z σ L H z' σ' L H → Q σ' H
        | _ => False) := h
      generalize gsN is ds (z.set i (.val d)) = r at h' ⊢
      match r, h' with
      | .ok _ z', h' => exact fun σ' hw R' g' => h' σ' (hw.trans (wipe_set hv)) R' (grow_set_val.trans g')
      | .err _ _, h' => exact h'
      | .bad, h' => exact h'
theorem gc_tup {vs : List Nat} {k : Nat} {n : Nat} {gm : List D → M Unit} (P : Plc X B E) (hp : PGCs X B vs es gm) (hn : (assignEach es X.env).length = n := by rfl) (hst : (assignEach es X.env).findIdx? (·.1) = none := by rfl) : PGC X B vs (.Tuple es k pos) (gT n gm) := by
  obtain ⟨g, p, s⟩ := hp
  refine ⟨_, pg_tup P.calm p hn hst, fun z σ H L v d Q R hv h => ?_⟩
  unfold gT at h
  cases d with
  | tup ds =>
    simp only at h
    by_cases hl : ds.length = n
    · rw [if_pos hl] at h
      simp only [Imm] at hv
      obtain ⟨a, us, rfl, r, q⟩ := hv
      rw [← P.K]
      exact ⟨a, us, rfl, r.sq, by rw [q.length, hl], s _ _ _ _ _ _ _ R q h⟩
    · rw [if_neg hl] at h
      exact h.elim
  | _ => exact h.elim
/-- the turns of a comprehension; the slots vs are its own -/
def lcGo (vs : List Nat) (g : D → M Unit) (tt : M Bool) (me : M D) : List D → List D → Z → R (List D)
  | [], acc, z => .ok acc z
  | d :: ds, acc, z => match g d z with
    | .ok _ z1 => match tt z1 with
      | .ok true z2 => match me z2 with
        | .ok y z3 => if acc.length < sizeLine then lcGo vs g tt me ds (acc ++ [y]) (z3.wipe vs) else .bad
        | _ => .bad
      | .ok false z2 => lcGo vs g tt me ds acc (z2.wipe vs)
      | _ => .bad
    | _ => .bad
def mLc (vs : List Nat) (mi : M (List D)) (g : D → M Unit) (tt : M Bool) (me : M D) : M (List D) := fun z => (mi z).bind fun ds z1 => if z1.calmAt vs then match lcGo vs g tt me ds [] (z1.wipe vs) with
    | .ok ys z2 => .ok ys (z2.restore z1 vs)
    | _ => .bad
  else .bad
structure PTsD (X : Cx) (B : Bs) (E : WX) (es : List Expr) (m : M Bool) : Prop where
  ex : ∃ t, PTs X es t ∧ ∀ z σ H L Q, Rel B z σ H L → AftE B E vB z σ H L Q (m z) → t σ H Q
theorem dts_nil : PTsD X B E [] (fun z => .ok true z) := ⟨_, pts_nil, fun z σ H L Q R h => AftE.here R h rfl⟩
theorem dts_one {mt : M Bool} (h : PTD X B E e mt) : PTsD X B E [e] mt := let ⟨t, p, s⟩ := h; ⟨t, pts_one p, s⟩
theorem wipe_idem (σ : St) (vs : List Nat) : wipe (wipe σ vs) vs = wipe σ vs := by
  have : ∀ us : List Nat, (∀ u ∈ us, u ∈ vs) → wipe (wipe σ us) vs = wipe σ vs := by
    intro us
    induction us with
    | nil => intro _; rfl
    | cons u us ih =>
      intro h
      show wipe ((wipe σ us).set u none) vs = wipe σ vs
      rw [wipe_set (h u List.mem_cons_self)]
      exact ih fun w hw => h w (List.mem_cons_of_mem _ hw)
  exact this vs fun u h => h
/-- the base within a comprehension: its own list stands at p -/
def Bs.put (B : Bs) (p : Addr) (o : HO) : Bs := { B with E := fun a => B.E a ∨ a = p, H0 := upd B.H0 p o }
theorem ex_put {p a : Addr} {o : HO} : Ex (B.put p o) z σ L a ↔ Ex B z σ L a ∨ a = p := ex_add
theorem wipe_un (z : Z) (vs : List Nat) : ∀ i ∈ vs, i < (z.wipe vs).sl.length → (z.wipe vs).sl[i]? = some .un := fun i h hl => by
  have : ∀ us, (wipeL z.sl us).length = z.sl.length := fun us => by
    induction us with
    | nil => rfl
    | cons v vs ih => unfold wipeL; rw [List.length_set, ih]
  exact wipeL_at z.sl vs i h (by rw [← this vs]; exact hl)
theorem Rel.at_put {p : Addr} {o : HO} (R : Rel (B.put p o) z σ H L) (hl : p ∉ B.L0) (nb : NB o := by exact trivial) : H p = some o := R.frame p o upd_same hl nb
theorem Rel.ne_put {p : Addr} {o : HO} (R : Rel (B.put p o) z σ H L) (hl : p ∉ B.L0) : p ∉ L := fun h => (R.newc p h).elim hl fun q => by
  have q' : upd B.H0 p o p = none := q
  rw [upd_same] at q'; cases q'
/-- the list at p is begun -/
theorem Rel.begin_put (R : Rel B z σ H L) {p : Addr} {o : HO} (hp : H p = none) (hnt : NTup o := by exact trivial) (hnb : NB o := by exact trivial) : Rel (B.put p o) z σ (upd H p o) L := by
  have R' : Rel (B.add p) z σ (upd H p o) L := R.lay hp hnt
  have hE : ¬ Ex B z σ L p := fun h => (R.exd p h).ne hp
  refine ⟨R'.slot, R'.inj, fun i a ow => ⟨?_, (R'.new i a ow).2⟩, R'.st, R'.pre, fun a h => (R'.newc a h).imp id fun q => ?_, fun a u h n nb => ?_, R'.exd, R'.ae, R.tab.put hp hnb⟩
  · show upd B.H0 p o a = none
    rw [upd_ne (fun e => hE (by rw [← e]; exact .inr (.inr ⟨i, ow⟩)))]
    exact (R'.new i a ow).1
  · show upd B.H0 p o a = none
    rw [upd_ne (fun e => hE (by rw [← e]; exact .inr (.inl h)))]
    exact q
  · by_cases e : a = p
    · subst e
      have h' : upd B.H0 a o a = some u := h
      rw [upd_same] at h' ⊢
      exact h'
    · have h' : upd B.H0 p o a = some u := h
      rw [upd_ne e] at h'
      exact R'.frame a u h' n nb
/-- .. written -/
theorem Rel.next_put {p : Addr} {o o' : HO} (R : Rel (B.put p o) z σ H L) (hl : p ∉ B.L0) (hA : ¬ B.A p) (hnt : NTup o' := by exact trivial) (hx : NX o := by exact trivial) (hnb : NB o' := by exact trivial) : Rel (B.put p o') z σ (upd H p o') L ∧ Grow L (Ex (B.put p o) z σ L) H L (Ex (B.put p o') z σ L) (upd H p o') := by
  have hL := R.ne_put hl
  have pe : Ex (B.put p o) z σ L p := .inl (.inr rfl)
  have g : Grow L (Ex (B.put p o) z σ L) H L (Ex (B.put p o) z σ L) (upd H p o') := grow_upd pe
  have nOwn : ∀ i, ¬ OwnAt z σ i p := fun i ow => (R.new i p ow).2.2 (.inr rfl)
  have st : ∀ {b : Addr} {k : Cell}, b ≠ p → CellRel B.K B.C L (Ex (B.put p o) z σ L) H b k → CellRel B.K B.C L (Ex (B.put p o) z σ L) (upd H p o') b k := fun {b k} hb q => by
    refine q.stay g fun u h => ?_
    rw [upd_ne hb]; exact h
  refine ⟨⟨fun i => ?_, R.inj, fun i a ow => ⟨?_, (R.new i a ow).2⟩, ⟨R.st.len, R.st.nd, R.st.ex, fun n b c h1 h2 => st (fun e => hL (by rw [← e]; exact List.mem_of_getElem? h1)) (R.st.at_ n b c h1 h2)⟩, R.pre, fun a h => (R.newc a h).imp id fun q => ?_, fun b u h n nb => ?_, fun b h => here_upd (R.exd b h) hnt, R.ae, R.tab.renew (R.at_put hl hx.nb) hx hnb⟩, g⟩
  · have q := R.slot i
    have ho := nOwn i
    show SlRel B.K B.C L (Ex (B.put p o) z σ L) (upd H p o') B.A B.xs (z.sl[i]?) (σ[i]?)
    generalize hz : z.sl[i]? = x at q ⊢
    generalize hs : σ[i]? = y at q ⊢
    match x, y, q, hz, hs with
    | some (.val d), some (some v), q, _, _ => exact Imm.stay g _ _ q
    | some (.own c), some (some v), ⟨a, e, q⟩, hz, hs => exact ⟨a, e, st (fun h => ho ⟨⟨c, hz⟩, by rw [hs, e, h]⟩) q⟩
    | some (.brw c), some (some v), ⟨a, e, q, b1, b2⟩, _, _ =>
      refine ⟨a, e, q.stay g fun u h => ?_, b1, b2⟩
      have : a ≠ p := fun h => hA (by rw [← h]; exact b1)
      rw [upd_ne this]; exact h
    | some (.exn x), some (some v), q, _, _ => exact ExSl.stay g q
    | some .un, some _, _, _, _ => trivial
    | none, none, _, _, _ => trivial
  · have q : upd B.H0 p o a = none := (R.new i a ow).1
    have e : a ≠ p := fun e => nOwn i (by rw [← e]; exact ow)
    show upd B.H0 p o' a = none
    rw [upd_ne e] at q ⊢
    exact q
  · have q' : upd B.H0 p o a = none := q
    have e : a ≠ p := fun e => hL (by rw [← e]; exact h)
    show upd B.H0 p o' a = none
    rw [upd_ne e] at q' ⊢
    exact q'
  · have h' : upd B.H0 p o' b = some u := h
    by_cases e : b = p
    · subst e
      rw [upd_same] at h' ⊢
      exact h'
    · rw [upd_ne e] at h' ⊢
      exact R.frame b u (by show upd B.H0 p o b = some u; rw [upd_ne e]; exact h') n nb
/-- .. ended -/
theorem Rel.end_put {p : Addr} {o : HO} (R : Rel (B.put p o) z σ H L) (hl : p ∉ B.L0) (h0 : B.H0 p = none) : Rel (B.add p) z σ H L := by
  have hL := R.ne_put hl
  refine ⟨R.slot, R.inj, fun i a ow => ⟨?_, (R.new i a ow).2⟩, R.st, R.pre, fun a h => (R.newc a h).imp id fun q => ?_, fun a u h n nb => ?_, R.exd, R.ae, R.tab.unput h0⟩
  · have q : upd B.H0 p o a = none := (R.new i a ow).1
    have e : a ≠ p := fun e => (R.new i a ow).2.2 (.inr e)
    rw [upd_ne e] at q
    exact q
  · have q' : upd B.H0 p o a = none := q
    have e : a ≠ p := fun e => hL (by rw [← e]; exact h)
    rw [upd_ne e] at q'
    exact q'
  · refine R.frame a u ?_ n nb
    have h' : B.H0 a = some u := h
    show upd B.H0 p o a = some u
    rw [upd_ne (fun e => by rw [e, h0] at h'; cases h')]
    exact h'
/-- nothing excluded any more -/
theorem Rel.unadd {p : Addr} (R : Rel (B.add p) z σ H L) (hA : ¬ B.A p) : Rel B z σ H L := by
  have sub : ∀ a, Ex B z σ L a → Ex (B.add p) z σ L a := fun a h => ex_add.mpr (.inl h)
  have g : Grow L (Ex (B.add p) z σ L) H L (Ex B z σ L) H := ⟨fun b o h n _ => ⟨h, fun x => n (sub b x)⟩, fun _ _ h => h, fun _ h => h⟩
  refine ⟨fun i => ?_, R.inj, fun i a ow => ⟨(R.new i a ow).1, (R.new i a ow).2.1, fun h => (R.new i a ow).2.2 (.inl h)⟩, ⟨R.st.len, R.st.nd, fun a h => .inr (.inl h), fun n a c h1 h2 => (R.st.at_ n a c h1 h2).stay g fun _ h => h⟩, R.pre, R.newc, R.frame, fun a h => R.exd a (sub a h), fun a h => (R.ae a h).resolve_right fun e => hA (by rw [← e]; exact h), R.tab⟩
  have q := R.slot i
  generalize z.sl[i]? = x at q ⊢
  generalize σ[i]? = y at q ⊢
  match x, y, q with
  | some (.val d), some (some v), q => exact Imm.stay g _ _ q
  | some (.own c), some (some v), ⟨a, e, q⟩ => exact ⟨a, e, q.stay g fun _ h => h⟩
  | some (.brw c), some (some v), ⟨a, e, q, b1, b2⟩ => exact ⟨a, e, q.stay g fun _ h => h, b1, b2⟩
  | some (.exn x), some (some v), q => exact ExSl.stay g q
  | some .un, some _, _ => trivial
  | none, none, _ => trivial
/-- the state of a comprehension at a turn -/
def LcAt (B : Bs) (vs : List Nat) (z0 : Z) (σ : St) (H0 : Hp) (L0 : List Addr) (p : Addr) (acc : List D) (z : Z) (H : Hp) (L : List Addr) : Prop :=
  ∃ us, Rel (B.put p (.lst us)) z (wipe σ vs) H L ∧ Grow L0 (Ex B z0 σ L0) H0 L (Ex (B.put p (.lst us)) z (wipe σ vs) L) H ∧
    ImmL B.K B.C L (Ex (B.put p (.lst us)) z (wipe σ vs) L) H us acc ∧ ∀ i ∈ vs, i < z.sl.length → z.sl[i]? = some .un
/-- a comprehension's parts, within its block -/
structure BlkD (X : Cx) (B : Bs) (vs : List Nat) (scope : Scope) (tg elt : Expr) (ifs : List Expr) (g : D → M Unit) (tt : M Bool) (me : M D) : Prop where
  g : ∀ (B' : Bs), B'.K = B.K → B'.C = B.C → B'.xs = B.xs → ∀ (s : Shared) (H : Hp) (C : Addr) (cl : List (Str × Addr)) (fp : List Addr), PGC (X.blk s H scope (compEnvC scope cl C X.env) fp) B' vs tg g
  t : ∀ (B' : Bs), B'.K = B.K → B'.C = B.C → B'.xs = B.xs → ∀ (s : Shared) (H : Hp) (C : Addr) (cl : List (Str × Addr)) (fp : List Addr), PTsD (X.blk s H scope (compEnvC scope cl C X.env) fp) B' W0 ifs tt
  e : ∀ (B' : Bs), B'.K = B.K → B'.C = B.C → B'.xs = B.xs → ∀ (s : Shared) (H : Hp) (C : Addr) (cl : List (Str × Addr)) (fp : List Addr), PXD (X.blk s H scope (compEnvC scope cl C X.env) fp) B' W0 elt me
/-- a comprehension's block is a place as well -/
theorem Plc.blk {X : Cx} {B B' : Bs} {E : WX} (P : Plc X B E) (hx : B.xs = none) (h1 : B'.K = B.K) (h2 : B'.C = B.C) (h3 : B'.xs = B.xs) (s : Shared) (H : Hp) (scope : Scope) (cenv : Env) (fp : List Addr) : Plc (X.blk s H scope cenv fp) B' W0 :=
  ⟨⟨h1.trans P.K, P.hu, takesN, fun c A h => P.C c A (by rw [← h2]; exact h), fun a A dd h => by rw [h3, hx] at h; cases h⟩, P.calm⟩
theorem lc_read {X : Cx} {B : Bs} {vs : List Nat} {scope : Scope} {tg elt iter : Expr} {ifs : List Expr} {g : D → M Unit} {tt : M Bool} {me : M D} {mi : M (List D)} (b : BlkD X B vs scope tg elt ifs g tt me) (hi : PID X B E tg iter mi) :
    ∃ (wi : TI) (gg : TG) (tt' : TT) (te : TE), PI X tg iter wi ∧ (∀ (s : Shared) (H : Hp) (C : Addr) (cl : List (Str × Addr)) (fp : List Addr), PG (X.blk s H scope (compEnvC scope cl C X.env) fp) tg gg) ∧
      (∀ (s : Shared) (H : Hp) (C : Addr) (cl : List (Str × Addr)) (fp : List Addr), PTs (X.blk s H scope (compEnvC scope cl C X.env) fp) ifs tt') ∧
      (∀ (s : Shared) (H : Hp) (C : Addr) (cl : List (Str × Addr)) (fp : List Addr), PE (X.blk s H scope (compEnvC scope cl C X.env) fp) elt te) ∧
      ∀ z σ H L Q, Rel B z σ H L → AftE B E (vF B σ H) z σ H L Q (mBind (mLc vs mi g tt me) (fun ys => frL (some ys)) z) → tLc wi gg tt' te vs σ H Q := by
  obtain ⟨wi, pi, si⟩ := hi
  -- one reading for all blocks: what every block's reading says, for some base
  refine ⟨wi, fun v σ H Q => ∃ (B' : Bs) (h1 : B'.K = B.K) (h2 : B'.C = B.C) (h3 : B'.xs = B.xs), ∀ s H0 C cl fp, (b.g B' h1 h2 h3 s H0 C cl fp).ex.choose v σ H Q,
    fun σ H Q => ∃ (B' : Bs) (h1 : B'.K = B.K) (h2 : B'.C = B.C) (h3 : B'.xs = B.xs), ∀ s H0 C cl fp, (b.t B' h1 h2 h3 s H0 C cl fp).ex.choose σ H Q,
    fun σ H Q => ∃ (B' : Bs) (h1 : B'.K = B.K) (h2 : B'.C = B.C) (h3 : B'.xs = B.xs), ∀ s H0 C cl fp, (b.e B' h1 h2 h3 s H0 C cl fp).ex.choose σ H Q, pi, fun s H C cl fp => ?_, fun s H C cl fp => ?_, fun s H C cl fp => ?_, ?_⟩
  · exact ⟨fun pins s1 σ H1 v u Q I r ⟨B', h1, h2, h3, h⟩ => (b.g B' h1 h2 h3 s H C cl fp).ex.choose_spec.1.run pins s1 σ H1 v u Q I r (h s H C cl fp)⟩
  · exact ⟨fun pins s1 σ H1 Q I ⟨B', h1, h2, h3, h⟩ => (b.t B' h1 h2 h3 s H C cl fp).ex.choose_spec.1.run pins s1 σ H1 Q I (h s H C cl fp)⟩
  · exact ⟨fun pins s1 σ H1 Q I ⟨B', h1, h2, h3, h⟩ => (b.e B' h1 h2 h3 s H C cl fp).ex.choose_spec.1.run pins s1 σ H1 Q I (h s H C cl fp)⟩
  · intro z σ H L Q R h
    have h' : AftE B E (vF B σ H) z σ H L Q ((mi z).bind fun ds z1 => (if z1.calmAt vs = true then match lcGo vs g tt me ds [] (z1.wipe vs) with
        | .ok ys z2 => (DL.R.ok ys (z2.restore z1 vs) : DL.R (List D))
        | _ => DL.R.bad
      else DL.R.bad).bind fun ys => frL (some ys)) := by
      unfold mBind mLc at h
      generalize mi z = r at h ⊢
      cases r <;> exact h
    refine si z σ H L _ R (AftE.bind h' fun ds z1 J H1 L1 R1 g1 hJ k1 => ?_)
    by_cases hcalm : z1.calmAt vs = true
    case neg => rw [if_neg hcalm] at k1; exact k1.elim
    rw [if_pos hcalm] at k1
    generalize ego0 : lcGo vs g tt me ds [] (z1.wipe vs) = r at k1
    match r, k1 with
    | .err _ _, k1 => exact k1.elim
    | .bad, k1 => exact k1.elim
    | .ok ys z2, k1 =>
      intro p hp
      have h0 : B.H0 p = none := R1.h0 hp
      have hE : ¬ Ex B z1 σ L1 p := fun x => (R1.exd p x).ne hp
      have hl : p ∉ B.L0 := fun x => by
        obtain ⟨n, hn⟩ := List.getElem?_of_mem x
        exact hE (.inr (.inl (List.mem_of_getElem? (R1.pre n p hn))))
      have hA : ¬ B.A p := fun x => hE (.inl (R1.ae p x))
      have hi : H p = none := Classical.byContradiction fun x => g1.dom p x hp
      obtain ⟨Rw, gw⟩ := Rel.wiped vs R1
      refine ⟨fun i m H' => m = ds.length - i ∧ i ≤ ds.length ∧ ∃ zc acc L', LcAt B vs z1 σ H1 L1 p acc zc H' L' ∧ lcGo vs g tt me (ds.drop i) acc zc = .ok ys z2,
        ⟨ds.length, rfl, Nat.zero_le _, z1.wipe vs, [], L1, ⟨[], Rw.begin_put hp, gw.trans (grow_add hp), by simp [ImmL], wipe_un z1 vs⟩, by simpa using ego0⟩, ?_⟩
      rintro i m H' ⟨rfl, hil, zc, acc, L', ⟨us, Rc, gc, im, un⟩, ego⟩
      by_cases hlen : i = ds.length
      · subst hlen
        rw [List.drop_length] at ego
        simp only [lcGo] at ego
        cases ego
        refine .inl ⟨hJ.stop (B.put p (.lst us)) z2 (wipe σ vs) H' L' rfl Rc gc, ?_⟩
        have Ra := Rc.end_put hl h0
        have gr : Grow L1 (Ex (B.add p) z1 σ L1) (upd H1 p (.lst [])) L' (Ex (B.add p) z2 (wipe σ vs) L') H' := by
          refine ⟨fun a u q n nb => ?_, gc.pre, fun a q => ?_⟩
          · have na : a ≠ p := fun e => n (.inl (.inr e))
            rw [upd_ne na] at q
            exact gc.keep a u q (fun x => n (ex_add.mpr (.inl x))) nb
          · by_cases e : a = p
            · subst e; rw [Rc.at_put hl]; intro x; cases x
            · rw [upd_ne e] at q; exact gc.dom a q
        obtain ⟨R3, g3⟩ := Rel.restore (R1.lay hp) Ra gr un
        have R3' := R3.unadd hA
        refine k1 (.ref p) H' L' R3' ⟨fun a u q n nb => ?_, gc.pre, gc.dom⟩ ⟨p, rfl, ⟨R3', R3, ⟨us, Rc.at_put hl, ImmL.stay g3 _ _ im⟩, h0, Rc.ne_put hl, fun x => ?_⟩, hi⟩
        · obtain ⟨q1, n1⟩ := gc.keep a u q n nb
          obtain ⟨q2, n2⟩ := g3.keep a u q1 n1 nb
          exact ⟨q2, fun x => n2 (ex_add.mpr (.inl x))⟩
        · rcases x with x | x | ⟨j, ow⟩
          · exact hE (.inl x)
          · exact Rc.ne_put hl x
          · exact (R3.new j p ow).2.2 (.inr rfl)
      · have hlt : i < ds.length := by omega
        have ed : ds.drop i = ds[i] :: ds.drop (i + 1) := List.drop_eq_getElem_cons hlt
        rw [ed] at ego
        obtain ⟨jg, jy⟩ := hJ.go i ds[i] (B.put p (.lst us)) zc (wipe σ vs) H' L' rfl rfl (List.getElem?_eq_getElem hlt) Rc gc
        simp only [lcGo] at ego
        refine .inr ⟨jg, fun H'' => i + 1 ≤ ds.length ∧ ∃ zc acc L', LcAt B vs z1 σ H1 L1 p acc zc H'' L' ∧ lcGo vs g tt me (ds.drop (i + 1)) acc zc = .ok ys z2, fun H'' q => ⟨ds.length - (i + 1), by omega, rfl, q.1, q.2⟩, fun v H2 hy => ?_⟩
        obtain ⟨sm, imv⟩ := jy v H2 hy
        have R2 := Rc.same sm
        have gs : Grow L' (Ex (B.put p (.lst us)) zc (wipe σ vs) L') H' L' (Ex (B.put p (.lst us)) zc (wipe σ vs) L') H2 := Grow.same sm
        refine ⟨B.put p (.lst us), rfl, rfl, rfl, fun s H0 C cl fp => (b.g (B.put p (.lst us)) rfl rfl rfl s H0 C cl fp).ex.choose_spec.2 zc (wipe σ vs) H2 L' v ds[i] _ R2 imv ?_⟩
        generalize eg : g ds[i] zc = rg at ego
        match rg, ego with
        | .err _ _, ego => cases ego
        | .bad, ego => cases ego
        | .ok _ z4, ego =>
        dsimp only at ego
        intro σ4 hw R4 g4
        refine ⟨hw.trans (wipe_idem σ vs), B.put p (.lst us), rfl, rfl, rfl, fun s H0 C cl fp => (b.t (B.put p (.lst us)) rfl rfl rfl s H0 C cl fp).ex.choose_spec.2 z4 σ4 H2 L' _ R4 ?_⟩
        generalize et : tt z4 = rt at ego
        match rt, ego with
        | .err _ _, ego => cases ego
        | .bad, ego => cases ego
        | .ok false z5, ego =>
          dsimp only at ego
          intro bb H5 L5 R5 g5 hb
          cases hb
          rw [if_neg (by decide)]
          obtain ⟨R6, g6⟩ := Rel.wiped vs R5
          rw [hw.trans (wipe_idem σ vs)] at R6 g6
          have gg := gs.trans (g4.trans (g5.trans g6))
          exact ⟨hlt, z5.wipe vs, acc, L5, ⟨us, R6, gc.trans gg, ImmL.stay gg _ _ im, wipe_un z5 vs⟩, ego⟩
        | .ok true z5, ego =>
          dsimp only at ego
          intro bb H5 L5 R5 g5 hb
          cases hb
          rw [if_pos rfl]
          refine ⟨B.put p (.lst us), rfl, rfl, rfl, fun s H0 C cl fp => (b.e (B.put p (.lst us)) rfl rfl rfl s H0 C cl fp).ex.choose_spec.2 z5 σ4 H5 L5 _ R5 ?_⟩
          generalize em : me z5 = rm at ego
          match rm, ego with
          | .err _ _, ego => cases ego
          | .bad, ego => cases ego
          | .ok y z6, ego =>
            intro vy H6 L6 R6 g6 hy6
            dsimp only at ego
            split at ego
            case isFalse => cases ego
            rename_i hacc
            obtain ⟨R7, g7⟩ := R6.next_put (o' := .lst (us ++ [vy])) hl hA
            obtain ⟨R8, g8⟩ := Rel.wiped vs R7
            rw [hw.trans (wipe_idem σ vs)] at R8 g8
            have ga := gs.trans (g4.trans (g5.trans g6))
            have gb : Grow L6 (Ex (B.put p (.lst us)) z6 σ4 L6) H6 L6 (Ex (B.put p (.lst (us ++ [vy]))) (z6.wipe vs) (wipe σ vs) L6) (upd H6 p (.lst (us ++ [vy]))) := g7.trans g8
            refine ⟨us, R6.at_put hl, by rw [im.length]; exact hacc, hlt, z6.wipe vs, acc ++ [y], L6, ⟨us ++ [vy], R8, gc.trans (ga.trans gb), ?_, wipe_un z6 vs⟩, ego⟩
            exact ImmL.append (ImmL.stay (ga.trans gb) _ _ im) (ImmL.one (Imm.stay gb _ _ hy6))
variable {scope : Scope} {own : List (Str × Nat)} {ifs : List Expr} {g : D → M Unit} {tt : M Bool} {me : M D} {mi : M (List D)}
/-- a list comprehension, fresh -/
theorem df_lc (P : Plc X B E) (hN : X.N.Nodup) (ok : BlkOk X.N X.env.scope scope own) (b : BlkD X B (own.map (·.2)) scope tg elt ifs g tt me) (hi : PID X B E tg it mi) (hs : ∀ x, foldedSetIterable it X.env x = pure x := by intro _; rfl) :
    PFD X B E (.ListComp elt [⟨tg, it, ifs, 0⟩] scope pos) (mBind (mLc (own.map (·.2)) mi g tt me) fun ys => frL (some ys)) := by
  obtain ⟨wi, gg, tt', te, h1, h2, h3, h4, h5⟩ := lc_read b hi
  exact ⟨_, pe_lc P.calm hN h1 ok h2 h3 h4 hs, h5⟩
/-- a fresh container, shared at once (no dict) -/
def cellD (m : M Cell) : M D := fun z => (m z).bind fun c z1 => if isDictC c then .bad else .ok c.data z1
/-- .. or a dict -/
def cellL (m : M Cell) : M D := fun z => (m z).bind fun c z1 => .ok c.data z1
theorem Fresh.imm {q : Addr} {c : Cell} (F : Fresh B z σ H L q c) (hc : isDictC c = false) : Imm B.K B.C L (Ex B z σ L) H (.ref q) c.data := by
  have g : Grow L (Ex (B.add q) z σ L) H L (Ex B z σ L) H := ⟨fun b o h n _ => ⟨h, fun x => n (ex_add.mpr (.inl x))⟩, fun _ _ h => h, fun _ h => h⟩
  cases c with
  | lst xs =>
    obtain ⟨vs, h, im⟩ := F.cell
    simp only [Cell.data, Imm]
    exact ⟨q, vs, rfl, .inl ⟨F.nE, .inl h⟩, ImmL.stay g _ _ im⟩
  | dK xs => cases hc
  | dT xs => cases hc
  | ins k fs =>
    obtain ⟨A, dx, vs, hc, h, im⟩ := F.cell
    simp only [Cell.data, Imm]
    exact ⟨q, dx, A, vs, rfl, hc, F.nE, h, ImmF.stay g _ _ im⟩
/-- a fresh dict is locked for good -/
theorem Fresh.lockd {q : Addr} {c : Cell} (F : Fresh B z σ H L q c) (hc : isDictC c = true) :
    ∃ u, H q = some u ∧ Mut (some u) ∧ ∀ od, Rel B z σ (upd H q (.frz od u)) L ∧ G B z σ L H z σ L H ∧ Imm B.K B.C L (Ex B z σ L) (upd H q (.frz od u)) (.ref q) c.data := by
  have key : ∀ u, H q = some u → Mut (some u) → ∀ od, Rel B z σ (upd H q (.frz od u)) L ∧ Grow L (Ex (B.add q) z σ L) H L (Ex B z σ L) (upd H q (.frz od u)) := fun u hu mu od => by
    have hk : ∀ b o, b ≠ q → H b = some o → upd H q (.frz od u) b = some o := fun b o n h => by rw [upd_ne n]; exact h
    have hnq : ∀ b, ¬ Ex (B.add q) z σ L b → b ≠ q := fun b n e => n (ex_add.mpr (.inr e))
    have g : Grow L (Ex (B.add q) z σ L) H L (Ex B z σ L) (upd H q (.frz od u)) := ⟨fun b o h n _ => ⟨hk b o (hnq b n) h, fun x => n (ex_add.mpr (.inl x))⟩, fun _ _ h => h, upd_dom⟩
    have R := F.rel
    have R0 := F.rel0
    refine ⟨⟨fun i => ?_, R0.inj, R0.new, ⟨R0.st.len, R0.st.nd, R0.st.ex, fun n a k h1 h2 => (R.st.at_ n a k h1 h2).stay g fun o h => hk a o (fun e => F.nL (e ▸ List.mem_of_getElem? h1)) h⟩, R0.pre, R0.newc, fun a o h n nb => hk a o (fun e => by
      have h0 := F.h0
      rw [e, h0] at h
      cases h) (R0.frame a o h n nb), fun a h => here_upd (R0.exd a h) trivial, R0.ae, let ⟨_, x1, x2⟩ := F.cell.nx; R0.tab.but x1 x2 hk⟩, g⟩
    have s := R.slot i
    have s0 := R0.slot i
    show SlRel B.K B.C L _ _ B.A B.xs (z.sl[i]?) (σ[i]?)
    have hown : ∀ a, OwnAt z σ i a → a ≠ q := fun a o e => F.nE (e ▸ (.inr (.inr ⟨i, o⟩)))
    generalize hz : z.sl[i]? = x at s s0 ⊢
    generalize hs : σ[i]? = y at s s0 ⊢
    match x, y, s, s0, hz, hs with
    | some (.val d), some (some v), s, _, _, _ => exact Imm.stay g _ _ s
    | some (.own c'), some (some v), ⟨a, e, s⟩, _, hz, hs => exact ⟨a, e, s.stay g fun o h => hk a o (hown a ⟨⟨c', hz⟩, by rw [hs, e]⟩) h⟩
    | some (.brw c'), some (some v), ⟨a, e, s, _, b2⟩, ⟨a', e', _, b1, _⟩, _, _ =>
      rw [e] at e'
      cases e'
      refine ⟨a, e, s.stay g fun o h => hk a o (fun ea => F.nE (.inl (R0.ae q (ea ▸ b1)))) h, b1, b2⟩
    | some (.exn x), some (some v), s, _, _, _ => exact ExSl.stay g s
    | some .un, some _, _, _, _, _ => trivial
    | none, none, _, _, _, _ => trivial
  cases c with
  | lst xs => cases hc
  | ins k fs => cases hc
  | dK xs =>
    obtain ⟨vs, h, im⟩ := F.cell
    refine ⟨_, h, trivial, fun od => ⟨(key _ h trivial od).1, Grow.refl, ?_⟩⟩
    simp only [Cell.data, Imm]
    exact ⟨q, vs, od, rfl, F.nE, upd_same, ImmK.stay (key _ h trivial od).2 _ _ im⟩
  | dT xs =>
    obtain ⟨vs, h, im⟩ := F.cell
    refine ⟨_, h, trivial, fun od => ⟨(key _ h trivial od).1, Grow.refl, ?_⟩⟩
    simp only [Cell.data, Imm]
    exact ⟨q, vs, od, rfl, F.nE, upd_same, ImmT.stay (key _ h trivial od).2 _ _ im⟩
theorem d_fresh {mc : M Cell} (h : PFD X B E e mc) : PXD X B E e (cellD mc) := by
  obtain ⟨t, p, s⟩ := h
  refine ⟨t, p, fun z σ H L Q R h => ?_⟩
  refine s z σ H L _ R (AftE.bind h fun c z1 v H1 L1 R1 g1 hv k1 => ?_)
  obtain ⟨q, rfl, F, hi⟩ := hv
  split at k1
  · exact k1.elim
  · rename_i hc
    exact AftE.here R1 k1 (F.imm (by simpa using hc))
theorem d_freshL {mc : M Cell} (h : PFD X B E e mc) : PXD X B E e (cellL mc) := by
  obtain ⟨t, p, s⟩ := h
  refine ⟨_, pe_lockV p, fun z σ H L Q R h => ?_⟩
  refine s z σ H L _ R ?_
  unfold cellL at h
  generalize mc z = r at h ⊢
  match r, h with
  | .ok c z1, h =>
    intro v H1 L1 R1 g1 ⟨q, e, F, hp⟩
    subst e
    cases hc : isDictC c with
    | false => exact .inl (h (.ref q) H1 L1 R1 g1 (F.imm hc))
    | true =>
      obtain ⟨u, hu, mu, k⟩ := F.lockd hc
      refine .inr ⟨q, u, rfl, hu, mu, fun od => ?_⟩
      obtain ⟨R2, _, im⟩ := k od
      refine h (.ref q) _ L1 R2 ⟨fun a o ho n nb => ?_, g1.pre, fun a ho => upd_dom a (g1.dom a ho)⟩ im
      obtain ⟨q1, n1⟩ := g1.keep a o ho n nb
      refine ⟨by rw [upd_ne (fun e => by rw [e, hp] at ho; cases ho)]; exact q1, n1⟩
  | .err x S, h => exact h
  | .bad, h => exact h
/-- y = [..] on one line -/
theorem d_setLc (i : Nat) {y : Str} {py : Pos} (P : Plc X B E) (hN : X.N.Nodup) (ok : BlkOk X.N X.env.scope scope own) (b : BlkD X B (own.map (·.2)) scope tg elt ifs g tt me) (hi : PID X B E tg it mi) (hy : X.N[i]? = some y := by rfl) (hyl : X.env.scope.names.lookup y = some .local := by rfl)
    {spos : Pos} (hsw : swapsWith (.ListComp elt [⟨tg, it, ifs, 0⟩] scope pos) (some (.Name y py)) spos.line X.env = pure true := by exact sw_true rfl rfl rfl (by decide +kernel)) (hs : ∀ x, foldedSetIterable it X.env x = pure x := by intro _; rfl) :
    PSD X B E (.Assign [.Name y py] (.ListComp elt [⟨tg, it, ifs, 0⟩] scope pos) spos) (sAsg (cellD (mBind (mLc (own.map (·.2)) mi g tt me) fun ys => frL (some ys))) (gN i)) := by
  obtain ⟨wi, gg, tt', te, h1, h2, h3, h4, h5⟩ := lc_read b hi
  refine ⟨_, ps_setLc P.calm hN hy hyl hsw h1 ok h2 h3 h4 hs, fun z σ H L N R h => ?_⟩
  unfold sAsg cellD at h
  refine h5 z σ H L _ R ?_
  generalize mBind (mLc (own.map (·.2)) mi g tt me) (fun ys => frL (some ys)) z = r at h ⊢
  match r, h with
  | .ok c z1, h =>
    intro v H1 L1 R1 g1 ⟨p, e, F, hp⟩
    subst e
    have h' : AftS B E z σ H L N ((if isDictC c = true then (DL.R.bad : DL.R D) else DL.R.ok c.data z1).bindS fun d z1 => (gN i d z1).done) := h
    split at h'
    · exact h'.elim
    · rename_i hc
      exact h' _ _ _ (R1.set_val (F.imm (by simpa using hc))) (g1.trans grow_set_val)
  | .err x z1, h => exact fun cls dd H1 L1 R1 g1 => h cls dd σ H1 L1 R1 g1
  | .bad, h => exact h
theorem d_setOwnLc (i : Nat) {y : Str} {py : Pos} (P : Plc X B E) (hN : X.N.Nodup) (ok : BlkOk X.N X.env.scope scope own) (b : BlkD X B (own.map (·.2)) scope tg elt ifs g tt me) (hi : PID X B E tg it mi) (hy : X.N[i]? = some y := by rfl) (hyl : X.env.scope.names.lookup y = some .local := by rfl)
    {spos : Pos} (hsw : swapsWith (.ListComp elt [⟨tg, it, ifs, 0⟩] scope pos) (some (.Name y py)) spos.line X.env = pure true := by exact sw_true rfl rfl rfl (by decide +kernel)) (hs : ∀ x, foldedSetIterable it X.env x = pure x := by intro _; rfl) :
    PSD X B E (.Assign [.Name y py] (.ListComp elt [⟨tg, it, ifs, 0⟩] scope pos) spos) (sOwn i (mBind (mLc (own.map (·.2)) mi g tt me) fun ys => frL (some ys))) := by
  obtain ⟨wi, gg, tt', te, h1, h2, h3, h4, h5⟩ := lc_read b hi
  refine ⟨_, ps_setLc P.calm hN hy hyl hsw h1 ok h2 h3 h4 hs, fun z σ H L N R h => ?_⟩
  unfold sOwn at h
  refine h5 z σ H L _ R ?_
  generalize mBind (mLc (own.map (·.2)) mi g tt me) (fun ys => frL (some ys)) z = r at h ⊢
  match r, h with
  | .ok c z1, h =>
    intro v H1 L1 R1 g1 ⟨p, e, F, hp⟩
    subst e
    refine h _ _ _ (Rel.set_own F) ⟨fun a o q n nb => ?_, g1.pre, g1.dom⟩
    obtain ⟨q1, n1⟩ := g1.keep a o q n nb
    refine ⟨q1, fun x => ?_⟩
    rcases ex_add.mp (ex_set_own a x) with h | h
    · exact n1 h
    · rw [h, hp] at q; cases q
  | .err x z1, h => exact fun cls dd H1 L1 R1 g1 => h cls dd σ H1 L1 R1 g1
  | .bad, h => exact h
end
end DL
set_option Elab.async false
set_option linter.all false
set_option maxRecDepth 100000
namespace DL
open PySem L2
section
variable {X : Cx} {B : Bs} {E : WX} {e a b o : Expr} {es : List Expr} {p pos apos cpos p2 : Pos} {ma mb m : M W} {md : M D} {ws : M (List W)} {z z' : Z} {σ σ' : St} {H H' : Hp} {L L' : List Addr} {x : Str}
/-! ### methods of lists and texts -/
inductive MT | str | lst
def MT.name : MT → String
  | .str => "str" | .lst => "list"
def Z.isMT (z : Z) (T : MT) (w : W) : Bool := match T with
  | .str => match w with
    | .d (.str _) => true
    | _ => false
  | .lst => match z.cont w with
    | some (.lst _) => true
    | _ => false
theorem Rel.tyV (R : Rel B z σ H L) {T : MT} {v : V} {w : W} (hv : VRel B z σ H L v w) (h : z.isMT T w = true) : tyV B.K T.name v H := by
  cases T with
  | str =>
    unfold Z.isMT at h
    simp only at h
    split at h
    · rw [vr_str hv]
      exact rfl
    · cases h
  | lst =>
    unfold Z.isMT at h
    simp only at h
    split at h
    · rename_i ec
      obtain ⟨a, us, rfl, h1, h2⟩ := R.readL hv ec
      exact .inl ⟨rfl, us, h1⟩
    · cases h
def mBM (T : MT) (m : M W) (ws : M (List W)) (f : W → List W → M W) : M W := fun z => (m z).bind fun x z1 => if z1.isMT T x then (ws z1).bind fun xs z2 => f x xs z2 else .bad
def MtS (B : Bs) (E : WX) (r : V → List V → Hp → VK → Prop) (f : W → List W → M W) : Prop :=
  ∀ z σ H L Q x vx xs vs, Rel B z σ H L → VRel B z σ H L vx x → vVs B σ z H L vs xs → AftE B E (vV B σ) z σ H L Q (f x xs z) → r vx vs H Q
theorem d_bm {name : Str} {id : String} {r : V → List V → Hp → VK → Prop} {f : W → List W → M W} (T : MT) (P : Pl X B E) (pa : PlainAttrs T.name) (slot : Slot T.name name id) (hty : typeOf (.builtin id) = pure (.type "method_descriptor")) (hm : MtR X id r) (hf : MtS B E r f) (ho : PED X B E o m) (ha : PAD X B E (e :: es) ws)
    (hbase : attributeBase o name X.env (eval o X.env) = eval o X.env := by rfl)
    (hfew : ((backTo cpos (starEach (e :: es) X.env)).all (fun x => !x.1) && (backToKw cpos (keywordEach [] X.env)).all (fun x => x.1.isSome)
      && decide ((e :: es).length + ([] : List Keyword).length + (if ([] : List Keyword).isEmpty then 0 else 1) < 30)) = true := by rfl)
    (hline : (apos.endLine == cpos.line) = true := by rfl) (hs : starEach (e :: es) X.env = (false, eval e X.env) :: starEach es X.env := by rfl) (hplain : (backTo cpos (starEach es X.env)).any (·.1) = false := by rfl) :
    PED X B E (.Call (.Attribute o name apos) (e :: es) [] cpos) (mBM T m ws f) := by
  obtain ⟨t1, p1, s1⟩ := ho
  obtain ⟨t2, p2, s2⟩ := ha
  refine ⟨_, pe_bm pa slot hty hm p1 p2 hbase hfew hline hs hplain, fun z σ H L Q R h => ?_⟩
  refine s1 z σ H L _ R (AftE.bind h fun x z1 v H1 L1 R1 g1 hv k1 => ?_)
  split at k1
  · rename_i ht
    refine ⟨by rw [← P.K]; exact R1.tyV hv ht, ?_⟩
    refine s2 z1 σ H1 L1 _ R1 (AftE.bind k1 fun xs z2 vs H2 L2 R2 g2 hvs k2 => ?_)
    exact hf z2 σ H2 L2 Q x v xs vs R2 (VRel.stay g2 hv) hvs k2
  · exact k1.elim
theorem d_bm0 {name : Str} {id : String} {r : V → List V → Hp → VK → Prop} {f : W → List W → M W} (T : MT) (P : Pl X B E) (pa : PlainAttrs T.name) (slot : Slot T.name name id) (hty : typeOf (.builtin id) = pure (.type "method_descriptor")) (hm : MtR X id r) (hf : MtS B E r f) (ho : PED X B E o m)
    (hbase : attributeBase o name X.env (eval o X.env) = eval o X.env := by rfl) (hline : (apos.endLine == cpos.line) = true := by rfl) :
    PED X B E (.Call (.Attribute o name apos) [] [] cpos) (mBM T m wNil f) := by
  obtain ⟨t1, p1, s1⟩ := ho
  refine ⟨_, pe_bm0 pa slot hty hm p1 hbase hline, fun z σ H L Q R h => ?_⟩
  refine s1 z σ H L _ R (AftE.bind h fun x z1 v H1 L1 R1 g1 hv k1 => ?_)
  split at k1
  · rename_i ht
    refine ⟨by rw [← P.K]; exact R1.tyV hv ht, ?_⟩
    exact hf z1 σ H1 L1 Q x v [] [] R1 hv trivial k1
  · exact k1.elim
theorem AftE.none_here {d : D} (R : Rel B z' σ H' L') (g : G B z σ L H z' σ L' H') {Q : VK} (h : AftE B E (vV B σ) z σ H L Q (.ok (.d d) z')) {v : V} (hv : Imm B.K B.C L' (Ex B z' σ L') H' v d) : Q v H' := h v H' L' R g hv
/-- append -/
def fAppend (x : W) (xs : List W) : M W := fun z => match xs with
  | [y] => (mShareN y z).bind fun d z1 => match z1.mut x with
    | some (.lst ds) => if ds.length < sizeLine then .ok (.d .non) (z1.put x (.lst (ds ++ [d]))) else .bad
    | _ => .bad
  | _ => .bad
theorem share_step {α υ : Type} {vr : Z → Hp → List Addr → υ → α → Prop} {d : W} {v : V} {f : D → M α} {Q : υ → Hp → Prop} {T : Prop} (R : Rel B z σ H L) (hv : VRel B z σ H L v d) (h : AftE B E vr z σ H L Q ((mShareN d z).bind f))
    (hr : ∀ z' d', Rel B z' σ H L → G B z σ L H z' σ L H → Imm B.K B.C L (Ex B z' σ L) H v d' → AftE B E vr z' σ H L Q (f d' z') → T) : T := by
  cases d with
  | own i =>
    simp only [mShareN] at h
    simp only [VRel] at hv
    generalize e : z.sl[i]? = o at h
    match o, h with
    | some (.own c), h =>
      dsimp only at h
      have hcc : isDictC c = false := by
        cases hc : isDictC c with
        | false => rfl
        | true => rw [hc] at h; exact h.elim
      obtain ⟨R', g, q⟩ := share_own R e hv hcc
      refine hr _ _ R' g q ?_
      rw [hcc] at h
      have h' : AftE B E vr z σ H L Q (f c.data (shareAt z i c.data)) := h
      generalize f c.data (shareAt z i c.data) = r at h' ⊢
      match r, h' with
      | .ok a z2, h' => exact fun w H2 L2 R2 g2 => h' w H2 L2 R2 (g.trans g2)
      | .err _ _, h' => exact fun cls dd H2 L2 R2 g2 => h' cls dd H2 L2 R2 (g.trans g2)
      | .bad, h' => exact h'
    | some (.val d), h => exact h.elim
    | some (.brw c), h => exact h.elim
    | some .un, h => exact h.elim
    | none, h => exact h.elim
  | d d => exact hr z d R Grow.refl hv h
theorem mtS_append : MtS B E rAppend fAppend := by
  intro z σ H L Q x vx xs vs R hx hvs h
  unfold fAppend at h
  split at h
  · obtain ⟨v, rfl, hv⟩ := vvs1 hvs
    refine share_step R hv h fun z' d R' g im k => ?_
    split at k
    · rename_i ds em
      split at k
      · rename_i hl
        obtain ⟨q, rfl, ⟨us, hq, imu⟩, ex, up⟩ := R'.write (VRel.stay g hx) em
        have u := up (.lst (ds ++ [d])) (.lst (us ++ [v])) ⟨_, upd_same, ImmL.stay (grow_upd ex) _ _ (imu.append (ImmL.one im))⟩
        exact ⟨q, us, v, rfl, rfl, hq, by rw [imu.length]; exact hl, k _ _ _ u.1 u.2 (by simp [VRel, Imm])⟩
      · exact k.elim
    · exact k.elim
  · exact h.elim
theorem d_append (P : Pl X B E) (ho : PED X B E o m) (he : PED X B E e ma) (hbase : attributeBase o "append" X.env (eval o X.env) = eval o X.env := by rfl)
    (hfew : ((backTo cpos (starEach (e :: []) X.env)).all (fun x => !x.1) && (backToKw cpos (keywordEach [] X.env)).all (fun x => x.1.isSome)
      && decide ((e :: []).length + ([] : List Keyword).length + (if ([] : List Keyword).isEmpty then 0 else 1) < 30)) = true := by rfl)
    (hline : (apos.endLine == cpos.line) = true := by rfl) (hs : starEach (e :: []) X.env = (false, eval e X.env) :: starEach [] X.env := by rfl) (hplain : (backTo cpos (starEach [] X.env)).any (·.1) = false := by rfl) :
    PED X B E (.Call (.Attribute o "append" apos) [e] [] cpos) (mBM .lst m (wCons ma wNil) fAppend) :=
  d_bm .lst P PySem.F.plainAttrs_list PySem.F.slot_list_append PySem.F.type_list_append mt_append mtS_append ho (dw_cons he dw_nil hs) hbase hfew hline hs hplain
/-- pop(i) -/
def fPopAt (x : W) (xs : List W) : M W := fun z => match xs, z.mut x with
  | [.d (.int i)], some (.lst ds) => if -(2 ^ 63) ≤ i ∧ i < 2 ^ 63 then match ixN ds.length i with
      | some k => match ds[k]? with
        | some d => .ok (.d d) (z.put x (.lst (ds.eraseIdx k)))
        | none => .bad
      | none => .bad
    else .bad
  | _, _ => .bad
theorem ImmL.erase {K : Fr} {C : Cl} {Ee : Addr → Prop} : ∀ {vs : List V} {ds : List D} (n : Nat), ImmL K C L Ee H vs ds → ImmL K C L Ee H (vs.eraseIdx n) (ds.eraseIdx n)
  | [], [], n, _ => by simp [ImmL]
  | v :: vs, d :: ds, 0, h => by
    simp only [ImmL, List.eraseIdx_cons_zero] at h ⊢
    exact h.2
  | v :: vs, d :: ds, n + 1, h => by
    simp only [ImmL, List.eraseIdx_cons_succ] at h ⊢
    exact ⟨h.1, ImmL.erase n h.2⟩
  | [], _ :: _, _, h => by simp only [ImmL] at h
  | _ :: _, [], _, h => by simp only [ImmL] at h
theorem mtS_popAt : MtS B E rPopAt fPopAt := by
  intro z σ H L Q x vx xs vs R hx hvs h
  unfold fPopAt at h
  split at h
  · rename_i i ds em
    obtain ⟨v, rfl, hv⟩ := vvs1 hvs
    split at h
    · rename_i hi
      split at h
      · rename_i k ek
        split at h
        · rename_i d ed
          obtain ⟨q, rfl, ⟨us, hq, imu⟩, ex, up⟩ := R.write hx em
          have u := up (.lst (ds.eraseIdx k)) (.lst (us.eraseIdx k)) ⟨_, upd_same, ImmL.stay (grow_upd ex) _ _ (imu.erase k)⟩
          obtain ⟨w, hw, imw⟩ := ImmL.get imu ed
          rw [vr_int hv]
          exact ⟨q, us, i, k, w, rfl, rfl, hq, hi.1, hi.2, by rw [imu.length]; exact (ixN_seq ek).1, hw, h _ _ _ u.1 u.2 (Imm.stay u.2 _ _ imw)⟩
        · exact h.elim
      · exact h.elim
    · exact h.elim
  · exact h.elim
theorem d_popAt (P : Pl X B E) (ho : PED X B E o m) (he : PED X B E e ma) (hbase : attributeBase o "pop" X.env (eval o X.env) = eval o X.env := by rfl)
    (hfew : ((backTo cpos (starEach (e :: []) X.env)).all (fun x => !x.1) && (backToKw cpos (keywordEach [] X.env)).all (fun x => x.1.isSome)
      && decide ((e :: []).length + ([] : List Keyword).length + (if ([] : List Keyword).isEmpty then 0 else 1) < 30)) = true := by rfl)
    (hline : (apos.endLine == cpos.line) = true := by rfl) (hs : starEach (e :: []) X.env = (false, eval e X.env) :: starEach [] X.env := by rfl) (hplain : (backTo cpos (starEach [] X.env)).any (·.1) = false := by rfl) :
    PED X B E (.Call (.Attribute o "pop" apos) [e] [] cpos) (mBM .lst m (wCons ma wNil) fPopAt) :=
  d_bm .lst P PySem.F.plainAttrs_list PySem.F.slot_list_pop PySem.F.type_list_pop mt_popAt mtS_popAt ho (dw_cons he dw_nil hs) hbase hfew hline hs hplain
/-! texts -/
def tx1 (g : Str → Str → Option D) (x : W) (xs : List W) : M W := flat (match x, xs with
  | .d (.str a), [.d (.str b)] => g a b
  | _, _ => none)
def tx0 (g : Str → Option D) (x : W) (xs : List W) : M W := flat (match x, xs with
  | .d (.str a), [] => g a
  | _, _ => none)
/-- split(sep) -/
def fSplit (x : W) (xs : List W) : M W := newL (match x, xs with
  | .d (.str a), [.d (.str b)] => if (b.length == 0) = false ∧ a.length + 2 ≤ sizeLine then some ((Txt.split a b).map .str) else none
  | _, _ => none)
theorem imm_strs {K : Fr} {C : Cl} {Ee : Addr → Prop} : ∀ xs : List Str, ImmL K C L Ee H (xs.map V.str) (xs.map D.str)
  | [] => by simp [ImmL]
  | x :: xs => by
    simp only [List.map_cons, ImmL, Imm, true_and]
    exact imm_strs xs
def rSplit : V → List V → Hp → VK → Prop := fun x xs H Q => ∃ a b, x = .str a ∧ xs = [.str b] ∧ (b.length == 0) = false ∧ a.length + 2 ≤ sizeLine ∧ rNewStrs (Txt.split a b) H Q
theorem mtS_split : MtS B E rSplit fSplit := by
  intro z σ H L Q x vx xs vs R hx hvs h
  obtain ⟨ds, ed, q⟩ := newL_of R h
  split at ed
  · rename_i a b
    split at ed
    · rename_i hc
      cases ed
      obtain ⟨v, rfl, hv⟩ := vvs1 hvs
      rw [vr_str hx, vr_str hv]
      exact ⟨a, b, rfl, rfl, hc.1, hc.2, fun p hp => q _ p (imm_strs _) hp⟩
    · cases ed
  · cases ed
theorem d_split (P : Pl X B E) (ho : PED X B E o m) (he : PED X B E e ma) (hbase : attributeBase o "split" X.env (eval o X.env) = eval o X.env := by rfl)
    (hfew : ((backTo cpos (starEach (e :: []) X.env)).all (fun x => !x.1) && (backToKw cpos (keywordEach [] X.env)).all (fun x => x.1.isSome)
      && decide ((e :: []).length + ([] : List Keyword).length + (if ([] : List Keyword).isEmpty then 0 else 1) < 30)) = true := by rfl)
    (hline : (apos.endLine == cpos.line) = true := by rfl) (hs : starEach (e :: []) X.env = (false, eval e X.env) :: starEach [] X.env := by rfl) (hplain : (backTo cpos (starEach [] X.env)).any (·.1) = false := by rfl) :
    PED X B E (.Call (.Attribute o "split" apos) [e] [] cpos) (mBM .str m (wCons ma wNil) fSplit) :=
  d_bm (r := rSplit) .str P PySem.F.plainAttrs_str PySem.F.slot_str_split PySem.F.type_str_split mt_split mtS_split ho (dw_cons he dw_nil hs) hbase hfew hline hs hplain
/-- sep.join(texts) -/
def fJoin (x : W) (xs : List W) : M W := fun z => flat (match x, xs with
  | .d (.str a), [w] => match (z.seq w).bind strsD with
    | some ys => if (ys.map (·.length)).sum + ys.length * a.length ≤ 16777216 then some (.str (Txt.join a ys)) else none
    | none => none
  | _, _ => none) z
def rJoin (K : Fr) : V → List V → Hp → VK → Prop := fun x xs H Q => ∃ a p, ∃ ys : List Str, x = .str a ∧ xs = [.ref p] ∧ (SqL K H p (ys.map V.str) ∨ SqT K H p (ys.map V.str)) ∧
  (ys.map (·.length)).sum + ys.length * a.length ≤ 16777216 ∧ Q (.str (Txt.join a ys)) H
theorem mtS_join (P : Pl X B E) : MtS B E (rJoin X.K) fJoin := by
  intro z σ H L Q x vx xs vs R hx hvs h
  obtain ⟨d, ed, q⟩ := flat_of R h
  rw [← P.K]
  split at ed
  · rename_i a w
    split at ed
    · rename_i ys ey
      split at ed
      · rename_i hl
        cases ed
        obtain ⟨v, rfl, hv⟩ := vvs1 hvs
        obtain ⟨ds, e1, e2⟩ := Option.bind_eq_some_iff.mp ey
        obtain ⟨p, us, rfl, h1, im⟩ := R.seq hv e1
        rw [vr_str hx]
        refine ⟨a, p, ys, rfl, rfl, ?_, hl, q _ vr_str'⟩
        rw [← strsD_imm im e2]
        exact h1
      · cases ed
    · cases ed
  · cases ed
theorem d_join (P : Pl X B E) (ho : PED X B E o m) (he : PED X B E e ma) (hbase : attributeBase o "join" X.env (eval o X.env) = eval o X.env := by rfl)
    (hfew : ((backTo cpos (starEach (e :: []) X.env)).all (fun x => !x.1) && (backToKw cpos (keywordEach [] X.env)).all (fun x => x.1.isSome)
      && decide ((e :: []).length + ([] : List Keyword).length + (if ([] : List Keyword).isEmpty then 0 else 1) < 30)) = true := by rfl)
    (hline : (apos.endLine == cpos.line) = true := by rfl) (hs : starEach (e :: []) X.env = (false, eval e X.env) :: starEach [] X.env := by rfl) (hplain : (backTo cpos (starEach [] X.env)).any (·.1) = false := by rfl) :
    PED X B E (.Call (.Attribute o "join" apos) [e] [] cpos) (mBM .str m (wCons ma wNil) fJoin) :=
  d_bm (r := rJoin X.K) .str P PySem.F.plainAttrs_str PySem.F.slot_str_join PySem.F.type_str_join mt_join (mtS_join P) ho (dw_cons he dw_nil hs) hbase hfew hline hs hplain
def fUpper : W → List W → M W := tx0 fun a => if a.length ≤ 5592405 then some (.str (Txt.upper a)) else none
theorem mtS_upper : MtS B E (fun x xs H Q => ∃ a, x = .str a ∧ xs = [] ∧ a.length ≤ 5592405 ∧ Q (.str (Txt.upper a)) H) fUpper := by
  intro z σ H L Q x vx xs vs R hx hvs h
  obtain ⟨d, ed, q⟩ := flat_of R h
  split at ed
  · rename_i a
    dsimp only at ed
    split at ed
    · rename_i hl
      cases ed
      cases vs with
      | nil =>
        rw [vr_str hx]
        exact ⟨a, rfl, rfl, hl, q _ vr_str'⟩
      | cons _ _ => exact hvs.elim
    · cases ed
  · cases ed
theorem d_upper (P : Pl X B E) (ho : PED X B E o m) (hbase : attributeBase o "upper" X.env (eval o X.env) = eval o X.env := by rfl) (hline : (apos.endLine == cpos.line) = true := by rfl) :
    PED X B E (.Call (.Attribute o "upper" apos) [] [] cpos) (mBM .str m wNil fUpper) :=
  d_bm0 .str P PySem.F.plainAttrs_str PySem.F.slot_str_upper PySem.F.type_str_upper mt_upper mtS_upper ho hbase hline
def fZfill (x : W) (xs : List W) : M W := flat (match x, xs with
  | .d (.str a), [.d (.int i)] => if PadOk i = true then some (.str (Txt.zfill a i)) else none
  | _, _ => none)
theorem mtS_zfill : MtS B E (fun x xs H Q => ∃ (a : Str) (i : Int), x = .str a ∧ xs = [.int i] ∧ PadOk i = true ∧ Q (.str (Txt.zfill a i)) H) fZfill := by
  intro z σ H L Q x vx xs vs R hx hvs h
  obtain ⟨d, ed, q⟩ := flat_of R h
  split at ed
  · rename_i a i
    split at ed
    · rename_i hl
      cases ed
      obtain ⟨v, rfl, hv⟩ := vvs1 hvs
      rw [vr_str hx, vr_int hv]
      exact ⟨a, i, rfl, rfl, hl, q _ vr_str'⟩
    · cases ed
  · cases ed
theorem d_zfill (P : Pl X B E) (ho : PED X B E o m) (he : PED X B E e ma) (hbase : attributeBase o "zfill" X.env (eval o X.env) = eval o X.env := by rfl)
    (hfew : ((backTo cpos (starEach (e :: []) X.env)).all (fun x => !x.1) && (backToKw cpos (keywordEach [] X.env)).all (fun x => x.1.isSome)
      && decide ((e :: []).length + ([] : List Keyword).length + (if ([] : List Keyword).isEmpty then 0 else 1) < 30)) = true := by rfl)
    (hline : (apos.endLine == cpos.line) = true := by rfl) (hs : starEach (e :: []) X.env = (false, eval e X.env) :: starEach [] X.env := by rfl) (hplain : (backTo cpos (starEach [] X.env)).any (·.1) = false := by rfl) :
    PED X B E (.Call (.Attribute o "zfill" apos) [e] [] cpos) (mBM .str m (wCons ma wNil) fZfill) :=
  d_bm .str P PySem.F.plainAttrs_str PySem.F.slot_str_zfill PySem.F.type_str_zfill mt_zfill mtS_zfill ho (dw_cons he dw_nil hs) hbase hfew hline hs hplain
end
end DL
set_option Elab.async false
set_option linter.all false
set_option maxRecDepth 100000
set_option maxHeartbeats 2000000
/-! own exceptions over any of the built-in bases: what DLo .. DLr say of ValueError, with the base told -/
namespace DL
open PySem PySem.Spec L2 PyProof.Rows PySem.Calls
/-- own classes, then the base's mro -/
def ownTl (tl : List Value) : List Value → Bool
  | [] => false
  | .ref c :: r => ownTl tl r
  | l => l == tl
theorem ownTl_or (tl : List Value) (a : Value) (r : List Value) (h : ownTl tl (a :: r) = true) : (∃ c, a = .ref c ∧ ownTl tl r = true) ∨ a :: r = tl := by
  cases a
  case ref c => exact .inl ⟨c, rfl, h⟩
  all_goals exact .inr (beq_iff_eq.mp h)
/-- a built-in exception class that own ones stand over -/
structure BaseX (b newId initId : String) (tl : List Value) : Prop where
  fx : ExcBaseFacts b newId initId tl
  st : StoreFacts b tl "object.__setattr__" "object"
  kx : PySem.W.KxsFacts b initId
theorem bx_VE : BaseX "ValueError" "ValueError.__new__" "ValueError.__init__" [.type "ValueError", .type "Exception", .type "BaseException", .type "object"] := ⟨F.excBase_ValueError, F.store_ValueError, PySem.W.kxs_ValueError⟩
theorem bx_LE : BaseX "LookupError" "LookupError.__new__" "LookupError.__init__" [.type "LookupError", .type "Exception", .type "BaseException", .type "object"] := ⟨F.excBase_LookupError, F.store_LookupError, PySem.W.kxs_LookupError⟩
theorem bx_RE : BaseX "RuntimeError" "RuntimeError.__new__" "RuntimeError.__init__" [.type "RuntimeError", .type "Exception", .type "BaseException", .type "object"] := ⟨F.excBase_RuntimeError, F.store_RuntimeError, PySem.W.kxs_RuntimeError⟩
section
variable {b newId initId : String} {tl : List Value}
theorem BaseX.quiet (Z : BaseX b newId initId tl) (self : Value) : ∀ l : List Value, ownTl tl l = true → refuseLoop self "__setattr__" l = pure ()
  | [], h => by cases h
  | a :: r, h => by
    rcases ownTl_or tl a r h with ⟨c, e, h2⟩ | e
    · subst e
      exact (refuseLoop_ref self _ c r).trans (Z.quiet self r h2)
    · exact e ▸ Z.st.passes self
theorem ownTl_has (y : String) : ∀ l : List Value, ownTl tl l = true → l.contains (.type y) = tl.contains (.type y)
  | [], h => by cases h
  | a :: r, h => by
    rcases ownTl_or tl a r h with ⟨c, e, h2⟩ | e
    · subst e
      exact (List.contains_cons ..).trans ((congrArg (_ || ·) (ownTl_has y r h2)).trans (Bool.false_or _))
    · rw [e]
end
/-- what the written part says of an own exception class -/
structure OexB (newId : String) (tl : List Value) (K : PySem.W.Frag) (C : Addr) : Prop where
  cls : ∃ nm q N bs bm sn sub ab col dd k0 k1 k2 k3 k5, K.lookup C = some (excClassObj nm q C N bs bm true sn sub ab col dd k0 k1 k2 k3 k5 newId) ∧ ownTl tl bm = true
  sa : PySem.W.findIn K (.ref C) "__setattr__" = some (some (.builtin "object.__setattr__"))
  exC : PySem.W.subIn K (.ref C) (.type "BaseException") = some true
  tyC : PySem.W.typeIn K (.ref C) = some (.type "type")
  kC : PySem.W.keepIn K (.ref C) = true
/-! ### self.f = e within its __init__ -/
section
open Builtin Builtin.ObjectAttr PySem.W PySem.HandSPX
variable {prog : Program} {w : World} {A : Around} {R : Result → Shared → Prop} {hp : Heap} {g : Array GenState} {d : Drawn} {t : Nat} {os : OsState} {K : PySem.W.Frag} {nm : Str} {tk : Tok} {v : Value} {x C : Addr} {fv : Array Value} {cd : ClassData} {dd : Option Addr}
/-- up to the store into its own dict -/
theorem osa_head {od : Option Obj} (X : K.In hp) (I : PySem.W.InstAt hp x { cls := .ref C, dict := dd, data := .fields fv } C od) (hcd : PySem.W.clsIn K C = some cd)
    (pass : refuseLoop (.ref x) "__setattr__" cd.mro = pure ()) (obj : cd.mro.contains (.type "object") = true) (ha : PySem.W.findIn K (.ref C) nm = some none)
    (hq : wpAny (model prog w) A.in1 (storeInOwnDict (.ref x) (.ref C) (.str nm tk) nm v false) (fun f s' => match f with | .done r => R (.ok r) s' | .again c => c.quiet = true ∧ codeAny (model prog w) A c R s') (fun e s' => R (.error e) s') ⟨hp, g, d, t, os⟩) :
    codeAny (model prog w) A (.call (.builtin "object.__setattr__") ⟨[.ref x, .str nm tk, v], []⟩) R ⟨hp, g, d, t, os⟩ := by
  have so := F.store_object
  have isO : PySem.W.Looks (model prog w) hp (isInstance (.ref x) (.type "object")) true := I.type.andThen (PySem.W.looks_mroIn X (Option.bind_eq_some_iff.mpr ⟨cd, hcd, by
    split
    · rename_i e
      rw [List.isEmpty_iff.mp e] at obj
      cases obj
    · rw [obj]⟩))
  refine codeAny_call_builtin so.slot.plain so.entry (PySem.W.check_slot (s := ⟨hp, g, d, t, os⟩) (i := "object.__setattr__") (owner := "object") (n := "__setattr__") (self := .ref x) (rest := [.str nm tk, v]) (kw := []) so.kind so.split isO (so.args (.ref x) (.str nm tk) v) ?_)
  have mro_ : PySem.W.Looks (model prog w) hp (mroOf (.ref C)) cd.mro := (PySem.W.looks_clsIn X hcd).andThen .now
  have take_ : PySem.W.Looks (model prog w) hp (storeTaker? none) none := .now
  rw [PySem.W.osa_eq]
  refine wpAny_bind ?_
  rw [refuse_eq]
  refine wpAny_bind (I.type.at (wpAny_bind (mro_.at ?_)))
  rw [pass]
  exact wpAny_pure (wpAny_bind (I.type.at (wpAny_bind ((PySem.W.looks_findIn X ha).at (wpAny_bind (take_.at hq))))))
/-- the first one -/
theorem osa_first (X : K.In hp) (hx : hp.get? x = some { cls := .ref C, data := .fields fv }) (hcd : PySem.W.clsIn K C = some cd) (pass : refuseLoop (.ref x) "__setattr__" cd.mro = pure ()) (obj : cd.mro.contains (.type "object") = true)
    (hh : cd.hasDict = true) (ha : PySem.W.findIn K (.ref C) nm = some none)
    (hq : ∀ h' tk' dx, hp.objs.size ≤ dx → dx ≠ x → (∀ b o, b ≠ x → hp.get? b = some o → h'.get? b = some o) → h'.get? x = some { cls := .ref C, dict := some dx, data := .fields fv } →
      h'.Ns1 dx (fun y => if y = nm then some v else none) → R (.ok (.ret .none)) ⟨h', g, d, tk', os⟩) :
    codeAny (model prog w) A (.call (.builtin "object.__setattr__") ⟨[.ref x, .str nm tk, v], []⟩) R ⟨hp, g, d, t, os⟩ := by
  have new : hp.objs.size ≠ x := fun e => Nat.lt_irrefl _ (e ▸ Heap.lt_size hx)
  refine osa_head (od := none) X ⟨hx, rfl, rfl, trivial⟩ hcd pass obj ha ?_
  have cls_ : PySem.W.Looks (model prog w) hp (classData C) cd := PySem.W.looks_clsIn X hcd
  obtain ⟨c1, c2, c3, c4, c5, c6, c7, c8, c9, c10, c11⟩ := cd
  obtain rfl : c6 = true := hh
  unfold storeInOwnDict ownDictForStores
  repeat (first | with_reducible refine PySem.HandSPX.store_in_new ?_ ?_ | with_reducible refine wpAny_loadPart_at hx ?_ | with_reducible refine cls_.at ?_ | wp_step)
  · refine ⟨_, #[], _, (Heap.get?_update_ne _ _ _ _ new).trans (Heap.get?_push_at rfl rfl), rfl, fun e he => absurd he (by simp), fun _ => rfl⟩
  · intro h' tk' ns keep
    have px : (hp.push { cls := .type "dict", data := .dict #[] }).get? x = some { cls := .ref C, data := .fields fv } := Heap.get?_push_of_some _ hx
    exact hq h' tk' hp.objs.size (Nat.le_refl _) new (fun b o n e => (keep.2 b fun z => Nat.lt_irrefl _ (z ▸ Heap.lt_size e)).trans ((Heap.get?_update_ne _ _ _ _ n).trans (Heap.get?_push_of_some _ e))) ((keep.2 x new.symm).trans (Heap.get?_update_self _ px rfl)) ns
/-- a further one -/
theorem osa_next {dx : Addr} {m0 : Str → Option Value} {nl : List Str} (X : K.In hp) (hx : hp.get? x = some { cls := .ref C, dict := some dx, data := .fields fv }) (ns0 : hp.Ns1 dx m0) (hw : Within m0 nl) (hz : nl.length ≤ 1000)
    (hcd : PySem.W.clsIn K C = some cd) (pass : refuseLoop (.ref x) "__setattr__" cd.mro = pure ()) (obj : cd.mro.contains (.type "object") = true) (hh : cd.hasDict = true) (ha : PySem.W.findIn K (.ref C) nm = some none)
    (hq : ∀ h' tk', h'.Ns1 dx (fun y => if y = nm then some v else m0 y) → (∀ b o, b ≠ dx → hp.get? b = some o → h'.get? b = some o) → R (.ok (.ret .none)) ⟨h', g, d, tk', os⟩) :
    codeAny (model prog w) A (.call (.builtin "object.__setattr__") ⟨[.ref x, .str nm tk, v], []⟩) R ⟨hp, g, d, t, os⟩ := by
  obtain ⟨oD, _, _, hoD, _, _⟩ := ns0.count hw
  refine osa_head (od := some oD) X ⟨hx, rfl, rfl, hoD⟩ hcd pass obj ha ?_
  have cls_ : PySem.W.Looks (model prog w) hp (classData C) cd := PySem.W.looks_clsIn X hcd
  obtain ⟨c1, c2, c3, c4, c5, c6, c7, c8, c9, c10, c11⟩ := cd
  obtain rfl : c6 = true := hh
  unfold storeInOwnDict ownDictForStores
  repeat (first | with_reducible refine PySem.OEX.store_in_old ns0 hw hz ?_ | with_reducible refine wpAny_loadPart_at hx ?_ | with_reducible refine cls_.at ?_ | wp_step)
  intro h' tk' ns keep
  exact hq h' tk' ns fun b o n e => (keep.2 b n).trans e
end
section
variable {X : Cx} {pins : List (Addr × Obj)} {σ : L2.St} {H : Hp} {s : Shared} {a C dx : Addr} {f : Str} {y : V} {u : Value} {fs : List (Str × V)} {Q : Unit → Shared → Prop} {E : Value → Shared → Prop} {A : Around} {b newId initId : String} {tl : List Value}
theorem OexB.cdOf {K : PySem.W.Frag} (Z : BaseX b newId initId tl) (T : OexB newId tl K C) : ∃ cd, PySem.W.clsIn K C = some cd ∧ cd.hasDict = true ∧ (∀ self, refuseLoop self "__setattr__" cd.mro = pure ()) ∧ cd.mro.contains (.type "object") = true := by
  obtain ⟨nm, q, N, bs, bm, sn, sub, ab, col, dd, k0, k1, k2, k3, k5, hC, hbm⟩ := T.cls
  refine ⟨{ name := nm, bases := bs, mro := .ref C :: bm, ns := N, qualname := q, hasDict := true, slotNames := sn, subclasses := sub, abstract := ab, collection := col, hasDel := false }, by unfold PySem.W.clsIn; rw [hC] <;> rfl, rfl, fun self => Z.quiet self _ (show ownTl tl (.ref C :: bm) = true from hbm), ?_⟩
  exact (ownTl_has "object" (.ref C :: bm) hbm).trans Z.st.hasOwner
/-- self.f = y, the first one -/
theorem bst_new (Z : BaseX b newId initId tl) (T : OexB newId tl X.K C) (I : Inv X pins σ H s) (e : H a = some (exo a C none)) (hno : PySem.W.findIn X.K (.ref C) f = some none) (ry : RelV y u)
    (h : ∀ dx s', H dx = none → dx ≠ a → Inv X pins σ (upd (upd H dx (exd dx [(f, y)])) a (exo a C (some dx))) s' → Q () s') : wpAny (model X.prog X.w) A (setAttr (.ref a) f u) Q E s := by
  obtain ⟨cd, hcl, hdi, pass, obj⟩ := T.cdOf Z
  obtain ⟨t1, ho⟩ := exo_at I.hok e
  obtain ⟨hp, g, d, t, os⟩ := s
  refine PySem.W.set_plain (od := none) I.kIn ⟨ho, rfl, rfl, trivial⟩ T.sa ?_
  refine osa_first I.kIn ho hcl (pass _) obj hdi hno fun h' tk' dx big ne keep new ns => ?_
  have fresh : H dx = none := I.hok.fresh big
  have old : ∀ {c : Addr} {o : Obj}, hp.get? c = some o → c ≠ dx := fun {c o} q z => absurd (Nat.lt_of_lt_of_le (Heap.lt_size q) big) (by rw [z]; exact Nat.lt_irrefl _)
  have free : ∀ {c : Addr}, H c = none → c ≠ a := fun {c} q z => by
    rw [z, e] at q
    cases q
  have kind : ∀ {c : Addr} {o : HO}, H c = some o → exo a C none ≠ o → upd (upd H dx (exd dx [(f, y)])) a (exo a C (some dx)) c = some o := fun {c o} q n => by
    rw [upd_ne (at_ne e q n), upd_ne (ne_of_none q fresh)]
    exact q
  refine h dx _ fresh ne (I.un (t' := tk') ⟨fun c o q n _ _ => keep c o (free n) q, fun c o q n _ _ => ⟨o.slots, keep c o (free n) q⟩, fun c o q n _ => by rw [upd_ne (free n), upd_ne (old q)]; exact n, fun c o q _ => ?_, fun c xs q => kind q exo_tup, fun c o v q => kind q exo_frz, fun c ps q => ⟨#[], by rw [kind q exo_tbl]; simp⟩⟩ fun c o q => ?_)
  · rcases Decidable.em (c = a) with z | z
    · exact ⟨_, z ▸ new⟩
    · exact ⟨o, keep c o z q⟩
  · rcases Decidable.em (c = a) with z | z
    · subst z
      obtain rfl := Option.some.inj (upd_same.symm.trans q)
      exact exo_ok new
    · rw [upd_ne z] at q
      rcases Decidable.em (c = dx) with z2 | z2
      · subst z2
        obtain rfl := Option.some.inj (upd_same.symm.trans q)
        exact exd_ok ns (relO_put (fs := []) ry fun _ => True.intro)
      · rw [upd_ne z2] at q
        refine (I.hok c o q).stay (fun i v hi k => keep i v ?_ k) (fun i k => kind k exo_own) fun i xs k => kind k exo_tup
        exact hi.elim (fun e1 => e1 ▸ z) fun e1 => at_ne e e1 exo_own
/-- self.f = y, a further one -/
theorem bst_old (Z : BaseX b newId initId tl) (T : OexB newId tl X.K C) (I : Inv X pins σ H s) (e : H a = some (exo a C (some dx))) (ed : H dx = some (exd dx fs)) (hl : fs.length ≤ 900) (hno : PySem.W.findIn X.K (.ref C) f = some none) (ry : RelV y u)
    (h : ∀ s', Inv X pins σ (upd H dx (exd dx ((f, y) :: fs))) s' → Q () s') : wpAny (model X.prog X.w) A (setAttr (.ref a) f u) Q E s := by
  obtain ⟨cd, hcl, hdi, pass, obj⟩ := T.cdOf Z
  obtain ⟨t1, ho⟩ := exo_at I.hok e
  obtain ⟨mA, hns, rel⟩ := exd_at I.hok ed
  obtain ⟨hp, g, d, t, os⟩ := s
  obtain ⟨oD, _, _, hoD, _, _⟩ := hns.count (within_of rel)
  refine PySem.W.set_plain (od := some oD) I.kIn ⟨ho, rfl, rfl, hoD⟩ T.sa ?_
  refine osa_next I.kIn ho hns (within_of rel) (by rw [List.length_map]; omega) hcl (pass _) obj hdi hno fun h' tk' ns keep => ?_
  refine h _ (I.write (t' := tk') (x := dx) (e := dx) (o := exd dx ((f, y) :: fs)) (by rw [ed]; exact True.intro) (.inl rfl) keep ?_ (exd_ok ns (relO_put ry rel)))
  obtain ⟨o, _, _, e1, _⟩ := ns
  exact ⟨o, e1⟩
/-- self.f = e -/
def tBst (newId : String) (tl : List Value) (K : PySem.W.Frag) (f : Str) (to te : TE) : TS := fun D σ H => te σ H fun y H1 => to σ H1 fun x H2 => ∃ a C : Addr, x = .ref a ∧ OexB newId tl K C ∧ PySem.W.findIn K (.ref C) f = some none ∧
  ((H2 a = some (exo a C none) ∧ ∀ dx, H2 dx = none → dx ≠ a → D.nx σ (upd (upd H2 dx (exd dx [(f, y)])) a (exo a C (some dx)))) ∨
    ∃ (dx : Addr) (fs : List (Str × V)), fs.length ≤ 900 ∧ H2 a = some (exo a C (some dx)) ∧ H2 dx = some (exd dx fs) ∧ D.nx σ (upd H2 dx (exd dx ((f, y) :: fs))))
theorem ps_bst {o e : Expr} {to te : TE} {p' pos : Pos} (Z : BaseX b newId initId tl) (ho : PE X o to) (he : PE X e te) (hs : swapsWith e (some (.Attribute o f p')) pos.line X.env = pure false := by rfl) : PS X (.Assign [.Attribute o f p'] e pos) (tBst newId tl X.K f to te) := by
  refine ⟨fun pins s σ H D I h => plainObj_wpAny_Assign_Attribute (thn (he.run pins s σ H _ I h) fun v s1 ⟨y, H1, I1, r1, q1⟩ => thn (ho.run pins s1 σ H1 _ I1 q1) fun u s2 ⟨x, H2, I2, r2, a, C, ex, T, hno, q⟩ => ?_) hs⟩
  subst ex
  obtain rfl : u = Value.ref a := r2
  rcases q with ⟨ea, q⟩ | ⟨dx, fs, hl, ea, ed, q⟩
  · exact bst_new Z T I2 ea hno r1 fun dx s' n ne J => ⟨σ, _, J, q dx n ne⟩
  · exact bst_old Z T I2 ea ed hl hno r1 fun s' J => ⟨σ, _, J, q⟩
end
end DL
set_option Elab.async false
set_option linter.all false
set_option maxRecDepth 100000
set_option maxHeartbeats 2000000
namespace DL
open PySem PySem.Spec L2 PyProof.Rows PySem.Calls
/-- what the written part says of super().__init__ in the __init__ at f, written in the class at D, of an object of the class at C -/
structure SupK (b initId : String) (prog : Program) (K : PySem.W.Frag) (mg : Str → Option Value) (C D f cda cc : Addr) (fd : FuncData) (me : Str) (sc : Scope) : Prop where
  fn : ∃ oc od osl, K.lookup f = some ⟨oc, od, .func fd, osl⟩
  par : ∃ ar, (fd.params.posonlyargs ++ fd.params.args).head? = some ar ∧ ar.arg = me
  code : ∃ cl cd cs vs file tf, K.lookup cda = some ⟨cl, cd, .fields vs, cs⟩ ∧ vs[2]? = some (.str file tf) ∧ ((prog.main.file : Str) == file) = true
  top : (prog.main.scope.names.lookup ("super" : Str)).isSome = false
  cell : ∃ cl cd cs, K.lookup cc = some ⟨cl, cd, .cell (some (.ref D)), cs⟩
  cls : ∃ cdD, PySem.W.clsIn K D = some cdD
  sub : PySem.W.mroIn K C (.ref D) = some true
  sup : PySem.W.ks_superIn K C D "__init__" = some (some (.builtin initId))
  isB : PySem.W.subIn K (.ref C) (.type b) = some true
  opq : PySem.W.nsIn K cStatics "thirdparty.any" = some none
  mgs : mg "super" = none
  ks : sc.names.lookup ("super" : Str) = some .globalImplicit
  kc : sc.names.lookup ("__class__" : Str) = some .free
  km : sc.names.lookup me = some .local
theorem wpAt_any {M : Model} {A : Around} {c : Code} {α : Type} {t : Sem α} {Q : α → Shared → Prop} {E : Value → Shared → Prop} {s : Shared} (h : wpAny M A t Q E s) : _root_.PySem.wpAt M A c t Q E s := wpAt_of_wpAny h
section
variable {X : Cx} {pins : List (Addr × Obj)} {σ : L2.St} {H : Hp} {s : Shared} {a C D f cda cc Ln : Addr} {fd : FuncData} {me q : Str} {sc : Scope} {body : List Stmt} {e : Expr} {es : List Expr} {ta : TA} {p0 p1 p2 pos : Pos} {i0 : Nat} {pl : Sem Bool} {b newId initId : String} {tl : List Value}
theorem sup_node {attr : Str} {whole : Sem Value} {Q : Value → Shared → Prop} {E : Value → Shared → Prop} (T : SupK b initId X.prog X.K X.mg C D f cda cc fd me sc) (hE : X.env = PySem.W.ksEnv q sc Ln f (.ref cda) cc) (I : Inv X pins σ H s) (ea : H a = some (exo a C none))
    (hi : X.N[i0]? = some me) (hσ : σ[i0]? = some (some (.ref a))) (hat : (attr == ("__class__" : Str)) = false)
    (h : ∀ so s', Inv X pins σ H s' → s'.heap.get? so = some { cls := .type "super", dict := none, data := .fields #[.ref D, .ref a, .ref C], slots := #[] } → Q (.ref so) s') :
    _root_.PySem.wpAt (model X.prog X.w) X.A (.func body X.env) (attributeBase (.Call (.Name "super" p0) [] [] p1) attr X.env whole) Q E s := by
  obtain ⟨⟨oc, od, osl, hf⟩, ⟨ar, hp, har⟩, ⟨cl, cd, cs, vs, file, tf, hcode, hvs, hfile⟩, htop, ⟨cl2, cd2, cs2, hcell⟩, ⟨cdD, hD⟩, hsub, hsup, hisB, hopq, hmgs, hks, hkc, hkm⟩ := T
  have XK : X.K.In s.heap := I.kIn
  obtain ⟨t1, hea⟩ := exo_at I.hok ea
  have hkind := I.ok.kind
  have hkS : X.env.kindOf "super" = some .globalImplicit := by rw [hE]; exact hks
  have hkC : X.env.kindOf "__class__" = some .free := by rw [hE]; exact hkc
  have hkM : X.env.kindOf ar.arg = some .local := by rw [hE, har]; exact hkm
  have hfn : X.env.func = some f := by rw [hE]
  have hco : X.env.code = .ref cda := by rw [hE]
  have hcl : X.env.cells.lookup ("__class__" : Str) = some cc := by rw [hE]; rfl
  obtain ⟨mm, hns, hloc⟩ := id I.loc
  obtain ⟨u, ru, lk⟩ := hloc i0 me _ hi hσ (by rw [hE]; exact .inl hkm)
  obtain rfl : u = .ref a := ru
  have hm : mm ar.arg = some (.ref a) := by
    rw [har]
    rcases lk with ⟨_, lk⟩ | ⟨k | k, _⟩
    · exact lk
    · rw [← har, hkM] at k
      cases k
    · rw [← har, hkM] at k
      cases k
  obtain ⟨oD, hD1, hD2⟩ : ∃ oD, s.heap.get? D = some oD ∧ oD.data = .cls cdD := by
    unfold PySem.W.clsIn at hD
    split at hD
    · rename_i c d cd' sl ho
      cases hD
      exact ⟨_, XK _ _ ho, rfl⟩
    · cases hD
  obtain ⟨mb, hb1, hb2⟩ := I.mod.blt
  refine ks_wpAt_super_base hkS hkC hat hfn (XK _ _ hf) rfl hp hco (XK _ _ hcode) rfl hvs hfile htop ?_
  refine PySem.W.ks_loadName_global hkind hkS (Calls.loadGlobal_builtin (by rw [I.ok.glob]; exact I.mod.glob.keeps I.bk) hmgs (by rw [I.ok.blt]; exact hb1.keeps I.bk) ((hb2 "super" (by decide)).trans (by decide +kernel)) ⟨rfl, ?_⟩)
  refine wpAny_loadName_free hkind hkC hcl ⟨_, XK _ _ hcell, rfl⟩ ?_
  refine wpAny_loadName_local hkind hkM hns hm ?_
  refine ks_wpAny_isType_cls hD1 hD2 ⟨rfl, ?_⟩
  obtain ⟨hh, g, d, t, os⟩ := s
  refine ks_wpAny_call_super hD1 hD2 hea rfl (fun c e => by cases e) (PySem.W.looks_mroIn XK hsub) (fun h' e k => ?_)
  exact h _ _ (I.kept (t' := t) k) e
/-- super().__init__(e, ..) -/
theorem sup_init (Z : BaseX b newId initId tl) (T : SupK b initId X.prog X.K X.mg C D f cda cc fd me sc) (O : OexB newId tl X.K C) (hE : X.env = PySem.W.ksEnv q sc Ln f (.ref cda) cc) (ha : PA X (e :: es) ta) (I : Inv X pins σ H s) (ea : H a = some (exo a C none))
    (hi : X.N[i0]? = some me) (hσ : σ[i0]? = some (some (.ref a))) {Q : Value → Shared → Prop} (hT : ta σ H fun vs H1 => vs.length ≤ 1000 ∧ H1 a = some (exo a C none) ∧ ∀ u s', Inv X pins σ H1 s' → Q u s')
    (he : starEach (e :: es) X.env = (false, eval e X.env) :: starEach es X.env := by rfl) (hpl : (backTo pos (starEach es X.env)).any (·.1) = false := by rfl)
    (hev : eval (.Call (.Attribute (.Call (.Name "super" p0) [] [] p1) "__init__" p2) (e :: es) [] pos) X.env = (do
      let ov ← attributeBase (.Call (.Name "super" p0) [] [] p1) "__init__" X.env (eval (.Call (.Name "super" p0) [] [] p1) X.env)
      standAt p2.atName
      let (f, first) ← holding [ov] (getMethod ov "__init__" pl)
      callWith pos f first (backTo pos (starEach (e :: es) X.env)) []) := by rfl) :
    _root_.PySem.wpAt (model X.prog X.w) X.A (.func body X.env) (eval (.Call (.Attribute (.Call (.Name "super" p0) [] [] p1) "__init__" p2) (e :: es) [] pos) X.env) Q X.xe s := by
  refine ks_wpAt_MethodCall (pl := pl) (sup_node T hE I ea hi hσ (by decide +kernel) fun so s1 I1 hso => ?_) hev
  obtain ⟨nm, qn, N, bs, bm, sn, sub, ab, col, dd, k0, k1, k2, k3, k5, hC, hbm⟩ := O.cls
  have X1 : X.K.In s1.heap := I1.kIn
  obtain ⟨t1, hea⟩ := exo_at I1.hok ea
  have IA : PySem.W.InstAt s1.heap a { cls := .ref C, dict := none, data := .fields #[.ref t1, .none, .none, .none, .bool false, .none] } C none := ⟨hea, rfl, rfl, trivial⟩
  have hI : PySem.W.Looks (model X.prog X.w) s1.heap (isInstance (.ref a) (.type b)) true := IA.type.andThen (PySem.W.looks_subIn X1 T.isB)
  have hcl : PySem.W.clsIn X.K C = some { name := nm, bases := bs, mro := .ref C :: bm, ns := N, qualname := qn, hasDict := true, slotNames := sn, subclasses := sub, abstract := ab, collection := col, hasDel := false } := by unfold PySem.W.clsIn; rw [hC] <;> rfl
  have hsup := T.sup
  unfold PySem.W.ks_superIn at hsup
  rw [hcl] at hsup
  have hno : PySem.W.Looks (model X.prog X.w) s1.heap (opaqueClassAbove (.ref C)) none := PySem.W.looks_opaque X1 T.opq
  obtain ⟨hh, g, d, t, os⟩ := s1
  refine PySem.W.kxs_getMethod Z.kx hso hno (l₀ := .ref C :: bm) (fun A Q E s k q => wpAny_bind ((PySem.W.looks_clsIn X1 hcl) A _ E s k (wpAny_pure q))) rfl X1 hsup hI (PySem.W.ks_ne X1 IA hcl) (by decide +kernel) ?_
  have hpush : (hh.push (PySem.W.kxs_mw initId a)).get? hh.objs.size = some (PySem.W.kxs_mw initId a) := Heap.get?_push_at rfl rfl
  have I2 : Inv X pins σ H ⟨hh.push (PySem.W.kxs_mw initId a), g, d, t + 1, os⟩ := I1.kept fun b u z => Heap.get?_push_of_some _ z
  have hn : H hh.objs.size = none := I1.hok.fresh (Nat.le_refl _)
  have I3 : Inv X ((hh.objs.size, PySem.W.kxs_mw initId a) :: pins) σ H ⟨hh.push (PySem.W.kxs_mw initId a), g, d, t + 1, os⟩ := I2.pins_of fun p hp => by
    rcases List.mem_cons.mp hp with rfl | hp
    · exact ⟨hpush, hn, fun z => absurd (I1.lt) (by rw [← z]; exact Nat.lt_irrefl _), I1.nofs (Nat.le_refl _), fun v z => by cases z⟩
    · exact I2.pin p (List.mem_append_right _ hp)
  show wpAny _ _ (callWith pos (Value.ref hh.objs.size) [] (backTo pos (starEach (e :: es) X.env)) []) Q X.xe _
  rw [he]
  refine PySem.W.kxs_callWith (i := initId) (x := a) (by show (false || (backTo pos (starEach es X.env)).any (·.1)) = false; rw [hpl]; rfl) (evalArgs_plain ?_)
  have run := ha.run pos _ _ σ H _ (I3.tok (t + 1)) hT
  rw [he] at run
  refine thn run fun us s2 ⟨vs, H2, I4, r, hl, ea2, q⟩ => ?_
  have hu := (I4.pin (hh.objs.size, PySem.W.kxs_mw initId a) (List.mem_append_right _ (List.mem_cons_self ..))).1
  refine ⟨hu, ?_⟩
  have hus : us.length ≤ sizeLine := by
    rw [← Paired.length r, sizeLine_eq]
    omega
  have I5 : Inv X pins σ H2 s2 := I4.pins_of fun p hp => I4.pin p (List.mem_append_right _ (.tail _ hp))
  obtain ⟨t2, he2⟩ := exo_at I5.hok ea2
  have XC := I5.kIn _ _ hC
  obtain ⟨hp, g2, d2, tk, os2⟩ := s2
  show wpAny _ _ (call (.ref hh.objs.size) us) Q X.xe _
  refine wpAny_call (codeAny_of_tree ?_)
  show wpAny _ X.A.in1 (callAny (.ref hh.objs.size) ⟨us, []⟩) _ _ _
  simp only [callAny]
  refine wpAny_bind (wpAny_load hu ?_)
  simp only [PySem.W.kxs_mw, show (Value.type "method-wrapper" == Value.type "method" || Value.type "method-wrapper" == Value.type "builtin_function_or_method" || Value.type "method-wrapper" == Value.type "method-wrapper") = true by decide, if_true]
  refine PySem.W.KFB.if_so (by decide) ?_
  refine wpAny_bind (ESX.check_bound Z.fx XC he2 rfl ?_)
  refine wpAny_bind (wpAny_pure (wpAny_pure ?_))
  refine ⟨plainId_quiet Z.fx.init.plain _, codeAny_builtin Z.fx.initEntry ?_⟩
  refine PySem.W.exc_init_tree (cls := .ref C) (t0 := t2) (dv := none) (c2 := .none) (c3 := .none) (b4 := .bool false) he2 hus fun h' k e' _ => ?_
  have J := I5.write (t' := tk) (x := a) (e := a) (o := exo a C none) (by rw [ea2]; exact True.intro) (.inl rfl) k ⟨_, e'⟩ (exo_ok e')
  have eu : upd H2 a (exo a C none) = H2 := by
    funext b
    by_cases hb : b = a
    · rw [hb, upd_same, ea2]
    · rw [upd_ne hb]
  rw [eu] at J
  exact q _ _ J
end
end DL
namespace DL
open PySem PySem.Spec L2 PyProof.Rows PySem.Calls
/-- the names of such an __init__: the parameters first, nothing else; __class__ alone is free -/
structure InitScope (N : List Str) (sc : Scope) : Prop where
  kind : sc.kind = .function
  co : sc.isCoroutine = false
  gen : sc.isGenerator = false
  nd : N.Nodup
  par : ∀ x ∈ N, sc.names.lookup x = some .local
  nocell : ∀ y ∈ sc.names, y.2 ≠ .cell
  free : ∀ y ∈ sc.names, y.2 = .free → y.1 = ("__class__" : Str)
theorem zip_rev : ∀ {ps : List Str} {us : List Value} {i : Nat} {y : Str} {u : Value}, ps.Nodup → ps[i]? = some y → us[i]? = some u → (ps.zip us).reverse.lookup y = some u
  | [], _, i, y, u, _, h, _ => by simp at h
  | p :: ps, [], i, y, u, _, _, h => by simp at h
  | p :: ps, v :: us, 0, y, u, nd, h1, h2 => by
    simp at h1 h2
    subst h1 h2
    have n : (ps.zip us).reverse.lookup p = none := by
      rw [List.lookup_eq_none_iff]
      intro x hx
      have hx' := (List.of_mem_zip (List.mem_reverse.mp hx)).1
      have : p ≠ x.1 := fun e => (List.nodup_cons.mp nd).1 (e ▸ hx')
      simpa using this
    simp [List.zip_cons_cons, List.lookup_append, n]
  | p :: ps, v :: us, i + 1, y, u, nd, h1, h2 => by
    have ih := zip_rev (List.nodup_cons.mp nd).2 (by simpa using h1) (by simpa using h2) (ps := ps) (us := us) (i := i)
    simp [List.zip_cons_cons, List.lookup_append, ih]
def cxS (CX : CXT) (P : Program) (w : World) (K : PySem.W.Frag) (mg : Str → Option Value) (base : Heap) (N : List Str) (qual : Str) (scope : Scope) (f cda cc : Addr) (A : Around) (outer : List Env) (s : Shared) (H : Hp) (E : XK) : Cx where
  prog := P
  w := w
  K := K
  mg := mg
  base := base
  A := A.deeper (PySem.W.ksEnv qual scope s.heap.objs.size f (.ref cda) cc)
  N := N
  s_0 := s
  H_0 := H
  env := PySem.W.ksEnv qual scope s.heap.objs.size f (.ref cda) cc
  outer := outer
  stack := PySem.W.ksEnv qual scope s.heap.objs.size f (.ref cda) cc :: outer
  ex := []
  calm := true
  fn := fun _ => false
  pn := []
  xe := fun e s' => wpAny (model P w) (A.deeper (PySem.W.ksEnv qual scope s.heap.objs.size f (.ref cda) cc)) (leaving (PySem.W.ksEnv qual scope s.heap.objs.size f (.ref cda) cc) e) (fun _ s'' => CX outer H s E e s'') (fun e' s'' => CX outer H s E e' s'') s'
theorem invS_start {CX : CXT} {P : Program} {w : World} {K : PySem.W.Frag} {mg : Str → Option Value} {base : Heap} {N : List Str} {qual : Str} {scope : Scope} {f cda cc : Addr} {A : Around} {outer : List Env} {s : Shared} {H : Hp} {E : XK} {us : List Value} {vs : List V} {h1 : Heap} {tk : Nat}
    (S : InitScope N scope) (hd : A.handled = none) (e0 : Env0 P w K mg base A outer s H) (hl : vs.length = N.length) (r : Vals vs us) (hcell : ∃ cl cd cs v, K.lookup cc = some ⟨cl, cd, .cell v, cs⟩)
    (hns : h1.Ns s.heap.objs.size (fun x => (N.zip us).reverse.lookup x)) (hk : ∀ b o, s.heap.get? b = some o → h1.get? b = some o) :
    Inv (cxS CX P w K mg base N qual scope f cda cc A outer s H E) [] (vs.map some) H { s with heap := h1, toks := tk } := by
  obtain ⟨cl, cd, cs, v0, hcell⟩ := hcell
  have noA : ∀ b : Addr, b ∉ (cxS CX P w K mg base N qual scope f cda cc A outer s H E).ex := fun b z => absurd (show b ∈ ([] : List Addr) from z) (by simp)
  have ck : ∀ {x : Str} {c : Addr}, (cxS CX P w K mg base N qual scope f cda cc A outer s H E).env.cells.lookup x = some c → x = ("__class__" : Str) ∧ c = cc := fun {x c} h => by
    have h : List.lookup x [(("__class__" : Str), cc)] = some c := h
    simp only [List.lookup] at h
    split at h
    · rename_i q
      exact ⟨by simpa using q, (Option.some.inj h).symm⟩
    · cases h
  have hcb : base.get? cc = some ⟨cl, cd, .cell v0, cs⟩ := e0.mod.kin _ _ hcell
  have hcs := (e0.bs _ _ hcb)
  refine ⟨⟨e0.mod, S.kind, rfl, rfl, Nat.le_refl _, fun y z c h1 h2 => ((ck h1).1).trans ((ck h2).1).symm, fun y hy => ?_, fun y c z h => absurd z (by simp [cxS]), fun _ => hd, Around.frames_deeper e0.frames, .inr ⟨rfl, rfl⟩, fun b z => absurd z (noA b), e0.bs, e0.bsz, fun b _ _ => noA b, fun b z => absurd z (noA b), e0.funs, e0.frf⟩,
    rfl, e0.bare, Un.kept hk, ⟨_, hns, fun i y v h1 h2 h3 => ?_⟩, fun y c h => ⟨v0, by rw [(ck h).2]; exact ⟨_, hk _ _ hcs.1, rfl⟩⟩, e0.hok.fresh (Nat.le_refl _), fun y c h => by rw [(ck h).2]; exact hcs.2, fun p hp => absurd (show p ∈ ([] : List (Addr × Obj)) from hp) (by simp), e0.hok.kept hk, by rw [List.length_map]; exact hl⟩
  · have hy : scope.names.lookup y = some .cell ∨ scope.names.lookup y = some .free := hy
    rcases hy with hy | hy
    · exact absurd rfl (S.nocell _ (PySem.mem_of_lookup hy))
    · have e := S.free _ (PySem.mem_of_lookup hy) rfl
      dsimp only at e
      subst e
      exact ⟨cc, rfl⟩
  · rw [List.getElem?_map] at h2
    cases e : vs[i]? with
    | none => rw [e] at h2; cases h2
    | some a =>
      rw [e] at h2
      cases h2
      obtain ⟨u, hu, rv⟩ := r.get e
      exact ⟨u, rv, .inl ⟨S.par y (List.mem_of_getElem? h1), zip_rev S.nd h1 hu⟩⟩
/-- THE RULE of an own exception's __init__ that says super().__init__(text) first -/
theorem fn_exinit {CX : CXT} {P : Program} {w : World} {K : PySem.W.Frag} {mg : Str → Option Value} {base : Heap} {k : Nat} {f cda cc : Addr} {name qual me tx : Str} {params : Arguments} {rest : List Stmt} {scope : Scope} {dV kV doc pm ct oc : Value} {an od : Option Addr}
    {osl : Array (Option Value)} {N : List Str} {sp : Sp} {p0 p1 p2 p3 p4 p5 : Pos} {jj : Nat} {b newId initId : String} {tl : List Value} (Z : BaseX b newId initId tl)
    (hev : ∀ env : Env, eval (.Call (.Attribute (.Call (.Name "super" p0) [] [] p1) "__init__" p2) [.Constant (.str tx) jj p3] [] p4) env = (do
      let ov ← attributeBase (.Call (.Name "super" p0) [] [] p1) "__init__" env (eval (.Call (.Name "super" p0) [] [] p1) env)
      standAt p2.atName
      let (f, first) ← holding [ov] (getMethod ov "__init__" (do return (← importBound (.Call (.Name "super" p0) [] [] p1) env).getD true))
      callWith p4 f first (backTo p4 (starEach [.Constant (.str tx) jj p3] env)) []))
    (lk : K.lookup f = some ⟨oc, od, .func (PySem.W.ksFn name qual params (.Expr (.Call (.Attribute (.Call (.Name "super" p0) [] [] p1) "__init__" p2) [.Constant (.str tx) jj p3] [] p4) p5 :: rest) scope dV kV doc pm an (.ref cda) ct cc), osl⟩)
    (hcd : PySem.W.codeIn K (.ref cda) qual = true) (S : InitScope N scope) (h0 : N[0]? = some me) (len : ∀ vs H Q E, sp vs H Q E → vs.length = N.length)
    (hbody : ∀ (A : Around) (outer : List Env) (s : Shared) (H : Hp) (vs : List V) (Q : VK) (E : XK), sp vs H Q E →
      ∃ a C D us t, vs = .ref a :: us ∧ H a = some (exo a C none) ∧ OexB newId tl K C ∧ SupK b initId P K mg C D f cda cc (PySem.W.ksFn name qual params (.Expr (.Call (.Attribute (.Call (.Name "super" p0) [] [] p1) "__init__" p2) [.Constant (.str tx) jj p3] [] p4) p5 :: rest) scope dV kV doc pm an (.ref cda) ct cc) me scope ∧
        PSs (cxS CX P w K mg base N qual scope f cda cc A outer s H E) rest t ∧ t { nx := fun _ H' => Q .non H', rt := Q } (vs.map some) H) :
    FnOk P w K mg base CX (k + 1) f (PySem.W.ksFn name qual params (.Expr (.Call (.Attribute (.Call (.Name "super" p0) [] [] p1) "__init__" p2) [.Constant (.str tx) jj p3] [] p4) p5 :: rest) scope dV kV doc pm an (.ref cda) ct cc) N sp := by
  refine ⟨len, fun A outer s H args us vs Q E hr e0 hb r hsp => ?_⟩
  have hl := len _ _ _ _ hsp
  obtain ⟨a, C, D, vs', t, hvs, hea, O, T, ht, hq⟩ := hbody A outer s H vs Q E hsp
  have KX : K.In s.heap := e0.mod.kin.keeps fun b o e => (e0.bs b o e).1
  have lim : s.heap.NoLimit := e0.mod.nolimit.keeps fun b o e => (e0.bs b o e).1
  refine ks_codeAny_call_defAt (binds := N.zip us) hr.depth (KX _ _ lk) rfl lim (PySem.W.codeRec_of KX hcd) rfl hb S.nocell (fun y hy => S.par _ (List.of_mem_zip (a := y.1) (b := y.2) hy).1) (fun h1 hns hk => ?_) S.co S.gen S.kind
  obtain ⟨cl2, cd2, cs2, hcell⟩ := T.cell
  have I : Inv (cxS CX P w K mg base N qual scope f cda cc A outer s H E) [] (vs.map some) H { s with heap := h1, toks := s.toks + (N.zip us).length } := invS_start S hr.hd e0 hl r ⟨_, _, _, _, hcell⟩ hns hk
  refine ks_wpAt_execs_cons ?_
  refine ks_wpAt_Expr_any ?_ (I.quiet) rfl
  refine sup_init (X := cxS CX P w K mg base N qual scope f cda cc A outer s H E) (q := qual) (sc := scope) (me := me) Z T O rfl (pa_cons pe_str pa_nil) I hea h0 (i0 := 0) (by rw [hvs]; rfl) (?_ : tCons (tC (.str tx)) tNil (vs.map some) H _) (hev := hev _)
  refine ⟨(by show 1 ≤ 1000; decide), hea, fun u s' J => ?_⟩
  refine wpAt_of_wpAny ?_
  refine wpAny_mono (ht.run [] s' _ H _ J hq) (fun fl s2 hs => ?_) fun e s' hs => hs
  have fin : ∀ {σ' : L2.St} {H' : Hp} {v : V} {u : Value}, Inv (cxS CX P w K mg base N qual scope f cda cc A outer s H E) [] σ' H' s2 → RelV v u → Q v H' → CE outer P w H s Q u s2 :=
    fun {σ' H' v u} J rv q => ⟨v, H', J.os, J.bare, J.base, J.hok, rv, q⟩
  cases fl with
  | ret u =>
    obtain ⟨v, σ', H', J, rv, q⟩ := hs
    exact fin J rv q
  | next =>
    obtain ⟨σ', H', J, q⟩ := hs
    exact fin (v := V.non) (u := Value.none) J rfl q
  | brk =>
    obtain ⟨_, _, _, q⟩ := hs
    exact False.elim q
  | cont =>
    obtain ⟨_, _, _, q⟩ := hs
    exact False.elim q
end DL
set_option Elab.async false
set_option linter.all false
set_option maxRecDepth 100000
namespace DL
open PySem L2
/-! ### == that answers True, dicts too -/
def lookD {κ : Type} [DecidableEq κ] (kvs : List (κ × D)) (k : κ) : Option D := (kvs.find? fun kv => decide (kv.1 = k)).map (·.2)
def eqD : Nat → D → D → Bool
  | 0, _, _ => false
  | n + 1, x, y => match x, y with
    | .non, .non => true
    | .bl a, .bl b => a == b
    | .int a, .int b => a == b
    | .str a, .str b => a == b
    | .lst xs, .lst ys => xs.length == ys.length && (xs.zip ys).all fun p => eqD n p.1 p.2
    | .dK ks, .dK ls => ks.length == ls.length && ks.all fun p => match lookD ls p.1 with
      | some u => eqD n p.2 u
      | none => false
    | _, _ => false
/-- two lists, two dicts, equal all through -/
def QR (K : Fr) (H : Hp) (E : V → V → Prop) (x y : V) : Prop :=
  (∃ a b xs ys, x = .ref a ∧ y = .ref b ∧ SqL K H a xs ∧ SqL K H b ys ∧ Paired E xs ys) ∨
    ∃ a b ks ls, x = .ref a ∧ y = .ref b ∧ Rd H a (.dK ks) ∧ Rd H b (.dK ls) ∧ ks.length = ls.length ∧ ∀ p ∈ ks, ∃ u, valV ls p.1 = some u ∧ E p.2 u
def QV (K : Fr) (H : Hp) : Nat → V → V → Prop
  | 0 => fun _ _ => False
  | n + 1 => fun x y => (x = y ∧ flatB x = true) ∨ QR K H (QV K H n) x y
section
variable {X : Cx} {pins : List (Addr × Obj)} {σ : St} {H : Hp} {s : Shared}
theorem qr_run (I : Inv X pins σ H s) {A : Around} {F : V → V → Prop} (hu : A.units < cLine) (ih : ∀ x y v u, F x y → RelV x v → RelV y u → SeqAt.EqP X.prog X.w A.in1 s v u true) {x y : V} {v u : Value} (h : QR X.K H F x y) (rx : RelV x v) (ry : RelV y u)
    (E Q : Value → Shared → Prop) (q : Q (.bool true) s) : wpAny (model X.prog X.w) A (richCompare .Eq v u) Q E s := by
  rcases h with ⟨a, b, xs, ys, rfl, rfl, ha, hb, hp⟩ | ⟨a, b, ks, ls, rfl, rfl, ha, hb, hl, hp⟩
  · exact eqR_run I hu ih (.inl ⟨a, b, xs, ys, rfl, rfl, ha, hb, hp⟩) rx ry E Q q
  · obtain rfl : v = Value.ref a := rx
    obtain rfl : u = Value.ref b := ry
    obtain ⟨_, ya, va, ra, da⟩ := ha.ok I.hok
    obtain ⟨_, yb, vb, rb, db⟩ := hb.ok I.hok
    have e : va.length = vb.length := by rw [← ra.length, ← rb.length]; exact hl
    refine PySem.W.rcP_dicts (knd := mixKind X.prog X.w) (r := true) ya yb da db hu (fun _ => hits_run ih rb ra hp) E Q ?_
    rw [Bool.and_true, e, beq_self_eq_true]
    exact q
theorem qv_run (I : Inv X pins σ H s) : ∀ (n : Nat) (A : Around), A.units + n < cLine → ∀ (x y : V) (v u : Value), QV X.K H n x y → RelV x v → RelV y u → SeqAt.EqP X.prog X.w A s v u true
  | 0, _, _, _, _, _, _, h, _, _ => False.elim h
  | n + 1, A, hu, x, y, v, u, h, rx, ry => by
    rcases h with ⟨rfl, f⟩ | h
    · exact (eqAt_same rx ry f).eqP
    · have step := qr_run I (A := A) (by omega) (qv_run I n A.in1 (by show A.units + 1 + n < cLine; omega)) h rx ry
      have hab : ∃ a b, x = .ref a ∧ y = .ref b := by
        rcases h with ⟨a, b, _, _, e1, e2, _⟩ | ⟨a, b, _, _, e1, e2, _⟩ <;> exact ⟨a, b, e1, e2⟩
      obtain ⟨a, b, rfl, rfl⟩ := hab
      obtain rfl : v = Value.ref a := rx
      obtain rfl : u = Value.ref b := ry
      by_cases e : a = b
      · rw [e]
        exact (SeqAt.EqAt.same _).eqP
      · exact SeqAt.eqP_refs e step
end
section
variable {X : Cx}
def rQV (K : Fr) : R2 := fun x y H Q => QR K H (QV K H 60) x y ∧ Q (.bl true) H
theorem op_qv (hu : X.A.units + 64 < cLine) : OpR X (compareOp .Eq) (rQV X.K) := by
  intro pins s σ H x y v u Q I rx ry ⟨h, q⟩
  exact qr_run I (A := X.A) (by omega) (qv_run I 60 X.A.in1 (by show X.A.units + 1 + 60 < cLine; omega)) h rx ry _ _ ⟨.bl true, H, I, rfl, q⟩
end
section
variable {K : Fr} {C : Cl} {L : List Addr} {Ee : Addr → Prop} {H : Hp}
theorem valV_imm {k : L2.Key} {d : D} : ∀ {vs : List (L2.Key × V)} {ds : List (L2.Key × D)}, ImmK K C L Ee H vs ds → lookD ds k = some d → ∃ v, valV vs k = some v ∧ Imm K C L Ee H v d
  | [], [], _, e => by cases e
  | v :: vs, (j, x) :: ds, h, e => by
    simp only [ImmK] at h
    obtain ⟨h1, h2, h3⟩ := h
    by_cases q : j = k
    · unfold lookD at e
      rw [List.find?_cons_of_pos (by simpa using q)] at e
      cases e
      exact ⟨v.2, valV_pos (h1.trans q), h2⟩
    · unfold lookD at e
      rw [List.find?_cons_of_neg (by simpa using q)] at e
      obtain ⟨w, e1, e2⟩ := valV_imm h3 e
      exact ⟨w, by rw [valV_neg (fun z => q (h1.symm.trans z))]; exact e1, e2⟩
  | [], _ :: _, h, _ => by simp only [ImmK] at h
  | _ :: _, [], h, _ => by simp only [ImmK] at h
theorem immK_len : ∀ {vs : List (L2.Key × V)} {ds : List (L2.Key × D)}, ImmK K C L Ee H vs ds → vs.length = ds.length
  | [], [], _ => rfl
  | v :: vs, (k, d) :: ds, h => by
    simp only [ImmK] at h
    simp [immK_len h.2.2]
  | [], _ :: _, h => by simp only [ImmK] at h
  | _ :: _, [], h => by simp only [ImmK] at h
theorem immK_mem {p : L2.Key × V} : ∀ {vs : List (L2.Key × V)} {ds : List (L2.Key × D)}, ImmK K C L Ee H vs ds → p ∈ vs → ∃ d, (p.1, d) ∈ ds ∧ Imm K C L Ee H p.2 d
  | [], [], _, e => by cases e
  | v :: vs, (k, d) :: ds, h, e => by
    simp only [ImmK] at h
    rcases List.mem_cons.mp e with rfl | e
    · exact ⟨d, by rw [h.1]; exact List.mem_cons_self .., h.2.1⟩
    · obtain ⟨x, h1, h2⟩ := immK_mem h.2.2 e
      exact ⟨x, List.mem_cons_of_mem _ h1, h2⟩
  | [], _ :: _, h, _ => by simp only [ImmK] at h
  | _ :: _, [], h, _ => by simp only [ImmK] at h
theorem paired_of {R : V → V → Prop} : ∀ {vs us : List V} {ds es : List D}, ImmL K C L Ee H vs ds → ImmL K C L Ee H us es → ds.length = es.length → (∀ v u d e, Imm K C L Ee H v d → Imm K C L Ee H u e → (d, e) ∈ ds.zip es → R v u) → Paired R vs us
  | [], [], [], [], _, _, _, _ => .nil
  | v :: vs, u :: us, d :: ds, e :: es, h1, h2, hl, h => by
    simp only [ImmL] at h1 h2
    exact .cons (h v u d e h1.1 h2.1 (List.mem_cons_self ..)) (paired_of h1.2 h2.2 (by simpa using hl) fun v u d e q1 q2 q3 => h v u d e q1 q2 (List.mem_cons_of_mem _ q3))
  | [], _, _ :: _, _, h, _, _, _ => by simp only [ImmL] at h
  | _ :: _, _, [], _, h, _, _, _ => by simp only [ImmL] at h
  | _, [], _, _ :: _, _, h, _, _ => by simp only [ImmL] at h
  | _, _ :: _, _, [], _, h, _, _ => by simp only [ImmL] at h
  | [], _ :: _, [], _ :: _, _, _, hl, _ => by simp at hl
  | _ :: _, [], _ :: _, [], _, _, hl, _ => by simp at hl
/-- the containers' part -/
def topD (n : Nat) (x y : D) : Bool := match x, y with
  | .lst xs, .lst ys => xs.length == ys.length && (xs.zip ys).all fun p => eqD n p.1 p.2
  | .dK ks, .dK ls => ks.length == ls.length && ks.all fun p => match lookD ls p.1 with
    | some u => eqD n p.2 u
    | none => false
  | _, _ => false
theorem qr_of {n : Nat} (ih : ∀ v u d e, Imm K C L Ee H v d → Imm K C L Ee H u e → eqD n d e = true → QV K H n v u) {x y : D} {v u : V} (h1 : Imm K C L Ee H v x) (h2 : Imm K C L Ee H u y) (h : topD n x y = true) : QR K H (QV K H n) v u := by
  unfold topD at h
  split at h
  · rename_i xs ys
    simp only [Bool.and_eq_true, beq_iff_eq, List.all_eq_true] at h
    simp only [Imm] at h1 h2
    obtain ⟨a, vs, rfl, r1, q1⟩ := h1
    obtain ⟨b, us, rfl, r2, q2⟩ := h2
    exact .inl ⟨a, b, vs, us, rfl, rfl, r1.sq, r2.sq, paired_of q1 q2 h.1 fun v u d e i1 i2 m => ih v u d e i1 i2 (h.2 (d, e) m)⟩
  · rename_i ks ls
    simp only [Bool.and_eq_true, beq_iff_eq, List.all_eq_true] at h
    simp only [Imm] at h1 h2
    obtain ⟨a, vs, od1, rfl, _, r1, q1⟩ := h1
    obtain ⟨b, us, od2, rfl, _, r2, q2⟩ := h2
    refine .inr ⟨a, b, vs, us, rfl, rfl, .inr ⟨od1, r1⟩, .inr ⟨od2, r2⟩, by rw [immK_len q1, immK_len q2]; exact h.1, fun p hp => ?_⟩
    obtain ⟨d, m, i1⟩ := immK_mem q1 hp
    have hk := h.2 _ m
    dsimp only at hk
    split at hk
    · rename_i w ew
      obtain ⟨u, e1, i2⟩ := valV_imm q2 ew
      exact ⟨u, e1, ih _ _ _ _ i1 i2 hk⟩
    · cases hk
  · cases h
theorem qv_of : ∀ (n : Nat) (v u : V) (d e : D), Imm K C L Ee H v d → Imm K C L Ee H u e → eqD n d e = true → QV K H n v u
  | 0, _, _, _, _, _, _, h => by cases h
  | n + 1, v, u, d, e, h1, h2, h => by
    by_cases hc : topD n d e = true
    · exact .inr (qr_of (qv_of n) h1 h2 hc)
    · refine .inl ?_
      unfold eqD at h
      split at h
      · simp only [Imm] at h1 h2; subst h1; subst h2; exact ⟨rfl, rfl⟩
      · simp only [Imm] at h1 h2; subst h1; subst h2; rw [eq_of_beq h]; exact ⟨rfl, rfl⟩
      · simp only [Imm] at h1 h2; subst h1; subst h2; rw [eq_of_beq h]; exact ⟨rfl, rfl⟩
      · simp only [Imm] at h1 h2; subst h1; subst h2; rw [eq_of_beq h]; exact ⟨rfl, rfl⟩
      · exact absurd h hc
      · exact absurd h hc
      · cases h
end
section
variable {X : Cx} {B : Bs} {E : WX} {e a b o : Expr} {es : List Expr} {p pos apos cpos p2 : Pos} {ma mb m : M W} {md : M D} {ws : M (List W)} {z z' : Z} {σ σ' : St} {H H' : Hp} {L L' : List Addr} {x : Str}
def eqT (x y : W) : M W := flat (match x, y with
  | .d a, .d b => if topD 60 a b = true then some (.bl true) else none
  | _, _ => none)
theorem opS_eqT : OpS B E (rQV B.K) eqT := by
  intro z σ H L Q x y vx vy R hx hy h
  obtain ⟨d, ed, hq⟩ := flat_of R h
  split at ed
  · split at ed
    · rename_i ht
      cases ed
      exact ⟨qr_of (qv_of 60) hx hy ht, hq _ vr_bl'⟩
    · cases ed
  · cases ed
def fEqT : W → W → M W := fOr fEq eqT
theorem d_eqT (P : Pl X B E) (ha : PED X B E a ma) (hb : PED X B E b mb) : PED X B E (.Compare a [.Eq] [b] pos) (m2 ma mb fEqT) := by
  have o := ((op_eq (X := X)).or (op_eqD (X := X) (Nat.lt_of_le_of_lt (by omega) P.hu))).or (op_qv (X := X) (Nat.lt_of_le_of_lt (by omega) P.hu))
  rw [← P.K] at o
  exact d_cmp o ((opS_eqS.or opS_eqP).or opS_eqT) ha hb (nomark _)
theorem dt_eqT (P : Pl X B E) (ha : PED X B E a ma) (hb : PED X B E b mb) : PTD X B E (.Compare a [.Eq] [b] pos) (asB (m2 ma mb fEqT)) := by
  have o := ((op_eq (X := X)).or (op_eqD (X := X) (Nat.lt_of_le_of_lt (by omega) P.hu))).or (op_qv (X := X) (Nat.lt_of_le_of_lt (by omega) P.hu))
  rw [← P.K] at o
  exact d_tcmp o ((opS_eqS.or opS_eqP).or opS_eqT) ha hb (nomark _)
/-! ### constants of the module -/
theorem d_globS {s : Str} {t : Tok} (hm : X.mg x = some (.str s t)) (hg : Gl X x := by rfl) (hd : (x == ("__debug__" : Str)) = false := by decide) : PED X B E (.Name x pos) (mC (.str s)) := ⟨_, pe_glob (v := .str s) hg hm (show ∃ t', Value.str s t = Value.str s t' from ⟨t, rfl⟩) hd, fun z σ H L Q R h => AftE.here R h vr_str'⟩
theorem d_globI {i : Int} {t : Tok} (hm : X.mg x = some (.int i t)) (hg : Gl X x := by rfl) (hd : (x == ("__debug__" : Str)) = false := by decide) : PED X B E (.Name x pos) (mC (.int i)) := ⟨_, pe_glob (v := .int i) hg hm (show ∃ t', Value.int i t = Value.int i t' from ⟨t, rfl⟩) hd, fun z σ H L Q R h => AftE.here R h vr_int'⟩
/-! ### a fresh container becomes a cell -/
def mCell (m : M Cell) : M D := fun z => (m z).bind fun c z1 => .ok (.obj z1.st.length) { z1 with st := z1.st ++ [c] }
theorem Fresh.toCell {q : Addr} {c : Cell} (F : Fresh B z σ H L q c) : Rel B { z with st := z.st ++ [c] } σ H (L ++ [q]) ∧ (∀ b, Ex B { z with st := z.st ++ [c] } σ (L ++ [q]) b ↔ Ex B z σ L b ∨ b = q) := by
  have exs : ∀ b, Ex B { z with st := z.st ++ [c] } σ (L ++ [q]) b ↔ Ex B z σ L b ∨ b = q := fun b => by
    constructor
    · rintro (h | h | h)
      · exact .inl (.inl h)
      · rcases List.mem_append.mp h with h | h
        · exact .inl (.inr (.inl h))
        · exact .inr (by simpa using h)
      · exact .inl (.inr (.inr h))
    · rintro ((h | h | h) | h)
      · exact .inl h
      · exact .inr (.inl (List.mem_append_left _ h))
      · exact .inr (.inr h)
      · exact .inr (.inl (List.mem_append_right _ (by simp [h])))
  have exe : Ex (B.add q) z σ L = Ex B { z with st := z.st ++ [c] } σ (L ++ [q]) := funext fun b => propext (ex_add.trans (exs b).symm)
  have pre : ∀ (n : Nat) a, L[n]? = some a → (L ++ [q])[n]? = some a := fun n a h => by
    rw [List.getElem?_append_left (List.getElem?_eq_some_iff.mp h).1]
    exact h
  have g : Grow L (Ex (B.add q) z σ L) H (L ++ [q]) (Ex (B.add q) z σ L) H := ⟨fun b o h n _ => ⟨h, n⟩, pre, fun _ h => h⟩
  have R := F.rel
  refine ⟨⟨fun i => ?_, R.inj, fun i a o => ?_, ?_, fun n a h => pre n a (F.rel0.pre n a h), fun a h => ?_, F.rel0.frame, fun a h => ?_, F.rel0.ae, F.rel0.tab⟩, exs⟩
  · rw [← exe]
    have s := R.slot i
    show SlRel B.K B.C (L ++ [q]) _ H B.A B.xs (z.sl[i]?) (σ[i]?)
    have s0 := F.rel0.slot i
    generalize z.sl[i]? = x at s s0 ⊢
    generalize σ[i]? = y at s s0 ⊢
    match x, y, s, s0 with
    | some (.val d), some (some v), s, _ => exact Imm.stay g _ _ s
    | some (.own c), some (some v), ⟨a, e, s⟩, _ => exact ⟨a, e, s.stay g fun _ h => h⟩
    | some (.brw c), some (some v), ⟨a, e, s, _, b2⟩, ⟨a', e', _, b1, _⟩ =>
      rw [e] at e'
      cases e'
      refine ⟨a, e, s.stay g fun _ h => h, b1, fun h => ?_⟩
      rcases List.mem_append.mp h with h | h
      · exact b2 h
      · have ha : a = q := by simpa using h
        exact F.nE (.inl (F.rel0.ae q (ha ▸ b1)))
    | some (.exn x), some (some v), s, _ => exact ExSl.stay g s
    | some .un, some _, _, _ => trivial
    | none, none, _, _ => trivial
  · obtain ⟨n1, n2, n3⟩ := R.new i a o
    refine ⟨n1, fun h => ?_, fun h => n3 (.inl h)⟩
    rcases List.mem_append.mp h with h | h
    · exact n2 h
    · exact n3 (.inr (by simpa using h))
  · rw [← exe]
    refine ⟨by simpa using R.st.len, ?_, fun a h => ?_, fun n a k h1 h2 => ?_⟩
    · rw [List.nodup_append]
      exact ⟨R.st.nd, by simp, fun a ha b hb e => F.nL (by simp at hb; rw [← hb, ← e]; exact ha)⟩
    · rcases List.mem_append.mp h with h | h
      · exact R.st.ex a h
      · exact ex_add.mpr (.inr (by simpa using h))
    · have hl := R.st.len
      by_cases hn : n < L.length
      · rw [List.getElem?_append_left hn] at h1
        rw [List.getElem?_append_left (by omega)] at h2
        exact (R.st.at_ n a k h1 h2).stay g fun _ h => h
      · rw [List.getElem?_append_right (by omega)] at h1
        rw [List.getElem?_append_right (by omega)] at h2
        have e0 : n - L.length = 0 := by
          have := (List.getElem?_eq_some_iff.mp h1).1
          simpa using this
        rw [e0] at h1
        rw [← hl, e0] at h2
        cases h1
        cases h2
        exact F.cell.stay g fun _ h => h
  · rcases List.mem_append.mp h with h | h
    · exact F.rel0.newc a h
    · exact .inr (by simp at h; rw [h]; exact F.h0)
  · exact R.exd a (ex_add.mpr ((exs a).mp h))
theorem d_cell {mc : M Cell} (h : PFD X B E e mc) : PXD X B E e (mCell mc) := by
  obtain ⟨t, pa, sa⟩ := h
  refine ⟨t, pa, fun z σ H L Q R h => ?_⟩
  refine sa z σ H L Q R ?_
  unfold mCell at h
  generalize mc z = r at h ⊢
  match r, h with
  | .ok c z1, h =>
    intro v H1 L1 R1 g1 ⟨q, e, F, hp⟩
    subst e
    obtain ⟨R2, exs⟩ := F.toCell
    refine h (.ref q) H1 (L1 ++ [q]) R2 ⟨fun a o hh n nb => ?_, fun n a hh => ?_, g1.dom⟩ ?_
    · obtain ⟨q1, n1⟩ := g1.keep a o hh n nb
      refine ⟨q1, fun x => ((exs a).mp x).elim n1 fun ea => ?_⟩
      rw [ea, hp] at hh
      cases hh
    · have h1 := g1.pre n a hh
      rw [List.getElem?_append_left (List.getElem?_eq_some_iff.mp h1).1]
      exact h1
    · simp only [vD, Imm]
      refine ⟨q, rfl, ?_⟩
      rw [← F.rel.st.len]
      simp
  | .err x S, h => exact h
  | .bad, h => exact h
/-! ### xs[::-1] -/
def fRevL (x : W) : M W := fun z => newL (match z.cont x with
  | some (.lst ds) => some ds.reverse
  | _ => none) z
theorem ImmL.reverse {K : Fr} {C : Cl} {Ee : Addr → Prop} : ∀ {vs : List V} {ds : List D}, ImmL K C L Ee H vs ds → ImmL K C L Ee H vs.reverse ds.reverse
  | [], [], h => h
  | v :: vs, d :: ds, h => by
    simp only [ImmL] at h
    simp only [List.reverse_cons]
    exact ImmL.append (ImmL.reverse h.2) (ImmL.one h.1)
  | [], _ :: _, h => by simp only [ImmL] at h
  | _ :: _, [], h => by simp only [ImmL] at h
theorem d_revL {k : Nat} {p1 p2 p3 : Pos} (P : Pl X B E) (ha : PED X B E e m) : PED X B E (.Subscript e (.Slice none none (some (.UnaryOp .USub (.Constant (.int 1) k p1) p2)) p3) pos) (mBind m fRevL) := by
  obtain ⟨t, pa, sa⟩ := ha
  refine ⟨_, pe_revL pa, fun z σ H L Q R h => ?_⟩
  refine sa z σ H L _ R (AftE.bind h fun x z1 v H1 L1 R1 g1 h1 k1 => ?_)
  obtain ⟨xs, ex, q⟩ := newL_of R1 k1
  split at ex
  · rename_i ds ec
    cases ex
    obtain ⟨a, vs, rfl, r, im⟩ := R1.readL h1 ec
    rw [← P.K]
    exact ⟨a, vs, rfl, r, fun p hp => q _ p im.reverse hp⟩
  · cases ex
/-! ### divmod -/
def fDivmod (xs : List W) : M W := newT (match xs with
  | [.d (.int i), .d (.int j)] => if 0 < j ∧ j.natAbs.log2 < 9000 then some [.int (i / j), .int (i % j)] else none
  | _ => none)
theorem callS_divmod : CallS B E (fun xs H Q => ∃ i j, xs = [.int i, .int j] ∧ CDivP i j ∧ ∀ p, H p = none → Q (.ref p) (upd H p (.tup [.int (i / j), .int (i % j)]))) fDivmod := by
  intro z σ H L Q xs vs R hv h
  obtain ⟨ds, ed, q⟩ := newT_of R h
  split at ed
  · split at ed
    · rename_i i j hc
      cases ed
      obtain ⟨v, y, rfl, r1, r2⟩ := vvs2 hv
      rw [vr_int r1, vr_int r2]
      exact ⟨i, j, rfl, ⟨hc.1, PyProof.noPylong_of_log2 hc.2⟩, fun p hp => q _ p (by simp [ImmL, Imm]) hp⟩
    · cases ed
  · cases ed
theorem d_divmod (hm : X.mg "divmod" = none) (ha : PED X B E a ma) (hb : PED X B E b mb) (hg : Gl X "divmod" := by rfl) (he : starEach [a, b] X.env = (false, eval a X.env) :: starEach [b] X.env := by rfl) (he2 : starEach [b] X.env = (false, eval b X.env) :: starEach [] X.env := by rfl)
    (hpl : (backTo pos (starEach [b] X.env)).any (·.1) = false := by rfl) : PED X B E (.Call (.Name "divmod" p) [a, b] [] pos) (mBind (wCons ma (wCons mb wNil)) fDivmod) :=
  d_callB call_divmodW callS_divmod (dw_cons ha (dw_cons hb dw_nil he2) he) hg hm (by decide +kernel) (he := he) (hpl := hpl)
/-! ### text * int -/
def repS (a : Str) (n : Int) : Str := ⟨((List.replicate n.toNat a.cps.toList).flatten).toArray⟩
theorem rep_fold (a : Array Nat) : ∀ (k : Nat) (b : Array Nat), (List.replicate k a).foldl (· ++ ·) b = b ++ ((List.replicate k a.toList).flatten).toArray
  | 0, b => by simp
  | k + 1, b => by
    rw [List.replicate_succ, List.foldl_cons, rep_fold a k, List.replicate_succ, List.flatten_cons]
    apply Array.toList_inj.mp
    simp
theorem rep_len (a : Str) (n : Int) : (repS a n).length = a.length * n.toNat := by
  unfold repS Str.length
  simp [Nat.mul_comm]
def rRepS : R2 := fun x y H Q => ∃ a n, x = .str a ∧ y = .int n ∧ -(2 ^ 63) ≤ n ∧ n < 2 ^ 63 ∧ a.length * n.toNat ≤ sizeLine ∧ Q (.str (repS a n)) H
theorem op_repS : OpR X (binaryOp .Mult) rRepS := by
  intro pins s σ H x y v u Q I rx ry h
  obtain ⟨a, n, rfl, rfl, h1, h2, h3, q⟩ := h
  obtain ⟨t, rfl⟩ := (show ∃ t, v = Value.str a t from rx)
  obtain ⟨t', rfl⟩ := (show ∃ t, u = Value.int n t from ry)
  have hsl : sizeLine = 16777216 := rfl
  refine PySem.P.mul_str (by simp; omega) (fun h4 _ h5 => ?_) (fun h4 _ => ?_) ?_
  · have h6 : (a.length : Int) * n ≤ 2 ^ 63 - 1 := by
      have : ((a.length * n.toNat : Nat) : Int) = (a.length : Int) * n := by
        rw [Int.natCast_mul, Int.toNat_of_nonneg (by omega)]
      omega
    exact absurd ((Int.le_ediv_iff_mul_le (by omega)).mpr h6) (by omega)
  · unfold Builtin.Str.tooLong
    simpa using h3
  · by_cases h4 : n < 1
    · rw [if_pos h4]
      have e : repS a n = Str.empty := by
        unfold repS
        rw [show n.toNat = 0 by omega]
        rfl
      refine ⟨by decide, .str (repS a n), H, I.tok _, ⟨_, by rw [e]⟩, q⟩
    · rw [if_neg h4]
      by_cases h5 : (n == 1 || a.length == 0) = true
      · rw [if_pos h5]
        have e : repS a n = a := by
          unfold repS
          rcases (Bool.or_eq_true _ _).mp h5 with h5 | h5
          · rw [eq_of_beq h5]
            simp
          · have h6 : a.cps.toList = [] := by
              have : a.cps.size = 0 := eq_of_beq h5
              exact List.eq_nil_of_length_eq_zero (by simpa using this)
            rw [h6]
            have h7 : a = ⟨#[]⟩ := by
              cases a with
              | mk c => simp at h6; rw [h6]
            rw [h7]
            simp
        exact ⟨.str (repS a n), H, I, ⟨t, by rw [e]⟩, q⟩
      · rw [if_neg h5, rep_fold]
        have e : (⟨#[] ++ ((List.replicate n.toNat a.cps.toList).flatten).toArray⟩ : Str) = repS a n := by
          unfold repS
          simp
        rw [e]
        refine ⟨by rw [rep_len]; exact h3, .str (repS a n), H, I.tok _, ⟨_, rfl⟩, q⟩
def mulS (x y : W) : M W := flat (match x, y with
  | .d (.str a), .d (.int n) => if -(2 ^ 63) ≤ n ∧ n < 2 ^ 63 ∧ a.length * n.toNat ≤ sizeLine then some (.str (repS a n)) else none
  | _, _ => none)
theorem opS_repS : OpS B E rRepS mulS := by
  intro z σ H L Q x y vx vy R hx hy h
  obtain ⟨d, ed, hq⟩ := flat_of R h
  split at ed
  · split at ed
    · rename_i hc
      cases ed
      exact ⟨_, _, vr_str hx, vr_int hy, hc.1, hc.2.1, hc.2.2, hq _ vr_str'⟩
    · cases ed
  · cases ed
/-- list * int, the list tracked -/
def mulLo (x y : W) : M W := fun z => newL (match z.mut x, y with
  | some (.lst a), .d (.int k) => if k < 2 ^ 63 ∧ -(2 ^ 63) ≤ k ∧ a.length * k.toNat ≤ sizeLine then some (List.replicate k.toNat a).flatten else none
  | _, _ => none) z
def fMul : W → W → M W := fOr mulI mulS
theorem d_mul (ha : PED X B E a ma) (hb : PED X B E b mb) : PED X B E (.BinOp a .Mult b pos) (m2 ma mb fMul) :=
  d_op (op_mulA.or op_repS) ((opS_I (fun _ _ h => h) fun _ _ _ _ _ _ => vr_int').or opS_repS) ha hb
/-! ### dict displays -/
theorem Fresh.dK (R : Rel B z σ H L) {p : Addr} {vs : List (L2.Key × V)} {ds : List (L2.Key × D)} (hp : H p = none) (q : ImmK B.K B.C L (Ex B z σ L) H vs ds) : Fresh B z σ (upd H p (.dK vs)) L p (.dK ds) :=
  ⟨R.upd_new hp, R.lay hp, ⟨vs, upd_same, ImmK.stay (grow_add hp) _ _ q⟩, R.h0 hp, fun h => (R.exd p (.inr (.inl h))).ne hp, fun h => (R.exd p h).ne hp⟩
def mF (c : Cell) : M Cell := fun z => .ok c z
theorem df_dict0 : PFD X B E (.Dict [] [] pos) (mF (.dK [])) := ⟨_, pe_dnewK, fun z σ H L Q R h p hp => h _ _ _ (R.upd_new hp) (G.new hp) ⟨p, rfl, Fresh.dK R hp (by simp [ImmK]), hp⟩⟩
theorem df_dict1 {k : Str} {i : Int} {j1 j2 : Nat} {p1 p3 : Pos} : PFD X B E (.Dict [some (.Constant (.str k) j1 p1)] [.Constant (.int i) j2 p3] pos) (mF (.dK [(.inr k, .int i)])) := by
  refine ⟨_, pe_disp (pps_cons pe_str pe_int pps_nil) rfl rfl (fun z => by cases z) (by show 1 ≤ 15; decide), fun z σ H L Q R h p hp => ?_⟩
  refine ⟨upd_same, [(.inr k, .int i)], rfl, (by show 1 ≤ 15; decide), ?_⟩
  have e : upd (upd H p (.dK [])) p (.dK (mergeK [] [(.inr k, V.int i)])) = upd H p (.dK [(.inr k, V.int i)]) := by
    funext b
    by_cases hb : b = p
    · subst hb; rw [upd_same, upd_same]; rfl
    · rw [upd_ne hb, upd_ne hb, upd_ne hb]
  rw [e]
  exact h _ _ _ (R.upd_new hp) (G.new hp) ⟨p, rfl, Fresh.dK R hp (by simp [ImmK, Imm]), hp⟩
end
end DL
set_option Elab.async false
set_option linter.all false
set_option maxRecDepth 100000
set_option maxHeartbeats 2000000
namespace DL
open PySem PySem.Spec L2 PyProof.Rows PySem.Calls
/-- the fields that an __init__ has set, the last one first -/
def mkF {α : Type} (fn : List Str) (vs : List α) : List (Str × α) := (fn.zip vs).reverse
theorem passN {X : Cx} : Passes (L2N.CX X.prog X.w) X (fun _ _ _ => False) := fun _ _ _ _ _ _ _ h => by
  obtain ⟨_, _, _, _, _, _, _, _, _, _, _, _, z⟩ := h
  exact z.elim
/-! ### C(e, ..) of an own class over ValueError -/
section
variable {X : Cx} {e : Expr} {es : List Expr} {ta : TA} {p pos : Pos} {A fI : Addr} {k : Nat} {fd : FuncData} {ps : List Str} {fn : List Str} {x : Str} {b newId initId : String} {tl : List Value}
/-- the promise of its __init__ -/
def spXI (K : Fr) (A : Addr) (fn : List Str) : Sp := fun vs H Q _ => ∃ a us, vs = .ref a :: us ∧ us.length = fn.length ∧ H a = some (exo a A none) ∧
  ∀ d H', H d = none → d ≠ a → H' a = some (exo a A (some d)) → H' d = some (exd d (mkF fn us)) → (∀ b, b ≠ a → b ≠ d → H' b = H b) → Q .non H'
theorem pmkV (Z : BaseX b newId initId tl) (T : OexB newId tl X.K A) (iC : PySem.W.findIn X.K (.ref A) "__init__" = some (some (.ref fI))) (tI : PySem.W.typeIn X.K (.ref fI) = some (.type "function"))
    (F1 : FnOk X.prog X.w X.K X.mg X.base (L2N.CX X.prog X.w) k fI fd ps (spXI X.K A fn)) (hr : Room (k + 1) X.A) (hb : Binds X.K fd ps []) (hg : Gl X x) (hm : X.mg x = some (.ref A)) (ha : PA X (e :: es) ta) (hn : fn.length ≤ 100)
    (hdb : (x == ("__debug__" : Str)) = false) (he : starEach (e :: es) X.env = (false, eval e X.env) :: starEach es X.env) (hpl : (backTo pos (starEach es X.env)).any (·.1) = false) :
    L2N.PMk X (.Call (.Name x p) (e :: es) [] pos) (fun σ H Q => ta σ H fun vs H1 => vs.length = fn.length ∧ ∀ d, H1 d = none → Q (.ref A) (some d) (upd H1 d (.xd (mkF fn vs)))) := by
  intro pins s σ H Q I h
  obtain ⟨nm, qn, N, bs, bm, sn, sb, ab, cl, dd, k0, k1, k2, k3, k5, hC, hbm⟩ := T.cls
  refine wpAny_Call_Name_kw (ld_glob I hg hm ?_ hdb)
  refine PySem.W.callWith_K (h₀ := X.base) I.ok.mod.kin T.kC (thn (ha.run pos pins s σ H _ I h) fun us s1 hh => ?_) he hpl
  obtain ⟨vs, H1, I1, r1, hl, q1⟩ := hh
  refine ⟨I1.kIn, ?_⟩
  show wpAny _ _ (call (.ref A) us) _ _ _
  obtain ⟨hp, g, dr, tk, os⟩ := s1
  have hsz : hp.objs.size ≤ hp.objs.size + 1 := Nat.le_succ _
  have hnew : H1 (hp.objs.size + 1) = none := I1.hok.fresh hsz
  have kk : ∀ b o, hp.get? b = some o → ((hp.push (PySem.W.kdv_tup us)).push (PySem.HandSPX.excO A hp.objs.size)).get? b = some o := fun b o z => Heap.get?_push_of_some _ (Heap.get?_push_of_some _ z)
  have hget : ((hp.push (PySem.W.kdv_tup us)).push (PySem.HandSPX.excO A hp.objs.size)).get? (hp.objs.size + 1) = some (PySem.HandSPX.excO A hp.objs.size) := by heap_get
  have I2 := I1.laid (t' := tk) (a := hp.objs.size + 1) (o := exo (hp.objs.size + 1) A none) (h' := (hp.push (PySem.W.kdv_tup us)).push (PySem.HandSPX.excO A hp.objs.size)) kk hsz (exo_ok hget)
  have r2 : Vals (V.ref (hp.objs.size + 1) :: vs) (Value.ref (hp.objs.size + 1) :: us) := .cons rfl r1
  have hsp : spXI X.K A fn (V.ref (hp.objs.size + 1) :: vs) (upd H1 (hp.objs.size + 1) (exo (hp.objs.size + 1) A none))
      (fun v H2 => v = .non ∧ ∃ (d : Addr), H2 (hp.objs.size + 1) = some (exo (hp.objs.size + 1) A (some d)) ∧ H2 d = some (exd d (mkF fn vs)) ∧ H1 d = none ∧ d ≠ hp.objs.size + 1 ∧ (∀ b, b ≠ hp.objs.size + 1 → b ≠ d → H2 b = H1 b)) (fun _ _ _ => False) := by
    refine ⟨_, vs, rfl, hl, upd_same, fun d H' hd hne e1 e2 e3 => ⟨rfl, d, e1, e2, ?_, hne, fun b b1 b2 => ?_⟩⟩
    · rw [upd_ne hne] at hd; exact hd
    · rw [e3 b b1 b2, upd_ne b1]
  have hlen : (Value.ref (hp.objs.size + 1) :: us).length = ps.length := by
    have z := r2.length
    rw [F1.len _ _ _ _ hsp] at z
    exact z.symm
  have hus : us.length ≤ sizeLine := by
    rw [← Paired.length r1, sizeLine_eq]
    omega
  have b2 := hb _ (Value.ref (hp.objs.size + 1) :: us) I2.kIn (by rw [List.append_nil]; exact hlen)
  rw [List.append_nil] at b2
  refine wpAny_call (PySem.HandSPX.call_own Z.fx (fun Y => ownTl_has Y bm hbm) (I1.kIn _ _ hC) (PySem.W.looks_findIn I1.kIn iC) (fun self => PySem.W.bind_fn I1.kIn self tI) hus
    (codeAny_mono (F1.run _ X.stack _ _ ⟨Value.ref (hp.objs.size + 1) :: us, []⟩ (Value.ref (hp.objs.size + 1) :: us) _ _ (fun _ _ _ => False) (hr.make A us []) (I2.env0.make A us []) b2 r2 hsp) fun r s' hq' => ?_))
  cases r with
  | error er => exact passN pins σ _ _ er s' I2 hq'
  | ok fl =>
    cases fl with
    | ret u =>
      obtain ⟨v, H2, os2, bare2, un2, hok2, rv, ev, d, ea, ed, hd1, hne, hfr⟩ := hq'
      subst ev
      obtain ⟨h2, g2, d2, t2, os'⟩ := s'
      obtain ⟨t0, G, J, kG, ge, hoe, na⟩ := mk_end0 (d2 := d2) (t2 := t2) I1 hsz kk un2 hok2 os2 bare2 ea ed hd1
      refine ⟨rv, hp.objs.size + 1, _, _, ⟨G, g2, d2, t2, os'⟩, _, .ref A, some d, rfl, J, kG, ge, hoe, ⟨rfl, rfl, fun vs hv => ?_⟩, rfl, rfl, na, rfl, bare2, raises_own T.exC T.tyC, ?_⟩
      · cases hv
        rfl
      · have eh : upd (del H2 (hp.objs.size + 1)) d (.xd (mkF fn vs)) = upd H1 d (.xd (mkF fn vs)) := by
          funext b
          by_cases b1 : b = d
          · rw [b1, upd_same, upd_same]
          · rw [upd_ne b1, upd_ne b1]
            by_cases b2 : b = hp.objs.size + 1
            · rw [b2, del_same, hnew]
            · rw [del_ne b2, hfr b b2 b1]
        rw [eh]
        exact q1 d hd1
    | next => exact hq'.elim
    | brk => exact hq'.elim
    | cont => exact hq'.elim
end
/-- an own exception class of the text -/
structure XD (P : Program) (w : World) (K : Fr) (mg : Str → Option Value) (base : Heap) (C : Cl) (k : Nat) (x : Str) (fn : List Str) : Prop where
  ex : ∃ A, C x = some A ∧ mg x = some (.ref A) ∧ ∀ (X : Cx) (e : Expr) (es : List Expr) (ta : TA) (p pos : Pos), X.prog = P → X.w = w → X.K = K → X.mg = mg → X.base = base → Room (k + 1) X.A → Gl X x → PA X (e :: es) ta →
    (starEach (e :: es) X.env = (false, eval e X.env) :: starEach es X.env) → ((backTo pos (starEach es X.env)).any (·.1) = false) →
    L2N.PMk X (.Call (.Name x p) (e :: es) [] pos) (fun σ H Q => ta σ H fun vs H1 => vs.length = fn.length ∧ ∀ d, H1 d = none → Q (.ref A) (some d) (upd H1 d (.xd (mkF fn vs))))
theorem XD.mono {P : Program} {w : World} {K : Fr} {mg : Str → Option Value} {base : Heap} {C : Cl} {j k : Nat} {x : Str} {fn : List Str} (h : XD P w K mg base C j x fn) (l : j ≤ k) : XD P w K mg base C k x fn := by
  obtain ⟨A, h1, h2, h3⟩ := h
  exact ⟨A, h1, h2, fun X e es ta p pos a b c d f r => h3 X e es ta p pos a b c d f (r.mono (by omega))⟩
theorem xd_VE {P : Program} {w : World} {K : Fr} {mg : Str → Option Value} {base : Heap} {C : Cl} {k : Nat} {x : Str} {fn : List Str} {A fI : Addr} {fd : FuncData} {ps : List Str} {b newId initId : String} {tl : List Value} (Z : BaseX b newId initId tl) (cA : C x = some A) (mA : mg x = some (.ref A)) (T : OexB newId tl K A)
    (iC : PySem.W.findIn K (.ref A) "__init__" = some (some (.ref fI))) (tI : PySem.W.typeIn K (.ref fI) = some (.type "function")) (F1 : FnOk P w K mg base (L2N.CX P w) k fI fd ps (spXI K A fn)) (hb : Binds K fd ps [])
    (hn : fn.length ≤ 100) (hdb : (x == ("__debug__" : Str)) = false) : XD P w K mg base C k x fn :=
  ⟨A, cA, mA, fun X e es ta p pos a b1 c d f r hg ha he hpl => by
    subst a b1 c d f
    exact pmkV Z T iC tI F1 r hb hg mA ha hn hdb he hpl⟩
/-! ### raise -/
section
variable {X : Cx} {B : Bs} {E : WX} {e : Expr} {es : List Expr} {p pos pos' : Pos} {ms : M (List D)} {x : Str} {k : Nat} {fn : List Str}
def sRaise (x : Str) (fn : List Str) (ms : M (List D)) : MS := fun z => match ms z with
  | .ok ds z1 => if ds.length = fn.length then .err ⟨x, mkF fn ds⟩ z1 else .bad
  | .err x z1 => .err x z1
  | .bad => .bad
theorem immF_mk {K : Fr} {C : Cl} {L : List Addr} {Ee : Addr → Prop} {H : Hp} : ∀ {fn : List Str} {vs : List V} {ds : List D}, ImmL K C L Ee H vs ds → ImmF K C L Ee H (fn.zip vs) (fn.zip ds)
  | [], _, _, _ => by simp [ImmF]
  | f :: fn, [], [], _ => by simp [ImmF]
  | f :: fn, v :: vs, d :: ds, h => by
    simp only [ImmL] at h
    simp only [List.zip_cons_cons, ImmF]
    exact ⟨trivial, h.1, immF_mk h.2⟩
  | f :: fn, [], _ :: _, h => by simp only [ImmL] at h
  | f :: fn, _ :: _, [], h => by simp only [ImmL] at h
theorem ImmF.append {K : Fr} {C : Cl} {L : List Addr} {Ee : Addr → Prop} {H : Hp} : ∀ {vs ws : List (Str × V)} {ds es : List (Str × D)}, ImmF K C L Ee H vs ds → ImmF K C L Ee H ws es → ImmF K C L Ee H (vs ++ ws) (ds ++ es)
  | [], ws, [], es, _, q => q
  | v :: vs, ws, (j, d) :: ds, es, h, q => by
    simp only [ImmF, List.cons_append] at h ⊢
    exact ⟨h.1, h.2.1, ImmF.append h.2.2 q⟩
  | [], _, _ :: _, _, h, _ => by simp only [ImmF] at h
  | _ :: _, _, [], _, h, _ => by simp only [ImmF] at h
theorem ImmF.reverse {K : Fr} {C : Cl} {L : List Addr} {Ee : Addr → Prop} {H : Hp} : ∀ {vs : List (Str × V)} {ds : List (Str × D)}, ImmF K C L Ee H vs ds → ImmF K C L Ee H vs.reverse ds.reverse
  | [], [], h => h
  | v :: vs, (j, d) :: ds, h => by
    simp only [ImmF] at h
    simp only [List.reverse_cons]
    exact ImmF.append (ImmF.reverse h.2.2) (by simp only [ImmF]; exact ⟨h.1, h.2.1, trivial⟩)
  | [], _ :: _, h => by simp only [ImmF] at h
  | _ :: _, [], h => by simp only [ImmF] at h
theorem d_raise (P : Plc X B E) (T : XD X.prog X.w X.K X.mg X.base B.C k x fn) (hr : Room (k + 1) X.A) (ha : PXDs X B E (e :: es) ms) (hg : Gl X x := by rfl)
    (he : starEach (e :: es) X.env = (false, eval e X.env) :: starEach es X.env := by rfl) (hpl : (backTo pos (starEach es X.env)).any (·.1) = false := by rfl) : PSD X B E (.Raise (some (.Call (.Name x p) (e :: es) [] pos)) none pos') (sRaise x fn ms) := by
  obtain ⟨t, pa, sa⟩ := ha
  obtain ⟨A, cA, mA, mk⟩ := T
  refine ⟨_, L2N.ps_raise P.calm P.tk (mk X e es t p pos rfl rfl rfl rfl rfl hr hg pa he hpl), fun z σ H L N R h => ?_⟩
  refine sa z σ H L _ R ?_
  unfold sRaise at h
  generalize ms z = r at h ⊢
  match r, h with
  | .ok ds z1, h =>
    intro vs H1 L1 R1 g1 hv
    dsimp only at h
    by_cases hl : ds.length = fn.length
    · rw [if_pos hl] at h
      refine ⟨by rw [hv.length]; exact hl, fun d hd => ?_⟩
      refine h (.ref A) (some d) σ _ L1 (R1.upd_new hd) (g1.trans (G.new hd)) ⟨A, mkF fn vs, cA, rfl, ⟨R1.noEx hd, upd_same⟩, ?_⟩
      exact ImmF.stay (Grow.same (same_new hd)) _ _ (ImmF.reverse (immF_mk hv))
    · rw [if_neg hl] at h
      exact h.elim
  | .err x z1, h => exact fun cls dd H1 L1 R1 g1 => h cls dd σ H1 L1 R1 g1
  | .bad, h => exact h.elim
end
end DL
set_option Elab.async false
set_option linter.all false
set_option maxRecDepth 100000
set_option maxHeartbeats 2000000
namespace DL
open PySem PySem.Spec L2 PyProof.Rows PySem.Calls
/-! ### an __init__ that says super().__init__('..') and stores its arguments -/
section
variable {CX : CXT} {P : Program} {w : World} {K : PySem.W.Frag} {mg : Str → Option Value} {base : Heap} {k : Nat} {f C D cda cc : Addr} {name qual me v1 v2 f1 f2 tx : Str} {params : Arguments} {scope : Scope} {dV kV doc pm ct oc : Value} {an od : Option Addr}
  {osl : Array (Option Value)} {p0 p1 p2 p3 p4 p5 a1 a2 a3 a4 b1 b2 b3 b4 : Pos} {jj : Nat} {b newId initId : String} {tl : List Value}
/-- .. names that are told -/
def PlainN (x : Str) : Bool := (x == ("__debug__" : Str)) == false && (x == ("__classdict__" : Str)) == false
theorem plainN {x : Str} (h : PlainN x = true) : (x == ("__debug__" : Str)) = false ∧ (x == ("__classdict__" : Str)) = false := by
  unfold PlainN at h
  simpa using h
theorem init1 (Z : BaseX b newId initId tl) (hev : ∀ env : Env, eval (.Call (.Attribute (.Call (.Name "super" p0) [] [] p1) "__init__" p2) [.Constant (.str tx) jj p3] [] p4) env = (do
      let ov ← attributeBase (.Call (.Name "super" p0) [] [] p1) "__init__" env (eval (.Call (.Name "super" p0) [] [] p1) env)
      standAt p2.atName
      let (f, first) ← holding [ov] (getMethod ov "__init__" (do return (← importBound (.Call (.Name "super" p0) [] [] p1) env).getD true))
      callWith p4 f first (backTo p4 (starEach [.Constant (.str tx) jj p3] env)) []))
    (lk : K.lookup f = some ⟨oc, od, .func (PySem.W.ksFn name qual params (.Expr (.Call (.Attribute (.Call (.Name "super" p0) [] [] p1) "__init__" p2) [.Constant (.str tx) jj p3] [] p4) p5 :: [.Assign [.Attribute (.Name me a1) f1 a2] (.Name v1 a3) a4]) scope dV kV doc pm an (.ref cda) ct cc), osl⟩)
    (hcd : PySem.W.codeIn K (.ref cda) qual = true) (S : InitScope [me, v1] scope) (O : OexB newId tl K C)
    (T : SupK b initId P K mg C D f cda cc (PySem.W.ksFn name qual params (.Expr (.Call (.Attribute (.Call (.Name "super" p0) [] [] p1) "__init__" p2) [.Constant (.str tx) jj p3] [] p4) p5 :: [.Assign [.Attribute (.Name me a1) f1 a2] (.Name v1 a3) a4]) scope dV kV doc pm an (.ref cda) ct cc) me scope)
    (n1 : PySem.W.findIn K (.ref C) f1 = some none) (hp : [me, v1].all PlainN = true) :
    FnOk P w K mg base CX (k + 1) f (PySem.W.ksFn name qual params (.Expr (.Call (.Attribute (.Call (.Name "super" p0) [] [] p1) "__init__" p2) [.Constant (.str tx) jj p3] [] p4) p5 :: [.Assign [.Attribute (.Name me a1) f1 a2] (.Name v1 a3) a4]) scope dV kV doc pm an (.ref cda) ct cc) [me, v1] (spXI K C [f1]) := by
  simp only [List.all_cons, List.all_nil, Bool.and_true, Bool.and_eq_true] at hp
  refine fn_exinit Z hev lk hcd S rfl (fun vs H Q E h => ?_) (fun A outer s H vs Q E h => ?_)
  · obtain ⟨a, us, rfl, hl, _⟩ := h
    show us.length + 1 = 2
    rw [hl]
    rfl
  · obtain ⟨a, us, rfl, hl, ha, q⟩ := h
    match us, hl with
    | [y], _ =>
    refine ⟨a, C, D, [y], _, rfl, ha, O, T, pss_one (ps_bst Z (pe_var (i := 0) rfl (.inl (S.par me (by simp))) (plainN hp.1).1 (plainN hp.1).2) (pe_var (i := 1) rfl (.inl (S.par v1 (by simp))) (plainN hp.2).1 (plainN hp.2).2)), ?_⟩
    refine ⟨y, rfl, .ref a, rfl, a, C, rfl, O, n1, .inl ⟨ha, fun dx hd hne => ?_⟩⟩
    refine q dx _ hd hne upd_same ?_ (fun b h1 h2 => ?_)
    · rw [upd_ne hne, upd_same]
      rfl
    · rw [upd_ne h1, upd_ne h2]
theorem init2 (Z : BaseX b newId initId tl) (hev : ∀ env : Env, eval (.Call (.Attribute (.Call (.Name "super" p0) [] [] p1) "__init__" p2) [.Constant (.str tx) jj p3] [] p4) env = (do
      let ov ← attributeBase (.Call (.Name "super" p0) [] [] p1) "__init__" env (eval (.Call (.Name "super" p0) [] [] p1) env)
      standAt p2.atName
      let (f, first) ← holding [ov] (getMethod ov "__init__" (do return (← importBound (.Call (.Name "super" p0) [] [] p1) env).getD true))
      callWith p4 f first (backTo p4 (starEach [.Constant (.str tx) jj p3] env)) []))
    (lk : K.lookup f = some ⟨oc, od, .func (PySem.W.ksFn name qual params (.Expr (.Call (.Attribute (.Call (.Name "super" p0) [] [] p1) "__init__" p2) [.Constant (.str tx) jj p3] [] p4) p5 :: [.Assign [.Attribute (.Name me a1) f1 a2] (.Name v1 a3) a4, .Assign [.Attribute (.Name me b1) f2 b2] (.Name v2 b3) b4]) scope dV kV doc pm an (.ref cda) ct cc), osl⟩)
    (hcd : PySem.W.codeIn K (.ref cda) qual = true) (S : InitScope [me, v1, v2] scope) (O : OexB newId tl K C)
    (T : SupK b initId P K mg C D f cda cc (PySem.W.ksFn name qual params (.Expr (.Call (.Attribute (.Call (.Name "super" p0) [] [] p1) "__init__" p2) [.Constant (.str tx) jj p3] [] p4) p5 :: [.Assign [.Attribute (.Name me a1) f1 a2] (.Name v1 a3) a4, .Assign [.Attribute (.Name me b1) f2 b2] (.Name v2 b3) b4]) scope dV kV doc pm an (.ref cda) ct cc) me scope)
    (n1 : PySem.W.findIn K (.ref C) f1 = some none) (n2 : PySem.W.findIn K (.ref C) f2 = some none) (hp : [me, v1, v2].all PlainN = true) :
    FnOk P w K mg base CX (k + 1) f (PySem.W.ksFn name qual params (.Expr (.Call (.Attribute (.Call (.Name "super" p0) [] [] p1) "__init__" p2) [.Constant (.str tx) jj p3] [] p4) p5 :: [.Assign [.Attribute (.Name me a1) f1 a2] (.Name v1 a3) a4, .Assign [.Attribute (.Name me b1) f2 b2] (.Name v2 b3) b4]) scope dV kV doc pm an (.ref cda) ct cc) [me, v1, v2] (spXI K C [f1, f2]) := by
  simp only [List.all_cons, List.all_nil, Bool.and_true, Bool.and_eq_true] at hp
  refine fn_exinit Z hev lk hcd S rfl (fun vs H Q E h => ?_) (fun A outer s H vs Q E h => ?_)
  · obtain ⟨a, us, rfl, hl, _⟩ := h
    show us.length + 1 = 3
    rw [hl]
    rfl
  · obtain ⟨a, us, rfl, hl, ha, q⟩ := h
    match us, hl with
    | [y, u], _ =>
    have pm : ∀ X : Cx, X.N = [me, v1, v2] → X.env.scope = scope → PE X (.Name me a1) (tVar 0) ∧ PE X (.Name me b1) (tVar 0) ∧ PE X (.Name v1 a3) (tVar 1) ∧ PE X (.Name v2 b3) (tVar 2) := fun X hN hs => by
      refine ⟨pe_var (by rw [hN]; rfl) (.inl (by rw [hs]; exact S.par me (by simp))) (plainN hp.1).1 (plainN hp.1).2, pe_var (by rw [hN]; rfl) (.inl (by rw [hs]; exact S.par me (by simp))) (plainN hp.1).1 (plainN hp.1).2,
        pe_var (by rw [hN]; rfl) (.inl (by rw [hs]; exact S.par v1 (by simp))) (plainN hp.2.1).1 (plainN hp.2.1).2, pe_var (by rw [hN]; rfl) (.inl (by rw [hs]; exact S.par v2 (by simp))) (plainN hp.2.2).1 (plainN hp.2.2).2⟩
    obtain ⟨m1, m2, m3, m4⟩ := pm (cxS CX P w K mg base [me, v1, v2] qual scope f cda cc A outer s H E) rfl rfl
    refine ⟨a, C, D, [y, u], _, rfl, ha, O, T, pss_cons (ps_bst Z m1 m3) (pss_one (ps_bst Z m2 m4)), ?_⟩
    refine ⟨y, rfl, .ref a, rfl, a, C, rfl, O, n1, .inl ⟨ha, fun dx hd hne => ?_⟩⟩
    refine ⟨u, rfl, .ref a, rfl, a, C, rfl, O, n2, .inr ⟨dx, [(f1, y)], by simp, upd_same, by rw [upd_ne hne, upd_same], ?_⟩⟩
    refine q dx _ hd hne ?_ ?_ (fun b h1 h2 => ?_)
    · rw [upd_ne (Ne.symm hne), upd_same]
    · rw [upd_same]
      rfl
    · rw [upd_ne h2, upd_ne h1, upd_ne h2]
end
/-! ### isinstance of the exception that is handled, its fields -/
section
variable {X : Cx} {B : Bs} {E : WX} {e : Expr} {p pos : Pos} {m : M W} {x : Str}
/-- what the class at A says, so that its instances are asked rightly -/
structure XcK (K : Fr) (A : Addr) : Prop where
  hcl : (PySem.W.clsIn K A).isSome = true
  ga : PySem.W.findIn K (.ref A) "__getattribute__" = some (some (.builtin "BaseException.__getattribute__"))
  gg : PySem.W.findIn K (.ref A) "__getattr__" = some none
  exC : PySem.W.subIn K (.ref A) (.type "BaseException") = some true
  hdC : PySem.W.hasDictIn K A = true
  ha : PySem.W.findIn K (.ref A) "__class__" = some (some (.builtin "object.__class__"))
  hn : PySem.W.specialIn K (.builtin "object.__class__") "__get__" = some (some (.builtin "getset_descriptor.__get__"))
  ht : PySem.W.takesIn K (.builtin "object.__class__") = some true
  hm : PySem.W.mroIn K A (.type "object") = some true
theorem pe_bad {e : Expr} : PE X e (fun _ _ _ => False) := ⟨fun _ _ _ _ _ _ h => h.elim⟩
theorem immF_lookup {K : Fr} {C : Cl} {L : List Addr} {Ee : Addr → Prop} {H : Hp} {f : Str} {d : D} : ∀ {vs : List (Str × V)} {fs : List (Str × D)}, ImmF K C L Ee H vs fs → fs.lookup f = some d → ∃ v, vs.lookup f = some v ∧ Imm K C L Ee H v d
  | [], [], _, h => by cases h
  | v :: vs, (j, x) :: fs, h, e => by
    simp only [ImmF] at h
    obtain ⟨h1, h2, h3⟩ := h
    subst h1
    by_cases q : f = v.1
    · subst q
      have e1 : List.lookup v.1 ((v.1, x) :: fs) = some x := List.lookup_cons_self
      rw [e1] at e
      cases e
      exact ⟨v.2, List.lookup_cons_self, h2⟩
    · have q' : (f == v.1) = false := by simpa using q
      have e1 : List.lookup f ((v.1, x) :: fs) = List.lookup f fs := by rw [List.lookup_cons, q']
      have e2 : List.lookup f (v :: vs) = List.lookup f vs := by rw [List.lookup_cons, q']
      rw [e1] at e
      rw [e2]
      exact immF_lookup h3 e
  | [], _ :: _, h, _ => by simp only [ImmF] at h
  | _ :: _, [], h, _ => by simp only [ImmF] at h
theorem xd_inst {A a : Addr} {dd : Option Addr} {oe : Obj} {vs : List (Str × V)} {Ee : Addr → Prop} {pins : List (Addr × Obj)} {σ : L2.St} {H : Hp} {s : Shared} (I : Inv X pins σ H s) (hp : (a, oe) ∈ X.pn) (hz : L2N.Zn (.ref A) dd oe) (hf : ∃ vs, oe.data = .fields vs) (hx : XdAt Ee H dd vs) :
    ∃ od, PySem.W.InstAt s.heap a oe A od ∧ ∀ f v, vs.lookup f = some v → ∃ o u, od = some o ∧ PySem.W.lookIn f o = some (some u) ∧ RelV v u := by
  obtain ⟨ha, _⟩ := I.pin (a, oe) (List.mem_append_left _ hp)
  obtain ⟨us, hd⟩ := hf
  have nc : PySem.W.notCls oe = true := by unfold PySem.W.notCls; rw [hd] <;> rfl
  cases dd with
  | none =>
    have e : vs = [] := hx
    subst e
    exact ⟨none, ⟨ha, hz.1, nc, by rw [hz.2.1]; trivial⟩, fun f v h => by cases h⟩
  | some d =>
    obtain ⟨mA, hns, hr⟩ := (I.hok d _ hx.2 : ObjOk X.prog X.w H s.heap d (.xd vs))
    obtain ⟨od, ho, hl⟩ := lookIn_ns hns
    refine ⟨some od, ⟨ha, hz.1, nc, by rw [hz.2.1]; exact ho⟩, fun f v h => ?_⟩
    obtain ⟨u, hu, ru⟩ := RelO.some_of (v := v) (o := mA f) (by rw [← h]; exact hr f)
    exact ⟨od, u, rfl, by rw [hl, hu], ru⟩
def fIsE (tbl : Str → Option Bool) (w : W) : M W := fun z => flat (match w with
  | .own i => match z.sl[i]? with
    | some (.exn x) => (tbl x.cls).map .bl
    | _ => none
  | _ => none) z
theorem exn_of {z : Z} {σ : L2.St} {H : Hp} {L : List Addr} {i : Nat} {v : V} {x : Exn} (R : Rel B z σ H L) (h : VRel B z σ H L v (.own i)) (e : z.sl[i]? = some (.exn x)) : ExSl B.K B.C L (Ex B z σ L) H B.xs v x := by
  have s := R.slot i
  have hs : σ[i]? = some (some v) := h
  rw [e, hs] at s
  exact s
/-- isinstance(e, c), e the exception that is handled -/
def rIsX (X : Cx) (B : Bs) (cv : Value) : List V → Hp → VK → Prop := fun xs H Q => ∃ a A dd vs Ee c b, xs = [.ref a, c] ∧ B.xs = some (a, A, dd) ∧ XdAt Ee H dd vs ∧ (∀ u, RelV c u → u = cv) ∧ XcK X.K A ∧ PySem.W.kitOne X.K (.ref A) cv = some b ∧ Q (.bl b) H
theorem call_isX {cv : Value} (P : Pl X B E) : CallR X (.builtin "isinstance") (rIsX X B cv) := by
  intro pins s σ H xs us Q I r h
  obtain ⟨a, A, dd, vs, Ee, c, b, rfl, ex, hx, hcv, T, hk, q⟩ := h
  obtain ⟨oe, hp, hz, hf⟩ := P.xs a A dd ex
  obtain ⟨od, J, _⟩ := xd_inst I hp hz hf hx
  cases r with
  | cons rx rr =>
    cases rr with
    | cons rt rr =>
      cases rr
      cases rx
      have ec := hcv _ rt
      subst ec
      exact PySem.W.kia_one (PySem.W.kitx_exc T.hcl T.ga T.gg T.exC T.ha T.hn T.ht T.hm) I.kIn J hk (fun z => nomatch z) fun tk => ⟨.bl b, H, I.kept (t' := tk) fun _ _ z => z, rfl, q⟩
theorem d_isE (tbl : Str → Option Bool) {nm : Str} {pt : Pos} {v : V} {cv : Value} (P : Pl X B E) (hm : X.mg "isinstance" = none) (pc : PE X (.Name nm pt) (tC v)) (hv : ∀ u, RelV v u → u = cv)
    (hT : ∀ c A b, B.C c = some A → tbl c = some b → XcK X.K A ∧ PySem.W.kitOne X.K (.ref A) cv = some b) (ha : PED X B E e m) (hg : Gl X "isinstance" := by rfl)
    (he : starEach [e, .Name nm pt] X.env = (false, eval e X.env) :: starEach [.Name nm pt] X.env := by rfl) (he2 : starEach [.Name nm pt] X.env = (false, eval (.Name nm pt) X.env) :: starEach [] X.env := by rfl) (hpl : (backTo pos (starEach [.Name nm pt] X.env)).any (·.1) = false := by rfl) :
    PED X B E (.Call (.Name "isinstance" p) [e, .Name nm pt] [] pos) (mBind m (fIsE tbl)) := by
  obtain ⟨t, pa, sa⟩ := ha
  refine ⟨_, pe_callB (call_isX (cv := cv) P) hg hm (by decide +kernel) (pa_cons pa (pa_cons pc pa_nil he2) he) (he := he) (hpl := hpl), fun z σ H L Q R h => ?_⟩
  refine sa z σ H L _ R (AftE.bind h fun w z1 v1 H1 L1 R1 g1 h1 k1 => ?_)
  obtain ⟨d, ed, q⟩ := flat_of R1 k1
  split at ed
  · split at ed
    · rename_i x es
      obtain ⟨b, eb, rfl⟩ := Option.map_eq_some_iff.mp ed
      obtain ⟨a, A, dd, vs, rfl, e1, e2, e3, _⟩ := exn_of R1 h1 es
      obtain ⟨T, hk⟩ := hT _ _ _ e2 eb
      exact ⟨a, A, dd, vs, _, v, b, rfl, e1, e3, hv, T, hk, q _ vr_bl'⟩
    · cases ed
  · cases ed
/-- e.f -/
def fExF (f : Str) (w : W) : M W := fun z => flat (match w with
  | .own i => match z.sl[i]? with
    | some (.exn x) => x.fs.lookup f
    | _ => none
  | _ => none) z
theorem d_excF {f : Str} {pos' : Pos} (P : Pl X B E) (hT : ∀ c A, B.C c = some A → XcK X.K A) (hno : ∀ c A, B.C c = some A → PySem.W.findIn X.K (.ref A) f = some none) (ha : PED X B E e m) (hb : attributeBase e f X.env (eval e X.env) = eval e X.env := by rfl) :
    PED X B E (.Attribute e f pos') (mBind m (fExF f)) := by
  obtain ⟨t, pa, sa⟩ := ha
  refine ⟨fun σ H Q => t σ H fun x H1 => ∃ a A dd vs Ee v, x = .ref a ∧ B.xs = some (a, A, dd) ∧ XdAt Ee H1 dd vs ∧ XcK X.K A ∧ PySem.W.findIn X.K (.ref A) f = some none ∧ vs.lookup f = some v ∧ Q v H1, ⟨fun pins s σ H Q I h => ?_⟩, fun z σ H L Q R h => ?_⟩
  · refine attr_of hb (thn (pa.run pins s σ H _ I h) fun u s1 hh => ?_)
    obtain ⟨x, H1, I1, rx, a, A, dd, vs, Ee, v, ex, e1, hx, T, hn, hl, q⟩ := hh
    subst ex
    obtain rfl : u = Value.ref a := rx
    obtain ⟨oe, hp, hz, hf⟩ := P.xs a A dd e1
    obtain ⟨od, J, hlk⟩ := xd_inst I1 hp hz hf hx
    obtain ⟨oo, w, rfl, ew, rw⟩ := hlk f v hl
    exact HandSPX.exc_get I1.kIn J T.ga T.gg T.exC (PySem.W.findObj_own T.hdC hn rfl ew) (handed_of rw) ⟨v, H1, I1.tok _, rw, q⟩
  · refine sa z σ H L _ R (AftE.bind h fun w z1 v1 H1 L1 R1 g1 h1 k1 => ?_)
    obtain ⟨d, ed, q⟩ := flat_of R1 k1
    split at ed
    · split at ed
      · rename_i x es
        obtain ⟨a, A, dd, vs, rfl, e1, e2, e3, e4⟩ := exn_of R1 h1 es
        obtain ⟨v, hl, im⟩ := immF_lookup e4 ed
        exact ⟨a, A, dd, vs, _, v, rfl, e1, e3, hT _ _ e2, hno _ _ e2, hl, q v im⟩
      · cases ed
    · cases ed
end
end DL
set_option Elab.async false
set_option linter.all false
set_option maxRecDepth 100000
set_option maxHeartbeats 2000000
namespace DL
open PySem PySem.Spec L2 PyProof.Rows PySem.Calls
/-! ### try with several clauses, named or not -/
abbrev Hl := Value × Option Nat × (Addr → Value → Option Addr → TS)
/-- the ends of a suite whose name is in slot i -/
def ends (D : Ends) : Option Nat → Ends
  | none => D
  | some i => { nx := fun σ H => D.nx (σ.set i none) H, rt := D.rt, bk := fun σ H => D.bk (σ.set i none) H, ct := fun σ H => D.ct (σ.set i none) H }
def slotE (σ : L2.St) (a : Addr) : Option Nat → L2.St
  | none => σ
  | some i => σ.set i (some (.ref a))
def wG (K : PySem.W.Frag) (Wout : WX) (D : Ends) : List Hl → WX
  | [] => Wout
  | (c, o, ts) :: r => fun cls d σ H => ∃ b, PySem.W.exmOne K cls c = some b ∧ (b = true → ∀ a, H a = none → ts a cls d (ends D o) (slotE σ a o) H) ∧ (b = false → wG K Wout D r cls d σ H)
inductive HdsG (X : Cx) : List ExceptHandler → List Hl → Prop
  | nil : HdsG X [] []
  | plain {x : Str} {c : Value} {ts : Addr → Value → Option Addr → TS} {b₀ : Stmt} {suite : List Stmt} {np pos' : Pos} {hds : List ExceptHandler} {l : List Hl} (hc : Names X x c)
      (hsu : ∀ (a : Addr) (oe : Obj) (cls : Value) (d : Option Addr) (pn : List (Addr × Obj)), L2N.Zn cls d oe → (∃ vs, oe.data = .fields vs) → PSs (X.suite a ((a, oe) :: pn)) (b₀ :: suite) (ts a cls d)) (r : HdsG X hds l) :
      HdsG X (.ExceptHandler (some (.Name x np)) none (b₀ :: suite) pos' :: hds) ((c, none, ts) :: l)
  | named {x n : Str} {i : Nat} {c : Value} {ts : Addr → Value → Option Addr → TS} {b₀ : Stmt} {suite : List Stmt} {np pos' : Pos} {hds : List ExceptHandler} {l : List Hl} (hc : Names X x c) (hN : X.N.Nodup) (hi : X.N[i]? = some n) (hln : X.env.kindOf n = some .local)
      (hsu : ∀ (a : Addr) (oe : Obj) (cls : Value) (d : Option Addr) (pn : List (Addr × Obj)), L2N.Zn cls d oe → (∃ vs, oe.data = .fields vs) → PSs (X.suite a ((a, oe) :: pn)) (b₀ :: suite) (ts a cls d)) (r : HdsG X hds l) :
      HdsG X (.ExceptHandler (some (.Name x np)) (some n) (b₀ :: suite) pos' :: hds) ((c, some i, ts) :: l)
section
variable {X : Cx} {body : List Stmt} {h₀ : ExceptHandler} {hds : List ExceptHandler} {l : List Hl} {pos : Pos} {tb : WX → TS} {Wout : WX}
theorem ps_tryG (hs : X.stack = X.env :: X.outer) (hf : X.env.frame = some X.env.locals) (tk : L2N.Takes X Wout)
    (hb : ∀ (W : WX) (pn : List (Addr × Obj)) (xe : Value → Shared → Prop), L2N.Takes (X.tr pn xe) W → PassesOwn (model X.prog X.w) X.A X.env xe → PSs (X.tr pn xe) body (tb W))
    (hh : HdsG X (h₀ :: hds) l) : PS X (.Try body (h₀ :: hds) [] [] pos) (fun D σ H => tb (wG X.K Wout D l) D σ H) := by
  refine ⟨fun pins s σ H D I h => ?_⟩
  have ok := I.ok
  have hfr : X.A.frames = some (X.env :: X.outer) := by rw [ok.frames, hs]
  refine wpAny_Try_except ?_
  refine wpAny_mono ((hb (wG X.K Wout D l) (X.pn ++ pins) (fun e s₁ => wpAny (model X.prog X.w) X.A (noteFrame e X.env) (fun _ s₂ => wpAny (model X.prog X.w) X.A (setFlight e none) (fun _ s₃ =>
    wpAny (model X.prog X.w) X.A (handleBy e X.env (h₀ :: hds)) (SP X pins D) X.xe s₃) X.xe s₂) X.xe s₁) (fun u s' xx => ?_) PassesOwn.looking).run [] s σ H D (I.toTry _) h) (fun f s1 hsp => ?_) (fun e s1 he => he)
  · obtain ⟨a, B, sI, pins', σ', H', cls, d, rfl, J', nb, up, sky, na, os, ag, w⟩ := xx
    have J : Inv X pins σ' H' sI := J'.ofTry ok
    have sky' : Sky B (X.env :: X.outer) a (L2N.Zn cls d) X.env.locals s'.heap := by rw [← hs]; exact sky
    show wpAny (model X.prog X.w) X.A (noteFrame (.ref a) X.env) _ _ _
    refine L2N.Sky.land L2N.Zn.steady hfr hf sky' fun h3 fl3 up3 => ?_
    have J3 : Inv X pins σ' H' { s' with heap := h3 } := J.landed nb fl3.1 (up.trans up3) os ag
    obtain ⟨oe3, vs3, he3, hz3, hd3⟩ := fl3.there
    have notFr : ∀ {h : Heap} {o : Obj} {vs : Array Value}, h.FunFrames B (X.env :: X.outer) → h.get? a = some o → o.data = .fields vs → a ∉ frs (X.env :: X.outer) := fun {h o vs} ff e dd hm => by
      obtain ⟨_, o', e', hnf⟩ := ff.mem hm
      rw [e] at e'; cases e'
      exact hnf _ dd
    have nfr := notFr fl3.2.2.1 he3 hd3
    have nL : a ≠ X.env.locals := fun z => nfr (List.mem_filterMap.mpr ⟨X.env, List.mem_cons_self, by rw [hf, z]⟩)
    have nF : a ∉ X.fs := fun hm => by
      obtain ⟨e, he, q⟩ := List.mem_filterMap.mp hm
      exact nfr (List.mem_filterMap.mpr ⟨e, List.mem_cons_of_mem _ he, q⟩)
    have S3 := J3.suite he3 hd3 na nL nF
    have LT : PySem.W.Looks (model X.prog X.w) h3 (typeOf (.ref a)) cls := fun A Q E s k q => wpAny_typeOf_ref (k _ _ he3) (by rw [hz3.1]; exact q)
    have test : ∀ {x : Str} {c : Value} {np : Pos}, Names X x c → ∀ {Q : Value → Shared → Prop} {E : Value → Shared → Prop}, Q c { s' with heap := h3 } → wpAny (model X.prog X.w) (X.A.mark (some (.ref a))) (eval (.Name x np) X.env) Q E { s' with heap := h3 } := fun {x c np} hc {Q E} q => by
      obtain ⟨hg, hdbg, hm | ⟨hm, hv, hnn⟩⟩ := hc
      · exact ld_glob (X := X.suite a ((a, oe3) :: (X.pn ++ pins))) S3 hg hm q hdbg
      · exact ld_blt (X := X.suite a ((a, oe3) :: (X.pn ++ pins))) S3 hg hm hv q hnn hdbg
    have go : ∀ {hds' : List ExceptHandler} {l' : List Hl}, HdsG X hds' l' → wG X.K Wout D l' cls d σ' H' → wpAny (model X.prog X.w) X.A (handleBy (.ref a) X.env hds') (SP X pins D) X.xe { s' with heap := h3 } := by
      intro hds' l' hk
      induction hk with
      | nil =>
        intro w
        refine wpAny_handleBy_nil ?_
        obtain ⟨k1, k2, k3, oe, vs, T, oT, ts', he, hz, hd, h1, hr⟩ := id fl3
        unfold PySem.passOn
        refine wpAny_bind (wpAny_field he hd h1 ?_)
        rw [if_neg (show ¬ ((Value.ref T == Value.none) = true) from by simp)]
        have fin : wpAny (model X.prog X.w) X.A (setFlight (.ref a) X.env.frame) (fun _ s4 => wpAny (model X.prog X.w) X.A (throw (.ref a) : Sem Flow) (SP X pins D) X.xe s4) X.xe { s' with heap := h3 } := by
          rw [hf]
          refine HandSPX.setFlight_upZ fl3 fun h4 hh4 up4 => wpAny_throw (tk _ _ ?_)
          exact ⟨a, B, sI, pins, σ', H', cls, d, rfl, J, nb, (up.trans up3).trans up4, .inr (.inr (by rw [hs]; exact hh4)), na, os, ag, w⟩
        first
          | exact wpAny_bind (wpAny_pure (wpAny_bind fin))
          | exact wpAny_bind fin
      | @plain x c ts b₀ suite np pos' hds2 l2 hc hsu r ih =>
        intro w
        obtain ⟨b, hb1, hyes, hno⟩ := w
        refine wpAny_handleBy_cons (codeAny_handlers_test ?_) (by intro q; cases q)
        refine test hc ((PySem.W.exm_one (M := model X.prog X.w) (J3.kIn) LT hb1).here ?_)
        cases b with
        | true =>
          refine codeAny_handlers_suite ?_
          refine HandSPX.lands_againZ fl3 fun h4 fl4 up4 => ?_
          have J4 : Inv X pins σ' H' { s' with heap := h4 } := J.landed nb fl4.1 ((up.trans up3).trans up4) os ag
          obtain ⟨oe4, vs4, he4, hz4, hd4⟩ := fl4.there
          have S4 := J4.suite he4 hd4 na nL nF
          refine wpAny_mono ((hsu a oe4 cls d (X.pn ++ pins) hz4 ⟨_, hd4⟩).run [] _ _ H' _ S4 (hyes rfl a na)) (fun f s6 hsp => ?_) (fun _ _ z => False.elim z)
          cases f with
          | next =>
            obtain ⟨σ6, H6, S6, q6⟩ := hsp
            exact ⟨_, _, S6.unsuite ok, q6⟩
          | brk =>
            obtain ⟨σ6, H6, S6, q6⟩ := hsp
            exact ⟨_, _, S6.unsuite ok, q6⟩
          | cont =>
            obtain ⟨σ6, H6, S6, q6⟩ := hsp
            exact ⟨_, _, S6.unsuite ok, q6⟩
          | ret u =>
            obtain ⟨v6, σ6, H6, S6, r6, q6⟩ := hsp
            exact ⟨_, _, _, S6.unsuite ok, r6, q6⟩
        | false =>
          show wpAny _ X.A (handleBy (.ref a) X.env hds2) _ _ _
          exact ih (hno rfl)
      | @named x n i c ts b₀ suite np pos' hds2 l2 hc hN hi hln hsu r ih =>
        intro w
        obtain ⟨b, hb1, hyes, hno⟩ := w
        refine wpAny_handleBy_cons (codeAny_handlers_test ?_) (by intro q; cases q)
        refine test hc ((PySem.W.exm_one (M := model X.prog X.w) (J3.kIn) LT hb1).here ?_)
        cases b with
        | true =>
          refine codeAny_handlers_suite_as ?_
          refine HandSPX.lands_againZ fl3 fun h4 fl4 up4 => ?_
          have J4 : Inv X pins σ' H' { s' with heap := h4 } := J.landed nb fl4.1 ((up.trans up3).trans up4) os ag
          obtain ⟨oe4, vs4, he4, hz4, hd4⟩ := fl4.there
          have S4 := J4.suite he4 hd4 na nL nF
          refine store_ok (X := X.suite a ((a, oe4) :: (X.pn ++ pins))) (v := .ref a) S4 hN hi (.inl hln) rfl (fun s5 S5 => ?_) (.inr hln)
          refine wpAny_mono ((hsu a oe4 cls d (X.pn ++ pins) hz4 ⟨_, hd4⟩).run [] s5 _ H' _ S5 (hyes rfl a na)) (fun f s6 hsp => ?_) (fun _ _ z => False.elim z)
          have end_ : ∀ {σ6 : L2.St} {H6 : Hp} {Q : Shared → Prop}, Inv (X.suite a ((a, oe4) :: (X.pn ++ pins))) [] σ6 H6 s6 → (∀ s7, Inv X pins (σ6.set i none) H6 s7 → Q s7) →
              wpAny (model X.prog X.w) X.A (do bindName X.env n .none; unbindBehindTheSuite X.env n pos') (fun _ s7 => Q s7) X.xe s6 := fun {σ6 H6 Q} S6 hq => gone_ok (S6.unsuite ok) hN hi hln hq
          cases f with
          | next =>
            obtain ⟨σ6, H6, S6, q6⟩ := hsp
            exact end_ S6 fun s7 J7 => ⟨_, _, J7, q6⟩
          | brk =>
            obtain ⟨σ6, H6, S6, q6⟩ := hsp
            exact end_ S6 fun s7 J7 => ⟨_, _, J7, q6⟩
          | cont =>
            obtain ⟨σ6, H6, S6, q6⟩ := hsp
            exact end_ S6 fun s7 J7 => ⟨_, _, J7, q6⟩
          | ret u =>
            obtain ⟨v6, σ6, H6, S6, r6, q6⟩ := hsp
            exact end_ S6 fun s7 J7 => ⟨_, _, _, J7, r6, q6⟩
        | false =>
          show wpAny _ X.A (handleBy (.ref a) X.env hds2) _ _ _
          exact ih (hno rfl)
    exact go hh w
  · cases f with
    | next =>
      obtain ⟨σ', H', J', q⟩ := hsp
      exact wpAny_execs_nil ⟨σ', H', J'.ofTry ok, q⟩
    | brk =>
      obtain ⟨σ', H', J', q⟩ := hsp
      exact ⟨σ', H', J'.ofTry ok, q⟩
    | cont =>
      obtain ⟨σ', H', J', q⟩ := hsp
      exact ⟨σ', H', J'.ofTry ok, q⟩
    | ret u =>
      obtain ⟨v, σ', H', J', r, q⟩ := hsp
      exact ⟨v, σ', H', J'.ofTry ok, r, q⟩
end
end DL
set_option Elab.async false
set_option linter.all false
set_option maxRecDepth 100000
set_option maxHeartbeats 2000000
namespace DL
open PySem L2
/-- no slot holds a handled exception -/
def Sl.plain : Sl → Bool
  | .exn _ => false
  | _ => true
def Z.plain (z : Z) : Bool := z.sl.all Sl.plain
/-- an except clause: of which classes, its name's slot, its suite -/
structure Cls where
  test : Str → Option Bool
  slot : Option Nat
  suite : MS
def Cls.enter (c : Cls) (x : Exn) (z : Z) : Z := match c.slot with
  | none => z
  | some i => z.set i (.exn x)
def Cls.leave (c : Cls) (z : Z) : Z := match c.slot with
  | none => z
  | some i => z.set i .un
def Cls.fin (c : Cls) (k : Z → RS) (z : Z) : RS := if (c.leave z).plain then k (c.leave z) else .bad
def Cls.run (c : Cls) (x : Exn) (z : Z) : RS := if z.plain then match c.suite (c.enter x z) with
  | .nx z => c.fin .nx z
  | .bk z => c.fin .bk z
  | .ct z => c.fin .ct z
  | .rt d z => c.fin (.rt d) z
  | .err _ _ => .bad
  | .bad => .bad
  else .bad
def tryGo (x : Exn) : List Cls → MS
  | [], z => .err x z
  | c :: cs, z => match c.test x.cls with
    | some true => c.run x z
    | some false => tryGo x cs z
    | none => .bad
def sTry (b : MS) (cs : List Cls) : MS := fun z => match b z with
  | .err x z1 => tryGo x cs z1
  | r => r
section
variable {B : Bs} {z z' : Z} {σ σ' : St} {H H' : Hp} {L L' : List Addr}
def Bs.hot (B : Bs) (xs : Xs) : Bs := { B with xs := xs }
theorem plain_get {z : Z} (h : z.plain = true) {i : Nat} {x : Exn} (e : z.sl[i]? = some (.exn x)) : False := by
  unfold Z.plain at h
  rw [List.all_eq_true] at h
  have := h _ (List.mem_of_getElem? e)
  cases this
theorem Rel.hot {xs : Xs} (R : Rel B z σ H L) (h : z.plain = true) : Rel (B.hot xs) z σ H L := by
  refine ⟨fun i => ?_, R.inj, R.new, R.st, R.pre, R.newc, R.frame, R.exd, R.ae, R.tab⟩
  have s := R.slot i
  show SlRel B.K B.C L (Ex B z σ L) H B.A xs (z.sl[i]?) (σ[i]?)
  generalize e1 : z.sl[i]? = x at s ⊢
  generalize σ[i]? = y at s ⊢
  match x, y, s with
  | some (.val d), some (some v), s => exact s
  | some (.own c), some (some v), s => exact s
  | some (.brw c), some (some v), s => exact s
  | some (.exn c), some (some v), s => exact (plain_get h e1).elim
  | some .un, some _, _ => trivial
  | none, none, _ => trivial
theorem Rel.cold {xs : Xs} (R : Rel (B.hot xs) z σ H L) (h : z.plain = true) : Rel B z σ H L := by
  refine ⟨fun i => ?_, R.inj, R.new, R.st, R.pre, R.newc, R.frame, R.exd, R.ae, R.tab⟩
  have s : SlRel B.K B.C L (Ex B z σ L) H B.A xs (z.sl[i]?) (σ[i]?) := R.slot i
  generalize e1 : z.sl[i]? = x at s ⊢
  generalize σ[i]? = y at s ⊢
  match x, y, s with
  | some (.val d), some (some v), s => exact s
  | some (.own c), some (some v), s => exact s
  | some (.brw c), some (some v), s => exact s
  | some (.exn c), some (some v), s => exact (plain_get h e1).elim
  | some .un, some _, _ => trivial
  | none, none, _ => trivial
/-- slot i is set to the exception -/
theorem Rel.set_exn (R : Rel B z σ H L) {i : Nat} {v : V} {x : Exn} (hv : ExSl B.K B.C L (Ex B z σ L) H B.xs v x) :
    Rel B (z.set i (.exn x)) (σ.set i (some v)) H L ∧ Grow L (Ex B z σ L) H L (Ex B (z.set i (.exn x)) (σ.set i (some v)) L) H := by
  have own_j : ∀ j b, OwnAt (z.set i (.exn x)) (σ.set i (some v)) j b → OwnAt z σ j b := fun j b ⟨⟨k, h1⟩, h2⟩ => by
    by_cases hj : j = i
    · subst hj
      unfold Z.set at h1
      simp only [List.getElem?_set] at h1
      split at h1
      · split at h1 <;> cases h1
      · simp at *
    · unfold Z.set at h1
      rw [List.getElem?_set_ne (Ne.symm hj)] at h1 h2
      exact ⟨⟨k, h1⟩, h2⟩
  have sub : ∀ b, Ex B (z.set i (.exn x)) (σ.set i (some v)) L b → Ex B z σ L b := fun b h => h.imp id (Or.imp id fun ⟨j, o⟩ => ⟨j, own_j j b o⟩)
  have g : Grow L (Ex B z σ L) H L (Ex B (z.set i (.exn x)) (σ.set i (some v)) L) H := ⟨fun b o h n _ => ⟨h, fun x => n (sub b x)⟩, fun _ _ h => h, fun _ h => h⟩
  refine ⟨⟨fun j => ?_, fun j k b o1 o2 => R.inj j k b (own_j j b o1) (own_j k b o2), fun j b o => R.new j b (own_j j b o), ⟨R.st.len, R.st.nd, fun b h => .inr (.inl h), fun n b c h1 h2 => (R.st.at_ n b c h1 h2).stay g fun _ h => h⟩, R.pre, R.newc, R.frame, fun b h => R.exd b (sub b h), R.ae, R.tab⟩, g⟩
  have q := R.slot j
  have len := R.lens
  by_cases hj : j = i
  · subst hj
    by_cases hlt : j < z.sl.length
    · unfold Z.set
      rw [List.getElem?_set_self hlt, List.getElem?_set_self (by omega)]
      exact hv.stay g
    · unfold Z.set
      rw [List.getElem?_eq_none (by simpa using hlt), List.getElem?_eq_none (by simp; omega)]
      trivial
  · unfold Z.set
    rw [List.getElem?_set_ne (Ne.symm hj), List.getElem?_set_ne (Ne.symm hj)]
    generalize z.sl[j]? = x at q ⊢
    generalize σ[j]? = y at q ⊢
    match x, y, q with
    | some (.val d), some (some v), q => exact Imm.stay g _ _ q
    | some (.own c), some (some v), ⟨a, e, q⟩ => exact ⟨a, e, q.stay g fun _ h => h⟩
    | some (.brw c), some (some v), ⟨a, e, q, b⟩ => exact ⟨a, e, q.stay g fun _ h => h, b⟩
    | some (.exn x), some (some v), q => exact q.stay g
    | some .un, some _, _ => trivial
    | none, none, _ => trivial
end
section
variable {X : Cx} {B : Bs} {E : WX} {z z' : Z} {σ σ' : St} {H H' : Hp} {L L' : List Addr}
theorem Pl.suite (P : Plc X B E) {a A : Addr} {oe : Obj} {dd : Option Addr} {pn : List (Addr × Obj)} (hz : L2N.Zn (.ref A) dd oe) (hf : ∃ vs, oe.data = .fields vs) : Pl (X.suite a ((a, oe) :: pn)) (B.hot (some (a, A, dd))) W0 :=
  ⟨P.K, P.hu, takesN, P.C, fun b A' d' h => by
    obtain ⟨rfl, rfl, rfl⟩ : b = a ∧ A' = A ∧ d' = dd := by
      have h' : (some (a, A, dd) : Xs) = some (b, A', d') := h
      simp only [Option.some.injEq, Prod.mk.injEq] at h'
      exact ⟨h'.1.symm, h'.2.1.symm, h'.2.2.symm⟩
    exact ⟨oe, List.mem_cons_self .., hz, hf⟩⟩
/-- an except clause and its meaning -/
inductive HdD (X : Cx) (B : Bs) : ExceptHandler → Cls → Prop
  | plain {x : Str} {c : Value} {b₀ : Stmt} {suite : List Stmt} {np pos' : Pos} {test : Str → Option Bool} {ms : MS} (hc : Names X x c) (ht : ∀ cn A b, B.C cn = some A → test cn = some b → PySem.W.exmOne X.K (.ref A) c = some b)
      (hs : ∀ (a A : Addr) (oe : Obj) (dd : Option Addr) (pn : List (Addr × Obj)), L2N.Zn (.ref A) dd oe → (∃ vs, oe.data = .fields vs) → PSsD (X.suite a ((a, oe) :: pn)) (B.hot (some (a, A, dd))) W0 (b₀ :: suite) ms) :
      HdD X B (.ExceptHandler (some (.Name x np)) none (b₀ :: suite) pos') ⟨test, none, ms⟩
  | named {x n : Str} (i : Nat) {c : Value} {b₀ : Stmt} {suite : List Stmt} {np pos' : Pos} {test : Str → Option Bool} {ms : MS} (hc : Names X x c) (ht : ∀ cn A b, B.C cn = some A → test cn = some b → PySem.W.exmOne X.K (.ref A) c = some b)
      (hN : X.N.Nodup) (hi : X.N[i]? = some n) (hln : X.env.kindOf n = some .local)
      (hs : ∀ (a A : Addr) (oe : Obj) (dd : Option Addr) (pn : List (Addr × Obj)), L2N.Zn (.ref A) dd oe → (∃ vs, oe.data = .fields vs) → PSsD (X.suite a ((a, oe) :: pn)) (B.hot (some (a, A, dd))) W0 (b₀ :: suite) ms) :
      HdD X B (.ExceptHandler (some (.Name x np)) (some n) (b₀ :: suite) pos') ⟨test, some i, ms⟩
inductive HdsD (X : Cx) (B : Bs) : List ExceptHandler → List Cls → Prop
  | nil : HdsD X B [] []
  | cons {h : ExceptHandler} {c : Cls} {hs : List ExceptHandler} {cs : List Cls} : HdD X B h c → HdsD X B hs cs → HdsD X B (h :: hs) (c :: cs)
/-- what is known of the suite's run within, and outside behind it -/
theorem suite_ends {N : Ends} {xs : Xs} {c : Cls} {z0 : Z} {σ0 : St} {H0 : Hp} {L0 : List Addr} {x : Exn} {zs : Z} (o : Option Nat) (ho : c.slot = o) (hp : zs.plain = true)
    (h : AftS B E z0 σ0 H0 L0 N (c.run x zs)) (g0 : Grow L0 (Ex B z0 σ0 L0) H0 L (Ex (B.hot xs) z σ L) H) (hz : z = c.enter x zs) : AftS (B.hot xs) W0 z σ H L (ends N o) (c.suite z) := by
  subst hz
  unfold Cls.run at h
  rw [if_pos hp] at h
  have key : ∀ (k : Z → RS) (z1 : Z), AftS B E z0 σ0 H0 L0 N (c.fin k z1) → (c.leave z1).plain = true ∧ AftS B E z0 σ0 H0 L0 N (k (c.leave z1)) := fun k z1 h => by
    unfold Cls.fin at h
    split at h
    · rename_i q
      exact ⟨q, h⟩
    · exact h.elim
  have lv : ∀ (z1 : Z) (σ1 : St) (H1 : Hp) (L1 : List Addr), (c.leave z1).plain = true → Rel (B.hot xs) z1 σ1 H1 L1 → Grow L (Ex (B.hot xs) (c.enter x zs) σ L) H L1 (Ex (B.hot xs) z1 σ1 L1) H1 →
      Rel B (c.leave z1) (match o with | none => σ1 | some i => σ1.set i none) H1 L1 ∧ Grow L0 (Ex B z0 σ0 L0) H0 L1 (Ex B (c.leave z1) (match o with | none => σ1 | some i => σ1.set i none) L1) H1 := fun z1 σ1 H1 L1 hpl R1 g1 => by
    cases o with
    | none =>
      have e : c.leave z1 = z1 := by unfold Cls.leave; rw [ho]
      rw [e] at hpl ⊢
      exact ⟨R1.cold hpl, g0.trans g1⟩
    | some i =>
      have e : c.leave z1 = z1.set i .un := by unfold Cls.leave; rw [ho]
      rw [e] at hpl ⊢
      obtain ⟨R2, g2⟩ := R1.set_un i
      exact ⟨R2.cold hpl, g0.trans (g1.trans g2)⟩
  generalize c.suite (c.enter x zs) = r at h ⊢
  match r, h with
  | .nx z1, h =>
    intro σ1 H1 L1 R1 g1
    obtain ⟨q, h'⟩ := key _ _ h
    obtain ⟨R2, g2⟩ := lv _ _ _ _ q R1 g1
    cases o with
    | none => exact h' _ _ _ R2 g2
    | some i => exact h' _ _ _ R2 g2
  | .bk z1, h =>
    intro σ1 H1 L1 R1 g1
    obtain ⟨q, h'⟩ := key _ _ h
    obtain ⟨R2, g2⟩ := lv _ _ _ _ q R1 g1
    cases o with
    | none => exact h' _ _ _ R2 g2
    | some i => exact h' _ _ _ R2 g2
  | .ct z1, h =>
    intro σ1 H1 L1 R1 g1
    obtain ⟨q, h'⟩ := key _ _ h
    obtain ⟨R2, g2⟩ := lv _ _ _ _ q R1 g1
    cases o with
    | none => exact h' _ _ _ R2 g2
    | some i => exact h' _ _ _ R2 g2
  | .rt d z1, h =>
    intro v σ1 H1 L1 R1 hv
    obtain ⟨q, h'⟩ := key _ _ h
    have R2 : Rel B (c.leave z1) (match o with | none => σ1 | some i => σ1.set i none) H1 L1 := by
      cases o with
      | none =>
        have e : c.leave z1 = z1 := by unfold Cls.leave; rw [ho]
        rw [e] at q ⊢
        exact R1.cold q
      | some i =>
        have e : c.leave z1 = z1.set i .un := by unfold Cls.leave; rw [ho]
        rw [e] at q ⊢
        exact (R1.set_un i).1.cold q
    cases o with
    | none => exact h' v _ _ _ R2 hv
    | some i => exact h' v _ _ _ R2 hv
  | .err _ _, h => exact h.elim
  | .bad, h => exact h.elim
theorem run_plain {N : Ends} {c : Cls} {x : Exn} (h : AftS B E z σ H L N (c.run x z')) : z'.plain = true := by
  cases e : z'.plain with
  | true => rfl
  | false =>
    unfold Cls.run at h
    rw [e] at h
    exact h.elim
theorem d_try {body : List Stmt} {h₀ : ExceptHandler} {hds : List ExceptHandler} {pos : Pos} {mb : MS} {cs : List Cls} (P : Plc X B E) (hs : X.stack = X.env :: X.outer) (hf : X.env.frame = some X.env.locals) (hx : B.xs = none)
    (hb : ∀ (W : WX) (pn : List (Addr × Obj)) (xe : Value → Shared → Prop), Plc (X.tr pn xe) B W → PassesOwn (model X.prog X.w) X.A X.env xe → PSsD (X.tr pn xe) B W body mb)
    (hh : HdsD X B (h₀ :: hds) cs) : PSD X B E (.Try body (h₀ :: hds) [] [] pos) (sTry mb cs) := by
  have plt : ∀ (W : WX) (pn : List (Addr × Obj)) (xe : Value → Shared → Prop), L2N.Takes (X.tr pn xe) W → Plc (X.tr pn xe) B W := fun W pn xe tk => ⟨⟨P.K, P.hu, tk, P.C, fun a A dd h => by rw [hx] at h; cases h⟩, P.calm⟩
  -- the clauses' readings
  have hg : ∀ {hs : List ExceptHandler} {cs : List Cls}, HdsD X B hs cs → ∃ l, HdsG X hs l ∧ ∀ z0 σ0 H0 L0 N x z σ H L cls dd, Rel B z σ H L → G B z0 σ0 L0 H0 z σ L H → ExnRel B.K B.C L (Ex B z σ L) H x cls dd → AftS B E z0 σ0 H0 L0 N (tryGo x cs z) → wG X.K E N l cls dd σ H := by
    intro hs cs hh
    induction hh with
    | nil => exact ⟨[], .nil, fun z0 σ0 H0 L0 N x z σ H L cls dd R g q h => h cls dd σ H L R g q⟩
    | @cons h c hs cs hd hr ih =>
      obtain ⟨l, hl, ihl⟩ := ih
      cases hd with
      | @plain x c b₀ suite np pos' test ms hc ht hsu =>
        let ts : Addr → Value → Option Addr → TS := fun a cls d D σ H => (∃ A, cls = .ref A) ∧ ∀ A, cls = .ref A → ∀ oe pn (hz : L2N.Zn (.ref A) d oe) (hf : ∃ vs, oe.data = .fields vs), (hsu a A oe d pn hz hf).ex.choose D σ H
        refine ⟨(c, none, ts) :: l, .plain hc (fun a oe cls d pn hz hf => ?_) hl, fun z0 σ0 H0 L0 N x z σ H L cls dd R g q h => ?_⟩
        · by_cases hA : ∃ A, cls = .ref A
          · obtain ⟨A, rfl⟩ := hA
            exact ⟨fun pins s σ H D I h => (hsu a A oe d pn hz hf).ex.choose_spec.1.run pins s σ H D I (h.2 A rfl oe pn hz hf)⟩
          · exact ⟨fun pins s σ H D I h => (hA h.1).elim⟩
        · obtain ⟨A, vs, e1, rfl, e2, e3⟩ := q
          unfold tryGo at h
          dsimp only at h
          generalize et : test x.cls = o at h
          match o, h with
          | some true, h =>
            refine ⟨true, ht _ _ _ e1 et, fun _ a ha => ?_, fun z => nomatch z⟩
            refine ⟨⟨A, rfl⟩, ?_⟩
            intro A' eA oe pn hz hf
            cases eA
            have hp : z.plain = true := run_plain h
            exact (hsu a A oe dd pn hz hf).ex.choose_spec.2 z σ H L _ (R.hot hp) (suite_ends (xs := some (a, A, dd)) none rfl hp h g rfl)
          | some false, h => exact ⟨false, ht _ _ _ e1 et, fun z => (nomatch z), fun _ => ihl z0 σ0 H0 L0 N x z σ H L _ dd R g ⟨A, vs, e1, rfl, e2, e3⟩ h⟩
          | none, h => exact h.elim
      | @named x n i c b₀ suite np pos' test ms hc ht hN hi hln hsu =>
        let ts : Addr → Value → Option Addr → TS := fun a cls d D σ H => (∃ A, cls = .ref A) ∧ ∀ A, cls = .ref A → ∀ oe pn (hz : L2N.Zn (.ref A) d oe) (hf : ∃ vs, oe.data = .fields vs), (hsu a A oe d pn hz hf).ex.choose D σ H
        refine ⟨(c, some i, ts) :: l, .named hc hN hi hln (fun a oe cls d pn hz hf => ?_) hl, fun z0 σ0 H0 L0 N x z σ H L cls dd R g q h => ?_⟩
        · by_cases hA : ∃ A, cls = .ref A
          · obtain ⟨A, rfl⟩ := hA
            exact ⟨fun pins s σ H D I h => (hsu a A oe d pn hz hf).ex.choose_spec.1.run pins s σ H D I (h.2 A rfl oe pn hz hf)⟩
          · exact ⟨fun pins s σ H D I h => (hA h.1).elim⟩
        · obtain ⟨A, vs, e1, rfl, e2, e3⟩ := q
          unfold tryGo at h
          dsimp only at h
          generalize et : test x.cls = o at h
          match o, h with
          | some true, h =>
            refine ⟨true, ht _ _ _ e1 et, fun _ a ha => ?_, fun z => nomatch z⟩
            refine ⟨⟨A, rfl⟩, ?_⟩
            intro A' eA oe pn hz hf
            cases eA
            have hp : z.plain = true := run_plain h
            have R1 : Rel (B.hot (some (a, A, dd))) z σ H L := R.hot hp
            obtain ⟨R2, g2⟩ := R1.set_exn (i := i) (v := .ref a) (x := x) ⟨a, A, dd, vs, rfl, rfl, e1, e2, e3⟩
            exact (hsu a A oe dd pn hz hf).ex.choose_spec.2 _ _ H L _ R2 (suite_ends (c := ⟨test, some i, ms⟩) (xs := some (a, A, dd)) (some i) rfl hp h (g.trans g2) rfl)
          | some false, h => exact ⟨false, ht _ _ _ e1 et, fun z => (nomatch z), fun _ => ihl z0 σ0 H0 L0 N x z σ H L _ dd R g ⟨A, vs, e1, rfl, e2, e3⟩ h⟩
          | none, h => exact h.elim
  obtain ⟨l, hl, hw⟩ := hg hh
  let tb : WX → TS := fun W D σ H => ∀ pn xe (tk : L2N.Takes (X.tr pn xe) W) (hp : PassesOwn (model X.prog X.w) X.A X.env xe), (hb W pn xe (plt W pn xe tk) hp).ex.choose D σ H
  refine ⟨_, ps_tryG (tb := tb) hs hf P.tk (fun W pn xe tk hp => ⟨fun pins s σ H D I h => (hb W pn xe (plt W pn xe tk) hp).ex.choose_spec.1.run pins s σ H D I (h pn xe tk hp)⟩) hl, fun z σ H L N R h => ?_⟩
  intro pn xe tk hp
  refine (hb _ pn xe (plt _ pn xe tk) hp).ex.choose_spec.2 z σ H L N R ?_
  unfold sTry at h
  generalize mb z = r at h ⊢
  match r, h with
  | .nx z2, h => exact h
  | .bk z2, h => exact h
  | .ct z2, h => exact h
  | .rt d z2, h => exact h
  | .err x z2, h => exact fun cls dd σ2 H2 L2 R2 g2 q2 => hw z σ H L N x z2 σ2 H2 L2 cls dd R2 g2 q2 h
  | .bad, h => exact h.elim
end
end DL
set_option Elab.async false
set_option linter.all false
set_option maxRecDepth 100000
set_option maxHeartbeats 2000000
namespace DL
open PySem PySem.Spec L2 L2H
abbrev envC := @PyProof.Rows.envOfC
/-- what a def promises while the exception p is handled -/
structure FnHp (P : Program) (w : World) (K : PySem.W.Frag) (mg : Str → Option Value) (base : Heap) (CX : CXT) (k : Nat) (f : Addr) (fd : FuncData) (ps : List Str) (p : Addr × Obj) (sp : Sp) : Prop where
  len : ∀ vs H Q E, sp vs H Q E → vs.length = ps.length
  run : ∀ (A : Around) (outer : List Env) (s : Shared) (H : Hp) (args : Args) (us : List Value) (vs : List V) (Q : VK) (E : XK), RoomH k A → Hot1 A p → PinOk outer H s p → Env0 P w K mg base A outer s H → BindsTo s fd args (ps.zip us) → Vals vs us → sp vs H Q E →
    codeAny (model P w) A (.call (.ref f) args) (CR CX outer P w H s Q E) s
theorem fn_ofHp {CX : CXT} {P : Program} {w : World} {K : PySem.W.Frag} {mg : Str → Option Value} {base : Heap} {k : Nat} {f : Addr} {name qual : Str} {params : Arguments} {body : List Stmt} {scope : Scope} {dV kV doc pm cdv ct oc : Value} {an od : Option Addr}
    {osl : Array (Option Value)} {N ps : List Str} {p : Addr × Obj} {sp : Sp} (lk : K.lookup f = some ⟨oc, od, .func (PySem.W.fnOf name qual params body scope dV kV doc pm an cdv ct), osl⟩) (hcd : PySem.W.codeIn K cdv qual = true) (S : FnScope N ps scope)
    (len : ∀ vs H Q E, sp vs H Q E → vs.length = ps.length)
    (hbody : ∀ (A : Around) (outer : List Env) (s : Shared) (H : Hp) (vs : List V) (Q : VK) (E : XK), Hot1 A p → RoomH k (A.deeper (envC qual scope s.heap.objs.size f cdv)) → sp vs H Q E →
      ∃ t, PSs (cxH CX P w K mg base N qual scope f cdv A outer s H E p) body t ∧ t { nx := fun _ H' => Q .non H', rt := Q } (L2.start N vs) H) :
    FnHp P w K mg base CX (k + 1) f (PySem.W.fnOf name qual params body scope dV kV doc pm an cdv ct) ps p sp := by
  refine ⟨len, fun A outer s H args us vs Q E hr hot hpin e0 hb r hsp => ?_⟩
  have hl := len _ _ _ _ hsp
  have KX : K.In s.heap := e0.mod.kin.keeps fun b o e => (e0.bs b o e).1
  have lim : s.heap.NoLimit := e0.mod.nolimit.keeps fun b o e => (e0.bs b o e).1
  have hkind : ∀ y ∈ ps.zip us, scope.names.lookup y.1 = some .local ∨ (scope.names.lookup y.1 = some .cell ∧ ((cellsFrom (s.heap.objs.size + 1) scope.names []).lookup y.1).isSome = true) := fun y hy => by
    rcases S.par y.1 (List.of_mem_zip (a := y.1) (b := y.2) hy).1 with q | q
    · exact .inl q
    · exact .inr ⟨q, PySem.W.cellsFrom_some _ _ _ (.inl q)⟩
  refine codeAny_call_function hr.depth (KX _ _ lk) rfl S.co S.gen rfl (PySem.W.codeRec_of KX hcd) (hb _ _ _ _ ?_)
  refine wpAny_newFunctionEnv_cells S.kind hkind fun env he s1 x => ?_
  subst he
  refine ⟨lim.keeps x.toInCall.keep, codeAny_func ?_⟩
  obtain ⟨t, ht, hq⟩ := hbody A outer s H vs Q E hot (hr.deeper _) hsp
  have I : Inv (cxH CX P w K mg base N qual scope f cdv A outer s H E p) [] (L2.start N vs) H s1 := inv_startH S hpin e0 hl r x
  refine wpAny_mono (ht.run [] s1 (L2.start N vs) H _ I hq) (fun fl s' hs => ?_) fun e s' hs => hs
  have fin : ∀ {σ' : L2.St} {H' : Hp} {v : V} {u : Value}, Inv (cxH CX P w K mg base N qual scope f cdv A outer s H E p) [] σ' H' s' → RelV v u → Q v H' → CE outer P w H s Q u s' :=
    fun {σ' H' v u} J rv q => ⟨v, H', J.os, J.bare, J.base, J.hok, rv, q⟩
  cases fl with
  | ret u =>
    obtain ⟨v, σ', H', J, rv, q⟩ := hs
    exact fin J rv q
  | next =>
    obtain ⟨σ', H', J, q⟩ := hs
    exact fin (v := V.non) (u := Value.none) J rfl q
  | brk =>
    obtain ⟨_, _, _, q⟩ := hs
    exact False.elim q
  | cont =>
    obtain ⟨_, _, _, q⟩ := hs
    exact False.elim q
theorem Back.cold {K : Fr} {C : Cl} {E A : Addr → Prop} {H0 H : Hp} {L0 L : List Addr} {xs ys : Xs} {S : List Cell} (b : Back ⟨K, C, E, H0, L0, A, xs⟩ S H L) : Back ⟨K, C, E, H0, L0, A, ys⟩ S H L := ⟨b.st, b.pre, b.newc, b.frame, b.exd, b.tab⟩
/-- a def of the text, called while an exception is handled -/
structure FH (P : Program) (w : World) (K : Fr) (mg : Str → Option Value) (base : Heap) (C : Cl) (k : Nat) (x : Str) (n : Nat) (m : MF) : Prop where
  ex : ∃ f fd ps, (∀ (p : Addr × Obj) (A : Addr) (dd : Option Addr), L2N.Zn (.ref A) dd p.2 → (∃ vs, p.2.data = .fields vs) → FnHp P w K mg base (L2N.CX P w) k f fd ps p (spD K C (some (p.1, A, dd)) n m)) ∧
    mg x = some (.ref f) ∧ PySem.W.keepIn K (.ref f) = true ∧ Binds K fd ps []
section
variable {P : Program} {w : World} {K : Fr} {mg : Str → Option Value} {base : Heap} {C : Cl}
theorem fn_DH {x qual : Str} {st : Stmt} {f : Addr} {fd : FuncData} {N ps : List Str} {k : Nat} {mb : MS} (F : Fun K x qual st f fd) (S : FnScope N ps (defScope st)) (hC : ∀ c A, C c = some A → mg c = some (.ref A))
    (hbody : ∀ (cdv : Value) (A : Around) (outer : List Env) (s : Shared) (H : Hp) (E : XK) (B : Bs) (p : Addr × Obj), B.C = C → RoomH k (A.deeper (envC qual (defScope st) s.heap.objs.size f cdv)) →
      Pl (cxH (L2N.CX P w) P w K mg base N qual (defScope st) f cdv A outer s H E p) B (fun cls d _ H => E cls d H) →
      PSsD (cxH (L2N.CX P w) P w K mg base N qual (defScope st) f cdv A outer s H E p) B (fun cls d _ H => E cls d H) (defBody st) mb)
    (p : Addr × Obj) (A : Addr) (dd : Option Addr) (hz : L2N.Zn (.ref A) dd p.2) (hf : ∃ vs, p.2.data = .fields vs) :
    FnHp P w K mg base (L2N.CX P w) (k + 1) f fd ps p (spD K C (some (p.1, A, dd)) ps.length (fnM N.length mb)) := by
  obtain ⟨oc, od, kV, doc, pm, an, cdv, ct, osl, rfl, lk, hcd⟩ := F.ex
  refine fn_ofHp lk hcd S (fun vs H Q E h => ?_) (fun A' outer s H vs Q E hot hr h => ?_)
  · obtain ⟨_, _, _, _, h, _⟩ := h
    exact h
  · obtain ⟨L, E', S', as, h1, h2, st', exd, ar, h⟩ := h
    have tk : L2N.Takes (cxH (L2N.CX P w) P w K mg base N qual (defScope st) f cdv A' outer s H E p) (fun cls d _ H => E cls d H) := L2N.takes_of rfl rfl rfl rfl
    obtain ⟨t, pp, sm⟩ := hbody cdv A' outer s H E ⟨K, C, E', H, L, E', some (p.1, A, dd)⟩ p rfl hr ⟨rfl, by
        have := hr.un
        show _ < _
        exact Nat.lt_of_le_of_lt (by show A'.units + 3 + 66 ≤ A'.units + 3 + 16 * k + 200; omega) this, tk, hC, fun a B d e => by
        simp only [Option.some.injEq, Prod.mk.injEq] at e
        obtain ⟨rfl, rfl, rfl⟩ := e
        exact ⟨p.2, List.mem_cons_self .., hz, hf⟩⟩
    refine ⟨t, pp, ?_⟩
    refine sm ⟨as ++ List.replicate (N.length - as.length) .un, S'⟩ (start N vs) H L _ (Rel.entry (by rw [h1, h2]) st' exd ar) ?_
    unfold fnM at h
    generalize mb ⟨as ++ List.replicate (N.length - as.length) .un, S'⟩ = r at h ⊢
    match r, h with
    | .nx z, h => exact fun σ H' L' R g => h .non H' L' R.back.cold (by simp [Imm])
    | .rt d z, h => exact fun v σ H' L' R q => h v H' L' R.back.cold q
    | .err x z, h => exact fun cls dd σ H' L' R g q => h cls dd H' L' R.back.cold (ExnRel.weak (fun a h => h.imp id .inl) q)
    | .bad, h => exact h.elim
    | .bk _, h => exact h.elim
    | .ct _, h => exact h.elim
end
def toArgX (z : Z) : W → Option Sl
  | .d d => some (.val d)
  | .own i => match z.sl[i]? with
    | some (.own c) => some (.brw c)
    | some (.brw c) => some (.brw c)
    | some (.exn x) => some (.exn x)
    | _ => none
def toArgsX (z : Z) : List W → Option (List Sl)
  | [] => some []
  | x :: xs => match toArgX z x, toArgsX z xs with
    | some a, some as => some (a :: as)
    | _, _ => none
def callX (n : Nat) (m : MF) (xs : List W) : M D := fun z => if xs.length = n then match toArgsX z xs with
  | some as => match m as z.st with
    | .ok d S => .ok d { z with st := S }
    | .err x S => .err x { z with st := S }
    | .bad => .bad
  | none => .bad
  else .bad
def mCallX (n : Nat) (m : MF) (ws : M (List W)) : M D := fun z => (ws z).bind fun xs z1 => callX n m xs z1
section
variable {X : Cx} {B : Bs} {E : WX} {e : Expr} {es : List Expr} {p pos : Pos} {ws : M (List W)} {z z' : Z} {σ σ' : L2.St} {H H' : Hp} {L L' : List Addr} {x : Str} {m : MF} {k n : Nat}
theorem argsX_of (R : Rel B z σ H L) : ∀ {vs : List V} {xs : List W} {as : List Sl}, vVs B σ z H L vs xs → toArgsX z xs = some as → ArgRel B.K B.C L (Ex B z σ L) H B.xs vs as ∧ vs.length = as.length
  | [], [], as, _, e => by cases e; exact ⟨trivial, rfl⟩
  | v :: vs, x :: xs, as, h, e => by
    unfold toArgsX at e
    split at e
    · rename_i a as' e1 e2
      cases e
      obtain ⟨q, l⟩ := argsX_of R h.2 e2
      cases x with
      | d d =>
        cases e1
        exact ⟨⟨h.1, q⟩, by simp [l]⟩
      | own i =>
        have hv : σ[i]? = some (some v) := h.1
        have s := R.slot i
        simp only [toArgX] at e1
        rw [hv] at s
        generalize hz : z.sl[i]? = o at e1 s
        match o, e1, s with
        | some (.own c), e1, ⟨a, ea, r⟩ =>
          cases e1
          subst ea
          have ow : OwnAt z σ i a := ⟨⟨c, hz⟩, hv⟩
          exact ⟨⟨⟨a, rfl, r.read, .inr (.inr ⟨i, ow⟩), (R.new i a ow).2.1⟩, q⟩, by simp [l]⟩
        | some (.brw c), e1, ⟨a, ea, r, b1, b2⟩ =>
          cases e1
          exact ⟨⟨⟨a, ea, r, .inl (R.ae a b1), b2⟩, q⟩, by simp [l]⟩
        | some (.exn c), e1, s =>
          cases e1
          exact ⟨⟨s, q⟩, by simp [l]⟩
        | some (.val _), e1, _ => cases e1
        | some .un, e1, _ => cases e1
        | none, e1, _ => cases e1
    · cases e
  | [], _ :: _, _, h, _ => h.elim
  | _ :: _, [], _, h, _ => h.elim
theorem callX_of {Q : VK} {vs : List V} {xs : List W} {n : Nat} (R : Rel B z σ H L) (hv : vVs B σ z H L vs xs) (h : AftE B E (vD B σ) z σ H L Q (callX n m xs z)) : spD B.K B.C B.xs n m vs H Q (WE E σ) := by
  unfold callX at h
  split at h
  case isFalse => exact h.elim
  rename_i hn
  rw [← hv.len] at hn
  generalize ea : toArgsX z xs = o at h
  match o, h with
  | some as, h =>
    obtain ⟨ar, al⟩ := argsX_of R hv ea
    refine ⟨L, Ex B z σ L, z.st, as, hn, by rw [← al]; exact hn, R.st, ⟨R.exd, R.tab.ok⟩, ar, ?_⟩
    dsimp only at h
    generalize m as z.st = r at h ⊢
    match r, h with
    | .ok d S, h =>
      intro v H' L' b q
      obtain ⟨R', g, exs, _⟩ := R.behind b
      refine h v H' L' R' g ?_
      have exe : (fun a => Ex B z σ L a ∨ a ∈ L') = Ex B { z with st := S } σ L' := funext fun a => propext (exs a)
      show Imm B.K B.C L' _ H' v d
      rw [← exe]
      exact q
    | .err x S, h =>
      intro cls dd H' L' b q
      obtain ⟨R', g, exs, bk⟩ := R.behind b
      exact h cls dd H' L' R' g (ExnRel.weak (fun a h => (exs a).mpr h) q)
    | .bad, h => exact h.elim
  | none, h => dsimp only at h; exact h.elim
theorem d_callH {C : Cl} {a A : Addr} {oe : Obj} {dd : Option Addr} {pn : List (Addr × Obj)} (P : Plc X B E) (hC : B.C = C) (F : FH X.prog X.w X.K X.mg X.base C k x n m) (hr : Room k X.A) (hz : L2N.Zn (.ref A) dd oe) (hf : ∃ vs, oe.data = .fields vs)
    (ha : PAD (X.suite a ((a, oe) :: pn)) (B.hot (some (a, A, dd))) W0 (e :: es) ws) (hg : Gl X x := by rfl) (hdb : (x == ("__debug__" : Str)) = false := by decide)
    (he : starEach (e :: es) X.env = (false, eval e X.env) :: starEach es X.env := by rfl) (hpl : (backTo pos (starEach es X.env)).any (·.1) = false := by rfl) : PXD (X.suite a ((a, oe) :: pn)) (B.hot (some (a, A, dd))) W0 (.Call (.Name x p) (e :: es) [] pos) (mCallX n m ws) := by
  obtain ⟨f, fd, ps, h1, h2, h3, h4⟩ := F
  obtain ⟨t, pa, sa⟩ := ha
  have F1 := h1 (a, oe) A dd hz hf
  have hot : Hot1 (X.suite a ((a, oe) :: pn)).A (a, oe) := ⟨rfl, by
    obtain ⟨vs, hv⟩ := hf
    exact ⟨vs, hv, hz.2.2 vs hv⟩⟩
  have hrH : RoomH k (X.suite a ((a, oe) :: pn)).A := roomH_mark hr _
  have run : ∀ {pins : List (Addr × Obj)} {σ : L2.St} {H : Hp} {s : Shared} {Q : VK} {us : List Value} {vs : List V}, Inv (X.suite a ((a, oe) :: pn)) pins σ H s → Vals vs us → spD X.K C (some (a, A, dd)) n m vs H Q (WE W0 σ) →
      wpAny (model X.prog X.w) (X.suite a ((a, oe) :: pn)).A (call (.ref f) us) (EP (X.suite a ((a, oe) :: pn)) pins σ Q) (X.suite a ((a, oe) :: pn)).xe s := fun {pins σ H s Q us vs} I r h => by
    have hl : us.length = ps.length := by rw [← r.length]; exact F1.len _ _ _ _ h
    have b := h4 s us I.kIn (by rw [List.append_nil]; exact hl)
    rw [List.append_nil] at b
    have P1 := I.pin (a, oe) (List.mem_append_left _ (List.mem_cons_self ..))
    have hpin : PinOk (X.suite a ((a, oe) :: pn)).stack H s (a, oe) := ⟨P1.1, P1.2.1, fun hm => (List.mem_cons.mp (I.stkSub a hm)).elim P1.2.2.1 P1.2.2.2.1, P1.2.2.2.2⟩
    refine wpAny_call (codeAny_mono (F1.run _ (X.suite a ((a, oe) :: pn)).stack s H ⟨us, []⟩ us vs Q (WE W0 σ) hrH hot hpin I.env0 b r h) fun r s' hq => ?_)
    cases r with
    | error e =>
      obtain ⟨_, _, _, _, _, _, _, _, _, _, _, _, z⟩ := hq
      exact z.elim
    | ok fl =>
      cases fl with
      | ret u => exact I.after hq
      | next => exact hq.elim
      | brk => exact hq.elim
      | cont => exact hq.elim
  refine ⟨tCallS (spD X.K C (some (a, A, dd)) n m) (WE W0) t, ⟨fun pins s σ H Q I h => ?_⟩, fun z σ H L Q R h => ?_⟩
  · refine wpAny_Call_Name_kw (ld_glob I hg h2 ?_ hdb)
    refine PySem.W.callWith_K (h₀ := X.base) I.ok.mod.kin h3 (thn (pa.run pos pins s σ H _ I h) fun us s1 hh => ?_) he hpl
    obtain ⟨vs, H1, I1, r, q⟩ := hh
    exact ⟨I1.kIn, run I1 r q⟩
  · refine sa z σ H L _ R (AftE.bind h fun xs z1 vs H1 L1 R1 g1 hv k1 => ?_)
    have k2 := callX_of R1 hv k1
    have e1 : (B.hot (some (a, A, dd))).C = C := hC
    have e2 : (B.hot (some (a, A, dd))).K = X.K := P.K
    rw [e1, e2] at k2
    exact k2
end
end DL
set_option Elab.async false
set_option linter.all false
set_option maxRecDepth 100000
set_option maxHeartbeats 2000000
namespace DL
open PySem PySem.Spec L2
/-! ### f(a, k=b): the keywords in the parameters' order -/
def KB (K : Fr) (fd : FuncData) (ps ks : List Str) : Prop := ∀ (s : Shared) (us ws : List Value), K.In s.heap → (us ++ ws).length = ps.length → ws.length = ks.length → BindsTo s fd ⟨us, ks.zip ws⟩ (ps.zip (us ++ ws))
theorem kb_of {K : Fr} {x qual : Str} {st : Stmt} {f : Addr} {fd : FuncData} {ps ks : List Str} (F : Fun K x qual st f fd)
    (h : ∀ (kV doc pm : Value) (an : Option Addr) (cdv ct : Value) (us ws : List Value), (us ++ ws).length = ps.length → ws.length = ks.length → bindArgs (PySem.W.fnOf x qual (defArgs st) (defBody st) (defScope st) .none kV doc pm an cdv ct) ⟨us, ks.zip ws⟩ = pure (ps.zip (us ++ ws))) : KB K fd ps ks := by
  obtain ⟨oc, od, kV, doc, pm, an, cdv, ct, osl, rfl, lk, hcd⟩ := F.ex
  exact fun s us ws _ h1 h2 => .of_eq (h kV doc pm an cdv ct us ws h1 h2)
structure FK (P : Program) (w : World) (K : Fr) (mg : Str → Option Value) (base : Heap) (C : Cl) (k : Nat) (x : Str) (n : Nat) (ks : List Str) (m : MF) : Prop where
  ex : ∃ f fd ps, FnOk P w K mg base (L2N.CX P w) k f fd ps (spD K C none n m) ∧ mg x = some (.ref f) ∧ PySem.W.keepIn K (.ref f) = true ∧ KB K fd ps ks
theorem FK.mono {P : Program} {w : World} {K : Fr} {mg : Str → Option Value} {base : Heap} {C : Cl} {j k n : Nat} {x : Str} {ks : List Str} {m : MF} (F : FK P w K mg base C j x n ks m) (h : j ≤ k) : FK P w K mg base C k x n ks m :=
  let ⟨f, fd, ps, h1, h2⟩ := F; ⟨f, fd, ps, h1.mono h, h2⟩
structure PKD (X : Cx) (B : Bs) (E : WX) (kws : List Keyword) (m : M (List W)) : Prop where
  ex : ∃ t, PK X kws t ∧ ∀ z σ H L Q, Rel B z σ H L → AftE B E (vVs B σ) z σ H L Q (m z) → t σ H Q
section
variable {X : Cx} {B : Bs} {E : WX} {e : Expr} {es : List Expr} {kws : List Keyword} {p pos kpos : Pos} {nm : Option Str} {m1 : M W} {ws wk : M (List W)} {x : Str} {m : MF} {k n : Nat} {ks : List Str}
theorem dk_nil : PKD X B E [] wNil := ⟨_, pk_nil, fun z σ H L Q R h => AftE.here R h trivial⟩
theorem dk_cons (ha : PED X B E e m1) (hr : PKD X B E kws wk) : PKD X B E (⟨nm, e, kpos⟩ :: kws) (wCons m1 wk) := by
  obtain ⟨t1, p1, s1⟩ := ha
  obtain ⟨t2, p2, s2⟩ := hr
  refine ⟨_, pk_cons p1 p2, fun z σ H L Q R h => ?_⟩
  refine s1 z σ H L _ R (AftE.bind h fun d z1 v H1 L1 R1 g1 h1 k1 => ?_)
  refine s2 z1 σ H1 L1 _ R1 (AftE.bind k1 fun d2 z2 v2 H2 L2 R2 g2 h2 k2 => ?_)
  exact AftE.here R2 k2 ⟨VRel.stay g2 h1, h2⟩
def wApp (a b : M (List W)) : M (List W) := fun z => (a z).bind fun xs z1 => (b z1).bind fun ys z2 => .ok (xs ++ ys) z2
theorem vVs.append {z : Z} {σ : L2.St} {H : Hp} {L : List Addr} : ∀ {vs us : List V} {xs ys : List W}, vVs B σ z H L vs xs → vVs B σ z H L us ys → vVs B σ z H L (vs ++ us) (xs ++ ys)
  | [], _, [], _, _, h => h
  | v :: vs, _, x :: xs, _, h, h' => ⟨h.1, vVs.append h.2 h'⟩
  | [], _, _ :: _, _, h, _ => h.elim
  | _ :: _, _, [], _, h, _ => h.elim
/-- .. the number of keywords is what the call writes -/
def mCallK (n kn : Nat) (m : MF) (ws wk : M (List W)) : M D := fun z => (ws z).bind fun xs z1 => (wk z1).bind fun ys z2 => if ys.length = kn then callF n m (xs ++ ys) z2 else .bad
theorem d_callK {C : Cl} (P : Pl X B E) (hC : B.C = C) (F : FK X.prog X.w X.K X.mg X.base C k x n ks m) (hr : Room k X.A) (ha : PAD X B E (e :: es) ws) (hk : PKD X B E kws wk) (hg : Gl X x := by rfl) (hdb : (x == ("__debug__" : Str)) = false := by decide)
    (hall : (backToKw pos (keywordEach kws X.env)).all (·.1.isSome) = true := by rfl) (hks : (backToKw pos (keywordEach kws X.env)).filterMap (·.1) = ks := by rfl)
    (he : starEach (e :: es) X.env = (false, eval e X.env) :: starEach es X.env := by rfl) (hpl : ((backTo pos (starEach (e :: es) X.env)).any (·.1) || (backToKw pos (keywordEach kws X.env)).any (·.1.isNone)) = false := by rfl) :
    PXD X B E (.Call (.Name x p) (e :: es) kws pos) (mCallK n ks.length m ws wk) := by
  obtain ⟨f, fd, ps, h1, h2, h3, h4⟩ := F
  obtain ⟨t, pa, sa⟩ := ha
  obtain ⟨tk, pk, sk⟩ := hk
  refine ⟨fun σ H Q => t σ H fun vs H1 => tk σ H1 fun zs H2 => zs.length = ks.length ∧ spD X.K C none n m (vs ++ zs) H2 Q (WE E σ), ⟨fun pins s σ H Q I h => ?_⟩, fun z σ H L Q R h => ?_⟩
  · refine wpAny_Call_Name_kw (ld_glob I hg h2 ?_ hdb)
    refine PySem.W.callWith_KW (h₀ := X.base) I.ok.mod.kin h3 hall (thn (pa.run pos pins s σ H _ I h) fun us s1 hh => ?_) hpl he
    obtain ⟨vs, H1, I1, r, q⟩ := hh
    refine thn (pk.run pos pins s1 σ H1 _ I1 q) fun us2 s2 hh => ?_
    obtain ⟨zs, H2, I2, rz, hl, q2⟩ := hh
    refine ⟨I2.kIn, ?_⟩
    rw [hks]
    have r2 : Vals (vs ++ zs) (us ++ us2) := r.append rz
    have l2 : (us ++ us2).length = ps.length := by rw [← r2.length]; exact h1.len _ _ _ _ q2
    refine wpAny_call (codeAny_mono (h1.run X.A X.stack s2 H2 ⟨us, ks.zip us2⟩ (us ++ us2) (vs ++ zs) Q (WE E σ) hr I2.env0 (h4 s2 us us2 I2.kIn l2 (by rw [← rz.length]; exact hl)) r2 q2) fun r s' hq => ?_)
    cases r with
    | error e => exact P.ps σ pins H2 s2 e s' I2 hq
    | ok fl =>
      cases fl with
      | ret u => exact I2.after hq
      | next => exact hq.elim
      | brk => exact hq.elim
      | cont => exact hq.elim
  · refine sa z σ H L _ R (AftE.bind h fun xs z1 vs H1 L1 R1 g1 hv k1 => ?_)
    refine sk z1 σ H1 L1 _ R1 (AftE.bind k1 fun ys z2 zs H2 L2 R2 g2 hz k2 => ?_)
    by_cases hl : ys.length = ks.length
    · rw [if_pos hl] at k2
      refine ⟨by rw [hz.len]; exact hl, ?_⟩
      have k3 := callF_of R2 (vVs.append (vVs.stay g2 hv) hz) k2
      rw [hC, P.K] at k3
      exact k3
    · rw [if_neg hl] at k2
      exact k2.elim
theorem d_callK0 {C : Cl} (P : Pl X B E) (hC : B.C = C) (F : FK X.prog X.w X.K X.mg X.base C k x n ks m) (hr : Room k X.A) (hk : PKD X B E kws wk) (hg : Gl X x := by rfl) (hdb : (x == ("__debug__" : Str)) = false := by decide)
    (hall : (backToKw pos (keywordEach kws X.env)).all (·.1.isSome) = true := by rfl) (hks : (backToKw pos (keywordEach kws X.env)).filterMap (·.1) = ks := by rfl)
    (hpl : ((backTo pos (starEach [] X.env)).any (·.1) || (backToKw pos (keywordEach kws X.env)).any (·.1.isNone)) = false := by rfl) :
    PXD X B E (.Call (.Name x p) [] kws pos) (mCallK n ks.length m wNil wk) := by
  obtain ⟨f, fd, ps, h1, h2, h3, h4⟩ := F
  obtain ⟨tk, pk, sk⟩ := hk
  refine ⟨fun σ H Q => tk σ H fun zs H2 => zs.length = ks.length ∧ spD X.K C none n m zs H2 Q (WE E σ), ⟨fun pins s σ H Q I h => ?_⟩, fun z σ H L Q R h => ?_⟩
  · refine wpAny_Call_Name_kw (ld_glob I hg h2 ?_ hdb)
    refine PySem.W.callWith_KW0 (h₀ := X.base) I.ok.mod.kin h3 hall ?_ hpl
    refine thn (pk.run pos pins s σ H _ I h) fun us2 s2 hh => ?_
    obtain ⟨zs, H2, I2, rz, hl, q2⟩ := hh
    refine ⟨I2.kIn, ?_⟩
    rw [hks]
    have l2 : ([] ++ us2).length = ps.length := by rw [List.nil_append, ← rz.length]; exact h1.len _ _ _ _ q2
    refine wpAny_call (codeAny_mono (h1.run X.A X.stack s2 H2 ⟨[], ks.zip us2⟩ us2 zs Q (WE E σ) hr I2.env0 (h4 s2 [] us2 I2.kIn l2 (by rw [← rz.length]; exact hl)) rz q2) fun r s' hq => ?_)
    cases r with
    | error e => exact P.ps σ pins H2 s2 e s' I2 hq
    | ok fl =>
      cases fl with
      | ret u => exact I2.after hq
      | next => exact hq.elim
      | brk => exact hq.elim
      | cont => exact hq.elim
  · have h' : AftE B E (vD B σ) z σ H L Q ((wk z).bind fun ys z2 => if ys.length = ks.length then callF n m ys z2 else .bad) := h
    refine sk z σ H L _ R (AftE.bind h' fun ys z2 zs H2 L2 R2 g2 hz k2 => ?_)
    by_cases hl : ys.length = ks.length
    · rw [if_pos hl] at k2
      refine ⟨by rw [hz.len]; exact hl, ?_⟩
      have k3 := callF_of R2 hz k2
      rw [hC, P.K] at k3
      exact k3
    · rw [if_neg hl] at k2
      exact k2.elim
end
end DL
set_option Elab.async false
set_option linter.all false
set_option maxRecDepth 100000
set_option maxHeartbeats 2000000
namespace DL
open PySem L2
section
variable {X : Cx} {B : Bs} {E : WX} {a b c : Expr} {ms : M (List D)} {ws : M (List W)} {x y w : Str} {px py pw pt pos p : Pos} {kt k2 pt2}
def sPar (is : List Nat) (ms : M (List D)) : MS := fun z => (ms z).bindS fun ds z1 => (gsN is ds z1).done
theorem d_par2 (i j : Nat) (P : Plc X B E) (hN : X.N.Nodup) (ha : PXDs X B E [a, b] ms) (hi : X.N[i]? = some x := by rfl) (hj : X.N[j]? = some y := by rfl) (hij : i ≠ j := by decide)
    (hx : X.env.scope.names.lookup x = some .local := by rfl) (hy : X.env.scope.names.lookup y = some .local := by rfl)
    (hw : swappedStores [.Tuple [.Name x px, .Name y py] kt pt] (.Tuple [a, b] k2 pt2) X.env = pure (some [x, y]) := by rfl)
    (hs : swapsWithSole [.Tuple [.Name x px, .Name y py] kt pt] (.Tuple [a, b] k2 pt2) pos.line X.env = pure false := by rfl) :
    PSD X B E (.Assign [.Tuple [.Name x px, .Name y py] kt pt] (.Tuple [a, b] k2 pt2) pos) (sPar [i, j] ms) := by
  obtain ⟨t, pa, sa⟩ := ha
  refine ⟨_, ps_par P.calm hN hi hj hij hx hy pa hw hs, fun z σ H L N R h => ?_⟩
  refine sa z σ H L _ R (AftE.bindS h fun ds z1 vs H1 L1 R1 g1 hv k1 => ?_)
  match vs, ds, hv with
  | [v, u], [d, e], hv =>
    have hv' : Imm B.K B.C L1 (Ex B z1 σ L1) H1 v d ∧ Imm B.K B.C L1 (Ex B z1 σ L1) H1 u e := by simpa [ImmL] using hv
    refine ⟨v, u, rfl, ?_⟩
    have k2 : AftS B E z1 σ H1 L1 N (.nx ((z1.set i (.val d)).set j (.val e))) := k1
    have R2 := R1.set_val (i := i) hv'.1
    have R3 := R2.set_val (i := j) (Imm.stay (grow_set_val (i := i) (v := v) (d := d)) _ _ hv'.2)
    have hc : (σ.set i (some v)).set j (some u) = (σ.set j (some u)).set i (some v) := List.set_comm _ _ hij
    first
      | exact k2 _ _ _ R3 (grow_set_val.trans grow_set_val)
      | (rw [← hc]; exact k2 _ _ _ R3 (grow_set_val.trans grow_set_val))
  | [], [], _ => exact k1.elim
  | [_], [_], _ => exact k1.elim
  | _ :: _ :: _ :: _, _ :: _ :: _ :: _, _ => exact k1.elim
  | [], _ :: _, hv => simp [ImmL] at hv
  | _ :: _, [], hv => simp [ImmL] at hv
  | [_], _ :: _ :: _, hv => simp [ImmL] at hv
  | _ :: _ :: _, [_], hv => simp [ImmL] at hv
  | [_, _], _ :: _ :: _ :: _, hv => simp [ImmL] at hv
  | _ :: _ :: _ :: _, [_, _], hv => simp [ImmL] at hv
theorem d_par3 (i j l : Nat) (P : Plc X B E) (hN : X.N.Nodup) (ha : PXDs X B E [a, b, c] ms) (hi : X.N[i]? = some x := by rfl) (hj : X.N[j]? = some y := by rfl) (hl : X.N[l]? = some w := by rfl) (hij : i ≠ j := by decide) (hil : i ≠ l := by decide) (hjl : j ≠ l := by decide)
    (hx : X.env.scope.names.lookup x = some .local := by rfl) (hy : X.env.scope.names.lookup y = some .local := by rfl) (hz : X.env.scope.names.lookup w = some .local := by rfl)
    (hw : swappedStores [.Tuple [.Name x px, .Name y py, .Name w pw] kt pt] (.Tuple [a, b, c] k2 pt2) X.env = pure (some [x, y, w]) := by rfl)
    (hs : swapsWithSole [.Tuple [.Name x px, .Name y py, .Name w pw] kt pt] (.Tuple [a, b, c] k2 pt2) pos.line X.env = pure false := by rfl) :
    PSD X B E (.Assign [.Tuple [.Name x px, .Name y py, .Name w pw] kt pt] (.Tuple [a, b, c] k2 pt2) pos) (sPar [i, j, l] ms) := by
  obtain ⟨t, pa, sa⟩ := ha
  refine ⟨_, ps_par3 P.calm hN hi hj hl hij hil hjl hx hy hz pa hw hs, fun z σ H L N R h => ?_⟩
  refine sa z σ H L _ R (AftE.bindS h fun ds z1 vs H1 L1 R1 g1 hv k1 => ?_)
  have hl := ImmL.length hv
  match vs, ds, hv, hl with
  | [v, u, q], [d, e, f], hv, _ =>
    have hv' : Imm B.K B.C L1 (Ex B z1 σ L1) H1 v d ∧ Imm B.K B.C L1 (Ex B z1 σ L1) H1 u e ∧ Imm B.K B.C L1 (Ex B z1 σ L1) H1 q f := by simpa [ImmL] using hv
    refine ⟨v, u, q, rfl, ?_⟩
    have k2 : AftS B E z1 σ H1 L1 N (.nx (((z1.set i (.val d)).set j (.val e)).set l (.val f))) := k1
    have R2 := R1.set_val (i := i) hv'.1
    have g2 := (grow_set_val (B := B) (z := z1) (σ := σ) (H := H1) (L := L1) (i := i) (v := v) (d := d))
    have R3 := R2.set_val (i := j) (Imm.stay g2 _ _ hv'.2.1)
    have g3 := (grow_set_val (B := B) (z := z1.set i (.val d)) (σ := σ.set i (some v)) (H := H1) (L := L1) (i := j) (v := u) (d := e))
    have R4 := R3.set_val (i := l) (Imm.stay (g2.trans g3) _ _ hv'.2.2)
    exact k2 _ _ _ R4 (g2.trans (g3.trans grow_set_val))
  | vs, [], _, _ => exact k1.elim
  | vs, [_], _, _ => exact k1.elim
  | vs, [_, _], _, _ => exact k1.elim
  | vs, _ :: _ :: _ :: _ :: _, _, _ => exact k1.elim
  | [], [_, _, _], _, hl => cases hl
  | [_], [_, _, _], _, hl => cases hl
  | [_, _], [_, _, _], _, hl => cases hl
  | _ :: _ :: _ :: _ :: _, [_, _, _], _, hl => simp at hl
theorem callS_gcd : CallS B E rGcd fGcd := by
  intro z σ H L Q xs vs R hv h
  obtain ⟨i, j, e, q⟩ := callS_I2 z σ H L Q xs vs R hv h
  exact ⟨i, j, e, q⟩
theorem d_gcd (hm : X.mg "gcd" = some (.builtin "math.gcd")) (ha : PAD X B E [a, b] ws) (hg : Gl X "gcd" := by rfl) (he : starEach [a, b] X.env = (false, eval a X.env) :: starEach [b] X.env := by rfl) (hpl : (backTo pos (starEach [b] X.env)).any (·.1) = false := by rfl) :
    PED X B E (.Call (.Name "gcd" p) [a, b] [] pos) (mBind ws fGcd) := d_callBfun cr_gcd callS_gcd ha hg hm (he := he) (hpl := hpl)
end
end DL
set_option Elab.async false
set_option linter.all false
set_option maxRecDepth 100000
set_option maxHeartbeats 2000000
namespace DL
open PySem PySem.Spec L2
/-! ### the defs of a text -/
structure Df (K : Fr) (mg : Str → Option Value) (x : Str) (st : Stmt) (ps : List Str) : Prop where
  ex : ∃ f fd, Fun K x x st f fd ∧ mg x = some (.ref f) ∧ PySem.W.keepIn K (.ref f) = true ∧ Binds K fd ps []
/-- .. that means m -/
structure FX (P : Program) (w : World) (K : Fr) (mg : Str → Option Value) (base : Heap) (C : Cl) (k : Nat) (x : Str) (st : Stmt) (ps : List Str) (m : MF) : Prop where
  ex : ∃ f fd, Fun K x x st f fd ∧ FnOk P w K mg base (L2N.CX P w) k f fd ps (spD K C none ps.length m) ∧ mg x = some (.ref f) ∧ PySem.W.keepIn K (.ref f) = true ∧ Binds K fd ps []
section
variable {P : Program} {w : World} {K : Fr} {mg : Str → Option Value} {base : Heap} {C : Cl} {k j n : Nat} {x : Str} {st : Stmt} {ps N : List Str} {m : MF} {mb : MS}
theorem FX.fd (F : FX P w K mg base C k x st ps m) (h : ps.length = n := by rfl) : FD P w K mg base C k x n m := by
  obtain ⟨f, fd, h1, h2, h3, h4, h5⟩ := F
  subst h
  exact ⟨f, fd, ps, h2, h3, h4, h5⟩
theorem FX.mono (F : FX P w K mg base C j x st ps m) (h : j ≤ k) : FX P w K mg base C k x st ps m := by
  obtain ⟨f, fd, h1, h2, h3⟩ := F
  exact ⟨f, fd, h1, h2.mono h, h3⟩
theorem FX.fk {ks : List Str} (F : FX P w K mg base C k x st ps m)
    (h : ∀ (kV doc pm : Value) (an : Option Addr) (cdv ct : Value) (us ws : List Value), (us ++ ws).length = ps.length → ws.length = ks.length → bindArgs (PySem.W.fnOf x x (defArgs st) (defBody st) (defScope st) .none kV doc pm an cdv ct) ⟨us, ks.zip ws⟩ = pure (ps.zip (us ++ ws)))
    (hn : ps.length = n := by rfl) : FK P w K mg base C k x n ks m := by
  obtain ⟨f, fd, h1, h2, h3, h4, h5⟩ := F
  subst hn
  exact ⟨f, fd, ps, h2, h3, h4, kb_of h1 h⟩
theorem fx_of (D : Df K mg x st ps) (S : FnScope N ps (defScope st)) (hC : ∀ c A, C c = some A → mg c = some (.ref A))
    (hbody : ∀ (cdv : Value) (A : Around) (outer : List Env) (s : Shared) (H : Hp) (E : XK) (f : Addr) (B : Bs), B.C = C → B.xs = none → Room k (A.deeper (envOfC x (defScope st) s.heap.objs.size f cdv)) →
      Plc (cxOf (L2N.CX P w) P w K mg base N x (defScope st) f cdv A outer s H E) B (fun cls d _ H => E cls d H) →
      PassesOwn (model P w) (A.deeper (envOfC x (defScope st) s.heap.objs.size f cdv)) (envOfC x (defScope st) s.heap.objs.size f cdv) (cxOf (L2N.CX P w) P w K mg base N x (defScope st) f cdv A outer s H E).xe →
      PSsD (cxOf (L2N.CX P w) P w K mg base N x (defScope st) f cdv A outer s H E) B (fun cls d _ H => E cls d H) (defBody st) mb) : FX P w K mg base C (k + 1) x st ps (fnM N.length mb) := by
  obtain ⟨f, fd, h1, h2, h3, h4⟩ := D
  exact ⟨f, fd, h1, fn_D h1 S hC fun cdv A outer s H E B hc hx hr P hp => hbody cdv A outer s H E f B hc hx hr P hp, h2, h3, h4⟩
theorem fx_bad (D : Df K mg x st ps) (S : FnScope N ps (defScope st)) : FX P w K mg base C 1 x st ps (fun _ _ => .bad) := by
  obtain ⟨f, fd, h1, h2, h3, h4⟩ := D
  refine ⟨f, fd, h1, okN (k := 0) h1 S (fun vs H Q E h => ?_) (fun cdv A outer s H vs Q E hr h => ?_), h2, h3, h4⟩
  · obtain ⟨_, _, _, _, h, _⟩ := h
    exact h
  · obtain ⟨_, _, _, _, _, _, _, _, _, h⟩ := h
    exact h.elim
theorem fh_of (D : Df K mg x st ps) (S : FnScope N ps (defScope st)) (hC : ∀ c A, C c = some A → mg c = some (.ref A)) (hn : ps.length = n)
    (hbody : ∀ (cdv : Value) (A : Around) (outer : List Env) (s : Shared) (H : Hp) (E : XK) (f : Addr) (B : Bs) (p : Addr × Obj), B.C = C → L2H.RoomH k (A.deeper (envC x (defScope st) s.heap.objs.size f cdv)) →
      Pl (L2H.cxH (L2N.CX P w) P w K mg base N x (defScope st) f cdv A outer s H E p) B (fun cls d _ H => E cls d H) →
      PSsD (L2H.cxH (L2N.CX P w) P w K mg base N x (defScope st) f cdv A outer s H E p) B (fun cls d _ H => E cls d H) (defBody st) mb) : FH P w K mg base C (k + 1) x n (fnM N.length mb) := by
  obtain ⟨f, fd, h1, h2, h3, h4⟩ := D
  subst hn
  exact ⟨f, fd, ps, fun p A dd hz hf => fn_DH h1 S hC (fun cdv A outer s H E B p hc hr P => hbody cdv A outer s H E f B p hc hr P) p A dd hz hf, h2, h3, h4⟩
theorem FH.mono (F : FH P w K mg base C j x n m) (h : j ≤ k) : FH P w K mg base C k x n m := by
  obtain ⟨f, fd, ps, h1, h2⟩ := F
  exact ⟨f, fd, ps, fun p A dd hz hf => ⟨(h1 p A dd hz hf).len, fun A' outer s H args us vs Q E hr => (h1 p A dd hz hf).run A' outer s H args us vs Q E (hr.mono h)⟩, h2⟩
end
theorem cEq {B : Bs} {C : Cl} (h : B.C = C) {c : Str} {A : Addr} (e : B.C c = some A) : C c = some A := h ▸ e
section
variable {us ws : List Value} {Q : List Value → List Value → Prop}
theorem kb0_1 (h1 : (us ++ ws).length = 1) (h2 : ws.length = 1) (f : ∀ a, Q [] [a]) : Q us ws := by
  obtain ⟨a, rfl⟩ := List.length_eq_one_iff.mp h2
  have : us = [] := List.eq_nil_of_length_eq_zero (by simpa using h1)
  subst this
  exact f a
theorem kb0_2 (h1 : (us ++ ws).length = 2) (h2 : ws.length = 2) (f : ∀ a b, Q [] [a, b]) : Q us ws := by
  obtain ⟨a, b, rfl⟩ : ∃ a b, ws = [a, b] := by
    match ws, h2 with
    | a :: b :: [], _ => exact ⟨a, b, rfl⟩
  have : us = [] := List.eq_nil_of_length_eq_zero (by simpa using h1)
  subst this
  exact f a b
theorem kb1_1 (h1 : (us ++ ws).length = 2) (h2 : ws.length = 1) (f : ∀ a b, Q [a] [b]) : Q us ws := by
  obtain ⟨b, rfl⟩ := List.length_eq_one_iff.mp h2
  have : us.length = 1 := by simpa using h1
  obtain ⟨a, rfl⟩ := List.length_eq_one_iff.mp this
  exact f a b
end
section
variable {P : Program} {w : World} {K : Fr} {mg : Str → Option Value} {base : Heap} {C : Cl} {k n : Nat} {x : Str} {st : Stmt} {ps ks : List Str} {m : MF}
theorem FX.fk0_1 (F : FX P w K mg base C k x st ps m) (l1 : ps.length = 1) (l2 : ks.length = 1) (h : ∀ (kV doc pm : Value) (an : Option Addr) (cdv ct a : Value), bindArgs (PySem.W.fnOf x x (defArgs st) (defBody st) (defScope st) .none kV doc pm an cdv ct) ⟨[], ks.zip [a]⟩ = pure (ps.zip [a])) : FK P w K mg base C k x 1 ks m :=
  F.fk (fun kV doc pm an cdv ct us ws h1 h2 => kb0_1 (Q := fun us ws => bindArgs (PySem.W.fnOf x x (defArgs st) (defBody st) (defScope st) .none kV doc pm an cdv ct) ⟨us, ks.zip ws⟩ = pure (ps.zip (us ++ ws))) (h1.trans l1) (h2.trans l2) fun a => h kV doc pm an cdv ct a) l1
theorem FX.fk0_2 (F : FX P w K mg base C k x st ps m) (l1 : ps.length = 2) (l2 : ks.length = 2) (h : ∀ (kV doc pm : Value) (an : Option Addr) (cdv ct a b : Value), bindArgs (PySem.W.fnOf x x (defArgs st) (defBody st) (defScope st) .none kV doc pm an cdv ct) ⟨[], ks.zip [a, b]⟩ = pure (ps.zip [a, b])) : FK P w K mg base C k x 2 ks m :=
  F.fk (fun kV doc pm an cdv ct us ws h1 h2 => kb0_2 (Q := fun us ws => bindArgs (PySem.W.fnOf x x (defArgs st) (defBody st) (defScope st) .none kV doc pm an cdv ct) ⟨us, ks.zip ws⟩ = pure (ps.zip (us ++ ws))) (h1.trans l1) (h2.trans l2) fun a b => h kV doc pm an cdv ct a b) l1
theorem FX.fk1_1 (F : FX P w K mg base C k x st ps m) (l1 : ps.length = 2) (l2 : ks.length = 1) (h : ∀ (kV doc pm : Value) (an : Option Addr) (cdv ct a b : Value), bindArgs (PySem.W.fnOf x x (defArgs st) (defBody st) (defScope st) .none kV doc pm an cdv ct) ⟨[a], ks.zip [b]⟩ = pure (ps.zip [a, b])) : FK P w K mg base C k x 2 ks m :=
  F.fk (fun kV doc pm an cdv ct us ws h1 h2 => kb1_1 (Q := fun us ws => bindArgs (PySem.W.fnOf x x (defArgs st) (defBody st) (defScope st) .none kV doc pm an cdv ct) ⟨us, ks.zip ws⟩ = pure (ps.zip (us ++ ws))) (h1.trans l1) (h2.trans l2) fun a b => h kV doc pm an cdv ct a b) l1
end
end DL
set_option Elab.async false
set_option linter.all false
set_option maxRecDepth 100000
set_option maxHeartbeats 2000000
namespace DL
open PySem L2
/-! ### what the meanings do at a state that is written out -/
@[simp] theorem e_C (d : D) (z : Z) : mC d z = .ok (.d d) z := rfl
@[simp] theorem e_V (i : Nat) (sl : List Sl) (st : List Cell) : mV i ⟨sl, st⟩ = match sl[i]? with
  | some (.val d) => .ok (.d d) ⟨sl, st⟩
  | some (.own _) => .ok (.own i) ⟨sl, st⟩
  | some (.brw _) => .ok (.own i) ⟨sl, st⟩
  | some (.exn _) => .ok (.own i) ⟨sl, st⟩
  | _ => .bad := rfl
@[simp] theorem e_bind {α β : Type} (m : M α) (f : α → M β) (z : Z) : mBind m f z = (m z).bind f := rfl
@[simp] theorem e_m2 (ma mb : M W) (f : W → W → M W) (z : Z) : m2 ma mb f z = (ma z).bind fun x z1 => (mb z1).bind fun y z2 => f x y z2 := rfl
@[simp] theorem e_asB (m : M W) (z : Z) : asB m z = (m z).bind fun d z1 => match d with
  | .d (.bl b) => .ok b z1
  | _ => .bad := rfl
@[simp] theorem e_sh (m : M W) (z : Z) : mSh m z = (m z).bind mShare := rfl
@[simp] theorem e_share (d : D) (z : Z) : mShare (.d d) z = .ok d z := rfl
@[simp] theorem e_shareO (i : Nat) (sl : List Sl) (st : List Cell) : mShare (.own i) ⟨sl, st⟩ = match sl[i]? with
    | some (.own c) => .ok c.data ⟨sl.set i (.val c.data), st⟩
    | _ => .bad := rfl
@[simp] theorem e_W (m : M D) (z : Z) : mW m z = (m z).bind fun d z1 => .ok (.d d) z1 := rfl
@[simp] theorem e_mNil (z : Z) : mNil z = .ok [] z := rfl
@[simp] theorem e_mCons (m : M D) (ms : M (List D)) (z : Z) : mCons m ms z = (m z).bind fun d z1 => (ms z1).bind fun ds z2 => .ok (d :: ds) z2 := rfl
@[simp] theorem e_wNil (z : Z) : wNil z = .ok [] z := rfl
@[simp] theorem e_wCons (m : M W) (ms : M (List W)) (z : Z) : wCons m ms z = (m z).bind fun d z1 => (ms z1).bind fun ds z2 => .ok (d :: ds) z2 := rfl
@[simp] theorem e_flat (d : D) (z : Z) : flat (some d) z = .ok (.d d) z := rfl
@[simp] theorem e_flatN (z : Z) : flat none z = .bad := rfl
@[simp] theorem e_newL (d : List D) (z : Z) : newL (some d) z = .ok (.d (.lst d)) z := rfl
@[simp] theorem e_newT (d : List D) (z : Z) : newT (some d) z = .ok (.d (.tup d)) z := rfl
@[simp] theorem e_frL (d : List D) (z : Z) : frL (some d) z = .ok (.lst d) z := rfl
@[simp] theorem e_cellD (m : M Cell) (z : Z) : cellD m z = (m z).bind fun c z1 => if isDictC c then .bad else .ok c.data z1 := rfl
@[simp] theorem e_cellL (m : M Cell) (z : Z) : cellL m z = (m z).bind fun c z1 => .ok c.data z1 := rfl
@[simp] theorem e_isDl (xs : List D) : isDictC (.lst xs) = false := rfl
@[simp] theorem e_shareN (d : D) (z : Z) : mShareN (.d d) z = .ok d z := rfl
@[simp] theorem e_mF (c : Cell) (z : Z) : mF c z = .ok c z := rfl
@[simp] theorem e_dataK (kvs : List (L2.Key × D)) : (Cell.dK kvs).data = .dK kvs := rfl
@[simp] theorem e_dataT (kvs : List (List L2.Key × D)) : (Cell.dT kvs).data = .dT kvs := rfl
@[simp] theorem e_dataL (xs : List D) : (Cell.lst xs).data = .lst xs := rfl
@[simp] theorem e_seq (a b : MS) (z : Z) : sSeq a b z = (a z).bind b := rfl
@[simp] theorem e_if (c : M Bool) (a b : MS) (z : Z) : sIf c a b z = (c z).bindS fun k z1 => if k then a z1 else b z1 := rfl
@[simp] theorem e_ret (m : M D) (z : Z) : sRet m z = (m z).bindS fun d z1 => .rt d z1 := rfl
@[simp] theorem e_nx (z : Z) : sNx z = .nx z := rfl
@[simp] theorem e_expr (m : M W) (z : Z) : sExpr m z = (m z).bindS fun _ z1 => .nx z1 := rfl
@[simp] theorem e_asg (m : M D) (g : D → M Unit) (z : Z) : sAsg m g z = (m z).bindS fun d z1 => (g d z1).done := rfl
@[simp] theorem e_own (i : Nat) (m : M Cell) (z : Z) : sOwn i m z = (m z).bindS fun c z1 => .nx (z1.set i (.own c)) := rfl
@[simp] theorem e_set (i : Nat) (s : Sl) (sl : List Sl) (st : List Cell) : Z.set ⟨sl, st⟩ i s = ⟨sl.set i s, st⟩ := rfl
@[simp] theorem e_gN (i : Nat) (d : D) (z : Z) : gN i d z = .ok () (z.set i (.val d)) := rfl
@[simp] theorem e_gs0 (z : Z) : gsN [] [] z = .ok () z := rfl
@[simp] theorem e_gs1 (i : Nat) (is : List Nat) (d : D) (ds : List D) (z : Z) : gsN (i :: is) (d :: ds) z = gsN is ds (z.set i (.val d)) := rfl
@[simp] theorem e_gT (n : Nat) (m : List D → M Unit) (ds : List D) (z : Z) : gT n m (.tup ds) z = if ds.length = n then m ds z else .bad := rfl
@[simp] theorem e_done (u : Unit) (z : Z) : (R.ok u z : R Unit).done = .nx z := rfl
@[simp] theorem e_par (is : List Nat) (ms : M (List D)) (z : Z) : sPar is ms z = (ms z).bindS fun ds z1 => (gsN is ds z1).done := rfl
@[simp] theorem e_and (a b : M Bool) (z : Z) : tyAnd a b z = (a z).bind fun c z1 => if c then b z1 else .ok false z1 := rfl
@[simp] theorem e_or (a b : M Bool) (z : Z) : tyOr a b z = (a z).bind fun c z1 => if c then .ok true z1 else b z1 := rfl
@[simp] theorem e_not (a : M Bool) (z : Z) : tyNot a z = (a z).bind fun c z1 => .ok (!c) z1 := rfl
@[simp] theorem e_mIf (c : M Bool) (a b : M W) (z : Z) : mIf c a b z = (c z).bind fun k z1 => if k then a z1 else b z1 := rfl
@[simp] theorem e_mAnd (a b : M W) (z : Z) : mAnd a b z = (a z).bind fun x z1 => (mTru x z1).bind fun k z2 => if k then b z2 else .ok x z2 := rfl
@[simp] theorem e_mOr (a b : M W) (z : Z) : mOr a b z = (a z).bind fun x z1 => (mTru x z1).bind fun k z2 => if k then .ok x z2 else b z2 := rfl
@[simp] theorem e_mNot (a : M W) (z : Z) : mNot a z = (a z).bind fun x z1 => (mTru x z1).bind fun k z2 => .ok (.d (.bl (!k))) z2 := rfl
@[simp] theorem e_truB (b : Bool) (z : Z) : mTru (.d (.bl b)) z = .ok b z := rfl
@[simp] theorem e_truN (z : Z) : mTru (.d .non) z = .ok false z := rfl
@[simp] theorem e_truI (i : Int) (z : Z) : mTru (.d (.int i)) z = .ok (i != 0) z := rfl
@[simp] theorem e_truT (xs : List D) (z : Z) : mTru (.d (.tup xs)) z = .ok (!xs.isEmpty) z := rfl
@[simp] theorem e_truL (xs : List D) (z : Z) : mTru (.d (.lst xs)) z = .ok (!xs.isEmpty) z := rfl
@[simp] theorem e_add (i j : Int) (z : Z) : fAdd (.d (.int i)) (.d (.int j)) z = .ok (.d (.int (i + j))) z := rfl
@[simp] theorem e_addS (a b : Str) (z : Z) : fAdd (.d (.str a)) (.d (.str b)) z = if a.length + b.length ≤ sizeLine then .ok (.d (.str (a ++ b))) z else .bad := by
  unfold fAdd fOr addI addS addT addL fI flat newT newL Z.cont
  by_cases h : a.length + b.length ≤ sizeLine <;> simp [h]
@[simp] theorem e_addL (a b : List D) (z : Z) : fAdd (.d (.lst a)) (.d (.lst b)) z = if a.length + b.length ≤ sizeLine then .ok (.d (.lst (a ++ b))) z else .bad := by
  unfold fAdd fOr addI addS addT addL fI flat newT newL Z.cont
  by_cases h : a.length + b.length ≤ sizeLine <;> simp [h]
@[simp] theorem e_sub (i j : Int) (z : Z) : fSub (.d (.int i)) (.d (.int j)) z = .ok (.d (.int (i - j))) z := rfl
@[simp] theorem e_mod (i j : Int) (z : Z) : fMod (.d (.int i)) (.d (.int j)) z = if j = 0 then .bad else .ok (.d (.int (i.fmod j))) z := by
  unfold fMod fI flat
  by_cases h : j = 0 <;> simp [h]
@[simp] theorem e_div (i j : Int) (z : Z) : fDiv (.d (.int i)) (.d (.int j)) z = if okDiv i j then .ok (.d (.int (i.fdiv j))) z else .bad := by
  unfold fDiv fI flat
  by_cases h : okDiv i j <;> simp [h]
@[simp] theorem e_mul (i j : Int) (z : Z) : fMul (.d (.int i)) (.d (.int j)) z = if okMul i j then .ok (.d (.int (i * j))) z else .bad := by
  unfold fMul fOr mulI mulS fI flat
  by_cases h : okMul i j <;> simp [h]
@[simp] theorem e_mulS (a : Str) (n : Int) (z : Z) : fMul (.d (.str a)) (.d (.int n)) z = if -(2 ^ 63) ≤ n ∧ n < 2 ^ 63 ∧ a.length * n.toNat ≤ sizeLine then .ok (.d (.str (repS a n))) z else .bad := by
  show flat (if -(2 ^ 63) ≤ n ∧ n < 2 ^ 63 ∧ a.length * n.toNat ≤ sizeLine then some (D.str (repS a n)) else none) z = _
  split <;> rfl
@[simp] theorem e_pow (i j : Int) (z : Z) : fPow (.d (.int i)) (.d (.int j)) z = if okPow i j then .ok (.d (.int (i ^ j.toNat))) z else .bad := by
  unfold fPow fI flat
  by_cases h : okPow i j <;> simp [h]
@[simp] theorem e_neg (i : Int) (z : Z) : fNeg (.d (.int i)) z = .ok (.d (.int (-i))) z := rfl
@[simp] theorem e_lt (i j : Int) (z : Z) : fLt (.d (.int i)) (.d (.int j)) z = .ok (.d (.bl (decide (i < j)))) z := rfl
@[simp] theorem e_le (i j : Int) (z : Z) : fLe (.d (.int i)) (.d (.int j)) z = .ok (.d (.bl (decide (i ≤ j)))) z := rfl
@[simp] theorem e_gt (i j : Int) (z : Z) : fGt (.d (.int i)) (.d (.int j)) z = .ok (.d (.bl (decide (j < i)))) z := rfl
@[simp] theorem e_ge (i j : Int) (z : Z) : fGe (.d (.int i)) (.d (.int j)) z = .ok (.d (.bl (decide (j ≤ i)))) z := rfl
@[simp] theorem e_eqI (i j : Int) (z : Z) : fEq (.d (.int i)) (.d (.int j)) z = .ok (.d (.bl (i == j))) z := by
  show _ = _
  unfold fEq fOr eqS flat scalD eqSc
  simp
@[simp] theorem e_eqS (i j : Str) (z : Z) : fEq (.d (.str i)) (.d (.str j)) z = .ok (.d (.bl (i == j))) z := by
  unfold fEq fOr eqS flat scalD eqSc
  simp
@[simp] theorem e_neI (i j : Int) (z : Z) : fNe (.d (.int i)) (.d (.int j)) z = .ok (.d (.bl (i != j))) z := by
  unfold fNe fOr eqS flat scalD eqSc
  simp [bne]
@[simp] theorem e_neS (i j : Str) (z : Z) : fNe (.d (.str i)) (.d (.str j)) z = .ok (.d (.bl (i != j))) z := by
  unfold fNe fOr eqS flat scalD eqSc
  simp [bne]
@[simp] theorem e_isNon (z : Z) (d : D) (k : Bool) : fIs k (.d d) (.d .non) z = match d with
    | .con _ => .bad
    | d => .ok (.d (.bl (isNonD d ^^ k))) z := by
  cases d <;> rfl
/-! types -/
@[simp] theorem e_isi (T : Ty) (w : W) (z : Z) : fIsi T w z = match z.ty w with
  | some t => .ok (.d (.bl (t.isa T))) z
  | none => .bad := by
  unfold fIsi flat
  cases z.ty w <;> rfl
@[simp] theorem ty_non (z : Z) : z.ty (.d .non) = some .non := rfl
@[simp] theorem ty_bl (z : Z) (b : Bool) : z.ty (.d (.bl b)) = some .bl := rfl
@[simp] theorem ty_int (z : Z) (i : Int) : z.ty (.d (.int i)) = some .int := rfl
@[simp] theorem ty_str (z : Z) (s : Str) : z.ty (.d (.str s)) = some .str := rfl
@[simp] theorem ty_tup (z : Z) (s : List D) : z.ty (.d (.tup s)) = some .tup := rfl
@[simp] theorem ty_lst (z : Z) (s : List D) : z.ty (.d (.lst s)) = some .lst := rfl
@[simp] theorem ty_dK (z : Z) (s : List (L2.Key × D)) : z.ty (.d (.dK s)) = some .dct := rfl
@[simp] theorem isa_non_non : Ty.isa .non .non = true := rfl
@[simp] theorem isa_non_bl : Ty.isa .non .bl = false := rfl
@[simp] theorem isa_non_int : Ty.isa .non .int = false := rfl
@[simp] theorem isa_non_str : Ty.isa .non .str = false := rfl
@[simp] theorem isa_non_lst : Ty.isa .non .lst = false := rfl
@[simp] theorem isa_non_tup : Ty.isa .non .tup = false := rfl
@[simp] theorem isa_non_dct : Ty.isa .non .dct = false := rfl
@[simp] theorem isa_bl_non : Ty.isa .bl .non = false := rfl
@[simp] theorem isa_bl_bl : Ty.isa .bl .bl = true := rfl
@[simp] theorem isa_bl_int : Ty.isa .bl .int = true := rfl
@[simp] theorem isa_bl_str : Ty.isa .bl .str = false := rfl
@[simp] theorem isa_bl_lst : Ty.isa .bl .lst = false := rfl
@[simp] theorem isa_bl_tup : Ty.isa .bl .tup = false := rfl
@[simp] theorem isa_bl_dct : Ty.isa .bl .dct = false := rfl
@[simp] theorem isa_int_non : Ty.isa .int .non = false := rfl
@[simp] theorem isa_int_bl : Ty.isa .int .bl = false := rfl
@[simp] theorem isa_int_int : Ty.isa .int .int = true := rfl
@[simp] theorem isa_int_str : Ty.isa .int .str = false := rfl
@[simp] theorem isa_int_lst : Ty.isa .int .lst = false := rfl
@[simp] theorem isa_int_tup : Ty.isa .int .tup = false := rfl
@[simp] theorem isa_int_dct : Ty.isa .int .dct = false := rfl
@[simp] theorem isa_str_non : Ty.isa .str .non = false := rfl
@[simp] theorem isa_str_bl : Ty.isa .str .bl = false := rfl
@[simp] theorem isa_str_int : Ty.isa .str .int = false := rfl
@[simp] theorem isa_str_str : Ty.isa .str .str = true := rfl
@[simp] theorem isa_str_lst : Ty.isa .str .lst = false := rfl
@[simp] theorem isa_str_tup : Ty.isa .str .tup = false := rfl
@[simp] theorem isa_str_dct : Ty.isa .str .dct = false := rfl
@[simp] theorem isa_lst_non : Ty.isa .lst .non = false := rfl
@[simp] theorem isa_lst_bl : Ty.isa .lst .bl = false := rfl
@[simp] theorem isa_lst_int : Ty.isa .lst .int = false := rfl
@[simp] theorem isa_lst_str : Ty.isa .lst .str = false := rfl
@[simp] theorem isa_lst_lst : Ty.isa .lst .lst = true := rfl
@[simp] theorem isa_lst_tup : Ty.isa .lst .tup = false := rfl
@[simp] theorem isa_lst_dct : Ty.isa .lst .dct = false := rfl
@[simp] theorem isa_tup_non : Ty.isa .tup .non = false := rfl
@[simp] theorem isa_tup_bl : Ty.isa .tup .bl = false := rfl
@[simp] theorem isa_tup_int : Ty.isa .tup .int = false := rfl
@[simp] theorem isa_tup_str : Ty.isa .tup .str = false := rfl
@[simp] theorem isa_tup_lst : Ty.isa .tup .lst = false := rfl
@[simp] theorem isa_tup_tup : Ty.isa .tup .tup = true := rfl
@[simp] theorem isa_tup_dct : Ty.isa .tup .dct = false := rfl
@[simp] theorem isa_dct_non : Ty.isa .dct .non = false := rfl
@[simp] theorem isa_dct_bl : Ty.isa .dct .bl = false := rfl
@[simp] theorem isa_dct_int : Ty.isa .dct .int = false := rfl
@[simp] theorem isa_dct_str : Ty.isa .dct .str = false := rfl
@[simp] theorem isa_dct_lst : Ty.isa .dct .lst = false := rfl
@[simp] theorem isa_dct_tup : Ty.isa .dct .tup = false := rfl
@[simp] theorem isa_dct_dct : Ty.isa .dct .dct = true := rfl
/-! built-ins -/
@[simp] theorem e_lenS (s : Str) (z : Z) : fLen [.d (.str s)] z = if s.length ≤ sizeLine then .ok (.d (.int s.length)) z else .bad := by
  unfold fLen flat
  by_cases h : s.length ≤ sizeLine <;> simp [h]
@[simp] theorem e_lenT (ds : List D) (z : Z) : fLen [.d (.tup ds)] z = .ok (.d (.int ds.length)) z := rfl
@[simp] theorem e_lenL (ds : List D) (z : Z) : fLen [.d (.lst ds)] z = .ok (.d (.int ds.length)) z := rfl
@[simp] theorem e_int (i : Int) (z : Z) : fInt [.d (.int i)] z = .ok (.d (.int i)) z := rfl
@[simp] theorem e_intS (s : Str) (z : Z) : fInt [.d (.str s)] z = if s.length ≤ 640 then (match PySem.intText? s with | some n => .ok (.d (.int n)) z | none => .bad) else .bad := by
  unfold fInt kOr fInt1 fIntS flat
  by_cases h : s.length ≤ 640
  · simp [h]
    cases PySem.intText? s <;> rfl
  · simp [h]
@[simp] theorem e_str (i : Int) (z : Z) : fStr [.d (.int i)] z = if i.natAbs.log2 < 1920 then .ok (.d (.str (toString i))) z else .bad := by
  unfold fStr flat
  by_cases h : i.natAbs.log2 < 1920 <;> simp [h]
@[simp] theorem e_abs (i : Int) (z : Z) : fAbs [.d (.int i)] z = .ok (.d (.int (if i < 0 then -i else i))) z := rfl
@[simp] theorem e_gcd (i j : Int) (z : Z) : fGcd [.d (.int i), .d (.int j)] z = .ok (.d (.int ((Nat.gcd i.natAbs j.natAbs : Nat) : Int))) z := rfl
@[simp] theorem e_all (ds : List D) (z : Z) : fAll [.d (.lst ds)] z = match bools ds with
  | some bs => .ok (.d (.bl (bs.all id))) z
  | none => .bad := by
  show flat (match bools ds with | some bs => _ | none => none) z = _
  cases bools ds <;> rfl
@[simp] theorem e_list (ds : List D) (z : Z) : fList [.d (.lst ds)] z = .ok (.d (.lst ds)) z := rfl
@[simp] theorem e_listT (ds : List D) (z : Z) : fList [.d (.tup ds)] z = .ok (.d (.lst ds)) z := rfl
@[simp] theorem e_tupL (ds : List D) (z : Z) : fTuple [.d (.lst ds)] z = .ok (.d (.tup ds)) z := rfl
@[simp] theorem e_okLen (ds : List D) : okLen ds = if ds.length ≤ sizeLine then some ds else none := rfl
/-! indexing -/
@[simp] theorem e_ixT (ds : List D) (i : Int) (z : Z) : fIx (.d (.tup ds)) (.d (.int i)) z = match atI ds i with
  | some d => .ok (.d d) z
  | none => .bad := rfl
@[simp] theorem e_ixL (ds : List D) (i : Int) (z : Z) : fIx (.d (.lst ds)) (.d (.int i)) z = match atI ds i with
  | some d => .ok (.d d) z
  | none => .bad := rfl
@[simp] theorem e_ixS (s : Str) (i : Int) (z : Z) : fIx (.d (.str s)) (.d (.int i)) z = if s.length ≤ sizeLine then (match atI s.cps.toList i with
  | some c => .ok (.d (.str ⟨#[c]⟩)) z
  | none => .bad) else .bad := rfl
@[simp] theorem e_ixO (n : Nat) (i : Int) (sl : List Sl) (st : List Cell) : fIx (.d (.obj n)) (.d (.int i)) ⟨sl, st⟩ = match st[n]? with
  | some (.lst ds) => (match atI ds i with
    | some d => .ok (.d d) ⟨sl, st⟩
    | none => .bad)
  | _ => .bad := by
  unfold fIx Z.cont
  cases h : st[n]? with
  | none => simp [h]
  | some c =>
    cases c with
    | lst xs =>
      (simp only [h]) <;> (cases atI xs i <;> rfl)
    | _ => simp [h]
@[simp] theorem e_itemsL (ds : List D) (z : Z) : itemsOf (.lst ds) z = .ok ds z := rfl
@[simp] theorem e_itemsT (ds : List D) (z : Z) : itemsOf (.tup ds) z = .ok ds z := rfl
@[simp] theorem e_itemsS (s : Str) (z : Z) : itemsOf (.str s) z = .ok (signsD s) z := rfl
/-! calls -/
@[simp] theorem e_call (n : Nat) (m : MF) (ws : M (List W)) (z : Z) : mCall n m ws z = (ws z).bind fun xs z1 => callF n m xs z1 := rfl
def RF.at (sl : List Sl) : RF → R D
  | .ok d S => .ok d ⟨sl, S⟩
  | .err x S => .err x ⟨sl, S⟩
  | .bad => .bad
@[simp] theorem at_ok (sl : List Sl) (d : D) (S : List Cell) : (RF.ok d S).at sl = .ok d ⟨sl, S⟩ := rfl
@[simp] theorem at_err (sl : List Sl) (x : Exn) (S : List Cell) : (RF.err x S).at sl = .err x ⟨sl, S⟩ := rfl
@[simp] theorem at_bad (sl : List Sl) : RF.bad.at sl = .bad := rfl
@[simp] theorem at_ite (sl : List Sl) (p : Prop) [Decidable p] (a b : RF) : (if p then a else b).at sl = if p then a.at sl else b.at sl := by split <;> rfl
@[simp] theorem e_callF (n : Nat) (m : MF) (xs : List W) (sl : List Sl) (st : List Cell) : callF n m xs ⟨sl, st⟩ = if xs.length = n then match toArgs ⟨sl, st⟩ xs with
  | some as => (m as st).at sl
  | none => .bad
  else .bad := rfl
@[simp] theorem e_args0 (z : Z) : toArgs z [] = some [] := rfl
@[simp] theorem e_args1 (z : Z) (x : W) (xs : List W) : toArgs z (x :: xs) = match toArg z x, toArgs z xs with
    | some a, some as => some (a :: as)
    | _, _ => none := rfl
@[simp] theorem e_arg (z : Z) (d : D) : toArg z (.d d) = some (.val d) := rfl
@[simp] theorem e_argO (i : Nat) (sl : List Sl) (st : List Cell) : toArg ⟨sl, st⟩ (.own i) = match sl[i]? with
    | some (.own c) => some (.brw c)
    | some (.brw c) => some (.brw c)
    | _ => none := rfl
def RS.fin : RS → RF
  | .nx z => .ok .non z.st
  | .rt d z => .ok d z.st
  | .err x z => .err x z.st
  | _ => .bad
@[simp] theorem fin_nx (z : Z) : (RS.nx z).fin = .ok .non z.st := rfl
@[simp] theorem fin_rt (d : D) (z : Z) : (RS.rt d z).fin = .ok d z.st := rfl
@[simp] theorem fin_err (x : Exn) (z : Z) : (RS.err x z).fin = .err x z.st := rfl
@[simp] theorem fin_bad : RS.bad.fin = .bad := rfl
@[simp] theorem fin_ite (p : Prop) [Decidable p] (a b : RS) : (if p then a else b).fin = if p then a.fin else b.fin := by split <;> rfl
theorem e_fn (n : Nat) (mb : MS) (as : List Sl) (S : List Cell) : fnM n mb as S = (mb ⟨as ++ List.replicate (n - as.length) .un, S⟩).fin := rfl
@[simp] theorem ite_ok {α : Type} (p : Prop) [Decidable p] (a b : α) (z : Z) : (if p then R.ok a z else R.ok b z) = R.ok (if p then a else b) z := by split <;> rfl
@[simp] theorem ite_Wd (p : Prop) [Decidable p] (a b : D) : (if p then W.d a else W.d b) = W.d (if p then a else b) := by split <;> rfl
@[simp] theorem ite_str (p : Prop) [Decidable p] (a b : Str) : (if p then D.str a else D.str b) = D.str (if p then a else b) := by split <;> rfl
@[simp] theorem ite_int (p : Prop) [Decidable p] (a b : Int) : (if p then D.int a else D.int b) = D.int (if p then a else b) := by split <;> rfl
@[simp] theorem ite_bl (p : Prop) [Decidable p] (a b : Bool) : (if p then D.bl a else D.bl b) = D.bl (if p then a else b) := by split <;> rfl
@[simp] theorem bind_ite {α β : Type} (p : Prop) [Decidable p] (a b : R α) (f : α → M β) : (if p then a else b).bind f = if p then a.bind f else b.bind f := by split <;> rfl
@[simp] theorem bindS_ite {α : Type} (p : Prop) [Decidable p] (a b : R α) (f : α → MS) : (if p then a else b).bindS f = if p then a.bindS f else b.bindS f := by split <;> rfl
@[simp] theorem sbind_ite (p : Prop) [Decidable p] (a b : RS) (f : MS) : (if p then a else b).bind f = if p then a.bind f else b.bind f := by split <;> rfl
end DL
set_option Elab.async false
set_option linter.all false
set_option maxRecDepth 100000
set_option maxHeartbeats 2000000
namespace DL
open PySem L2
/-! ### comprehensions at a state that is written out -/
@[simp] theorem e_wipe (sl : List Sl) (st : List Cell) (vs : List Nat) : Z.wipe ⟨sl, st⟩ vs = ⟨wipeL sl vs, st⟩ := rfl
@[simp] theorem e_wipe0 (sl : List Sl) : wipeL sl [] = sl := rfl
@[simp] theorem e_wipe1 (sl : List Sl) (v : Nat) (vs : List Nat) : wipeL sl (v :: vs) = (wipeL sl vs).set v .un := rfl
@[simp] theorem e_rest (sl so : List Sl) (st so' : List Cell) (vs : List Nat) : Z.restore ⟨sl, st⟩ ⟨so, so'⟩ vs = ⟨backL sl so vs, st⟩ := rfl
@[simp] theorem e_back0 (sl so : List Sl) : backL sl so [] = sl := rfl
@[simp] theorem e_back1 (sl so : List Sl) (v : Nat) (vs : List Nat) : backL sl so (v :: vs) = match so[v]? with
  | some (.val d) => (backL sl so vs).set v (.val d)
  | _ => backL sl so vs := rfl
@[simp] theorem e_calm0 (z : Z) : z.calmAt [] = true := rfl
@[simp] theorem e_calm1 (sl : List Sl) (st : List Cell) (v : Nat) (vs : List Nat) : Z.calmAt ⟨sl, st⟩ (v :: vs) = ((match sl[v]? with
  | some (.val _) => true
  | some .un => true
  | _ => false) && Z.calmAt ⟨sl, st⟩ vs) := rfl
@[simp] theorem e_lc (vs : List Nat) (mi : M (List D)) (g : D → M Unit) (tt : M Bool) (me : M D) (z : Z) : mLc vs mi g tt me z = (mi z).bind fun ds z1 => if z1.calmAt vs then match lcGo vs g tt me ds [] (z1.wipe vs) with
    | .ok ys z2 => .ok ys (z2.restore z1 vs)
    | _ => .bad
  else .bad := rfl
theorem set_same {α : Type} {l : List α} {i : Nat} {x : α} (h : l[i]? = some x) : l.set i x = l := by
  obtain ⟨hl, rfl⟩ := List.getElem?_eq_some_iff.mp h
  exact List.set_getElem_self hl
/-- a state's slot i, set to data for a while -/
theorem un_back {sl : List Sl} {i : Nat} (d : D) (h : sl[i]? = some .un) : (sl.set i (.val d)).set i .un = sl := by
  rw [List.set_set]
  exact set_same h
theorem lcGo_map {i : Nat} {sl : List Sl} {st : List Cell} {tt : M Bool} {me : M D} (f : D → D) (hi : sl[i]? = some .un) : ∀ (ds acc : List D), (∀ d ∈ ds, tt ⟨sl.set i (.val d), st⟩ = .ok true ⟨sl.set i (.val d), st⟩ ∧ me ⟨sl.set i (.val d), st⟩ = .ok (f d) ⟨sl.set i (.val d), st⟩) →
    acc.length + ds.length ≤ sizeLine → lcGo [i] (gN i) tt me ds acc ⟨sl, st⟩ = .ok (acc ++ ds.map f) ⟨sl, st⟩
  | [], acc, _, _ => by simp [lcGo]
  | d :: ds, acc, h, hl => by
    have hd := h d (List.mem_cons_self ..)
    have hlt : acc.length < sizeLine := by simp only [List.length_cons] at hl; omega
    unfold lcGo
    simp only [e_gN, e_set, hd.1, hd.2, hlt, if_true, e_wipe, e_wipe1, e_wipe0]
    rw [un_back d hi, lcGo_map f hi ds (acc ++ [f d]) (fun x hx => h x (List.mem_cons_of_mem _ hx)) (by simp only [List.length_append, List.length_cons, List.length_nil] at hl ⊢; omega)]
    simp
theorem lcGo_filter {i : Nat} {sl : List Sl} {st : List Cell} {tt : M Bool} {me : M D} (p : D → Bool) (f : D → D) (hi : sl[i]? = some .un) : ∀ (ds acc : List D), (∀ d ∈ ds, tt ⟨sl.set i (.val d), st⟩ = .ok (p d) ⟨sl.set i (.val d), st⟩ ∧ (p d = true → me ⟨sl.set i (.val d), st⟩ = .ok (f d) ⟨sl.set i (.val d), st⟩)) →
    acc.length + ds.length ≤ sizeLine → lcGo [i] (gN i) tt me ds acc ⟨sl, st⟩ = .ok (acc ++ (ds.filter p).map f) ⟨sl, st⟩
  | [], acc, _, _ => by simp [lcGo]
  | d :: ds, acc, h, hl => by
    have hd := h d (List.mem_cons_self ..)
    have hlt : acc.length < sizeLine := by simp only [List.length_cons] at hl; omega
    unfold lcGo
    simp only [e_gN, e_set, hd.1]
    cases hp : p d with
    | true =>
      simp only [hp] at hd
      simp only [hd.2 trivial, hlt, if_true, e_wipe, e_wipe1, e_wipe0]
      rw [un_back d hi, lcGo_filter p f hi ds (acc ++ [f d]) (fun x hx => h x (List.mem_cons_of_mem _ hx)) (by simp only [List.length_append, List.length_cons, List.length_nil] at hl ⊢; omega)]
      simp [hp]
    | false =>
      simp only [e_wipe, e_wipe1, e_wipe0]
      rw [un_back d hi, lcGo_filter p f hi ds acc (fun x hx => h x (List.mem_cons_of_mem _ hx)) (by simp only [List.length_cons] at hl; omega)]
      simp [hp]
/-- .. while the cells change -/
theorem lcGo_inv {i : Nat} {sl : List Sl} {tt : M Bool} {me : M D} (J : List Cell → Prop) (P : D → Prop) (hi : sl[i]? = some .un) (htt : ∀ z, tt z = .ok true z) : ∀ (ds acc : List D) (st : List Cell), (∀ d ∈ ds, ∀ st, J st → ∃ y st', me ⟨sl.set i (.val d), st⟩ = .ok y ⟨sl.set i (.val d), st'⟩ ∧ J st' ∧ P y) →
    J st → acc.length + ds.length ≤ sizeLine → ∃ ys st', lcGo [i] (gN i) tt me ds acc ⟨sl, st⟩ = .ok (acc ++ ys) ⟨sl, st'⟩ ∧ J st' ∧ ys.length = ds.length ∧ ∀ y ∈ ys, P y
  | [], acc, st, _, hj, _ => ⟨[], st, by simp [lcGo], hj, rfl, by simp⟩
  | d :: ds, acc, st, h, hj, hl => by
    obtain ⟨y, st1, e1, j1, p1⟩ := h d (List.mem_cons_self ..) st hj
    have hlt : acc.length < sizeLine := by simp only [List.length_cons] at hl; omega
    obtain ⟨ys, st2, e2, j2, l2, p2⟩ := lcGo_inv J P hi htt ds (acc ++ [y]) st1 (fun x hx => h x (List.mem_cons_of_mem _ hx)) j1 (by simp only [List.length_append, List.length_cons, List.length_nil] at hl ⊢; omega)
    refine ⟨y :: ys, st2, ?_, j2, by simp [l2], fun w hw => ?_⟩
    · unfold lcGo
      simp only [e_gN, e_set, htt, e1, hlt, if_true, e_wipe, e_wipe1, e_wipe0]
      rw [un_back d hi, e2]
      simp
    · rcases List.mem_cons.mp hw with rfl | hw
      · exact p1
      · exact p2 w hw
/-- two names -/
theorem un_back2 {sl : List Sl} {i j : Nat} (d e : D) (hij : i ≠ j) (h : sl[i]? = some .un) (h' : sl[j]? = some .un) : ((((sl.set i (.val d)).set j (.val e)).set j .un).set i .un) = sl := by
  rw [List.set_set, List.set_comm _ _ (Ne.symm hij), List.set_set, set_same h, set_same h']
theorem lcGo_map2 {i j : Nat} {sl : List Sl} {st : List Cell} {tt : M Bool} {me : M D} (hij : i ≠ j) (hi : sl[i]? = some .un) (hj : sl[j]? = some .un) (f : D → D → D) : ∀ (ps : List (D × D)) (acc : List D),
    (∀ p ∈ ps, tt ⟨(sl.set i (.val p.1)).set j (.val p.2), st⟩ = .ok true ⟨(sl.set i (.val p.1)).set j (.val p.2), st⟩ ∧ me ⟨(sl.set i (.val p.1)).set j (.val p.2), st⟩ = .ok (f p.1 p.2) ⟨(sl.set i (.val p.1)).set j (.val p.2), st⟩) →
    acc.length + ps.length ≤ sizeLine → lcGo [i, j] (gT 2 (gsN [i, j])) tt me (ps.map fun p => .tup [p.1, p.2]) acc ⟨sl, st⟩ = .ok (acc ++ ps.map fun p => f p.1 p.2) ⟨sl, st⟩
  | [], acc, _, _ => by simp [lcGo]
  | p :: ps, acc, h, hl => by
    have hd := h p (List.mem_cons_self ..)
    have hlt : acc.length < sizeLine := by simp only [List.length_cons] at hl; omega
    rw [List.map_cons]
    unfold lcGo
    simp only [e_gT, List.length_cons, List.length_nil, Nat.zero_add, Nat.reduceAdd, if_true, e_gs1, e_gs0, e_set, hd.1, hd.2, hlt, e_wipe, e_wipe1, e_wipe0]
    rw [un_back2 _ _ hij hi hj, lcGo_map2 hij hi hj f ps (acc ++ [f p.1 p.2]) (fun x hx => h x (List.mem_cons_of_mem _ hx)) (by simp only [List.length_append, List.length_cons, List.length_nil] at hl ⊢; omega)]
    simp
/-! ### texts -/
@[simp] theorem tl1 (c : Nat) : (⟨#[c]⟩ : Str).cps.toList = [c] := rfl
/-- the sign c is in s -/
def hasC (s : Str) (c : Nat) : Bool := decide (c ∈ s.cps.toList)
@[simp] theorem e_inS (c : Nat) (s : Str) (z : Z) : fIn (.d (.str ⟨#[c]⟩)) (.d (.str s)) z = .ok (.d (.bl (hasC s c))) z := by
  unfold fIn fOr inS flat hasC
  simp
@[simp] theorem e_ninS (c : Nat) (s : Str) (z : Z) : fNin (.d (.str ⟨#[c]⟩)) (.d (.str s)) z = .ok (.d (.bl (!hasC s c))) z := by
  unfold fNin fOr inS flat hasC
  simp
theorem e_inF (d : D) (ds : List D) (z : Z) (hd : flatD d = true) (h : ds.all flatD = true) : fIn (.d d) (.d (.lst ds)) z = .ok (.d (.bl (ds.any fun y => eqF y d))) z := by
  have hz : z.seq (.d (.lst ds)) = some ds := rfl
  unfold fIn fOr inS inF flat
  cases d <;> simp [hz, hd, h]
theorem e_ninF (d : D) (ds : List D) (z : Z) (hd : flatD d = true) (h : ds.all flatD = true) : fNin (.d d) (.d (.lst ds)) z = .ok (.d (.bl (!(ds.any fun y => eqF y d)))) z := by
  have hz : z.seq (.d (.lst ds)) = some ds := rfl
  unfold fNin fOr inS inF flat
  cases d <;> simp [hz, hd, h]
@[simp] theorem e_oN (z : Z) : oNone z = .ok none z := rfl
@[simp] theorem e_oS (m : M W) (z : Z) : oSome m z = (m z).bind fun w z1 => match w with
  | .d (.int i) => .ok (some i) z1
  | _ => .bad := rfl
@[simp] theorem e_sl (m : M W) (ml mh : M (Option Int)) (z : Z) : mSl m ml mh z = (m z).bind fun x z1 => (ml z1).bind fun lo z2 => (mh z2).bind fun hi z3 => fSl x lo hi z3 := rfl
@[simp] theorem e_slS (s : Str) (lo hi : Option Int) (z : Z) : fSl (.d (.str s)) lo hi z = if s.length ≤ sizeLine then .ok (.d (.str (cutS s lo hi))) z else .bad := by
  unfold fSl slS slT slL flat newT newL Z.cont
  by_cases h : s.length ≤ sizeLine <;> simp [h]
@[simp] theorem e_slL (ds : List D) (lo hi : Option Int) (z : Z) : fSl (.d (.lst ds)) lo hi z = .ok (.d (.lst (cutD ds lo hi))) z := rfl
theorem cutS_to (s : Str) (k : Nat) : cutS s none (some (k : Int)) = ⟨(s.cps.toList.take k).toArray⟩ := by
  unfold cutS
  rw [HT.sIx_nat, HT.sIx_none]
  have hl : s.length = s.cps.toList.length := TL.len_tl s
  rw [List.drop_zero, Nat.sub_zero]
  congr 2
  rw [hl, List.take_eq_take_iff]
  omega
theorem cutS_from (s : Str) (k : Nat) : cutS s (some (k : Int)) none = ⟨(s.cps.toList.drop k).toArray⟩ := by
  unfold cutS
  rw [HT.sIx_nat, HT.sIx_none]
  have hl : s.length = s.cps.toList.length := TL.len_tl s
  congr 1
  by_cases h : k ≤ s.length
  · rw [Nat.min_eq_left h, List.take_of_length_le]
    rw [List.length_drop, hl]
    omega
  · rw [Nat.min_eq_right (by omega), List.drop_of_length_le (by omega), List.drop_of_length_le (by omega)]
    simp
theorem cutD_to {α : Type} (s : List α) (k : Nat) : cutD s none (some (k : Int)) = s.take k := by
  unfold cutD
  rw [HT.sIx_nat, HT.sIx_none, List.drop_zero, Nat.sub_zero, List.take_eq_take_iff]
  omega
@[simp] theorem e_bmS (m : M W) (ws : M (List W)) (f : W → List W → M W) (z : Z) : mBM .str m ws f z = (m z).bind fun x z1 => if z1.isMT .str x then (ws z1).bind fun xs z2 => f x xs z2 else .bad := rfl
@[simp] theorem e_bmL (m : M W) (ws : M (List W)) (f : W → List W → M W) (z : Z) : mBM .lst m ws f z = (m z).bind fun x z1 => if z1.isMT .lst x then (ws z1).bind fun xs z2 => f x xs z2 else .bad := rfl
@[simp] theorem e_isS (s : Str) (z : Z) : z.isMT .str (.d (.str s)) = true := rfl
@[simp] theorem e_isLo (i : Nat) (sl : List Sl) (st : List Cell) : Z.isMT ⟨sl, st⟩ .lst (.own i) = match sl[i]? with
  | some (.own (.lst _)) => true
  | some (.brw (.lst _)) => true
  | _ => false := by
  unfold Z.isMT Z.cont
  dsimp only
  cases h : sl[i]? with
  | none => simp
  | some s => cases s with
    | own c => cases c <;> simp
    | brw c => cases c <;> simp
    | _ => simp
@[simp] theorem e_split (a b : Str) (z : Z) : fSplit (.d (.str a)) [.d (.str b)] z = if (b.length == 0) = false ∧ a.length + 2 ≤ sizeLine then .ok (.d (.lst ((Txt.split a b).map .str))) z else .bad := by
  unfold fSplit
  by_cases h : (b.length == 0) = false ∧ a.length + 2 ≤ sizeLine
  · simp only [if_pos h]; rfl
  · simp only [if_neg h]; rfl
@[simp] theorem e_joinL (a : Str) (ds : List D) (z : Z) : fJoin (.d (.str a)) [.d (.lst ds)] z = match strsD ds with
    | some ys => if (ys.map (·.length)).sum + ys.length * a.length ≤ 16777216 then .ok (.d (.str (Txt.join a ys))) z else .bad
    | none => .bad := by
  have hz : z.seq (.d (.lst ds)) = some ds := rfl
  unfold fJoin flat
  dsimp only
  rw [hz, Option.bind_some]
  cases strsD ds with
  | none => rfl
  | some ys =>
    dsimp only
    by_cases h : (ys.map (·.length)).sum + ys.length * a.length ≤ 16777216
    · rw [if_pos h, if_pos h]
    · rw [if_neg h, if_neg h]
@[simp] theorem e_upper (a : Str) (z : Z) : fUpper (.d (.str a)) [] z = if a.length ≤ 5592405 then .ok (.d (.str (Txt.upper a))) z else .bad := by
  unfold fUpper tx0 flat
  by_cases h : a.length ≤ 5592405 <;> simp [h]
@[simp] theorem e_revL (ds : List D) (z : Z) : fRevL (.d (.lst ds)) z = .ok (.d (.lst ds.reverse)) z := rfl
@[simp] theorem e_revO (i : Nat) (sl : List Sl) (st : List Cell) : fRevL (.own i) ⟨sl, st⟩ = match sl[i]? with
  | some (.own (.lst ds)) => .ok (.d (.lst ds.reverse)) ⟨sl, st⟩
  | some (.brw (.lst ds)) => .ok (.d (.lst ds.reverse)) ⟨sl, st⟩
  | _ => .bad := by
  unfold fRevL Z.cont
  dsimp only
  cases h : sl[i]? with
  | none => rfl
  | some s => cases s with
    | own c => cases c <;> rfl
    | brw c => cases c <;> rfl
    | _ => rfl
@[simp] theorem e_append (i : Nat) (d : D) (sl : List Sl) (st : List Cell) : fAppend (.own i) [.d d] ⟨sl, st⟩ = match sl[i]? with
  | some (.own (.lst ds)) => if ds.length < sizeLine then .ok (.d .non) ⟨sl.set i (.own (.lst (ds ++ [d]))), st⟩ else .bad
  | _ => .bad := by
  unfold fAppend Z.mut
  dsimp only [e_share, e_shareN, R.bind_ok]
  cases h : sl[i]? with
  | none => rfl
  | some s => cases s with
    | own c => cases c <;> rfl
    | _ => rfl
@[simp] theorem bools_nil : bools [] = some [] := rfl
@[simp] theorem bools_cons (b : Bool) (ds : List D) : bools (.bl b :: ds) = (bools ds).map (b :: ·) := rfl
@[simp] theorem bools_fn {α : Type} (f : α → Bool) (xs : List α) : bools (xs.map fun x => D.bl (f x)) = some (xs.map f) := by
  rw [← bools_map (xs.map f), List.map_map]
  rfl
theorem e_rg1 (j : Int) (z : Z) : fRange1 [.d (.int j)] z = if okRg j then .ok (rangeD 0 j.toNat) z else .bad := rfl
theorem e_rg2 (i j : Int) (z : Z) : fRange2 [.d (.int i), .d (.int j)] z = if okRg i && okRg j then .ok (rangeD i (j - i).toNat) z else .bad := rfl
@[simp] theorem e_zipL (ds es : List D) (z : Z) : fZip [.lst ds, .lst es] z = .ok (zipD ds es) z := rfl
@[simp] theorem e_zipT (ds es : List D) (z : Z) : fZip [.tup ds, .tup es] z = .ok (zipD ds es) z := rfl
/-! ### the names of except clauses -/
@[simp] theorem e_try (b : MS) (cs : List Cls) (z : Z) : sTry b cs z = match b z with
  | .err x z1 => tryGo x cs z1
  | r => r := rfl
@[simp] theorem e_try0 (x : Exn) (z : Z) : tryGo x [] z = .err x z := rfl
@[simp] theorem e_try1 (x : Exn) (c : Cls) (cs : List Cls) (z : Z) : tryGo x (c :: cs) z = match c.test x.cls with
    | some true => c.run x z
    | some false => tryGo x cs z
    | none => .bad := rfl
@[simp] theorem e_runN (t : Str → Option Bool) (i : Nat) (s : MS) (x : Exn) (sl : List Sl) (st : List Cell) : Cls.run ⟨t, some i, s⟩ x ⟨sl, st⟩ = if sl.all Sl.plain then (match s ⟨sl.set i (.exn x), st⟩ with
  | .nx z => Cls.fin ⟨t, some i, s⟩ .nx z
  | .bk z => Cls.fin ⟨t, some i, s⟩ .bk z
  | .ct z => Cls.fin ⟨t, some i, s⟩ .ct z
  | .rt d z => Cls.fin ⟨t, some i, s⟩ (.rt d) z
  | .err _ _ => .bad
  | .bad => .bad) else .bad := rfl
@[simp] theorem e_finN (t : Str → Option Bool) (i : Nat) (s : MS) (k : Z → RS) (sl : List Sl) (st : List Cell) : Cls.fin ⟨t, some i, s⟩ k ⟨sl, st⟩ = if (sl.set i .un).all Sl.plain then k ⟨sl.set i .un, st⟩ else .bad := rfl
@[simp] theorem plain_val (d : D) : Sl.plain (.val d) = true := rfl
@[simp] theorem plain_un : Sl.plain .un = true := rfl
@[simp] theorem plain_own (c : Cell) : Sl.plain (.own c) = true := rfl
@[simp] theorem plain_brw (c : Cell) : Sl.plain (.brw c) = true := rfl
@[simp] theorem e_raise (x : Str) (fn : List Str) (ms : M (List D)) (z : Z) : sRaise x fn ms z = match ms z with
  | .ok ds z1 => if ds.length = fn.length then .err ⟨x, mkF fn ds⟩ z1 else .bad
  | .err x z1 => .err x z1
  | .bad => .bad := rfl
@[simp] theorem e_callK (n kn : Nat) (m : MF) (ws wk : M (List W)) (z : Z) : mCallK n kn m ws wk z = (ws z).bind fun xs z1 => (wk z1).bind fun ys z2 => if ys.length = kn then callF n m (xs ++ ys) z2 else .bad := rfl
@[simp] theorem e_callX (n : Nat) (m : MF) (ws : M (List W)) (z : Z) : mCallX n m ws z = (ws z).bind fun xs z1 => callX n m xs z1 := rfl
@[simp] theorem e_exF (f : Str) (i : Nat) (sl : List Sl) (st : List Cell) : fExF f (.own i) ⟨sl, st⟩ = match sl[i]? with
  | some (.exn x) => (match x.fs.lookup f with
    | some d => .ok (.d d) ⟨sl, st⟩
    | none => .bad)
  | _ => .bad := by
  unfold fExF flat
  cases h : sl[i]? with
  | none => simp [h]
  | some s => cases s with
    | exn x =>
      (simp only [h]) <;> (cases x.fs.lookup f <;> rfl)
    | _ => simp [h]
@[simp] theorem e_isE (tbl : Str → Option Bool) (i : Nat) (sl : List Sl) (st : List Cell) : fIsE tbl (.own i) ⟨sl, st⟩ = match sl[i]? with
  | some (.exn x) => (match tbl x.cls with
    | some b => .ok (.d (.bl b)) ⟨sl, st⟩
    | none => .bad)
  | _ => .bad := by
  unfold fIsE flat
  cases h : sl[i]? with
  | none => simp [h]
  | some s => cases s with
    | exn x =>
      simp only [h]
      cases tbl x.cls <;> rfl
    | _ => simp [h]
end DL
set_option Elab.async false
set_option linter.all false
set_option maxRecDepth 100000
set_option maxHeartbeats 2000000
namespace DL
open PySem PySem.Spec L2 PyProof.Rows PySem.Calls
/-! ### the ends -/
section
variable {P : Program} {w : World} {K : Fr} {mg : Str → Option Value} {h : Heap} {C : Cl} {H : Hp}
theorem df_mk {x : Str} {st : Stmt} {ps : List Str} {f : Addr} {oc : Value} {od an : Option Addr} {osl : Array (Option Value)} {kV doc pm cdv ct : Value} (X : K.In h) (G : h.Ns mainGlobals mg)
    (hb : ∀ (kV doc pm : Value) (an : Option Addr) (cdv ct : Value) (us : List Value), us.length = ps.length → bindArgs (PySem.W.fnOf x x (defArgs st) (defBody st) (defScope st) .none kV doc pm an cdv ct) ⟨us, []⟩ = pure (ps.zip us))
    (a : PySem.W.nsIn K mainGlobals x = some (some (.ref f)))
    (l : K.lookup f = some ⟨oc, od, .func (PySem.W.fnOf x x (defArgs st) (defBody st) (defScope st) .none kV doc pm an cdv ct), osl⟩) (c : PySem.W.codeIn K cdv x = true) (k : PySem.W.keepIn K (.ref f) = true) : Df K mg x st ps :=
  ⟨f, _, fun_mk l c k, PySem.W.mg_of X G a, k, (fun_mk l c k).binds hb⟩
theorem immL_ints (K : Fr) (C : Cl) (L : List Addr) (E : Addr → Prop) (H : Hp) : ∀ ns : List Int, ImmL K C L E H (ns.map V.int) (ns.map D.int)
  | [] => by simp [ImmL]
  | n :: ns => by
    have := immL_ints K C L E H ns
    simp [ImmL, Imm, this]
/-- a law's promise, from what it means -/
theorem sp_law {m : MF} {a : Addr} {ns : List Int} (tb : LamX.Tabs C.T H) (hS : SqL K H a (ns.map V.int)) (hm : ∃ S, m [.val (.lst (ns.map .int))] [] = .ok (.bl true) S) : spD K C none 1 m [.ref a] H (fun v _ => v = .bl true) (fun _ _ _ => False) := by
  obtain ⟨S, e⟩ := hm
  refine ⟨[], fun _ => False, [], [.val (.lst (ns.map .int))], rfl, rfl, ?_, ⟨fun a h => h.elim, tb⟩, ?_, ?_⟩
  · exact ⟨rfl, List.nodup_nil, (fun a h => by cases h), (fun n a c h h' => by cases h)⟩
  · refine ⟨?_, trivial⟩
    simp only [Imm]
    exact ⟨a, ns.map .int, rfl, hS.elim (fun h => .inl ⟨fun z => z, h⟩) .inr, immL_ints _ _ _ _ _ ns⟩
  · rw [e]
    intro v H' L' _ hv
    simpa only [Imm] using hv
theorem cx_false {CXw : CXT} (hc : CXw = L2N.CX P w) {H : Hp} {s : Shared} {e : Value} {s' : Shared} (h : CXw [] H s (fun _ _ _ => False) e s') : False := by
  subst hc
  obtain ⟨_, _, _, _, _, _, _, _, _, _, _, _, z⟩ := h
  exact z.elim
/-- the law's call, from what its text means -/
theorem walk_D {l : PySem.W.OpenLaw} {n k : Nat} {q : Program} {loose : List Str} {XP : (Str → Option Value) → Heap → Prop} {YP : World → Heap → Prop} {d : DefRec} {Kw : Params → Fr} {x : Str} {st : Stmt}
    (hn : l.most = some n) (hn2 : n ≤ sizeLine) (hdf : d.params.defaults = []) (hr : Room k callerA) (hY : ∀ (w : World) (h : Heap), YP w h → (Kw w.params).In h)
    (hbd : ∀ (kV doc pm : Value) (an : Option Addr) (cdv ct u : Value), bindArgs (PySem.W.fnOf d.name d.name (defArgs st) (defBody st) (defScope st) .none kV doc pm an cdv ct) ⟨[u], []⟩ = pure [(x, u)])
    (F : ∀ (w : World) (mg : Str → Option Value) (h : Heap), (Kw w.params).In h → h.Ns mainGlobals mg → XP mg h →
      ∃ (C : Cl) (m : MF), C.T = [] ∧ (∀ base : Heap, FX l.prog w (Kw w.params) mg base C k d.name st [x] m) ∧ ∀ ns : List Int, ∃ S, m [.val (.lst (ns.map .int))] [] = .ok (.bl true) S) :
    PySem.W.WalkO q loose XP YP l.row.toRowW d [] (fun f vs => PySem.call f vs) := by
  refine Att.attach_call hn hdf ?_
  intro w s₀ s₁ mg mb fa o pm cd doc a vs ns G Y ho hd hcd hmg hobj hints hlen hg
  have KX := hY w _ Y
  obtain ⟨C, m, hT, hF, hm⟩ := F w mg _ KX G.T.g G.X
  obtain ⟨f, fd, hfun, _, hmf, _, _⟩ := hF s₁.heap
  obtain rfl : fa = f := by
    have e := hmg.symm.trans hmf
    cases e
    rfl
  obtain ⟨oc, od, kV, doc', pm', an, cdv, ct, osl, hfd, hlk, hco⟩ := hfun.ex
  refine law_call (x := x) (fd := fd) (CX := L2N.CX l.prog w) (sp := spD (Kw w.params) C none 1 m) KX G.T.g G.T.b G.T.builtins G.T.nolimit hg hobj hints (Nat.le_trans hlen hn2) hr (fun base _ _ => ?_) (fun s u => ?_) (fun H _ hS => sp_law (by rw [hT]; exact fun p hp => by cases hp) hS (hm ns)) (fun H e s' z => cx_false rfl z)
  · obtain ⟨f2, fd2, hfun2, ok2, hmf2, _, _⟩ := hF base
    obtain rfl : fa = f2 := by
      have e := hmg.symm.trans hmf2
      cases e
      rfl
    obtain ⟨oc2, od2, kV2, doc2, pm2, an2, cdv2, ct2, osl2, hfd2, hlk2, hco2⟩ := hfun2.ex
    have e := hlk.symm.trans hlk2
    injection e with e
    injection e with _ _ e _
    injection e with e
    subst e
    exact ok2
  · rw [hfd]
    exact .of_eq (hbd ..)
/-- .. with tables of code objects: cs tells the code objects and their tables, T their names -/
theorem walk_DT {l : PySem.W.OpenLaw} {n k : Nat} {q : Program} {loose : List Str} {XP : (Str → Option Value) → Heap → Prop} {YP : World → Heap → Prop} {d : DefRec} {Kw : Params → Fr} {x : Str} {st : Stmt}
    (hn : l.most = some n) (hn2 : n ≤ sizeLine) (hdf : d.params.defaults = []) (hr : Room k callerA) (hY : ∀ (w : World) (h : Heap), YP w h → (Kw w.params).In h)
    (hbd : ∀ (kV doc pm : Value) (an : Option Addr) (cdv ct u : Value), bindArgs (PySem.W.fnOf d.name d.name (defArgs st) (defBody st) (defScope st) .none kV doc pm an cdv ct) ⟨[u], []⟩ = pure [(x, u)])
    (F : ∀ (w : World) (mg : Str → Option Value) (h : Heap), YP w h → (Kw w.params).In h → h.Ns mainGlobals mg → XP mg h →
      ∃ (C : Cl) (m : MF) (cs : List (Addr × Addr)), (∀ p ∈ cs, h.get? p.2 = some { cls := .none, data := .fields #[] }) ∧ (∀ p ∈ cs, (Kw w.params).lookup p.2 = none) ∧ (∀ p ∈ cs, PySem.W.CodeHd h p.1 p.2) ∧ (∀ p ∈ C.T, ∃ c, (c, p.1) ∈ cs) ∧ Df (Kw w.params) mg d.name st [x] ∧
        (∀ base : Heap, (∀ p ∈ cs, LamX.TabB base mg p.1 p.2) → FX l.prog w (Kw w.params) mg base C k d.name st [x] m) ∧ ∀ ns : List Int, ∃ S, m [.val (.lst (ns.map .int))] [] = .ok (.bl true) S) :
    PySem.W.WalkO q loose XP YP l.row.toRowW d [] (fun f vs => PySem.call f vs) := by
  refine Att.attach_call hn hdf ?_
  intro w s₀ s₁ mg mb fa o pm cd doc a vs ns G Y ho hd hcd hmg hobj hints hlen hg
  have KX := hY w _ Y
  obtain ⟨C, m, cs, h1, h2, h3, h4, hD, hF, hm⟩ := F w mg _ Y KX G.T.g G.X
  obtain ⟨f, fd, hfun, hmf, _, _⟩ := hD
  obtain rfl : fa = f := by
    have e := hmg.symm.trans hmf
    cases e
    rfl
  obtain ⟨oc, od, kV, doc', pm', an, cdv, ct, osl, hfd, hlk, hco⟩ := hfun.ex
  refine LamX.law_callTs (x := x) (fd := fd) (CX := L2N.CX l.prog w) (sp := spD (Kw w.params) C none 1 m) (cs := cs) KX G.T.g G.T.b G.T.builtins G.T.nolimit hg h1 h2 h3 G.T.bmain hobj hints (Nat.le_trans hlen hn2) hr (fun base _ _ tb => ?_) (fun s u => ?_)
    (fun H hH hS => sp_law (fun p hp => ?_) hS (hm ns)) (fun H e s' z => cx_false rfl z)
  · obtain ⟨f2, fd2, hfun2, ok2, hmf2, _, _⟩ := hF base tb
    obtain rfl : fa = f2 := by
      have e := hmg.symm.trans hmf2
      cases e
      rfl
    obtain ⟨oc2, od2, kV2, doc2, pm2, an2, cdv2, ct2, osl2, hfd2, hlk2, hco2⟩ := hfun2.ex
    have e := hlk.symm.trans hlk2
    injection e with e
    injection e with _ _ e _
    injection e with e
    subst e
    exact ok2
  · rw [hfd]
    exact .of_eq (hbd ..)
  · obtain ⟨c, hc⟩ := h4 p hp
    exact LamX.TabS.nil (hH _ hc)
end
end DL
set_option Elab.async false
set_option linter.all false
set_option maxRecDepth 100000
set_option maxHeartbeats 2000000
namespace DL
open PySem PySem.Spec L2 PyProof.Rows PySem.Calls
/-- what the text's top has of an own exception -/
structure ExM (P : Program) (K : Fr) (mg : Str → Option Value) (x : Str) (A : Addr) (fn : List Str) : Prop where
  xd : ∀ (w : World) (base : Heap) (C : Cl), C x = some A → XD P w K mg base C 1 x fn
  xc : XcK K A
  mA : mg x = some (.ref A)
section
variable {P : Program} {K : Fr} {mg : Str → Option Value} {h : Heap} {x f1 tx me v1 nm q name qual : Str} {A N fI cda cc : Addr} {bs bm : List Value} {sn : List Str} {sub : List Value} {ab : Bool} {col : Option Bool} {dd od cd cd' an : Option Addr} {k0 k1 k2 k3 k5 : Option Value}
  {oc dV kV doc pm ct cl cl' : Value} {osl cs cs' : Array (Option Value)} {vs : Array Value} {file : Str} {tf : Tok} {params : Arguments} {scope : Scope} {cdD : ClassData} {p0 p1 p2 p3 p4 p5 a1 a2 a3 a4 : Pos} {jj : Nat}
theorem exm_mk1 {b newId initId : String} {tl : List Value} (Z : BaseX b newId initId tl) (X : K.In h) (G : h.Ns mainGlobals mg)
    (aX : PySem.W.nsIn K mainGlobals x = some (some (.ref A)))
    (xL : K.lookup A = some (excClassObj nm q A N bs bm true sn sub ab col dd k0 k1 k2 k3 k5 newId))
    (iC : PySem.W.findIn K (.ref A) "__init__" = some (some (.ref fI)))
    (lk : K.lookup fI = some ⟨oc, od, .func (PySem.W.ksFn name qual params (.Expr (.Call (.Attribute (.Call (.Name "super" p0) [] [] p1) "__init__" p2) [.Constant (.str tx) jj p3] [] p4) p5 :: [.Assign [.Attribute (.Name me a1) f1 a2] (.Name v1 a3) a4]) scope dV kV doc pm an (.ref cda) ct cc), osl⟩)
    (lc : K.lookup cda = some ⟨cl, cd, .fields vs, cs⟩)
    (lcc : K.lookup cc = some ⟨cl', cd', .cell (some (.ref A)), cs'⟩)
    (hbm : ownTl tl bm = true)
    (sa : PySem.W.findIn K (.ref A) "__setattr__" = some (some (.builtin "object.__setattr__")))
    (exC : PySem.W.subIn K (.ref A) (.type "BaseException") = some true) (tyC : PySem.W.typeIn K (.ref A) = some (.type "type")) (kC : PySem.W.keepIn K (.ref A) = true)
    (tI : PySem.W.typeIn K (.ref fI) = some (.type "function")) (hcd : PySem.W.codeIn K (.ref cda) qual = true)
    (v2 : vs[2]? = some (.str file tf)) (hfile : ((P.main.file : Str) == file) = true) (top : (P.main.scope.names.lookup ("super" : Str)).isSome = false)
    (lcls : PySem.W.clsIn K A = some cdD) (mro : PySem.W.mroIn K A (.ref A) = some true) (sup : PySem.W.ks_superIn K A A "__init__" = some (some (.builtin initId)))
    (isB : PySem.W.subIn K (.ref A) (.type b) = some true) (opq : PySem.W.nsIn K cStatics "thirdparty.any" = some none) (sup0 : PySem.W.nsIn K mainGlobals "super" = some none)
    (n1 : PySem.W.findIn K (.ref A) f1 = some none)
    (hcl : PySem.W.isClsIn K A = true) (ga : PySem.W.findIn K (.ref A) "__getattribute__" = some (some (.builtin "BaseException.__getattribute__"))) (gg : PySem.W.findIn K (.ref A) "__getattr__" = some none)
    (hdC : PySem.W.hasDictIn K A = true) (ha : PySem.W.findIn K (.ref A) "__class__" = some (some (.builtin "object.__class__")))
    (hn : PySem.W.specialIn K (.builtin "object.__class__") "__get__" = some (some (.builtin "getset_descriptor.__get__"))) (ht : PySem.W.takesIn K (.builtin "object.__class__") = some true) (hm : PySem.W.mroIn K A (.type "object") = some true)
    (hev : ∀ env : Env, eval (.Call (.Attribute (.Call (.Name "super" p0) [] [] p1) "__init__" p2) [.Constant (.str tx) jj p3] [] p4) env = (do
      let ov ← attributeBase (.Call (.Name "super" p0) [] [] p1) "__init__" env (eval (.Call (.Name "super" p0) [] [] p1) env)
      standAt p2.atName
      let (f, first) ← holding [ov] (getMethod ov "__init__" (do return (← importBound (.Call (.Name "super" p0) [] [] p1) env).getD true))
      callWith p4 f first (backTo p4 (starEach [.Constant (.str tx) jj p3] env)) []))
    (S : InitScope [me, v1] scope) (hp : [me, v1].all PlainN = true)
    (hpar : ∃ ar, (params.posonlyargs ++ params.args).head? = some ar ∧ ar.arg = me)
    (ks : scope.names.lookup ("super" : Str) = some .globalImplicit) (kc : scope.names.lookup ("__class__" : Str) = some .free) (km : scope.names.lookup me = some .local)
    (hb : ∀ us : List Value, us.length = 2 → bindArgs (PySem.W.ksFn name qual params (.Expr (.Call (.Attribute (.Call (.Name "super" p0) [] [] p1) "__init__" p2) [.Constant (.str tx) jj p3] [] p4) p5 :: [.Assign [.Attribute (.Name me a1) f1 a2] (.Name v1 a3) a4]) scope dV kV doc pm an (.ref cda) ct cc) ⟨us, []⟩ = pure ([me, v1].zip us))
    (hdb : (x == ("__debug__" : Str)) = false) : ExM P K mg x A [f1] := by
  have O : OexB newId tl K A := ⟨⟨nm, q, N, bs, bm, sn, sub, ab, col, dd, k0, k1, k2, k3, k5, xL, hbm⟩, sa, exC, tyC, kC⟩
  have mA := PySem.W.mg_of X G aX
  refine ⟨fun w base C cA => ?_, ⟨hcl, ga, gg, exC, hdC, ha, hn, ht, hm⟩, mA⟩
  have T : SupK b initId P K mg A A fI cda cc (PySem.W.ksFn name qual params (.Expr (.Call (.Attribute (.Call (.Name "super" p0) [] [] p1) "__init__" p2) [.Constant (.str tx) jj p3] [] p4) p5 :: [.Assign [.Attribute (.Name me a1) f1 a2] (.Name v1 a3) a4]) scope dV kV doc pm an (.ref cda) ct cc) me scope :=
    { fn := ⟨_, _, _, lk⟩, par := hpar, code := ⟨_, _, _, _, _, _, lc, v2, hfile⟩, top := top, cell := ⟨_, _, _, lcc⟩, cls := ⟨_, lcls⟩, sub := mro, sup := sup, isB := isB, opq := opq, mgs := PySem.W.mg_none_of X G sup0, ks := ks, kc := kc, km := km }
  exact xd_VE Z cA mA O iC tI (init1 (k := 0) Z hev lk hcd S O T n1 hp) (.all hb) (Nat.le_trans (Nat.le_refl 1) (by decide)) hdb
theorem exm_mk2 {f2 v2 : Str} {b1 b2 b3 b4 : Pos} {b newId initId : String} {tl : List Value} (Z : BaseX b newId initId tl) (X : K.In h) (G : h.Ns mainGlobals mg)
    (aX : PySem.W.nsIn K mainGlobals x = some (some (.ref A)))
    (xL : K.lookup A = some (excClassObj nm q A N bs bm true sn sub ab col dd k0 k1 k2 k3 k5 newId))
    (iC : PySem.W.findIn K (.ref A) "__init__" = some (some (.ref fI)))
    (lk : K.lookup fI = some ⟨oc, od, .func (PySem.W.ksFn name qual params (.Expr (.Call (.Attribute (.Call (.Name "super" p0) [] [] p1) "__init__" p2) [.Constant (.str tx) jj p3] [] p4) p5 :: [.Assign [.Attribute (.Name me a1) f1 a2] (.Name v1 a3) a4, .Assign [.Attribute (.Name me b1) f2 b2] (.Name v2 b3) b4]) scope dV kV doc pm an (.ref cda) ct cc), osl⟩)
    (lc : K.lookup cda = some ⟨cl, cd, .fields vs, cs⟩)
    (lcc : K.lookup cc = some ⟨cl', cd', .cell (some (.ref A)), cs'⟩)
    (hbm : ownTl tl bm = true)
    (sa : PySem.W.findIn K (.ref A) "__setattr__" = some (some (.builtin "object.__setattr__")))
    (exC : PySem.W.subIn K (.ref A) (.type "BaseException") = some true) (tyC : PySem.W.typeIn K (.ref A) = some (.type "type")) (kC : PySem.W.keepIn K (.ref A) = true)
    (tI : PySem.W.typeIn K (.ref fI) = some (.type "function")) (hcd : PySem.W.codeIn K (.ref cda) qual = true)
    (vv2 : vs[2]? = some (.str file tf)) (hfile : ((P.main.file : Str) == file) = true) (top : (P.main.scope.names.lookup ("super" : Str)).isSome = false)
    (lcls : PySem.W.clsIn K A = some cdD) (mro : PySem.W.mroIn K A (.ref A) = some true) (sup : PySem.W.ks_superIn K A A "__init__" = some (some (.builtin initId)))
    (isB : PySem.W.subIn K (.ref A) (.type b) = some true) (opq : PySem.W.nsIn K cStatics "thirdparty.any" = some none) (sup0 : PySem.W.nsIn K mainGlobals "super" = some none)
    (n1 : PySem.W.findIn K (.ref A) f1 = some none) (n2 : PySem.W.findIn K (.ref A) f2 = some none)
    (hcl : PySem.W.isClsIn K A = true) (ga : PySem.W.findIn K (.ref A) "__getattribute__" = some (some (.builtin "BaseException.__getattribute__"))) (gg : PySem.W.findIn K (.ref A) "__getattr__" = some none)
    (hdC : PySem.W.hasDictIn K A = true) (ha : PySem.W.findIn K (.ref A) "__class__" = some (some (.builtin "object.__class__")))
    (hn : PySem.W.specialIn K (.builtin "object.__class__") "__get__" = some (some (.builtin "getset_descriptor.__get__"))) (ht : PySem.W.takesIn K (.builtin "object.__class__") = some true) (hm : PySem.W.mroIn K A (.type "object") = some true)
    (hev : ∀ env : Env, eval (.Call (.Attribute (.Call (.Name "super" p0) [] [] p1) "__init__" p2) [.Constant (.str tx) jj p3] [] p4) env = (do
      let ov ← attributeBase (.Call (.Name "super" p0) [] [] p1) "__init__" env (eval (.Call (.Name "super" p0) [] [] p1) env)
      standAt p2.atName
      let (f, first) ← holding [ov] (getMethod ov "__init__" (do return (← importBound (.Call (.Name "super" p0) [] [] p1) env).getD true))
      callWith p4 f first (backTo p4 (starEach [.Constant (.str tx) jj p3] env)) []))
    (S : InitScope [me, v1, v2] scope) (hp : [me, v1, v2].all PlainN = true)
    (hpar : ∃ ar, (params.posonlyargs ++ params.args).head? = some ar ∧ ar.arg = me)
    (ks : scope.names.lookup ("super" : Str) = some .globalImplicit) (kc : scope.names.lookup ("__class__" : Str) = some .free) (km : scope.names.lookup me = some .local)
    (hb : ∀ us : List Value, us.length = 3 → bindArgs (PySem.W.ksFn name qual params (.Expr (.Call (.Attribute (.Call (.Name "super" p0) [] [] p1) "__init__" p2) [.Constant (.str tx) jj p3] [] p4) p5 :: [.Assign [.Attribute (.Name me a1) f1 a2] (.Name v1 a3) a4, .Assign [.Attribute (.Name me b1) f2 b2] (.Name v2 b3) b4]) scope dV kV doc pm an (.ref cda) ct cc) ⟨us, []⟩ = pure ([me, v1, v2].zip us))
    (hdb : (x == ("__debug__" : Str)) = false) : ExM P K mg x A [f1, f2] := by
  have O : OexB newId tl K A := ⟨⟨nm, q, N, bs, bm, sn, sub, ab, col, dd, k0, k1, k2, k3, k5, xL, hbm⟩, sa, exC, tyC, kC⟩
  have mA := PySem.W.mg_of X G aX
  refine ⟨fun w base C cA => ?_, ⟨hcl, ga, gg, exC, hdC, ha, hn, ht, hm⟩, mA⟩
  have T : SupK b initId P K mg A A fI cda cc (PySem.W.ksFn name qual params (.Expr (.Call (.Attribute (.Call (.Name "super" p0) [] [] p1) "__init__" p2) [.Constant (.str tx) jj p3] [] p4) p5 :: [.Assign [.Attribute (.Name me a1) f1 a2] (.Name v1 a3) a4, .Assign [.Attribute (.Name me b1) f2 b2] (.Name v2 b3) b4]) scope dV kV doc pm an (.ref cda) ct cc) me scope :=
    { fn := ⟨_, _, _, lk⟩, par := hpar, code := ⟨_, _, _, _, _, _, lc, vv2, hfile⟩, top := top, cell := ⟨_, _, _, lcc⟩, cls := ⟨_, lcls⟩, sub := mro, sup := sup, isB := isB, opq := opq, mgs := PySem.W.mg_none_of X G sup0, ks := ks, kc := kc, km := km }
  exact xd_VE Z cA mA O iC tI (init2 (k := 0) Z hev lk hcd S O T n1 n2 hp) (.all hb) (Nat.le_trans (Nat.le_refl 2) (by decide)) hdb
/-- of which classes an own exception is -/
theorem kx_ref {c D : Addr} {b : Bool} (hb : PySem.W.subIn K (.ref D) (.type "BaseException") = some true) (hcl : PySem.W.isClsIn K D = true) (hty : PySem.W.typeIn K (.ref D) = some (.type "type"))
    (hs : PySem.W.subIn K (.ref c) (.ref D) = some b) (hne : b = true ∨ ((Value.ref c == Value.ref D) = true) = False) : PySem.W.kitOne K (.ref c) (.ref D) = some b ∧ PySem.W.exmOne K (.ref c) (.ref D) = some b := by
  have e2 : ((PySem.W.clsIn K D).isSome && PySem.W.typeIn K (.ref D) == some (.type "type")) = true := by
    have h2 : (PySem.W.clsIn K D).isSome = true := hcl
    rw [h2, hty]
    rfl
  have ec : PySem.W.kitCls K (.ref c) (.ref D) = some b := by
    unfold PySem.W.kitCls
    dsimp only
    rw [if_pos e2]
    exact hs
  constructor
  · unfold PySem.W.kitOne
    rcases hne with rfl | hne
    · split
      · rfl
      · exact ec
    · rw [if_neg (by rw [hne]; exact id)]
      exact ec
  · unfold PySem.W.exmOne
    rw [hb]
    exact ec
theorem kx_type {c : Addr} {T : String} {b : Bool} (hk : PySem.W.kitMeta T = true) (hb : PySem.W.subIn K (.type T) (.type "BaseException") = some true)
    (hs : PySem.W.subIn K (.ref c) (.type T) = some b) (hne : ((Value.ref c == Value.type T) = true) = False) : PySem.W.kitOne K (.ref c) (.type T) = some b ∧ PySem.W.exmOne K (.ref c) (.type T) = some b := by
  have ec : PySem.W.kitCls K (.ref c) (.type T) = some b := by
    unfold PySem.W.kitCls
    dsimp only
    rw [if_pos hk]
    exact hs
  constructor
  · unfold PySem.W.kitOne
    rw [if_neg (by rw [hne]; exact id)]
    exact ec
  · unfold PySem.W.exmOne
    rw [hb]
    exact ec
theorem glob_str {y s s' : Str} {t : Tok} (X : K.In h) (G : h.Ns mainGlobals mg) (a : PySem.W.nsIn K mainGlobals y = some (some (.str s t))) (e : s = s') : ∃ t, mg y = some (.str s' t) := ⟨t, by rw [← e]; exact PySem.W.mg_of X G a⟩
theorem loose_int {q : Program} {lv : List (Str × PySem.W.WData)} {y : Str} {i : Int} (Z : PySem.W.XL q lv mg h) (hm : (y, PySem.W.WData.int i) ∈ lv) : ∃ t, mg y = some (.int i t) := by
  obtain ⟨v, h1, h2⟩ := Z.2.val _ hm
  cases h2 with
  | int i t => exact ⟨t, h1⟩
theorem loose_str {q : Program} {lv : List (Str × PySem.W.WData)} {y : Str} {i : Str} (Z : PySem.W.XL q lv mg h) (hm : (y, PySem.W.WData.str i) ∈ lv) : ∃ t, mg y = some (.str i t) := by
  obtain ⟨v, h1, h2⟩ := Z.2.val _ hm
  cases h2 with
  | str i t => exact ⟨t, h1⟩
end
theorem isx_of {o : Option Bool} {b : Bool} {Q : Bool → Prop} (e : o = some b) (q : Q b) : ∀ b', o = some b' → Q b' := by
  intro b' h
  rw [e] at h
  cases h
  exact q
end DL
set_option Elab.async false
set_option linter.all false
set_option maxRecDepth 100000
set_option maxHeartbeats 2000000
namespace DL
open PySem PySem.Spec L2 PyProof.Rows PySem.Calls
/-! ### fields of instances -/
def fFld (cs : List Str) (f : Str) (x : W) : M W := fun z => flat (match z.cont x with
  | some (.ins c fs) => if cs.contains c then fs.lookup f else none
  | _ => none) z
/-- the classes whose own objects have plain fields f -/
def FldOk (K : Fr) (C : Cl) (cs : List Str) (f : Str) : Prop := ∀ c A, C c = some A → cs.contains c = true → L2.Cls K A ∧ NoAttr K A f
def putFD (f : Str) (d : D) : List (Str × D) → List (Str × D)
  | [] => [(f, d)]
  | (g, x) :: r => if g = f then (g, d) :: r else (g, x) :: putFD f d r
theorem immF_put {K : Fr} {C : Cl} {L : List Addr} {Ee : Addr → Prop} {H : Hp} {f : Str} {v : V} {d : D} (hv : Imm K C L Ee H v d) : ∀ {vs : List (Str × V)} {fs : List (Str × D)}, ImmF K C L Ee H vs fs → ImmF K C L Ee H (putF f v vs) (putFD f d fs)
  | [], [], _ => by simp only [putF, putFD, ImmF]; exact ⟨trivial, hv, trivial⟩
  | (g', y) :: vs, (g, x) :: fs, h => by
    simp only [ImmF] at h
    obtain ⟨h1, h2, h3⟩ := h
    have h1' : g' = g := h1
    subst h1'
    unfold putF putFD
    by_cases e : g' = f
    · rw [if_pos e, if_pos e]
      simp only [ImmF]
      exact ⟨trivial, hv, h3⟩
    · rw [if_neg e, if_neg e]
      simp only [ImmF]
      exact ⟨trivial, h2, immF_put hv h3⟩
  | [], _ :: _, h => by simp only [ImmF] at h
  | _ :: _, [], h => by simp only [ImmF] at h
theorem immF_len {K : Fr} {C : Cl} {L : List Addr} {Ee : Addr → Prop} {H : Hp} : ∀ {vs : List (Str × V)} {fs : List (Str × D)}, ImmF K C L Ee H vs fs → vs.length = fs.length
  | [], [], _ => rfl
  | _ :: vs, (_, _) :: fs, h => by
    simp only [ImmF] at h
    simp only [List.length_cons, immF_len h.2.2]
  | [], _ :: _, h => by simp only [ImmF] at h
  | _ :: _, [], h => by simp only [ImmF] at h
theorem immF_none {K : Fr} {C : Cl} {L : List Addr} {Ee : Addr → Prop} {H : Hp} {f : Str} : ∀ {vs : List (Str × V)} {fs : List (Str × D)}, ImmF K C L Ee H vs fs → fs.lookup f = none → vs.lookup f = none
  | [], [], _, _ => rfl
  | v :: vs, (j, x) :: fs, h, e => by
    simp only [ImmF] at h
    obtain ⟨h1, h2, h3⟩ := h
    subst h1
    by_cases q : f = v.1
    · subst q
      rw [List.lookup_cons_self] at e
      cases e
    · have q' : (f == v.1) = false := by simpa using q
      rw [List.lookup_cons, q'] at e
      rw [List.lookup_cons, q']
      exact immF_none h3 e
  | [], _ :: _, h, _ => by simp only [ImmF] at h
  | _ :: _, [], h, _ => by simp only [ImmF] at h
section
variable {X : Cx} {B : Bs} {E : WX} {e o value : Expr} {pos pos' tpos : Pos} {m mo : M W} {md : M D} {z z' : Z} {σ σ' : L2.St} {H H' : Hp} {L L' : List Addr} {f : Str} {cs : List Str}
theorem d_fld (P : Pl X B E) (hT : FldOk X.K B.C cs f) (he : PED X B E e m) (hb : attributeBase e f X.env (eval e X.env) = eval e X.env := by rfl) : PED X B E (.Attribute e f pos) (mBind m (fFld cs f)) := by
  obtain ⟨t, p, s⟩ := he
  refine ⟨_, pe_fld p hb, fun z σ H L Q R h => ?_⟩
  refine s z σ H L _ R (AftE.bind h fun x z1 v H1 L1 R1 g1 hv k1 => ?_)
  obtain ⟨d, ed, hq⟩ := flat_of R1 k1
  split at ed
  · rename_i c fs ec
    split at ed
    · rename_i hc
      obtain ⟨a, rfl, A, dx, vs, hA, hH, im⟩ := R1.read hv ec
      obtain ⟨v', hl, hi⟩ := immF_lookup im ed
      exact ⟨a, A, dx, vs, v', rfl, hH, (hT c A hA hc).1, (hT c A hA hc).2, hl, hq _ hi⟩
    · cases ed
  · cases ed
/-! o.f = e -/
def setFld (cs : List Str) (f : Str) (z : Z) (o : W) (d : D) : Option Z := match z.mut o with
  | some (.ins c fs) => if cs.contains c && decide (fs.length < 1000) then some (z.put o (.ins c (putFD f d fs))) else none
  | _ => none
def sFldD (md : M D) (mo : M W) (cs : List Str) (f : Str) : MS := fun z => (md z).bindS fun d z1 => (mo z1).bindS fun o z2 => match setFld cs f z2 o d with
  | some z3 => .nx z3
  | none => .bad
theorem dss_fld (P : Pl X B E) (hT : FldOk X.K B.C cs f) (hv : PXD X B E value md) (ho : PED X B E o mo) (hs : swapsWith value (some (.Attribute o f pos')) pos.line X.env = pure false := by rfl) :
    PSD X B E (.Assign [.Attribute o f pos'] value pos) (sFldD md mo cs f) := by
  obtain ⟨t1, p1, s1⟩ := hv
  obtain ⟨t2, p2, s2⟩ := ho
  refine ⟨_, ps_fld p2 p1 hs, fun z σ H L N R h => ?_⟩
  refine s1 z σ H L _ R (AftE.bindS h fun y z1 vy H1 L1 R1 g1 h1 k1 => ?_)
  refine s2 z1 σ H1 L1 _ R1 (AftE.bindS k1 fun x z2 vx H2 L2 R2 g2 h2 k2 => ?_)
  have hy := Imm.stay g2 _ _ h1
  generalize eq : setFld cs f z2 x y = oz at k2
  match oz, k2 with
  | some z3, k2 =>
    unfold setFld at eq
    split at eq
    · rename_i c fs ec
      split at eq
      · rename_i hc
        simp only [Bool.and_eq_true, decide_eq_true_eq] at hc
        cases eq
        obtain ⟨p, rfl, ⟨A, dx, vs, hA, hH, im⟩, ex, up⟩ := R2.write h2 ec
        have u := up (.ins c (putFD f y fs)) (.ins A dx (putF f vy vs)) ⟨A, dx, _, hA, upd_same, immF_put (Imm.stay (grow_upd ex) _ _ hy) (ImmF.stay (grow_upd ex) _ _ im)⟩
        exact ⟨p, A, dx, vs, rfl, hH, (hT c A hA hc.1).1, (hT c A hA hc.1).2, by rw [immF_len im]; exact hc.2, k2 _ _ _ u.1 u.2⟩
      · cases eq
    · cases eq
  | none, k2 => exact k2.elim
end
end DL
set_option Elab.async false
set_option linter.all false
set_option maxRecDepth 100000
set_option maxHeartbeats 2000000
namespace DL
open PySem PySem.Spec L2 PyProof.Rows PySem.Calls
/-! ### instances are made -/
/-- a class of the text whose __init__ means mi -/
structure MkD (P : Program) (w : World) (K : Fr) (mg : Str → Option Value) (base : Heap) (C : Cl) (k : Nat) (x : Str) (n : Nat) (mi : MF) : Prop where
  ex : ∃ A f fd ps, C x = some A ∧ mg x = some (.ref A) ∧ L2.Mk K A f ∧ FnOk P w K mg base (L2N.CX P w) k f fd ps (spD K C none (n + 1) mi) ∧ Binds K fd ps []
theorem MkD.mono {P : Program} {w : World} {K : Fr} {mg : Str → Option Value} {base : Heap} {C : Cl} {j k : Nat} {x : Str} {n : Nat} {mi : MF} (F : MkD P w K mg base C j x n mi) (h : j ≤ k) : MkD P w K mg base C k x n mi := by
  obtain ⟨A, f, fd, ps, h1, h2, h3, h4, h5⟩ := F
  exact ⟨A, f, fd, ps, h1, h2, h3, h4.mono h, h5⟩
def makeF (c : Str) (n : Nat) (mi : MF) (xs : List W) : M D := fun z => if xs.length = n then match toArgs z xs with
  | some as => match mi (.val (.obj z.st.length) :: as) (z.st ++ [.ins c []]) with
    | .ok .non S => .ok (.obj z.st.length) { z with st := S }
    | .err x S => .err x { z with st := S }
    | _ => .bad
  | none => .bad
  else .bad
def mMake (c : Str) (n : Nat) (mi : MF) (ws : M (List W)) : M D := fun z => (ws z).bind fun xs z1 => makeF c n mi xs z1
section
variable {X : Cx} {B : Bs} {E : WX} {e : Expr} {es : List Expr} {p pos : Pos} {ws : M (List W)} {z z' : Z} {σ σ' : L2.St} {H H' : Hp} {L L' : List Addr} {x : Str} {mi : MF} {k n : Nat}
theorem run_makeD {pins : List (Addr × Obj)} {A f : Addr} {fd : FuncData} {ps : List Str} {sp : Sp} {Ee : XK} {s : Shared} {Q : VK} {us : List Value} {vs : List V} {CX : CXT} (M : L2.Mk X.K A f) (F : FnOk X.prog X.w X.K X.mg X.base CX k f fd ps sp) (hr : Room (k + 1) X.A) (hb : Binds X.K fd ps [])
    (hx : PassesAt CX X σ Ee) (I : Inv X pins σ H s) (r : Vals vs us)
    (h : ∀ y dx, H y = none → H dx = none → dx ≠ y → sp (.ref y :: vs) (upd (upd H dx (.own y)) y (.ins A dx [])) (fun v H2 => v = .non ∧ Q (.ref y) H2) Ee) :
    wpAny (model X.prog X.w) X.A (call (.ref A) us) (EP X pins σ Q) X.xe s := by
  have hq := h (s.heap.objs.size + 1) s.heap.objs.size (I.hok.fresh (Nat.le_succ _)) (I.hok.fresh (Nat.le_refl _)) (Nat.ne_of_lt (Nat.lt_succ_self _))
  have I2 := Inv.made (C := A) I
  have r2 : Vals (V.ref (s.heap.objs.size + 1) :: vs) (Value.ref (s.heap.objs.size + 1) :: us) := .cons rfl r
  have hl : (Value.ref (s.heap.objs.size + 1) :: us ++ []).length = ps.length := by
    have e := r2.length
    rw [F.len _ _ _ _ hq] at e
    rw [List.append_nil]
    exact e.symm
  have hbind := hb _ (Value.ref (s.heap.objs.size + 1) :: us) I2.kIn hl
  rw [List.append_nil] at hbind
  refine wpAny_call (make_map (f := f) I.kIn M.makes M.init (beq_iff_eq.mp M.fn) (codeAny_mono (F.run _ X.stack _ _ ⟨Value.ref (s.heap.objs.size + 1) :: us, []⟩ (Value.ref (s.heap.objs.size + 1) :: us) _ _ Ee (hr.make A us [])
    (I2.env0.make A us []) hbind r2 hq) fun r s' hq' => ?_))
  cases r with
  | error e => exact hx pins _ _ e s' I2 hq'
  | ok fl =>
    cases fl with
    | ret u =>
      obtain ⟨v, H', I3, rv, ev, q3⟩ := I2.after hq'
      subst ev
      exact ⟨rv, ⟨V.ref (s.heap.objs.size + 1), H', I3, rfl, q3⟩⟩
    | next => exact hq'.elim
    | brk => exact hq'.elim
    | cont => exact hq'.elim
/-- a new instance's cell -/
theorem new_ins {A y dx : Addr} {c : Str} (R : Rel B z σ H L) (hA : B.C c = some A) (hy : H y = none) (hd : H dx = none) (ne : dx ≠ y) :
    Rel B { z with st := z.st ++ [.ins c []] } σ (upd (upd H dx (.own y)) y (.ins A dx [])) (L ++ [y]) ∧ G B z σ L H { z with st := z.st ++ [.ins c []] } σ (L ++ [y]) (upd (upd H dx (.own y)) y (.ins A dx [])) := by
  have R1 := R.upd_new (o := HO.own y) hd
  have hy1 : upd H dx (.own y) y = none := by rw [upd_ne (Ne.symm ne)]; exact hy
  have F : Fresh B z σ (upd (upd H dx (.own y)) y (.ins A dx [])) L y (.ins c []) :=
    ⟨R1.upd_new hy1, R1.lay hy1, ⟨A, dx, [], hA, upd_same, by simp only [ImmF]⟩, R1.h0 hy1, fun h => (R1.exd y (.inr (.inl h))).ne hy1, fun h => (R1.exd y h).ne hy1⟩
  obtain ⟨R2, exs⟩ := F.toCell
  refine ⟨R2, fun a o h n _ => ⟨?_, fun q => ((exs a).mp q).elim n fun q => ?_⟩, fun n a h => ?_, fun a h => ?_⟩
  · rw [upd_ne (ne_of_none h hy), upd_ne (ne_of_none h hd)]
    exact h
  · rw [q, hy] at h
    cases h
  · rw [List.getElem?_append_left (List.getElem?_eq_some_iff.mp h).1]
    exact h
  · by_cases e1 : a = y
    · rw [e1, upd_same]; intro q; cases q
    · rw [upd_ne e1]
      by_cases e2 : a = dx
      · rw [e2, upd_same]; intro q; cases q
      · rw [upd_ne e2]; exact h
theorem toArgs_st {S : List Cell} : ∀ {xs : List W} , toArgs { z with st := S } xs = toArgs z xs
  | [] => rfl
  | x :: xs => by
    unfold toArgs
    rw [toArgs_st (xs := xs)]
    cases x <;> rfl
theorem makeF_of {Q : VK} {vs : List V} {xs : List W} {A y dx : Addr} (R : Rel B z σ H L) (hv : vVs B σ z H L vs xs) (hA : B.C x = some A) (h : AftE B E (vD B σ) z σ H L Q (makeF x n mi xs z)) (hy : H y = none) (hd : H dx = none) (ne : dx ≠ y) :
    spD B.K B.C none (n + 1) mi (.ref y :: vs) (upd (upd H dx (.own y)) y (.ins A dx [])) (fun v H2 => v = .non ∧ Q (.ref y) H2) (WE E σ) := by
  unfold makeF at h
  split at h
  case isFalse => exact h.elim
  rename_i hn
  have hn' := hn
  rw [← hv.len] at hn
  obtain ⟨R2, g12⟩ := new_ins R hA hy hd ne
  generalize ea : toArgs z xs = o at h
  match o, h with
  | some as, h =>
    have ea' : toArgs { z with st := z.st ++ [.ins x []] } xs = some as := by rw [toArgs_st]; exact ea
    obtain ⟨ar, al⟩ := args_of (ex := none) R2 (vVs.stay g12 hv) ea'
    have hL : (L ++ [y])[z.st.length]? = some y := by
      rw [← R.st.len]
      simp
    refine ⟨L ++ [y], Ex B { z with st := z.st ++ [.ins x []] } σ (L ++ [y]), z.st ++ [.ins x []], .val (.obj z.st.length) :: as, by simp [hn], by simp [← al, hn], R2.st, ⟨R2.exd, R2.tab.ok⟩, ⟨by simp only [Imm]; exact ⟨y, rfl, hL⟩, ar⟩, ?_⟩
    dsimp only at h
    generalize mi (.val (.obj z.st.length) :: as) (z.st ++ [.ins x []]) = r at h ⊢
    match r, h with
    | .ok .non S, h =>
      intro v H' L' b q
      obtain ⟨R', g, exs, _⟩ := R2.behind b
      refine ⟨by simpa only [Imm] using q, ?_⟩
      refine h (.ref y) H' L' R' (g12.trans g) ?_
      show Imm B.K B.C L' _ H' (.ref y) (.obj z.st.length)
      simp only [Imm]
      exact ⟨y, rfl, b.pre _ _ hL⟩
    | .err e S, h =>
      intro cls dd H' L' b q
      obtain ⟨R', g, exs, bk⟩ := R2.behind b
      exact h cls dd H' L' R' (g12.trans g) (ExnRel.weak (fun a h => (exs a).mpr h) q)
    | .bad, h => exact h.elim
    | .ok (.bl _) _, h => exact h.elim
    | .ok (.int _) _, h => exact h.elim
    | .ok (.str _) _, h => exact h.elim
    | .ok (.lst _) _, h => exact h.elim
    | .ok (.tup _) _, h => exact h.elim
    | .ok (.obj _) _, h => exact h.elim
    | .ok (.dK _) _, h => exact h.elim
    | .ok (.dT _) _, h => exact h.elim
    | .ok (.ins _ _) _, h => exact h.elim
    | .ok (.con _) _, h => exact h.elim
  | none, h => dsimp only at h; exact h.elim
theorem d_make {C : Cl} (P : Pl X B E) (hC : B.C = C) (F : MkD X.prog X.w X.K X.mg X.base C k x n mi) (hr : Room (k + 1) X.A) (ha : PAD X B E (e :: es) ws) (hg : Gl X x := by rfl) (hdb : (x == ("__debug__" : Str)) = false := by decide)
    (he : starEach (e :: es) X.env = (false, eval e X.env) :: starEach es X.env := by rfl) (hpl : (backTo pos (starEach es X.env)).any (·.1) = false := by rfl) : PXD X B E (.Call (.Name x p) (e :: es) [] pos) (mMake x n mi ws) := by
  subst hC
  obtain ⟨A, f, fd, ps, h1, h2, h3, h4, h5⟩ := F
  obtain ⟨t, pa, sa⟩ := ha
  refine ⟨fun σ H Q => t σ H fun vs H1 => ∀ y dx, H1 y = none → H1 dx = none → dx ≠ y → spD X.K B.C none (n + 1) mi (.ref y :: vs) (upd (upd H1 dx (.own y)) y (.ins A dx [])) (fun v H2 => v = .non ∧ Q (.ref y) H2) (WE E σ), ⟨fun pins s σ H Q I h => ?_⟩, fun z σ H L Q R h => ?_⟩
  · refine wpAny_Call_Name_kw (ld_glob I hg h2 ?_ hdb)
    refine PySem.W.callWith_K (h₀ := X.base) I.ok.mod.kin h3.kp (thn (pa.run pos pins s σ H _ I h) fun us s1 hh => ?_) he hpl
    obtain ⟨vs, H1, I1, r, q⟩ := hh
    exact ⟨I1.kIn, run_makeD h3 h4 hr h5 (P.ps σ) I1 r q⟩
  · refine sa z σ H L _ R (AftE.bind h fun xs z1 vs H1 L1 R1 g1 hv k1 => ?_)
    intro y dx hy hd ne
    have k2 := makeF_of R1 hv h1 k1 hy hd ne
    rw [P.K] at k2
    exact k2
theorem d_make0 {C : Cl} (P : Pl X B E) (hC : B.C = C) (F : MkD X.prog X.w X.K X.mg X.base C k x n mi) (hr : Room (k + 1) X.A) (hg : Gl X x := by rfl) (hdb : (x == ("__debug__" : Str)) = false := by decide) : PXD X B E (.Call (.Name x p) [] [] pos) (mMake x n mi wNil) := by
  subst hC
  obtain ⟨A, f, fd, ps, h1, h2, h3, h4, h5⟩ := F
  refine ⟨fun σ H1 Q => ∀ y dx, H1 y = none → H1 dx = none → dx ≠ y → spD X.K B.C none (n + 1) mi [.ref y] (upd (upd H1 dx (.own y)) y (.ins A dx [])) (fun v H2 => v = .non ∧ Q (.ref y) H2) (WE E σ), ⟨fun pins s σ H Q I h => ?_⟩, fun z σ H L Q R h => ?_⟩
  · refine wpAny_Call_Name_kw (ld_glob I hg h2 ?_ hdb)
    exact PySem.W.callWith_K0 I.kIn h3.kp (run_makeD h3 h4 hr h5 (P.ps σ) I .nil h)
  · intro y dx hy hd ne
    have k2 := makeF_of (vs := []) (xs := []) R trivial h1 h hy hd ne
    rw [P.K] at k2
    exact k2
end
end DL
set_option Elab.async false
set_option linter.all false
set_option maxRecDepth 100000
set_option maxHeartbeats 2000000
namespace DL
open PySem PySem.Spec L2 PyProof.Rows PySem.Calls
/-! ### methods -/
/-- the classes' methods of one name, what they mean -/
structure MtD (P : Program) (w : World) (K : Fr) (mg : Str → Option Value) (base : Heap) (C : Cl) (k : Nat) (m : Str) (n : Nat) (tbl : Str → Option MF) : Prop where
  ok : ∀ c A mf, C c = some A → tbl c = some mf → L2.Cls K A ∧ ∃ f fd ps, L2.Meth K A m f ∧ FnOk P w K mg base (L2N.CX P w) k f fd ps (spD K C none (n + 1) mf) ∧ Binds K fd ps []
theorem MtD.mono {P : Program} {w : World} {K : Fr} {mg : Str → Option Value} {base : Heap} {C : Cl} {j k : Nat} {m : Str} {n : Nat} {tbl : Str → Option MF} (F : MtD P w K mg base C j m n tbl) (h : j ≤ k) : MtD P w K mg base C k m n tbl :=
  ⟨fun c A mf h1 h2 => by
    obtain ⟨q, f, fd, ps, h3, h4, h5⟩ := F.ok c A mf h1 h2
    exact ⟨q, f, fd, ps, h3, h4.mono h, h5⟩⟩
def mMeth (m : Str) (n : Nat) (tbl : Str → Option MF) (mo : M W) (ws : M (List W)) : M D := fun z => (mo z).bind fun x z1 => match z1.cont x with
  | some (.ins c fs) => match tbl c with
    | some mf => if fs.lookup m = none then (ws z1).bind fun xs z2 => callF (n + 1) mf (x :: xs) z2 else .bad
    | none => .bad
  | _ => .bad
section
variable {X : Cx} {B : Bs} {E : WX} {e o : Expr} {es : List Expr} {p pos apos : Pos} {ws : M (List W)} {mo : M W} {z z' : Z} {σ σ' : L2.St} {H H' : Hp} {L L' : List Addr} {m : Str} {k n : Nat} {tbl : Str → Option MF}
theorem d_meth {C : Cl} {pl : Sem Bool} (P : Pl X B E) (hC : B.C = C) (F : MtD X.prog X.w X.K X.mg X.base C k m n tbl) (hr : Room k X.A) (ho : PED X B E o mo) (ha : PAD X B E (e :: es) ws)
    (hst : starEach (e :: es) X.env = (false, eval e X.env) :: starEach es X.env := by rfl) (hpl : (backTo pos (starEach es X.env)).any (·.1) = false := by rfl)
    (ht : eval (.Call (.Attribute o m apos) (e :: es) [] pos) X.env = (do
      let ov ← eval o X.env
      standAt apos.atName
      let (f, first) ← holding [ov] (getMethod ov m pl)
      callWith pos f first (backTo pos (starEach (e :: es) X.env)) (backToKw pos (keywordEach [] X.env))) := by rfl) : PXD X B E (.Call (.Attribute o m apos) (e :: es) [] pos) (mMeth m n tbl mo ws) := by
  subst hC
  obtain ⟨t, pa, sa⟩ := ha
  obtain ⟨t0, po, so⟩ := ho
  refine ⟨fun σ H Q => t0 σ H fun v H1 => ∃ a A dx fs mf f fd ps, v = .ref a ∧ H1 a = some (.ins A dx fs) ∧ L2.Cls X.K A ∧ L2.Meth X.K A m f ∧ FnOk X.prog X.w X.K X.mg X.base (L2N.CX X.prog X.w) k f fd ps (spD X.K B.C none (n + 1) mf) ∧ Binds X.K fd ps [] ∧ fs.lookup m = none ∧
    t σ H1 fun vs H2 => spD X.K B.C none (n + 1) mf (.ref a :: vs) H2 Q (WE E σ), ⟨fun pins s σ H Q I h => ?_⟩, fun z σ H L Q R h => ?_⟩
  · refine PySem.W.methodCall_KW (pl := pl) (thn (po.run pins s σ H _ I h) fun u s1 hh => ?_) ht
    obtain ⟨x, H1, I1, rx, a, A, dx, fs, mf, f, fd, ps, ex, ea, hc, hm, hF, hb, l, q⟩ := hh
    subst ex
    obtain rfl : u = Value.ref a := rx
    refine getmeth_ok I1 ea hc hm l ?_
    refine PySem.W.callWith_K (first := [.ref a]) (h₀ := X.base) I.ok.mod.kin hm.kp (thn (pa.run pos pins s1 σ H1 _ I1 q) fun us s2 hh => ?_) hst hpl
    obtain ⟨vs, H2, I2, r, q2⟩ := hh
    exact ⟨I2.kIn, run_fnS (us := .ref a :: us) (vs := .ref a :: vs) hF hr hb (P.ps σ) I2 (.cons rfl r) q2⟩
  · refine so z σ H L _ R (AftE.bind h fun x z1 v H1 L1 R1 g1 hv k1 => ?_)
    split at k1
    · rename_i c fs ec
      split at k1
      · rename_i mf et
        split at k1
        · rename_i hl
          obtain ⟨a, rfl, A, dx, vs, hA, hH, im⟩ := R1.read hv ec
          obtain ⟨hc, f, fd, ps, hm, hF, hb⟩ := F.ok c A mf hA et
          refine ⟨a, A, dx, vs, mf, f, fd, ps, rfl, hH, hc, hm, hF, hb, immF_none im hl, ?_⟩
          refine sa z1 σ H1 L1 _ R1 (AftE.bind k1 fun xs z2 us H2 L2 R2 g2 hu k2 => ?_)
          have k3 := callF_of (vs := .ref a :: us) (xs := x :: xs) R2 ⟨VRel.stay g2 hv, hu⟩ k2
          rw [P.K] at k3
          exact k3
        · exact k1.elim
      · exact k1.elim
    · exact k1.elim
theorem d_meth0 {C : Cl} {pl : Sem Bool} (P : Pl X B E) (hC : B.C = C) (F : MtD X.prog X.w X.K X.mg X.base C k m n tbl) (hr : Room k X.A) (ho : PED X B E o mo)
    (ht : eval (.Call (.Attribute o m apos) [] [] pos) X.env = (do
      let ov ← eval o X.env
      standAt apos.atName
      let (f, first) ← holding [ov] (getMethod ov m pl)
      callWith pos f first (backTo pos (starEach [] X.env)) (backToKw pos (keywordEach [] X.env))) := by rfl) : PXD X B E (.Call (.Attribute o m apos) [] [] pos) (mMeth m n tbl mo wNil) := by
  subst hC
  obtain ⟨t0, po, so⟩ := ho
  refine ⟨fun σ H Q => t0 σ H fun v H1 => ∃ a A dx fs mf f fd ps, v = .ref a ∧ H1 a = some (.ins A dx fs) ∧ L2.Cls X.K A ∧ L2.Meth X.K A m f ∧ FnOk X.prog X.w X.K X.mg X.base (L2N.CX X.prog X.w) k f fd ps (spD X.K B.C none (n + 1) mf) ∧ Binds X.K fd ps [] ∧ fs.lookup m = none ∧
    spD X.K B.C none (n + 1) mf [.ref a] H1 Q (WE E σ), ⟨fun pins s σ H Q I h => ?_⟩, fun z σ H L Q R h => ?_⟩
  · refine PySem.W.methodCall_KW (pl := pl) (thn (po.run pins s σ H _ I h) fun u s1 hh => ?_) ht
    obtain ⟨x, H1, I1, rx, a, A, dx, fs, mf, f, fd, ps, ex, ea, hc, hm, hF, hb, l, q⟩ := hh
    subst ex
    obtain rfl : u = Value.ref a := rx
    refine getmeth_ok I1 ea hc hm l ?_
    exact PySem.W.callWith_K0 (first := [.ref a]) I1.kIn hm.kp (run_fnS (us := [.ref a]) (vs := [.ref a]) hF hr hb (P.ps σ) I1 (.cons rfl .nil) q)
  · refine so z σ H L _ R (AftE.bind h fun x z1 v H1 L1 R1 g1 hv k1 => ?_)
    split at k1
    · rename_i c fs ec
      split at k1
      · rename_i mf et
        split at k1
        · rename_i hl
          obtain ⟨a, rfl, A, dx, vs, hA, hH, im⟩ := R1.read hv ec
          obtain ⟨hc, f, fd, ps, hm, hF, hb⟩ := F.ok c A mf hA et
          refine ⟨a, A, dx, vs, mf, f, fd, ps, rfl, hH, hc, hm, hF, hb, immF_none im hl, ?_⟩
          have k3 := callF_of (vs := [.ref a]) (xs := [x]) R1 ⟨hv, trivial⟩ k1
          rw [P.K] at k3
          exact k3
        · exact k1.elim
      · exact k1.elim
    · exact k1.elim
end
/-! ### properties -/
structure PrD (P : Program) (w : World) (K : Fr) (mg : Str → Option Value) (base : Heap) (C : Cl) (k : Nat) (f : Str) (tbl : Str → Option MF) : Prop where
  ok : ∀ c A mf, C c = some A → tbl c = some mf → L2.Cls K A ∧ ∃ p g fd ps, L2.PropOf K A f p g ∧ FnOk P w K mg base (L2N.CX P w) k g fd ps (spD K C none 1 mf) ∧ Binds K fd ps []
theorem PrD.mono {P : Program} {w : World} {K : Fr} {mg : Str → Option Value} {base : Heap} {C : Cl} {j k : Nat} {m : Str} {tbl : Str → Option MF} (F : PrD P w K mg base C j m tbl) (h : j ≤ k) : PrD P w K mg base C k m tbl :=
  ⟨fun c A mf h1 h2 => by
    obtain ⟨q, f, g, fd, ps, h3, h4, h5⟩ := F.ok c A mf h1 h2
    exact ⟨q, f, g, fd, ps, h3, h4.mono h, h5⟩⟩
/-- a call that lets nothing out -/
def callQ (n : Nat) (m : MF) (xs : List W) : M D := fun z => match callF n m xs z with
  | .ok d z1 => .ok d z1
  | _ => .bad
def fProp (tbl : Str → Option MF) (x : W) : M D := fun z => match z.cont x with
  | some (.ins c fs) => match tbl c with
    | some mf => callQ 1 mf [x] z
    | none => .bad
  | _ => .bad
section
variable {X : Cx} {B : Bs} {E : WX} {e o : Expr} {p pos apos : Pos} {mo : M W} {z z' : Z} {σ σ' : L2.St} {H H' : Hp} {L L' : List Addr} {f : Str} {k n : Nat} {tbl : Str → Option MF}
theorem callQ_of {Q : VK} {vs : List V} {xs : List W} {mf : MF} (R : Rel B z σ H L) (hv : vVs B σ z H L vs xs) (h : AftE B E (vD B σ) z σ H L Q (callQ n mf xs z)) : spD B.K B.C none n mf vs H Q (fun _ _ _ => False) := by
  have k : AftE B (fun _ _ _ _ => False) (vD B σ) z σ H L Q (callF n mf xs z) := by
    unfold callQ at h
    generalize callF n mf xs z = r at h ⊢
    match r, h with
    | .ok d z1, h => exact h
    | .err _ _, h => exact h.elim
    | .bad, h => exact h.elim
  exact callF_of (E := fun _ _ _ _ => False) R hv k
theorem d_prop {C : Cl} (P : Pl X B E) (hC : B.C = C) (F : PrD X.prog X.w X.K X.mg X.base C k f tbl) (hr : Room (k + 1) X.A) (ho : PED X B E o mo) (hab : attributeBase o f X.env (eval o X.env) = eval o X.env := by rfl) :
    PXD X B E (.Attribute o f pos) (fun z => (mo z).bind (fProp tbl)) := by
  subst hC
  obtain ⟨t0, po, so⟩ := ho
  refine ⟨fun σ H Q => t0 σ H fun v H1 => ∃ a A dx fs mf q g fd ps, v = .ref a ∧ H1 a = some (.ins A dx fs) ∧ L2.Cls X.K A ∧ L2.PropOf X.K A f q g ∧ FnOk X.prog X.w X.K X.mg X.base (L2N.CX X.prog X.w) k g fd ps (spD X.K B.C none 1 mf) ∧ Binds X.K fd ps [] ∧
    spD X.K B.C none 1 mf [.ref a] H1 Q (fun _ _ _ => False), ⟨fun pins s σ H Q I h => ?_⟩, fun z σ H L Q R h => ?_⟩
  · refine attr_of hab (thn (po.run pins s σ H _ I h) fun u s1 hh => ?_)
    obtain ⟨x, H1, I1, rx, a, A, dx, fs, mf, q, g, fd, ps, ex, ea, hc, hp, hF, hb, h2⟩ := hh
    subst ex
    obtain rfl : u = Value.ref a := rx
    exact getprop_ok (ds := []) (dvs := []) I1 ea hc hp hF hr hb .nil (passN (X := X.nox)) h2
  · refine so z σ H L _ R (AftE.bind h fun x z1 v H1 L1 R1 g1 hv k1 => ?_)
    unfold fProp at k1
    split at k1
    · rename_i c fs ec
      split at k1
      · rename_i mf et
        obtain ⟨a, rfl, A, dx, vs, hA, hH, im⟩ := R1.read hv ec
        obtain ⟨hc, p, g, fd, ps, hp, hF, hb⟩ := F.ok c A mf hA et
        refine ⟨a, A, dx, vs, mf, p, g, fd, ps, rfl, hH, hc, hp, hF, hb, ?_⟩
        have k3 := callQ_of (vs := [.ref a]) (xs := [x]) R1 ⟨hv, trivial⟩ k1
        rw [P.K] at k3
        exact k3
      · exact k1.elim
    · exact k1.elim
end
end DL
set_option Elab.async false
set_option linter.all false
set_option maxRecDepth 100000
set_option maxHeartbeats 2000000
namespace DL
open PySem PySem.Spec L2 PyProof.Rows PySem.Calls
/-! ### instances that nobody changes: data -/
mutual
def belD (n : Nat) : D → Bool
  | .obj m => decide (m < n)
  | .lst xs => belL n xs
  | .tup xs => belL n xs
  | .dK kvs => belK n kvs
  | .dT kvs => belT n kvs
  | .ins _ fs => belF n fs
  | _ => true
def belL (n : Nat) : List D → Bool
  | [] => true
  | d :: ds => belD n d && belL n ds
def belK (n : Nat) : List (L2.Key × D) → Bool
  | [] => true
  | (_, d) :: ds => belD n d && belK n ds
def belT (n : Nat) : List (List L2.Key × D) → Bool
  | [] => true
  | (_, d) :: ds => belD n d && belT n ds
def belF (n : Nat) : List (Str × D) → Bool
  | [] => true
  | (_, d) :: ds => belD n d && belF n ds
end
def belC (n : Nat) : Cell → Bool
  | .lst xs => belL n xs
  | .dK kvs => belK n kvs
  | .dT kvs => belT n kvs
  | .ins _ fs => belF n fs
section
variable {K : Fr} {C : Cl} {L L0 : List Addr} {E E0 : Addr → Prop} {H : Hp} {n : Nat}
structure Shr (n : Nat) (L : List Addr) (E : Addr → Prop) (L0 : List Addr) (E0 : Addr → Prop) : Prop where
  low : ∀ (m : Nat) a, m < n → L[m]? = some a → L0[m]? = some a
  sub : ∀ a, E0 a → E a
theorem Shr.rdL (s : Shr n L E L0 E0) {a : Addr} {vs : List V} (h : RdL K E H a vs) : RdL K E0 H a vs := h.elim (fun h => .inl ⟨fun q => h.1 (s.sub a q), h.2⟩) .inr
theorem Shr.rdT (s : Shr n L E L0 E0) {a : Addr} {vs : List V} (h : RdT K E H a vs) : RdT K E0 H a vs := ⟨fun q => h.1 (s.sub a q), h.2⟩
theorem Shr.xd (s : Shr n L E L0 E0) {dd : Option Addr} {vs : List (Str × V)} (h : XdAt E H dd vs) : XdAt E0 H dd vs := by
  cases dd with
  | none => exact h
  | some d => exact ⟨fun q => h.1 (s.sub d q), h.2⟩
mutual
theorem Shr.imm (s : Shr n L E L0 E0) : ∀ (v : V) (d : D), Imm K C L E H v d → belD n d = true → Imm K C L0 E0 H v d
  | v, .non, h, _ => by simp only [Imm] at h ⊢; exact h
  | v, .bl b, h, _ => by simp only [Imm] at h ⊢; exact h
  | v, .int i, h, _ => by simp only [Imm] at h ⊢; exact h
  | v, .str x, h, _ => by simp only [Imm] at h ⊢; exact h
  | v, .lst xs, h, q => by
    simp only [Imm] at h ⊢
    simp only [belD] at q
    obtain ⟨a, vs, e, r, i⟩ := h
    exact ⟨a, vs, e, s.rdL r, Shr.immL s vs xs i q⟩
  | v, .tup xs, h, q => by
    simp only [Imm] at h ⊢
    simp only [belD] at q
    obtain ⟨a, vs, e, r, i⟩ := h
    exact ⟨a, vs, e, s.rdT r, Shr.immL s vs xs i q⟩
  | v, .obj m, h, q => by
    simp only [Imm] at h ⊢
    simp only [belD, decide_eq_true_eq] at q
    obtain ⟨a, e, r⟩ := h
    exact ⟨a, e, s.low m a q r⟩
  | v, .dK kvs, h, q => by
    simp only [Imm] at h ⊢
    simp only [belD] at q
    obtain ⟨a, vs, od, e, ne, r, i⟩ := h
    exact ⟨a, vs, od, e, fun z => ne (s.sub a z), r, Shr.immK s vs kvs i q⟩
  | v, .dT kvs, h, q => by
    simp only [Imm] at h ⊢
    simp only [belD] at q
    obtain ⟨a, vs, od, e, ne, r, i⟩ := h
    exact ⟨a, vs, od, e, fun z => ne (s.sub a z), r, Shr.immT s vs kvs i q⟩
  | v, .ins c fs, h, q => by
    simp only [Imm] at h ⊢
    simp only [belD] at q
    obtain ⟨a, dx, A, vs, e, hc, ne, r, i⟩ := h
    exact ⟨a, dx, A, vs, e, hc, fun z => ne (s.sub a z), r, Shr.immF s vs fs i q⟩
  | v, .con u, h, _ => by simp only [Imm] at h ⊢; exact h
theorem Shr.immL (s : Shr n L E L0 E0) : ∀ (vs : List V) (ds : List D), ImmL K C L E H vs ds → belL n ds = true → ImmL K C L0 E0 H vs ds
  | [], [], _, _ => by simp only [ImmL]
  | v :: vs, d :: ds, h, q => by
    simp only [ImmL] at h ⊢
    simp only [belL, Bool.and_eq_true] at q
    exact ⟨Shr.imm s v d h.1 q.1, Shr.immL s vs ds h.2 q.2⟩
  | [], _ :: _, h, _ => by simp only [ImmL] at h
  | _ :: _, [], h, _ => by simp only [ImmL] at h
theorem Shr.immK (s : Shr n L E L0 E0) : ∀ (vs : List (L2.Key × V)) (ds : List (L2.Key × D)), ImmK K C L E H vs ds → belK n ds = true → ImmK K C L0 E0 H vs ds
  | [], [], _, _ => by simp only [ImmK]
  | v :: vs, (k, d) :: ds, h, q => by
    simp only [ImmK] at h ⊢
    simp only [belK, Bool.and_eq_true] at q
    exact ⟨h.1, Shr.imm s v.2 d h.2.1 q.1, Shr.immK s vs ds h.2.2 q.2⟩
  | [], _ :: _, h, _ => by simp only [ImmK] at h
  | _ :: _, [], h, _ => by simp only [ImmK] at h
theorem Shr.immT (s : Shr n L E L0 E0) : ∀ (vs : List (List L2.Key × V)) (ds : List (List L2.Key × D)), ImmT K C L E H vs ds → belT n ds = true → ImmT K C L0 E0 H vs ds
  | [], [], _, _ => by simp only [ImmT]
  | v :: vs, (k, d) :: ds, h, q => by
    simp only [ImmT] at h ⊢
    simp only [belT, Bool.and_eq_true] at q
    exact ⟨h.1, Shr.imm s v.2 d h.2.1 q.1, Shr.immT s vs ds h.2.2 q.2⟩
  | [], _ :: _, h, _ => by simp only [ImmT] at h
  | _ :: _, [], h, _ => by simp only [ImmT] at h
theorem Shr.immF (s : Shr n L E L0 E0) : ∀ (vs : List (Str × V)) (ds : List (Str × D)), ImmF K C L E H vs ds → belF n ds = true → ImmF K C L0 E0 H vs ds
  | [], [], _, _ => by simp only [ImmF]
  | v :: vs, (k, d) :: ds, h, q => by
    simp only [ImmF] at h ⊢
    simp only [belF, Bool.and_eq_true] at q
    exact ⟨h.1, Shr.imm s v.2 d h.2.1 q.1, Shr.immF s vs ds h.2.2 q.2⟩
  | [], _ :: _, h, _ => by simp only [ImmF] at h
  | _ :: _, [], h, _ => by simp only [ImmF] at h
end
theorem Shr.cell (s : Shr n L E L0 E0) {a : Addr} : ∀ {c : Cell}, CellRel K C L E H a c → belC n c = true → CellRel K C L0 E0 H a c
  | .lst xs, ⟨vs, h, i⟩, q => ⟨vs, h, Shr.immL s _ _ i q⟩
  | .dK kvs, ⟨vs, h, i⟩, q => ⟨vs, h, Shr.immK s _ _ i q⟩
  | .dT kvs, ⟨vs, h, i⟩, q => ⟨vs, h, Shr.immT s _ _ i q⟩
  | .ins c fs, ⟨A, dx, vs, hc, h, i⟩, q => ⟨A, dx, vs, hc, h, Shr.immF s _ _ i q⟩
end
def makeZ (c : Str) (n : Nat) (mi : MF) (xs : List W) : M D := fun z => if xs.length = n then match toArgs z xs with
  | some as => match mi (.val (.obj z.st.length) :: as) (z.st ++ [.ins c []]) with
    | .ok .non S => match S[z.st.length]? with
      | some (.ins c' fs) => if S.length = z.st.length + 1 ∧ belF z.st.length fs = true ∧ (S.take z.st.length).all (belC z.st.length) = true then .ok (.ins c' fs) { z with st := S.take z.st.length } else .bad
      | _ => .bad
    | .err x S => if S.length = z.st.length + 1 ∧ belF z.st.length x.fs = true ∧ (S.take z.st.length).all (belC z.st.length) = true then .err x { z with st := S.take z.st.length } else .bad
    | _ => .bad
  | none => .bad
  else .bad
def mMakeZ (c : Str) (n : Nat) (mi : MF) (ws : M (List W)) : M D := fun z => (ws z).bind fun xs z1 => makeZ c n mi xs z1
section
variable {X : Cx} {B : Bs} {E : WX} {e : Expr} {es : List Expr} {p pos : Pos} {ws : M (List W)} {z z' : Z} {σ σ' : L2.St} {H H' : Hp} {L L' : List Addr} {x : Str} {mi : MF} {k n : Nat}
theorem back_pop {A y dx : Addr} {c : Str} {S : List Cell} (R : Rel B z σ H L) (hA : B.C c = some A) (hy : H y = none) (hd : H dx = none) (ne : dx ≠ y)
    (b : Back ⟨B.K, B.C, Ex B { z with st := z.st ++ [.ins c []] } σ (L ++ [y]), upd (upd H dx (.own y)) y (.ins A dx []), L ++ [y], Ex B { z with st := z.st ++ [.ins c []] } σ (L ++ [y]), none⟩ S H' L')
    (hl : S.length = z.st.length + 1) (hb : (S.take z.st.length).all (belC z.st.length) = true) :
    Back ⟨B.K, B.C, Ex B z σ L, H, L, Ex B z σ L, none⟩ (S.take z.st.length) H' (L'.take z.st.length) ∧ L'[z.st.length]? = some y ∧
      Shr z.st.length L' (fun a => Ex B { z with st := z.st ++ [.ins c []] } σ (L ++ [y]) a ∨ a ∈ L') (L'.take z.st.length) (fun a => Ex B z σ L a ∨ a ∈ L'.take z.st.length) ∧ ¬ (Ex B z σ L y ∨ y ∈ L'.take z.st.length) := by
  have hLn : L.length = z.st.length := R.st.len
  have hL' : L'.length = z.st.length + 1 := by rw [b.st.len]; exact hl
  have hy' : L'[z.st.length]? = some y := b.pre _ _ (by
    show (L ++ [y])[z.st.length]? = some y
    rw [← hLn]; simp)
  have exs : ∀ a, Ex B z σ L a → Ex B { z with st := z.st ++ [.ins c []] } σ (L ++ [y]) a := fun a h => by
    rcases h with h | h | h
    · exact .inl h
    · exact .inr (.inl (List.mem_append_left _ h))
    · exact .inr (.inr h)
  have hsub : ∀ a, a ∈ L'.take z.st.length → a ∈ L' := fun a h => List.mem_of_mem_take h
  have hny : y ∉ L'.take z.st.length := fun h => by
    obtain ⟨i, hi⟩ := List.getElem?_of_mem h
    have hi0 := (List.getElem?_eq_some_iff.mp hi).1
    rw [List.length_take] at hi0
    have hi2 : L'[i]? = some y := by
      rw [List.getElem?_take_of_lt (by omega)] at hi
      exact hi
    have e := (List.getElem?_inj (by omega) b.st.nd).mp (hi2.trans hy'.symm)
    omega
  have s : Shr z.st.length L' (fun a => Ex B { z with st := z.st ++ [.ins c []] } σ (L ++ [y]) a ∨ a ∈ L') (L'.take z.st.length) (fun a => Ex B z σ L a ∨ a ∈ L'.take z.st.length) :=
    ⟨fun m a hm h => by rw [List.getElem?_take_of_lt hm]; exact h, fun a h => h.imp (exs a) (hsub a)⟩
  have hH : ∀ a o, H a = some o → upd (upd H dx (.own y)) y (.ins A dx []) a = some o := fun a o h => by
    rw [upd_ne (ne_of_none h hy), upd_ne (ne_of_none h hd)]
    exact h
  refine ⟨⟨⟨?_, ?_, fun a h => .inr h, fun m a k h1 h2 => ?_⟩, fun m a h => ?_, fun a h => ?_, fun a o h q nb => ?_, fun a h => ?_, ⟨b.tab.ok, fun a ps h => b.tab.old a ps (hH a _ h)⟩⟩, hy', s, fun h => h.elim (R.noEx hy) hny⟩
  · rw [List.length_take, List.length_take, hl, hL']
  · exact b.st.nd.sublist (List.take_sublist _ _)
  · have m0 := (List.getElem?_eq_some_iff.mp h1).1
    rw [List.length_take] at m0
    have m1 : m < z.st.length := by omega
    rw [List.getElem?_take_of_lt m1] at h1
    have hk : belC z.st.length k = true := List.all_eq_true.mp hb k (List.mem_of_getElem? h2)
    rw [List.getElem?_take_of_lt m1] at h2
    exact s.cell (b.st.at_ m a k h1 h2) hk
  · have m0 := (List.getElem?_eq_some_iff.mp h).1
    rw [List.getElem?_take_of_lt (by rw [← hLn]; exact m0)]
    refine b.pre m a ?_
    show (L ++ [y])[m]? = some a
    rw [List.getElem?_append_left m0]
    exact h
  · rcases b.newc a (hsub a h) with q | q
    · rcases List.mem_append.mp q with q | q
      · exact .inl q
      · have e : a = y := by simpa using q
        rw [e] at h
        exact absurd h hny
    · refine .inr ?_
      cases e : H a with
      | none => exact e
      | some o =>
        have q' : upd (upd H dx (.own y)) y (.ins A dx []) a = none := q
        rw [hH a o e] at q'
        cases q'
  · refine b.frame a o (hH a o h) (fun q' => ?_) nb
    rcases List.mem_append.mp q' with q' | q'
    · exact q q'
    · have e : a = y := by simpa using q'
      rw [e] at h
      have h' : H y = some o := h
      rw [hy] at h'
      cases h'
  · exact b.exd a (h.imp (exs a) (hsub a))
theorem makeZ_of {Q : VK} {vs : List V} {xs : List W} {A y dx : Addr} (R : Rel B z σ H L) (hv : vVs B σ z H L vs xs) (hA : B.C x = some A) (h : AftE B E (vD B σ) z σ H L Q (makeZ x n mi xs z)) (hy : H y = none) (hd : H dx = none) (ne : dx ≠ y) :
    spD B.K B.C none (n + 1) mi (.ref y :: vs) (upd (upd H dx (.own y)) y (.ins A dx [])) (fun v H2 => v = .non ∧ Q (.ref y) H2) (WE E σ) := by
  unfold makeZ at h
  split at h
  case isFalse => exact h.elim
  rename_i hn
  have hn' := hn
  rw [← hv.len] at hn
  obtain ⟨R2, g12⟩ := new_ins R hA hy hd ne
  generalize ea : toArgs z xs = o at h
  match o, h with
  | some as, h =>
    have ea' : toArgs { z with st := z.st ++ [.ins x []] } xs = some as := by rw [toArgs_st]; exact ea
    obtain ⟨ar, al⟩ := args_of (ex := none) R2 (vVs.stay g12 hv) ea'
    have hL : (L ++ [y])[z.st.length]? = some y := by
      rw [← R.st.len]
      simp
    refine ⟨L ++ [y], Ex B { z with st := z.st ++ [.ins x []] } σ (L ++ [y]), z.st ++ [.ins x []], .val (.obj z.st.length) :: as, by simp [hn], by simp [← al, hn], R2.st, ⟨R2.exd, R2.tab.ok⟩, ⟨by simp only [Imm]; exact ⟨y, rfl, hL⟩, ar⟩, ?_⟩
    dsimp only at h
    generalize mi (.val (.obj z.st.length) :: as) (z.st ++ [.ins x []]) = r at h ⊢
    match r, h with
    | .ok .non S, h =>
      intro v H' L' b q
      refine ⟨by simpa only [Imm] using q, ?_⟩
      dsimp only at h
      split at h
      · rename_i c' fs ec
        split at h
        · rename_i hc
          obtain ⟨hc1, hc2, hc3⟩ := hc
          obtain ⟨b0, hy', s, hn0⟩ := back_pop R hA hy hd ne b hc1 hc3
          obtain ⟨R', g, exs, _⟩ := R.behind b0
          refine h (.ref y) H' _ R' g ?_
          have exe : (fun a => Ex B z σ L a ∨ a ∈ L'.take z.st.length) = Ex B { z with st := S.take z.st.length } σ (L'.take z.st.length) := funext fun a => propext (exs a)
          obtain ⟨A', dx', vs', hA', hH', im⟩ := b.st.at_ _ _ _ hy' ec
          show Imm B.K B.C (L'.take z.st.length) _ H' (.ref y) (.ins c' fs)
          rw [← exe]
          simp only [Imm]
          exact ⟨y, dx', A', vs', rfl, hA', hn0, hH', Shr.immF s _ _ im hc2⟩
        · exact h.elim
      · exact h.elim
    | .err e S, h =>
      intro cls dd H' L' b q
      dsimp only at h
      split at h
      · rename_i hc
        obtain ⟨hc1, hc2, hc3⟩ := hc
        obtain ⟨b0, hy', s, hn0⟩ := back_pop R hA hy hd ne b hc1 hc3
        obtain ⟨R', g, exs, _⟩ := R.behind b0
        obtain ⟨A', vs', q1, q2, q3, q4⟩ := q
        have q0 : ExnRel B.K B.C (L'.take z.st.length) (fun a => Ex B z σ L a ∨ a ∈ L'.take z.st.length) H' e cls dd := ⟨A', vs', q1, q2, s.xd q3, Shr.immF s _ _ q4 hc2⟩
        exact h cls dd H' _ R' g (ExnRel.weak (fun a h => (exs a).mpr h) q0)
      · exact h.elim
    | .bad, h => exact h.elim
    | .ok (.bl _) _, h => exact h.elim
    | .ok (.int _) _, h => exact h.elim
    | .ok (.str _) _, h => exact h.elim
    | .ok (.lst _) _, h => exact h.elim
    | .ok (.tup _) _, h => exact h.elim
    | .ok (.obj _) _, h => exact h.elim
    | .ok (.dK _) _, h => exact h.elim
    | .ok (.dT _) _, h => exact h.elim
    | .ok (.ins _ _) _, h => exact h.elim
    | .ok (.con _) _, h => exact h.elim
  | none, h => dsimp only at h; exact h.elim
theorem d_makeZ {C : Cl} (P : Pl X B E) (hC : B.C = C) (F : MkD X.prog X.w X.K X.mg X.base C k x n mi) (hr : Room (k + 1) X.A) (ha : PAD X B E (e :: es) ws) (hg : Gl X x := by rfl) (hdb : (x == ("__debug__" : Str)) = false := by decide)
    (he : starEach (e :: es) X.env = (false, eval e X.env) :: starEach es X.env := by rfl) (hpl : (backTo pos (starEach es X.env)).any (·.1) = false := by rfl) : PXD X B E (.Call (.Name x p) (e :: es) [] pos) (mMakeZ x n mi ws) := by
  subst hC
  obtain ⟨A, f, fd, ps, h1, h2, h3, h4, h5⟩ := F
  obtain ⟨t, pa, sa⟩ := ha
  refine ⟨fun σ H Q => t σ H fun vs H1 => ∀ y dx, H1 y = none → H1 dx = none → dx ≠ y → spD X.K B.C none (n + 1) mi (.ref y :: vs) (upd (upd H1 dx (.own y)) y (.ins A dx [])) (fun v H2 => v = .non ∧ Q (.ref y) H2) (WE E σ), ⟨fun pins s σ H Q I h => ?_⟩, fun z σ H L Q R h => ?_⟩
  · refine wpAny_Call_Name_kw (ld_glob I hg h2 ?_ hdb)
    refine PySem.W.callWith_K (h₀ := X.base) I.ok.mod.kin h3.kp (thn (pa.run pos pins s σ H _ I h) fun us s1 hh => ?_) he hpl
    obtain ⟨vs, H1, I1, r, q⟩ := hh
    exact ⟨I1.kIn, run_makeD h3 h4 hr h5 (P.ps σ) I1 r q⟩
  · refine sa z σ H L _ R (AftE.bind h fun xs z1 vs H1 L1 R1 g1 hv k1 => ?_)
    intro y dx hy hd ne
    have k2 := makeZ_of R1 hv h1 k1 hy hd ne
    rw [P.K] at k2
    exact k2
end
end DL
set_option Elab.async false
set_option linter.all false
set_option maxRecDepth 100000
set_option maxHeartbeats 2000000
namespace DL
open PySem PySem.Spec L2 PyProof.Rows PySem.Calls
/-! ### two rules for one expression -/
section
variable {X : Cx} {B : Bs} {E : WX} {e : Expr} {s : Stmt}
theorem PED.alt {m m' M : M W} (h : PED X B E e m) (h' : PED X B E e m') (hm : ∀ z, M z = m z ∨ M z = m' z) : PED X B E e M := by
  obtain ⟨t, p, q⟩ := h
  obtain ⟨t', p', q'⟩ := h'
  refine ⟨fun σ H Q => t σ H Q ∨ t' σ H Q, ⟨fun pins s σ H Q I h => h.elim (p.run pins s σ H Q I) (p'.run pins s σ H Q I)⟩, fun z σ H L Q R k => ?_⟩
  rcases hm z with e | e
  · rw [e] at k; exact .inl (q z σ H L Q R k)
  · rw [e] at k; exact .inr (q' z σ H L Q R k)
theorem PXD.alt {m m' M : M D} (h : PXD X B E e m) (h' : PXD X B E e m') (hm : ∀ z, M z = m z ∨ M z = m' z) : PXD X B E e M := by
  obtain ⟨t, p, q⟩ := h
  obtain ⟨t', p', q'⟩ := h'
  refine ⟨fun σ H Q => t σ H Q ∨ t' σ H Q, ⟨fun pins s σ H Q I h => h.elim (p.run pins s σ H Q I) (p'.run pins s σ H Q I)⟩, fun z σ H L Q R k => ?_⟩
  rcases hm z with e | e
  · rw [e] at k; exact .inl (q z σ H L Q R k)
  · rw [e] at k; exact .inr (q' z σ H L Q R k)
theorem PTD.alt {m m' M : M Bool} (h : PTD X B E e m) (h' : PTD X B E e m') (hm : ∀ z, M z = m z ∨ M z = m' z) : PTD X B E e M := by
  obtain ⟨t, p, q⟩ := h
  obtain ⟨t', p', q'⟩ := h'
  refine ⟨fun σ H Q => t σ H Q ∨ t' σ H Q, ⟨fun pins s σ H Q I h => h.elim (p.run pins s σ H Q I) (p'.run pins s σ H Q I)⟩, fun z σ H L Q R k => ?_⟩
  rcases hm z with e | e
  · rw [e] at k; exact .inl (q z σ H L Q R k)
  · rw [e] at k; exact .inr (q' z σ H L Q R k)
theorem PSD.alt {m m' M : MS} (h : PSD X B E s m) (h' : PSD X B E s m') (hm : ∀ z, M z = m z ∨ M z = m' z) : PSD X B E s M := by
  obtain ⟨t, p, q⟩ := h
  obtain ⟨t', p', q'⟩ := h'
  refine ⟨fun D σ H => t D σ H ∨ t' D σ H, ⟨fun pins s σ H D I h => h.elim (p.run pins s σ H D I) (p'.run pins s σ H D I)⟩, fun z σ H L Q R k => ?_⟩
  rcases hm z with e | e
  · rw [e] at k; exact .inl (q z σ H L Q R k)
  · rw [e] at k; exact .inr (q' z σ H L Q R k)
theorem m2_or {ma mb : M W} {f g : W → W → M W} (z : Z) : m2 ma mb (fOr f g) z = m2 ma mb f z ∨ m2 ma mb (fOr f g) z = m2 ma mb g z := by
  unfold m2
  cases ma z with
  | ok x z1 =>
    show (mb z1).bind (fun y z2 => fOr f g x y z2) = (mb z1).bind _ ∨ (mb z1).bind _ = (mb z1).bind _
    cases mb z1 with
    | ok y z2 =>
      show fOr f g x y z2 = f x y z2 ∨ fOr f g x y z2 = g x y z2
      unfold fOr
      cases f x y z2 with
      | bad => exact .inr rfl
      | ok _ _ => exact .inl rfl
      | err _ _ => exact .inl rfl
    | err _ _ => exact .inl rfl
    | bad => exact .inl rfl
  | err _ _ => exact .inl rfl
  | bad => exact .inl rfl
end
/-! ### dicts: keys -/
def keyD : D → Option L2.Key
  | .int i => some (.inl i)
  | .str s => some (.inr s)
  | _ => none
def keysD : List D → Option (List L2.Key)
  | [] => some []
  | d :: ds => (keyD d).bind fun k => (keysD ds).map (k :: ·)
def keyT : D → Option (List L2.Key)
  | .tup ds => keysD ds
  | _ => none
section
variable {K : Fr} {C : Cl} {L : List Addr} {Ee : Addr → Prop} {H : Hp}
theorem keyD_imm {v : V} {d : D} {k : L2.Key} (h : Imm K C L Ee H v d) (e : keyD d = some k) : v = kV k := by
  cases d <;> first | cases e | skip
  · simp only [Imm] at h; subst h; rfl
  · simp only [Imm] at h; subst h; rfl
theorem keysD_imm : ∀ {vs : List V} {ds : List D} {ks : List L2.Key}, ImmL K C L Ee H vs ds → keysD ds = some ks → vs = ks.map kV
  | [], [], ks, _, e => by cases e; rfl
  | v :: vs, d :: ds, ks, h, e => by
    simp only [ImmL] at h
    unfold keysD at e
    cases ek : keyD d with
    | none => rw [ek] at e; cases e
    | some k =>
      rw [ek] at e
      cases er : keysD ds with
      | none => rw [er] at e; cases e
      | some r =>
        rw [er] at e
        cases e
        rw [List.map_cons, keyD_imm h.1 ek, keysD_imm h.2 er]
  | [], _ :: _, _, h, _ => by simp only [ImmL] at h
  | _ :: _, [], _, h, _ => by simp only [ImmL] at h
theorem keyT_imm {v : V} {d : D} {ks : List L2.Key} (h : Imm K C L Ee H v d) (e : keyT d = some ks) : ∃ b, v = .ref b ∧ H b = some (.tup (ks.map kV)) := by
  cases d <;> first | cases e | skip
  simp only [Imm] at h
  obtain ⟨b, us, rfl, r, q⟩ := h
  have := keysD_imm q e
  subst this
  exact ⟨b, rfl, r.2⟩
/-- a value that is there, or none -/
def ImmO (K : Fr) (C : Cl) (L : List Addr) (Ee : Addr → Prop) (H : Hp) : Option V → Option D → Prop
  | some v, some d => Imm K C L Ee H v d
  | none, none => True
  | _, _ => False
theorem immK_val {k : L2.Key} : ∀ {vs : List (L2.Key × V)} {kvs : List (L2.Key × D)}, ImmK K C L Ee H vs kvs → ImmO K C L Ee H (valV vs k) (lookD kvs k)
  | [], [], _ => trivial
  | v :: vs, (j, d) :: ds, h => by
    simp only [ImmK] at h
    obtain ⟨h1, h2, h3⟩ := h
    by_cases e : j = k
    · have e' : v.1 = k := h1.trans e
      rw [valV_pos e']
      have : lookD ((j, d) :: ds) k = some d := by simp [lookD, List.find?_cons, e]
      rw [this]
      exact h2
    · have e' : ¬ v.1 = k := fun z => e (h1.symm.trans z)
      rw [valV_neg e']
      have : lookD ((j, d) :: ds) k = lookD ds k := by simp [lookD, List.find?_cons, e]
      rw [this]
      exact immK_val h3
  | [], _ :: _, h => by simp only [ImmK] at h
  | _ :: _, [], h => by simp only [ImmK] at h
theorem immT_val {k : List L2.Key} : ∀ {vs : List (List L2.Key × V)} {kvs : List (List L2.Key × D)}, ImmT K C L Ee H vs kvs → ImmO K C L Ee H (valV vs k) (lookD kvs k)
  | [], [], _ => trivial
  | v :: vs, (j, d) :: ds, h => by
    simp only [ImmT] at h
    obtain ⟨h1, h2, h3⟩ := h
    by_cases e : j = k
    · have e' : v.1 = k := h1.trans e
      rw [valV_pos e']
      have : lookD ((j, d) :: ds) k = some d := by simp [lookD, List.find?_cons, e]
      rw [this]
      exact h2
    · have e' : ¬ v.1 = k := fun z => e (h1.symm.trans z)
      rw [valV_neg e']
      have : lookD ((j, d) :: ds) k = lookD ds k := by simp [lookD, List.find?_cons, e]
      rw [this]
      exact immT_val h3
  | [], _ :: _, h => by simp only [ImmT] at h
  | _ :: _, [], h => by simp only [ImmT] at h
theorem immK_length : ∀ {vs : List (L2.Key × V)} {kvs : List (L2.Key × D)}, ImmK K C L Ee H vs kvs → vs.length = kvs.length
  | [], [], _ => rfl
  | _ :: vs, (_, _) :: ds, h => by simp only [ImmK] at h; simp only [List.length_cons, immK_length h.2.2]
  | [], _ :: _, h => by simp only [ImmK] at h
  | _ :: _, [], h => by simp only [ImmK] at h
theorem immT_length : ∀ {vs : List (List L2.Key × V)} {kvs : List (List L2.Key × D)}, ImmT K C L Ee H vs kvs → vs.length = kvs.length
  | [], [], _ => rfl
  | _ :: vs, (_, _) :: ds, h => by simp only [ImmT] at h; simp only [List.length_cons, immT_length h.2.2]
  | [], _ :: _, h => by simp only [ImmT] at h
  | _ :: _, [], h => by simp only [ImmT] at h
end
/-- putting -/
def putD {κ : Type} [DecidableEq κ] (kvs : List (κ × D)) (k : κ) (d : D) : List (κ × D) :=
  if kvs.any fun kv => decide (kv.1 = k) then kvs.map fun kv => if kv.1 = k then (kv.1, d) else kv else kvs ++ [(k, d)]
/-- what a dict answers for a key: there or not -/
def dictGet (z : Z) (x k : W) : Option (Option D) := match z.cont x, k with
  | some (.dK kvs), .d kd => (keyD kd).map (lookD kvs)
  | some (.dT kvs), .d kd => (keyT kd).map (lookD kvs)
  | _, _ => none
section
variable {X : Cx} {B : Bs} {E : WX} {e o i a b : Expr} {pos : Pos} {m mo mi ma mb : M W} {z z' : Z} {σ σ' : L2.St} {H H' : Hp} {L L' : List Addr}
theorem dget_of (R : Rel B z σ H L) {x k : W} {vx vk : V} {od : Option D} (hx : VRel B z σ H L vx x) (hk : VRel B z σ H L vk k) (e : dictGet z x k = some od) :
    ∃ a vo, vx = .ref a ∧ DGet H a vk vo ∧ ImmO B.K B.C L (Ex B z σ L) H vo od := by
  unfold dictGet at e
  split at e
  · rename_i kvs kd ec
    obtain ⟨a, rfl, vs, r, q⟩ := R.read hx ec
    cases ek : keyD kd with
    | none => rw [ek] at e; cases e
    | some k =>
      rw [ek] at e
      cases e
      exact ⟨a, valV vs k, rfl, .inl ⟨vs, k, r, keyD_imm hk ek, rfl⟩, immK_val q⟩
  · rename_i kvs kd ec
    obtain ⟨a, rfl, vs, r, q⟩ := R.read hx ec
    cases ek : keyT kd with
    | none => rw [ek] at e; cases e
    | some ks =>
      rw [ek] at e
      cases e
      obtain ⟨b, hb, hbt⟩ := keyT_imm hk ek
      exact ⟨a, valV vs ks, rfl, .inr ⟨vs, ks, b, r, hb, hbt, rfl⟩, immT_val q⟩
  · cases e
/-- d[k] -/
def fDIx (x k : W) : M W := fun z => flat ((dictGet z x k).bind id) z
theorem d_dix (P : Pl X B E) (ho : PED X B E o mo) (hi : PED X B E i mi) (hs : NoSl i := by intro _ _; rfl) : PED X B E (.Subscript o i pos) (m2 mo mi fDIx) := by
  obtain ⟨t1, p1, s1⟩ := ho
  obtain ⟨t2, p2, s2⟩ := hi
  refine ⟨_, pe_dget (Nat.lt_of_le_of_lt (by omega) P.hu) p1 p2 hs, fun z σ H L Q R h => ?_⟩
  refine s1 z σ H L _ R (AftE.bind h fun x z1 vx H1 L1 R1 g1 h1 k1 => ?_)
  refine s2 z1 σ H1 L1 _ R1 (AftE.bind k1 fun y z2 vy H2 L2 R2 g2 h2 k2 => ?_)
  obtain ⟨d, ed, hq⟩ := flat_of R2 k2
  cases eg : dictGet z2 x y with
  | none => rw [eg] at ed; cases ed
  | some od =>
    rw [eg] at ed
    have ed' : od = some d := ed
    subst ed'
    obtain ⟨a, vo, e1, g, im⟩ := dget_of R2 (VRel.stay g2 h1) h2 eg
    cases vo with
    | none => exact im.elim
    | some v => exact ⟨a, v, e1, g, hq v im⟩
/-- o[i], whatever o is -/
def fIxA : W → W → M W := fOr fIx fDIx
theorem d_ixA (P : Pl X B E) (ho : PED X B E o mo) (hi : PED X B E i mi) (h1 : PED X B E (.Subscript o i pos) (m2 mo mi fIx)) (hs : NoSl i := by intro _ _; rfl) : PED X B E (.Subscript o i pos) (m2 mo mi fIxA) :=
  h1.alt (d_dix P ho hi hs) m2_or
end
end DL
set_option Elab.async false
set_option linter.all false
set_option maxRecDepth 100000
set_option maxHeartbeats 2000000
namespace DL
open PySem PySem.Spec L2 PyProof.Rows PySem.Calls
/-! ### dicts walked -/
def dataK : L2.Key → D
  | .inl i => .int i
  | .inr s => .str s
def dataT (ks : List L2.Key) : D := .tup (ks.map dataK)
def keysOf (d : D) : M (List D) := fun z => match d with
  | .dK kvs => .ok (kvs.map fun kv => dataK kv.1) z
  | .dT kvs => .ok (kvs.map fun kv => dataT kv.1) z
  | _ => .bad
section
variable {K : Fr} {C : Cl} {L : List Addr} {Ee : Addr → Prop} {H : Hp}
theorem imm_dataK (k : L2.Key) : Imm K C L Ee H (kV k) (dataK k) := by
  cases k <;> simp [kV, dataK, Imm]
theorem immL_dataK : ∀ ks : List L2.Key, ImmL K C L Ee H (ks.map kV) (ks.map dataK)
  | [] => by simp only [List.map_nil, ImmL]
  | k :: ks => by simp only [List.map_cons, ImmL]; exact ⟨imm_dataK k, immL_dataK ks⟩
theorem immK_keys : ∀ {vs : List (L2.Key × V)} {kvs : List (L2.Key × D)}, ImmK K C L Ee H vs kvs → vs.map (·.1) = kvs.map (·.1)
  | [], [], _ => rfl
  | v :: vs, (k, d) :: ds, h => by
    simp only [ImmK] at h
    simp only [List.map_cons, immK_keys h.2.2, h.1]
  | [], _ :: _, h => by simp only [ImmK] at h
  | _ :: _, [], h => by simp only [ImmK] at h
theorem immT_keys : ∀ {vs : List (List L2.Key × V)} {kvs : List (List L2.Key × D)}, ImmT K C L Ee H vs kvs → vs.map (·.1) = kvs.map (·.1)
  | [], [], _ => rfl
  | v :: vs, (k, d) :: ds, h => by
    simp only [ImmT] at h
    simp only [List.map_cons, immT_keys h.2.2, h.1]
  | [], _ :: _, h => by simp only [ImmT] at h
  | _ :: _, [], h => by simp only [ImmT] at h
theorem map_get {α β : Type} {f : α → β} {xs ys : List α} {i : Nat} (h : xs.map f = ys.map f) {x y : α} (hx : xs[i]? = some x) (hy : ys[i]? = some y) : f x = f y := by
  have e := congrArg (fun l => l[i]?) h
  simp only [List.getElem?_map, hx, hy, Option.map_some] at e
  exact Option.some.inj e
end
section
variable {X : Cx} {B : Bs} {E : WX} {e tg o i a b : Expr} {pos apos cpos pos' : Pos} {m mo mi ma mb : M W} {md : M D} {z z' : Z} {σ σ' : L2.St} {H H' : Hp} {L L' : List Addr}
theorem itD_keys {a : Addr} {od : Obj} {vs : List (L2.Key × V)} {kvs : List (L2.Key × D)} (hn : ¬ Ex B z σ L a) (h : H a = some (.frz od (.dK vs))) (im : ImmK B.K B.C L (Ex B z σ L) H vs kvs) :
    ItD B.K B.C L (Ex B z σ L) H (Itk a od vs) (kvs.map fun kv => dataK kv.1) := by
  have hl := immK_length im
  refine ⟨fun i d B1 z1 σ1 H1 L1 eK eC hi R1 g => ?_, fun B1 z1 σ1 H1 L1 eK R1 g => ⟨(g.keep a _ h hn trivial).1, by simp [hl]⟩⟩
  have hlt : i < kvs.length := by have := (List.getElem?_eq_some_iff.mp hi).1; simpa using this
  refine ⟨⟨(g.keep a _ h hn trivial).1, by rw [hl]; exact hlt⟩, fun w H2 hy => ?_⟩
  obtain ⟨rfl, k, v, hk, rfl⟩ := hy
  refine ⟨Same.refl _, ?_⟩
  rw [List.getElem?_map] at hi
  obtain ⟨kv, hkv, rfl⟩ := Option.map_eq_some_iff.mp hi
  have := map_get (f := (·.1)) (xs := vs.map fun p => (p.1, ())) (ys := kvs.map fun p => (p.1, ())) (by simp only [List.map_map]; exact immK_keys im) (x := (k, ())) (y := (kv.1, ())) (i := i) (by simp [hk]) (by simp [hkv])
  have e : k = kv.1 := this
  subst e
  exact imm_dataK kv.1
theorem itD_keysT {a : Addr} {od : Obj} {vs : List (List L2.Key × V)} {kvs : List (List L2.Key × D)} (hn : ¬ Ex B z σ L a) (h : H a = some (.frz od (.dT vs))) (im : ImmT B.K B.C L (Ex B z σ L) H vs kvs) :
    ItD B.K B.C L (Ex B z σ L) H (Itkt a od vs) (kvs.map fun kv => dataT kv.1) := by
  have hl := immT_length im
  refine ⟨fun i d B1 z1 σ1 H1 L1 eK eC hi R1 g => ?_, fun B1 z1 σ1 H1 L1 eK R1 g => ⟨(g.keep a _ h hn trivial).1, by simp [hl]⟩⟩
  have hlt : i < kvs.length := by have := (List.getElem?_eq_some_iff.mp hi).1; simpa using this
  refine ⟨⟨(g.keep a _ h hn trivial).1, by rw [hl]; exact hlt⟩, fun w H2 hy => ?_⟩
  obtain ⟨rfl, k, v, q, hk, rfl, hq⟩ := hy
  refine ⟨Same.refl _, ?_⟩
  rw [List.getElem?_map] at hi
  obtain ⟨kv, hkv, rfl⟩ := Option.map_eq_some_iff.mp hi
  have := map_get (f := (·.1)) (xs := vs.map fun p => (p.1, ())) (ys := kvs.map fun p => (p.1, ())) (by simp only [List.map_map]; exact immT_keys im) (x := (k, ())) (y := (kv.1, ())) (i := i) (by simp [hk]) (by simp [hkv])
  have e : k = kv.1 := this
  subst e
  show Imm B.K B.C L1 (Ex B1 z1 σ1 L1) H2 (.ref q) (.tup (kv.1.map dataK))
  simp only [Imm]
  refine ⟨q, _, rfl, ⟨fun x => ?_, hq⟩, immL_dataK _⟩
  obtain ⟨o, ho, nt⟩ := R1.exd q x
  rw [hq] at ho
  cases ho
  exact nt
/-- for x in d, d a dict -/
theorem di_keys (h : PXD X B E e md) : PID X B E tg e (mBind md keysOf) := by
  obtain ⟨t, pa, sa⟩ := h
  refine ⟨_, pi_keys pa, fun z σ H L Q R h => ?_⟩
  refine sa z σ H L _ R (AftE.bind h fun d z1 v H1 L1 R1 g1 hv k1 => ?_)
  unfold keysOf at k1
  split at k1
  · simp only [vD, Imm] at hv
    obtain ⟨a, us, od, rfl, hn, h1, h2⟩ := hv
    exact ⟨a, od, rfl, .inl ⟨us, h1, AftE.here R1 k1 (itD_keys hn h1 h2)⟩⟩
  · simp only [vD, Imm] at hv
    obtain ⟨a, us, od, rfl, hn, h1, h2⟩ := hv
    exact ⟨a, od, rfl, .inr ⟨us, h1, AftE.here R1 k1 (itD_keysT hn h1 h2)⟩⟩
  · exact k1.elim
theorem PID.alt {m m' M : M (List D)} (h : PID X B E tg e m) (h' : PID X B E tg e m') (hm : ∀ z, M z = m z ∨ M z = m' z) : PID X B E tg e M := by
  obtain ⟨t, p, q⟩ := h
  obtain ⟨t', p', q'⟩ := h'
  refine ⟨fun σ H Q => t σ H Q ∨ t' σ H Q, ⟨fun pins s σ H Q I h => h.elim (p.run pins s σ H Q I) (p'.run pins s σ H Q I)⟩, fun z σ H L Q R k => ?_⟩
  rcases hm z with e | e
  · rw [e] at k; exact .inl (q z σ H L Q R k)
  · rw [e] at k; exact .inr (q' z σ H L Q R k)
/-- list, tuple, text or dict -/
def itemsA (d : D) : M (List D) := fun z => match d with
  | .dK kvs => .ok (kvs.map fun kv => dataK kv.1) z
  | .dT kvs => .ok (kvs.map fun kv => dataT kv.1) z
  | d => itemsOf d z
theorem di_any (P : Pl X B E) (h : PXD X B E e md) : PID X B E tg e (mBind md itemsA) := by
  refine (di_seq P h).alt (di_keys h) fun z => ?_
  show (md z).bind _ = (md z).bind _ ∨ (md z).bind _ = (md z).bind _
  cases md z with
  | ok d z1 =>
    show itemsA d z1 = itemsOf d z1 ∨ itemsA d z1 = keysOf d z1
    cases d <;> first | exact .inr rfl | exact .inl rfl
  | err _ _ => exact .inl rfl
  | bad => exact .inl rfl
/-! ### k in d -/
def fDIn (neg : Bool) (k x : W) : M W := fun z => flat ((dictGet z x k).map fun o => .bl (o.isSome ^^ neg)) z
theorem immO_isSome {vo : Option V} {od : Option D} {K : Fr} {C : Cl} {Ee : Addr → Prop} (h : ImmO K C L Ee H vo od) : vo.isSome = od.isSome := by
  cases vo <;> cases od <;> first | rfl | exact h.elim
theorem d_din (P : Pl X B E) (ha : PED X B E a ma) (hb : PED X B E b mb) (hm : behindInMarks .In b = false := by rfl) : PED X B E (.Compare a [.In] [b] pos) (m2 ma mb (fDIn false)) := by
  obtain ⟨t1, p1, s1⟩ := ha
  obtain ⟨t2, p2, s2⟩ := hb
  refine ⟨_, pe_cmp (pc_din (Nat.lt_of_le_of_lt (by omega) P.hu) p1 p2) hm, fun z σ H L Q R h => ?_⟩
  refine s1 z σ H L _ R (AftE.bind h fun x z1 vx H1 L1 R1 g1 h1 k1 => ?_)
  refine s2 z1 σ H1 L1 _ R1 (AftE.bind k1 fun y z2 vy H2 L2 R2 g2 h2 k2 => ?_)
  obtain ⟨d, ed, hq⟩ := flat_of R2 k2
  cases eg : dictGet z2 y x with
  | none => rw [eg] at ed; cases ed
  | some od =>
    rw [eg] at ed
    cases ed
    obtain ⟨a, vo, e1, g, im⟩ := dget_of R2 h2 (VRel.stay g2 h1) eg
    refine ⟨a, vo, e1, g, ?_⟩
    rw [immO_isSome im]
    refine hq _ ?_
    cases od <;> exact vr_bl'
theorem d_dnin (P : Pl X B E) (ha : PED X B E a ma) (hb : PED X B E b mb) (hm : behindInMarks .NotIn b = false := by rfl) : PED X B E (.Compare a [.NotIn] [b] pos) (m2 ma mb (fDIn true)) := by
  obtain ⟨t1, p1, s1⟩ := ha
  obtain ⟨t2, p2, s2⟩ := hb
  refine ⟨_, pe_cmp (pc_dnotin (Nat.lt_of_le_of_lt (by omega) P.hu) p1 p2) hm, fun z σ H L Q R h => ?_⟩
  refine s1 z σ H L _ R (AftE.bind h fun x z1 vx H1 L1 R1 g1 h1 k1 => ?_)
  refine s2 z1 σ H1 L1 _ R1 (AftE.bind k1 fun y z2 vy H2 L2 R2 g2 h2 k2 => ?_)
  obtain ⟨d, ed, hq⟩ := flat_of R2 k2
  cases eg : dictGet z2 y x with
  | none => rw [eg] at ed; cases ed
  | some od =>
    rw [eg] at ed
    cases ed
    obtain ⟨a, vo, e1, g, im⟩ := dget_of R2 h2 (VRel.stay g2 h1) eg
    refine ⟨a, vo, e1, g, ?_⟩
    rw [immO_isSome im]
    refine hq _ ?_
    cases od <;> exact vr_bl'
def fInA : W → W → M W := fOr fIn (fDIn false)
def fNinA : W → W → M W := fOr fNin (fDIn true)
theorem d_inA (P : Pl X B E) (ha : PED X B E a ma) (hb : PED X B E b mb) (hm : behindInMarks .In b = false := by rfl) : PED X B E (.Compare a [.In] [b] pos) (m2 ma mb fInA) := (d_in P ha hb hm).alt (d_din P ha hb hm) m2_or
theorem d_ninA (P : Pl X B E) (ha : PED X B E a ma) (hb : PED X B E b mb) (hm : behindInMarks .NotIn b = false := by rfl) : PED X B E (.Compare a [.NotIn] [b] pos) (m2 ma mb fNinA) := (d_nin P ha hb hm).alt (d_dnin P ha hb hm) m2_or
end
end DL
set_option Elab.async false
set_option linter.all false
set_option maxRecDepth 100000
set_option maxHeartbeats 2000000
namespace DL
open PySem PySem.Spec L2 PyProof.Rows PySem.Calls
section
variable {X : Cx} {B : Bs} {E : WX} {e f o i value : Expr} {p pos apos cpos pos' : Pos} {m mo mi ma mb : M W} {md : M D} {z z' : Z} {σ σ' : L2.St} {H H' : Hp} {L L' : List Addr}
theorem m1_of {nm : Str} (base : attributeBase o nm X.env (eval o X.env) = eval o X.env := by rfl)
    (few : ((backTo cpos (starEach [e] X.env)).all (fun x => !x.1) && (backToKw cpos (keywordEach [] X.env)).all (fun x => x.1.isSome) && decide (([e] : List Expr).length + ([] : List Keyword).length + (if ([] : List Keyword).isEmpty then 0 else 1) < 30)) = true := by rfl)
    (line : (apos.endLine == cpos.line) = true := by rfl) (trees : backTo cpos (starEach [e] X.env) = [(false, eval e X.env)] := by rfl) : M1 X o nm apos e cpos := ⟨base, few, line, trees⟩
/-! ### d.get -/
def isDict (z : Z) (x : W) : Bool := match z.cont x with
  | some (.dK _) => true
  | some (.dT _) => true
  | _ => false
theorem isD_of (R : Rel B z σ H L) {x : W} {vx : V} (hx : VRel B z σ H L vx x) (e : isDict z x = true) : ∃ a, vx = .ref a ∧ IsD H a := by
  unfold isDict at e
  split at e
  · rename_i kvs ec
    obtain ⟨a, rfl, vs, r, q⟩ := R.read hx ec
    exact ⟨a, rfl, .inl ⟨vs, r⟩⟩
  · rename_i kvs ec
    obtain ⟨a, rfl, vs, r, q⟩ := R.read hx ec
    exact ⟨a, rfl, .inr ⟨vs, r⟩⟩
  · cases e
def fDGet (x k : W) : M W := fun z => flat ((dictGet z x k).map fun o => o.getD .non) z
/-- o.get(e) -/
def mDGet (mo me : M W) : M W := fun z => (mo z).bind fun x z1 => if isDict z1 x then (me z1).bind fun k z2 => fDGet x k z2 else .bad
theorem d_dget (P : Pl X B E) (ho : PED X B E o mo) (he : PED X B E e m) (hM : M1 X o "get" apos e cpos) : PED X B E (.Call (.Attribute o "get" apos) [e] [] cpos) (mDGet mo m) := by
  obtain ⟨t1, p1, s1⟩ := ho
  obtain ⟨t2, p2, s2⟩ := he
  refine ⟨_, pe_dget1 (Nat.lt_of_le_of_lt (by omega) P.hu) p1 p2 hM, fun z σ H L Q R h => ?_⟩
  refine s1 z σ H L _ R (AftE.bind h fun x z1 vx H1 L1 R1 g1 h1 k1 => ?_)
  split at k1
  · rename_i hd
    obtain ⟨a, ea, isd⟩ := isD_of R1 h1 hd
    refine ⟨a, ea, isd, ?_⟩
    refine s2 z1 σ H1 L1 _ R1 (AftE.bind k1 fun y z2 vy H2 L2 R2 g2 h2 k2 => ?_)
    obtain ⟨d, ed, hq⟩ := flat_of R2 k2
    cases eg : dictGet z2 x y with
    | none => rw [eg] at ed; cases ed
    | some od =>
      rw [eg] at ed
      cases ed
      obtain ⟨a', vo, e1, g, im⟩ := dget_of R2 (VRel.stay g2 h1) h2 eg
      rw [ea] at e1
      cases e1
      refine ⟨vo, g, ?_⟩
      cases vo with
      | none =>
        cases od with
        | none => exact hq _ (show Imm B.K B.C L2 (Ex B z2 σ L2) H2 V.non D.non by simp only [Imm])
        | some d => exact im.elim
      | some v =>
        cases od with
        | none => exact im.elim
        | some d => exact hq _ im
  · exact k1.elim
/-! ### d[k] = v -/
theorem immK_put {K : Fr} {C : Cl} {L : List Addr} {Ee : Addr → Prop} {H : Hp} {k : L2.Key} {v : V} {d : D} (hv : Imm K C L Ee H v d) {vs : List (L2.Key × V)} {kvs : List (L2.Key × D)} (h : ImmK K C L Ee H vs kvs) : ImmK K C L Ee H (putK vs k v) (putD kvs k d) := by
  have any : ∀ {vs : List (L2.Key × V)} {kvs : List (L2.Key × D)}, ImmK K C L Ee H vs kvs → (vs.any fun kv => decide (kv.1 = k)) = (kvs.any fun kv => decide (kv.1 = k)) := by
    intro vs
    induction vs with
    | nil => intro kvs h; cases kvs with
      | nil => rfl
      | cons _ _ => simp only [ImmK] at h
    | cons v vs ih => intro kvs h; cases kvs with
      | nil => simp only [ImmK] at h
      | cons kd ds =>
        obtain ⟨j, d⟩ := kd
        simp only [ImmK] at h
        simp only [List.any_cons, ih h.2.2, h.1]
  have rep : ∀ {vs : List (L2.Key × V)} {kvs : List (L2.Key × D)}, ImmK K C L Ee H vs kvs → ImmK K C L Ee H (vs.map fun kv => if kv.1 = k then (kv.1, v) else kv) (kvs.map fun kv => if kv.1 = k then (kv.1, d) else kv) := by
    intro vs
    induction vs with
    | nil => intro kvs h; cases kvs with
      | nil => simp only [List.map_nil, ImmK]
      | cons _ _ => simp only [ImmK] at h
    | cons v' vs ih => intro kvs h; cases kvs with
      | nil => simp only [ImmK] at h
      | cons kd ds =>
        obtain ⟨j, d'⟩ := kd
        simp only [ImmK] at h
        obtain ⟨h1, h2, h3⟩ := h
        subst h1
        simp only [List.map_cons]
        by_cases e : v'.1 = k
        · simp only [if_pos e, ImmK]
          exact ⟨trivial, hv, ih h3⟩
        · simp only [if_neg e, ImmK]
          exact ⟨trivial, h2, ih h3⟩
  have snoc : ∀ {vs : List (L2.Key × V)} {kvs : List (L2.Key × D)}, ImmK K C L Ee H vs kvs → ImmK K C L Ee H (vs ++ [(k, v)]) (kvs ++ [(k, d)]) := by
    intro vs
    induction vs with
    | nil => intro kvs h; cases kvs with
      | nil => simp only [List.nil_append, ImmK]; exact ⟨trivial, hv, trivial⟩
      | cons _ _ => simp only [ImmK] at h
    | cons v' vs ih => intro kvs h; cases kvs with
      | nil => simp only [ImmK] at h
      | cons kd ds =>
        obtain ⟨j, d'⟩ := kd
        simp only [ImmK] at h
        simp only [List.cons_append, ImmK]
        exact ⟨h.1, h.2.1, ih h.2.2⟩
  unfold putK putD
  rw [any h]
  split
  · exact rep h
  · exact snoc h
theorem immT_put {K : Fr} {C : Cl} {L : List Addr} {Ee : Addr → Prop} {H : Hp} {k : List L2.Key} {v : V} {d : D} (hv : Imm K C L Ee H v d) {vs : List (List L2.Key × V)} {kvs : List (List L2.Key × D)} (h : ImmT K C L Ee H vs kvs) : ImmT K C L Ee H (putK vs k v) (putD kvs k d) := by
  have any : ∀ {vs : List (List L2.Key × V)} {kvs : List (List L2.Key × D)}, ImmT K C L Ee H vs kvs → (vs.any fun kv => decide (kv.1 = k)) = (kvs.any fun kv => decide (kv.1 = k)) := by
    intro vs
    induction vs with
    | nil => intro kvs h; cases kvs with
      | nil => rfl
      | cons _ _ => simp only [ImmT] at h
    | cons v vs ih => intro kvs h; cases kvs with
      | nil => simp only [ImmT] at h
      | cons kd ds =>
        obtain ⟨j, d⟩ := kd
        simp only [ImmT] at h
        simp only [List.any_cons, ih h.2.2, h.1]
  have rep : ∀ {vs : List (List L2.Key × V)} {kvs : List (List L2.Key × D)}, ImmT K C L Ee H vs kvs → ImmT K C L Ee H (vs.map fun kv => if kv.1 = k then (kv.1, v) else kv) (kvs.map fun kv => if kv.1 = k then (kv.1, d) else kv) := by
    intro vs
    induction vs with
    | nil => intro kvs h; cases kvs with
      | nil => simp only [List.map_nil, ImmT]
      | cons _ _ => simp only [ImmT] at h
    | cons v' vs ih => intro kvs h; cases kvs with
      | nil => simp only [ImmT] at h
      | cons kd ds =>
        obtain ⟨j, d'⟩ := kd
        simp only [ImmT] at h
        obtain ⟨h1, h2, h3⟩ := h
        subst h1
        simp only [List.map_cons]
        by_cases e : v'.1 = k
        · simp only [if_pos e, ImmT]
          exact ⟨trivial, hv, ih h3⟩
        · simp only [if_neg e, ImmT]
          exact ⟨trivial, h2, ih h3⟩
  have snoc : ∀ {vs : List (List L2.Key × V)} {kvs : List (List L2.Key × D)}, ImmT K C L Ee H vs kvs → ImmT K C L Ee H (vs ++ [(k, v)]) (kvs ++ [(k, d)]) := by
    intro vs
    induction vs with
    | nil => intro kvs h; cases kvs with
      | nil => simp only [List.nil_append, ImmT]; exact ⟨trivial, hv, trivial⟩
      | cons _ _ => simp only [ImmT] at h
    | cons v' vs ih => intro kvs h; cases kvs with
      | nil => simp only [ImmT] at h
      | cons kd ds =>
        obtain ⟨j, d'⟩ := kd
        simp only [ImmT] at h
        simp only [List.cons_append, ImmT]
        exact ⟨h.1, h.2.1, ih h.2.2⟩
  unfold putK putD
  rw [any h]
  split
  · exact rep h
  · exact snoc h
def dictPut (z : Z) (x y : W) (d : D) : Option Z := match z.mut x, y with
  | some (.dK kvs), .d kd => match keyD kd with
    | some k => if kvs.length < sizeLine then some (z.put x (.dK (putD kvs k d))) else none
    | none => none
  | some (.dT kvs), .d kd => match keyT kd with
    | some k => if kvs.length < sizeLine then some (z.put x (.dT (putD kvs k d))) else none
    | none => none
  | _, _ => none
def sDPutD (md : M D) (mo mi : M W) : MS := fun z => (md z).bindS fun d z1 => (mo z1).bindS fun x z2 => (mi z2).bindS fun y z3 => match dictPut z3 x y d with
  | some z4 => .nx z4
  | none => .bad
theorem dss_dput (P : Pl X B E) (hv : PXD X B E value md) (ho : PED X B E o mo) (hi : PED X B E i mi) (hs : swapsWith value (some (.Subscript o i pos')) pos.line X.env = pure false := by rfl) :
    PSD X B E (.Assign [.Subscript o i pos'] value pos) (sDPutD md mo mi) := by
  obtain ⟨t0, p0, s0⟩ := hv
  obtain ⟨t1, p1, s1⟩ := ho
  obtain ⟨t2, p2, s2⟩ := hi
  refine ⟨_, ps_dput (Nat.lt_of_le_of_lt (by omega) P.hu) p1 p2 p0 hs, fun z σ H L N R h => ?_⟩
  refine s0 z σ H L _ R (AftE.bindS h fun d z1 vd H1 L1 R1 g1 h1 k1 => ?_)
  refine s1 z1 σ H1 L1 _ R1 (AftE.bindS k1 fun x z2 vx H2 L2 R2 g2 h2 k2 => ?_)
  refine s2 z2 σ H2 L2 _ R2 (AftE.bindS k2 fun y z3 vy H3 L3 R3 g3 h3 k3 => ?_)
  have hd := Imm.stay g3 _ _ (Imm.stay g2 _ _ h1)
  have hx := VRel.stay g3 h2
  generalize eq : dictPut z3 x y d = oz at k3
  match oz, k3 with
  | some z4, k3 =>
    unfold dictPut at eq
    split at eq
    · rename_i kvs kd ec
      split at eq
      · rename_i k ek
        split at eq
        · rename_i hl
          cases eq
          obtain ⟨q, rfl, ⟨vs, hq, im⟩, ex, up⟩ := R3.write hx ec
          have u := up (.dK (putD kvs k d)) (.dK (putK vs k vd)) ⟨_, upd_same, immK_put (Imm.stay (grow_upd ex) _ _ hd) (ImmK.stay (grow_upd ex) _ _ im)⟩
          refine ⟨q, _, rfl, ?_, k3 _ _ _ u.1 u.2⟩
          rw [keyD_imm h3 ek]
          exact DPut.k hq (by rw [immK_length im]; exact hl)
        · cases eq
      · cases eq
    · rename_i kvs kd ec
      split at eq
      · rename_i k ek
        split at eq
        · rename_i hl
          cases eq
          obtain ⟨q, rfl, ⟨vs, hq, im⟩, ex, up⟩ := R3.write hx ec
          have u := up (.dT (putD kvs k d)) (.dT (putK vs k vd)) ⟨_, upd_same, immT_put (Imm.stay (grow_upd ex) _ _ hd) (ImmT.stay (grow_upd ex) _ _ im)⟩
          obtain ⟨b, rfl, hb⟩ := keyT_imm h3 ek
          refine ⟨q, _, rfl, ?_, k3 _ _ _ u.1 u.2⟩
          exact DPut.t hq hb (by rw [immT_length im]; exact hl)
        · cases eq
      · cases eq
    · cases eq
  | none, k3 => exact k3.elim
/-! ### new dicts of tuple keys -/
theorem Fresh.dT (R : Rel B z σ H L) {p : Addr} {vs : List (List L2.Key × V)} {ds : List (List L2.Key × D)} (hp : H p = none) (q : ImmT B.K B.C L (Ex B z σ L) H vs ds) : Fresh B z σ (upd H p (.dT vs)) L p (.dT ds) :=
  ⟨R.upd_new hp, R.lay hp, ⟨vs, upd_same, ImmT.stay (grow_add hp) _ _ q⟩, R.h0 hp, fun h => (R.exd p (.inr (.inl h))).ne hp, fun h => (R.exd p h).ne hp⟩
theorem df_dictT0 : PFD X B E (.Dict [] [] pos) (mF (.dT [])) := ⟨_, pe_dnewT, fun z σ H L Q R h p hp => h _ _ _ (R.upd_new hp) (G.new hp) ⟨p, rfl, Fresh.dT R hp (by simp [ImmT]), hp⟩⟩
end
end DL
set_option Elab.async false
set_option linter.all false
set_option maxRecDepth 100000
set_option maxHeartbeats 2000000
namespace DL
open PySem PySem.Spec L2 PyProof.Rows PySem.Calls
section
variable {X : Cx} {B : Bs} {E : WX} {e : Expr} {es : List Expr} {p pos : Pos} {m : M W} {ms : List (M W)} {z z' : Z} {σ σ' : L2.St} {H H' : Hp} {L L' : List Addr}
/-! ### len of dicts -/
def rLenR : List V → Hp → VK → Prop := fun xs H Q => ∃ (a : Addr) (n : Nat), xs = [.ref a] ∧ ((∃ kvs : List (L2.Key × V), Rd H a (.dK kvs) ∧ n = kvs.length) ∨ ∃ kvs : List (List L2.Key × V), Rd H a (.dT kvs) ∧ n = kvs.length) ∧ Q (.int ((n : Nat) : Int)) H
theorem call_lenR : CallR X (.builtin "len") rLenR := by
  intro pins s σ H xs us Q I r h
  obtain ⟨a, n, rfl, hc, q⟩ := h
  obtain ⟨u, rfl, rx⟩ := vals1 r
  obtain rfl : u = .ref a := rx
  rcases hc with ⟨kvs, hr, rfl⟩ | ⟨kvs, hr, rfl⟩
  · exact L2.d_len I hr fun t s' I' => ⟨.int kvs.length, H, I', ⟨_, rfl⟩, q⟩
  · obtain ⟨hz, hd, ys, rel, dd⟩ := dt_rd I.hok hr
    have hl : kvs.length = ys.length := Paired.length rel
    refine call_len_dictH hd dd (by rw [← hl]; rw [sizeLine_eq] at hz; omega) ?_
    rw [← hl]
    exact ⟨.int ((kvs.length : Nat) : Int), H, I.tok _, ⟨_, rfl⟩, q⟩
def fDLen (xs : List W) : M W := fun z => flat (match xs with
  | [w] => match z.cont w with
    | some (.dK kvs) => some (.int kvs.length)
    | some (.dT kvs) => some (.int kvs.length)
    | _ => none
  | _ => none) z
theorem callS_lenD : CallS B E rLenR fDLen := by
  intro z σ H L Q xs vs R hv h
  obtain ⟨d, ed, q⟩ := flat_of R h
  split at ed
  · rename_i w
    split at ed
    · rename_i kvs ec
      cases ed
      obtain ⟨v, rfl, r⟩ := vvs1 hv
      obtain ⟨a, rfl, us, hr, im⟩ := R.read r ec
      exact ⟨a, us.length, rfl, .inl ⟨us, hr, rfl⟩, q _ (by rw [immK_length im]; exact vr_int')⟩
    · rename_i kvs ec
      cases ed
      obtain ⟨v, rfl, r⟩ := vvs1 hv
      obtain ⟨a, rfl, us, hr, im⟩ := R.read r ec
      exact ⟨a, us.length, rfl, .inr ⟨us, hr, rfl⟩, q _ (by rw [immT_length im]; exact vr_int')⟩
    · cases ed
  · cases ed
def fLenA : List W → M W := kOr fLen fDLen
theorem d_lenA (P : Pl X B E) (hm : X.mg "len" = none) (ha : PED X B E e m) (hg : Gl X "len" := by rfl) (he : starEach [e] X.env = (false, eval e X.env) :: starEach [] X.env := by rfl) : PED X B E (.Call (.Name "len" p) [e] [] pos) (mBind (wCons m wNil) fLenA) :=
  d_callB (CallR.or call_len call_lenR) ((callS_len P).or callS_lenD) (dw_cons ha dw_nil he) hg hm PySem.boot_len (he := he)
/-! ### f-strings -/
def fFmt (x : W) : M W := flat (match x with
  | .d (.str y) => if y.length ≤ sizeLine then some (.str y) else none
  | .d (.int i) => if i.natAbs.log2 < 1920 then some (.str (toString i)) else none
  | _ => none)
theorem d_fmt (he : PED X B E e m) : PED X B E (.FormattedValue e (-1) none pos) (mBind m fFmt) := by
  obtain ⟨t, pa, sa⟩ := he
  refine ⟨_, pe_fmt pa, fun z σ H L Q R h => ?_⟩
  refine sa z σ H L _ R (AftE.bind h fun x z1 v H1 L1 R1 g1 hv k1 => ?_)
  obtain ⟨d, ed, q⟩ := flat_of R1 k1
  split at ed
  · split at ed
    · rename_i y hz
      cases ed
      exact .inl ⟨y, vr_str hv, hz, q _ vr_str'⟩
    · cases ed
  · split at ed
    · rename_i i hz
      cases ed
      exact .inr ⟨i, vr_int hv, hz, q _ vr_str'⟩
    · cases ed
  · cases ed
def mJs : List (M W) → Str → M W
  | [], acc, z => .ok (.d (.str acc)) z
  | m :: ms, acc, z => (m z).bind fun x z1 => match x with
    | .d (.str y) => if (acc ++ y).length ≤ sizeLine then mJs ms (acc ++ y) z1 else .bad
    | _ => .bad
structure PJD (X : Cx) (B : Bs) (E : WX) (es : List Expr) (ms : List (M W)) : Prop where
  ex : ∃ ts, PJ X es ts ∧ ∀ acc z σ H L (Q : VK), Rel B z σ H L → AftE B E (vV B σ) z σ H L Q (mJs ms acc z) → tJs ts acc σ H fun out H1 => Q (.str out) H1
theorem pjd_nil : PJD X B E [] [] := ⟨[], .nil, fun acc z σ H L Q R h => AftE.here R h vr_str'⟩
theorem pjd_cons (he : PED X B E e m) (hr : PJD X B E es ms) : PJD X B E (e :: es) (m :: ms) := by
  obtain ⟨t, pa, sa⟩ := he
  obtain ⟨ts, pr, sr⟩ := hr
  refine ⟨t :: ts, .cons pa pr, fun acc z σ H L Q R h => ?_⟩
  refine sa z σ H L _ R (AftE.bind h fun x z1 v H1 L1 R1 g1 hv k1 => ?_)
  split at k1
  · rename_i y
    split at k1
    · rename_i hl
      exact ⟨y, vr_str hv, hl, sr _ z1 σ H1 L1 Q R1 k1⟩
    · exact k1.elim
  · exact k1.elim
theorem d_joined {v1 v2 : Expr} {rest : List Expr} (h : PJD X B E (v1 :: v2 :: rest) ms) : PED X B E (.JoinedStr (v1 :: v2 :: rest) pos) (mJs ms Str.empty) := by
  obtain ⟨ts, pr, sr⟩ := h
  exact ⟨_, pe_joined pr, fun z σ H L Q R h => sr _ z σ H L Q R h⟩
theorem d_joined1 (h : PED X B E e m) : PED X B E (.JoinedStr [e] pos) m := by
  obtain ⟨t, p, s⟩ := h
  exact ⟨t, pe_joined1 p, s⟩
end
end DL
set_option Elab.async false
set_option linter.all false
set_option maxRecDepth 100000
set_option maxHeartbeats 2000000
namespace DL
open PySem PySem.Spec L2 PyProof.Rows PySem.Calls
/-! ### what a def has made goes over to data when it returns -/
mutual
def resD (n : Nat) (r : Nat → Option D) : D → Option D
  | .obj m => if m < n then some (.obj m) else r m
  | .lst xs => (resL n r xs).map .lst
  | .tup xs => (resL n r xs).map .tup
  | .dK kvs => (resK n r kvs).map .dK
  | .dT kvs => (resT n r kvs).map .dT
  | .ins c fs => (resF n r fs).map (.ins c)
  | d => some d
def resL (n : Nat) (r : Nat → Option D) : List D → Option (List D)
  | [] => some []
  | d :: ds => (resD n r d).bind fun d' => (resL n r ds).map (d' :: ·)
def resK (n : Nat) (r : Nat → Option D) : List (L2.Key × D) → Option (List (L2.Key × D))
  | [] => some []
  | (k, d) :: ds => (resD n r d).bind fun d' => (resK n r ds).map ((k, d') :: ·)
def resT (n : Nat) (r : Nat → Option D) : List (List L2.Key × D) → Option (List (List L2.Key × D))
  | [] => some []
  | (k, d) :: ds => (resD n r d).bind fun d' => (resT n r ds).map ((k, d') :: ·)
def resF (n : Nat) (r : Nat → Option D) : List (Str × D) → Option (List (Str × D))
  | [] => some []
  | (k, d) :: ds => (resD n r d).bind fun d' => (resF n r ds).map ((k, d') :: ·)
end
def resC (n : Nat) (r : Nat → Option D) : Cell → Option D
  | .lst xs => (resL n r xs).map .lst
  | .dK kvs => (resK n r kvs).map .dK
  | .dT kvs => (resT n r kvs).map .dT
  | .ins c fs => (resF n r fs).map (.ins c)
def resO (S : List Cell) (n : Nat) : Nat → Nat → Option D
  | 0, _ => none
  | f + 1, m => (S[m]?).bind (resC n (resO S n f))
def popR (S : List Cell) : RF → RF
  | .ok d S' => if S'.length = S.length then .ok d S' else match resD S.length (resO S' S.length 40) d with
    | some d' => if S.length ≤ S'.length ∧ (S'.take S.length).all (belC S.length) = true then .ok d' (S'.take S.length) else .bad
    | none => .bad
  | .err x S' => if S'.length = S.length then .err x S' else if S.length ≤ S'.length ∧ belF S.length x.fs = true ∧ (S'.take S.length).all (belC S.length) = true then .err x (S'.take S.length) else .bad
  | .bad => .bad
def popF (m : MF) : MF := fun as S => popR S (m as S)
section
variable {K : Fr} {C : Cl} {L L0 : List Addr} {E E0 : Addr → Prop} {H : Hp} {n : Nat} {r : Nat → Option D}
/-- what r says of the cells from n on -/
def ResOk (K : Fr) (C : Cl) (L L0 : List Addr) (E0 : Addr → Prop) (H : Hp) (n : Nat) (r : Nat → Option D) : Prop := ∀ m d a, n ≤ m → r m = some d → L[m]? = some a → Imm K C L0 E0 H (.ref a) d
mutual
theorem res_imm (s : Shr n L E L0 E0) (hr : ResOk K C L L0 E0 H n r) : ∀ (v : V) (d d' : D), Imm K C L E H v d → resD n r d = some d' → Imm K C L0 E0 H v d'
  | v, .non, d', h, e => by cases e; simp only [Imm] at h ⊢; exact h
  | v, .bl b, d', h, e => by cases e; simp only [Imm] at h ⊢; exact h
  | v, .int i, d', h, e => by cases e; simp only [Imm] at h ⊢; exact h
  | v, .str x, d', h, e => by cases e; simp only [Imm] at h ⊢; exact h
  | v, .con u, d', h, e => by cases e; simp only [Imm] at h ⊢; exact h
  | v, .lst xs, d', h, e => by
    simp only [resD, Option.map_eq_some_iff] at e
    obtain ⟨ys, e, rfl⟩ := e
    simp only [Imm] at h ⊢
    obtain ⟨a, vs, e1, q, i⟩ := h
    exact ⟨a, vs, e1, s.rdL q, res_immL s hr vs xs ys i e⟩
  | v, .tup xs, d', h, e => by
    simp only [resD, Option.map_eq_some_iff] at e
    obtain ⟨ys, e, rfl⟩ := e
    simp only [Imm] at h ⊢
    obtain ⟨a, vs, e1, q, i⟩ := h
    exact ⟨a, vs, e1, s.rdT q, res_immL s hr vs xs ys i e⟩
  | v, .obj m, d', h, e => by
    simp only [resD] at e
    simp only [Imm] at h
    obtain ⟨a, rfl, ha⟩ := h
    split at e
    · rename_i hm
      cases e
      simp only [Imm]
      exact ⟨a, rfl, s.low m a hm ha⟩
    · rename_i hm
      exact hr m d' a (by omega) e ha
  | v, .dK kvs, d', h, e => by
    simp only [resD, Option.map_eq_some_iff] at e
    obtain ⟨ys, e, rfl⟩ := e
    simp only [Imm] at h ⊢
    obtain ⟨a, vs, od, e1, ne, q, i⟩ := h
    exact ⟨a, vs, od, e1, fun z => ne (s.sub a z), q, res_immK s hr vs kvs ys i e⟩
  | v, .dT kvs, d', h, e => by
    simp only [resD, Option.map_eq_some_iff] at e
    obtain ⟨ys, e, rfl⟩ := e
    simp only [Imm] at h ⊢
    obtain ⟨a, vs, od, e1, ne, q, i⟩ := h
    exact ⟨a, vs, od, e1, fun z => ne (s.sub a z), q, res_immT s hr vs kvs ys i e⟩
  | v, .ins c fs, d', h, e => by
    simp only [resD, Option.map_eq_some_iff] at e
    obtain ⟨ys, e, rfl⟩ := e
    simp only [Imm] at h ⊢
    obtain ⟨a, dx, A, vs, e1, hc, ne, q, i⟩ := h
    exact ⟨a, dx, A, vs, e1, hc, fun z => ne (s.sub a z), q, res_immF s hr vs fs ys i e⟩
theorem res_immL (s : Shr n L E L0 E0) (hr : ResOk K C L L0 E0 H n r) : ∀ (vs : List V) (ds ds' : List D), ImmL K C L E H vs ds → resL n r ds = some ds' → ImmL K C L0 E0 H vs ds'
  | [], [], ds', _, e => by cases e; simp only [ImmL]
  | v :: vs, d :: ds, ds', h, e => by
    simp only [resL, Option.bind_eq_some_iff, Option.map_eq_some_iff] at e
    obtain ⟨x, e1, xs, e2, rfl⟩ := e
    simp only [ImmL] at h ⊢
    exact ⟨res_imm s hr v d x h.1 e1, res_immL s hr vs ds xs h.2 e2⟩
  | [], _ :: _, _, h, _ => by simp only [ImmL] at h
  | _ :: _, [], _, h, _ => by simp only [ImmL] at h
theorem res_immK (s : Shr n L E L0 E0) (hr : ResOk K C L L0 E0 H n r) : ∀ (vs : List (L2.Key × V)) (ds ds' : List (L2.Key × D)), ImmK K C L E H vs ds → resK n r ds = some ds' → ImmK K C L0 E0 H vs ds'
  | [], [], ds', _, e => by cases e; simp only [ImmK]
  | v :: vs, (k, d) :: ds, ds', h, e => by
    simp only [resK, Option.bind_eq_some_iff, Option.map_eq_some_iff] at e
    obtain ⟨x, e1, xs, e2, rfl⟩ := e
    simp only [ImmK] at h ⊢
    exact ⟨h.1, res_imm s hr v.2 d x h.2.1 e1, res_immK s hr vs ds xs h.2.2 e2⟩
  | [], _ :: _, _, h, _ => by simp only [ImmK] at h
  | _ :: _, [], _, h, _ => by simp only [ImmK] at h
theorem res_immT (s : Shr n L E L0 E0) (hr : ResOk K C L L0 E0 H n r) : ∀ (vs : List (List L2.Key × V)) (ds ds' : List (List L2.Key × D)), ImmT K C L E H vs ds → resT n r ds = some ds' → ImmT K C L0 E0 H vs ds'
  | [], [], ds', _, e => by cases e; simp only [ImmT]
  | v :: vs, (k, d) :: ds, ds', h, e => by
    simp only [resT, Option.bind_eq_some_iff, Option.map_eq_some_iff] at e
    obtain ⟨x, e1, xs, e2, rfl⟩ := e
    simp only [ImmT] at h ⊢
    exact ⟨h.1, res_imm s hr v.2 d x h.2.1 e1, res_immT s hr vs ds xs h.2.2 e2⟩
  | [], _ :: _, _, h, _ => by simp only [ImmT] at h
  | _ :: _, [], _, h, _ => by simp only [ImmT] at h
theorem res_immF (s : Shr n L E L0 E0) (hr : ResOk K C L L0 E0 H n r) : ∀ (vs : List (Str × V)) (ds ds' : List (Str × D)), ImmF K C L E H vs ds → resF n r ds = some ds' → ImmF K C L0 E0 H vs ds'
  | [], [], ds', _, e => by cases e; simp only [ImmF]
  | v :: vs, (k, d) :: ds, ds', h, e => by
    simp only [resF, Option.bind_eq_some_iff, Option.map_eq_some_iff] at e
    obtain ⟨x, e1, xs, e2, rfl⟩ := e
    simp only [ImmF] at h ⊢
    exact ⟨h.1, res_imm s hr v.2 d x h.2.1 e1, res_immF s hr vs ds xs h.2.2 e2⟩
  | [], _ :: _, _, h, _ => by simp only [ImmF] at h
  | _ :: _, [], _, h, _ => by simp only [ImmF] at h
end
/-- a cell whose dict is locked -/
def CellLk (K : Fr) (C : Cl) (L : List Addr) (E : Addr → Prop) (H : Hp) (a : Addr) : Cell → Prop
  | .lst xs => ∃ vs, H a = some (.lst vs) ∧ ImmL K C L E H vs xs
  | .dK kvs => ∃ vs od, H a = some (.frz od (.dK vs)) ∧ ImmK K C L E H vs kvs
  | .dT kvs => ∃ vs od, H a = some (.frz od (.dT vs)) ∧ ImmT K C L E H vs kvs
  | .ins c fs => ∃ A dx vs, C c = some A ∧ H a = some (.ins A dx vs) ∧ ImmF K C L E H vs fs
theorem resO_ok {S : List Cell} (s : Shr n L E L0 E0) (hc : ∀ m a c, n ≤ m → L[m]? = some a → S[m]? = some c → CellLk K C L E H a c ∧ ¬ E0 a) : ∀ f : Nat, ResOk K C L L0 E0 H n (resO S n f)
  | 0 => fun m d a _ e _ => by cases e
  | f + 1 => fun m d a hm e ha => by
    simp only [resO, Option.bind_eq_some_iff] at e
    obtain ⟨c, e1, e2⟩ := e
    obtain ⟨h, ne⟩ := hc m a c hm ha e1
    have ih := resO_ok s hc f
    cases c with
    | lst xs =>
      simp only [resC, Option.map_eq_some_iff] at e2
      obtain ⟨ys, e2, rfl⟩ := e2
      obtain ⟨vs, h, i⟩ := h
      simp only [Imm]
      exact ⟨a, vs, rfl, .inl ⟨ne, .inl h⟩, res_immL s ih vs xs ys i e2⟩
    | dK kvs =>
      simp only [resC, Option.map_eq_some_iff] at e2
      obtain ⟨ys, e2, rfl⟩ := e2
      obtain ⟨vs, od, h, i⟩ := h
      simp only [Imm]
      exact ⟨a, vs, od, rfl, ne, h, res_immK s ih vs kvs ys i e2⟩
    | dT kvs =>
      simp only [resC, Option.map_eq_some_iff] at e2
      obtain ⟨ys, e2, rfl⟩ := e2
      obtain ⟨vs, od, h, i⟩ := h
      simp only [Imm]
      exact ⟨a, vs, od, rfl, ne, h, res_immT s ih vs kvs ys i e2⟩
    | ins k fs =>
      simp only [resC, Option.map_eq_some_iff] at e2
      obtain ⟨ys, e2, rfl⟩ := e2
      obtain ⟨A, dx, vs, hA, h, i⟩ := h
      simp only [Imm]
      exact ⟨a, dx, A, vs, rfl, hA, ne, h, res_immF s ih vs fs ys i e2⟩
end
/-! many locks -/
def LockN (Q : V → Hp → Prop) : Nat → V → Hp → Prop
  | 0, v, H => Q v H
  | n + 1, v, H => LockN Q n v H ∨ ∃ a u, H a = some u ∧ Mut (some u) ∧ ∀ od, LockN Q n v (upd H a (.frz od u))
theorem lock_many {Q : V → Hp → Prop} {v : V} : ∀ (as : List Addr) (H : Hp), as.Nodup → (∀ a ∈ as, ∃ u, H a = some u ∧ Mut (some u)) →
    (∀ H', (∀ b, b ∉ as → H' b = H b) → (∀ a ∈ as, ∃ od u, H a = some u ∧ H' a = some (.frz od u)) → Q v H') → LockN Q as.length v H
  | [], H, _, _, h => h H (fun _ _ => rfl) (fun a h => by cases h)
  | a :: as, H, nd, hm, h => by
    have nd' := List.nodup_cons.mp nd
    obtain ⟨u, hu, mu⟩ := hm a (List.mem_cons_self ..)
    refine .inr ⟨a, u, hu, mu, fun od => ?_⟩
    have neq : ∀ b ∈ as, b ≠ a := fun b hb e => nd'.1 (e ▸ hb)
    refine lock_many as _ nd'.2 (fun b hb => ?_) (fun H' h1 h2 => h H' (fun b hb => ?_) (fun b hb => ?_))
    · obtain ⟨w, hw, mw⟩ := hm b (List.mem_cons_of_mem _ hb)
      exact ⟨w, by rw [upd_ne (neq b hb)]; exact hw, mw⟩
    · have e : b ≠ a := fun e => hb (e ▸ List.mem_cons_self ..)
      rw [h1 b (fun x => hb (List.mem_cons_of_mem _ x)), upd_ne e]
    · rcases List.mem_cons.mp hb with rfl | hb
      · exact ⟨od, u, hu, by rw [h1 b nd'.1, upd_same]⟩
      · obtain ⟨od', w, hw, hw'⟩ := h2 b hb
        rw [upd_ne (neq b hb)] at hw
        exact ⟨od', w, hw, hw'⟩
theorem lock_run {X : Cx} {pins : List (Addr × Obj)} {σ : L2.St} {s : Shared} {Q : V → Hp → Prop} {v : V} : ∀ (n : Nat) (H : Hp), Inv X pins σ H s → LockN Q n v H → ∃ H', Inv X pins σ H' s ∧ Q v H'
  | 0, H, I, h => ⟨H, I, h⟩
  | n + 1, H, I, h => by
    rcases h with h | ⟨a, u, hu, mu, h⟩
    · exact lock_run n H I h
    · obtain ⟨od, I2⟩ := I.lock hu mu
      exact lock_run n _ I2 (h od)
theorem pss_lockRet {X : Cx} {ss : List Stmt} {t : TS} (p : PSs X ss t) : PSs X ss (fun D σ H => t { D with rt := fun v H' => ∃ n, LockN D.rt n v H' } σ H) := by
  refine ⟨fun pins s σ H D I h => ?_⟩
  refine thn (p.run pins s σ H _ I h) fun f s1 q => ?_
  cases f with
  | next => exact q
  | brk => exact q
  | cont => exact q
  | ret u =>
    obtain ⟨x, σ', H', I2, r, n, q⟩ := q
    obtain ⟨H2, I3, q⟩ := lock_run n H' I2 q
    exact ⟨x, σ', H2, I3, r, q⟩
end DL
set_option Elab.async false
set_option linter.all false
set_option maxRecDepth 100000
set_option maxHeartbeats 2000000
namespace DL
open PySem PySem.Spec L2 PyProof.Rows PySem.Calls
def dictsOf (L : List Addr) (S : List Cell) (n : Nat) : List Addr := (((L.zip S).drop n).filter fun p => isDictC p.2).map (·.1)
theorem mem_dicts {L : List Addr} {S : List Cell} {n : Nat} {a : Addr} : a ∈ dictsOf L S n ↔ ∃ k c, n ≤ k ∧ L[k]? = some a ∧ S[k]? = some c ∧ isDictC c = true := by
  unfold dictsOf
  constructor
  · intro h
    obtain ⟨p, hp, rfl⟩ := List.mem_map.mp h
    obtain ⟨hp, hd⟩ := List.mem_filter.mp hp
    obtain ⟨i, hi⟩ := List.getElem?_of_mem hp
    rw [List.getElem?_drop, List.getElem?_zip_eq_some] at hi
    exact ⟨n + i, p.2, by omega, hi.1, hi.2, hd⟩
  · rintro ⟨k, c, hn, h1, h2, h3⟩
    refine List.mem_map.mpr ⟨(a, c), List.mem_filter.mpr ⟨?_, h3⟩, rfl⟩
    refine List.mem_of_getElem? (i := k - n) ?_
    rw [List.getElem?_drop, show n + (k - n) = k by omega, List.getElem?_zip_eq_some]
    exact ⟨h1, h2⟩
theorem nodup_dicts {L : List Addr} {S : List Cell} {n : Nat} (hl : L.length = S.length) (nd : L.Nodup) : (dictsOf L S n).Nodup := by
  have e : (L.zip S).map (·.1) = L := List.map_fst_zip (Nat.le_of_eq hl)
  refine List.Nodup.sublist ?_ nd
  unfold dictsOf
  conv => rhs; rw [← e]
  exact (((List.filter_sublist).trans (List.drop_sublist _ _))).map _
section
variable {K : Fr} {C : Cl} {L L' : List Addr} {E : Addr → Prop} {H H' : Hp} {S S' : List Cell}
theorem nodup_ix {l : List Addr} (nd : l.Nodup) {i j : Nat} {a : Addr} (h1 : l[i]? = some a) (h2 : l[j]? = some a) : i = j :=
  (List.getElem?_inj (List.getElem?_eq_some_iff.mp h1).1 nd).mp (h1.trans h2.symm)
/-- the cells from the entry on are popped, their dicts locked -/
theorem pop_ok {Q : V → Hp → Prop} {v : V} {d d' : D} (st : StRel K C L E H S) (exd : ∀ a, E a → Here H a) (b : Back ⟨K, C, E, H, L, E, none⟩ S' H' L') (im : Imm K C L' (fun a => E a ∨ a ∈ L') H' v d)
    (hd : resD S.length (resO S' S.length 40) d = some d') (hl : S.length ≤ S'.length) (hb : (S'.take S.length).all (belC S.length) = true)
    (hQ : ∀ H'' L'', Back ⟨K, C, E, H, L, E, none⟩ (S'.take S.length) H'' L'' → Imm K C L'' (fun a => E a ∨ a ∈ L'') H'' v d' → Q v H'') : ∃ n, LockN Q n v H' := by
  have hlen : L'.length = S'.length := b.st.len
  have hL0 : L.length = S.length := st.len
  have nd := b.st.nd
  refine ⟨_, lock_many (dictsOf L' S' S.length) H' (nodup_dicts hlen nd) (fun a ha => ?_) fun H'' h1 h2 => ?_⟩
  · obtain ⟨k, c, hk, e1, e2, hc⟩ := mem_dicts.mp ha
    have q := b.st.at_ k a c e1 e2
    cases c with
    | lst _ => cases hc
    | ins _ _ => cases hc
    | dK kvs => obtain ⟨vs, h, _⟩ := q; exact ⟨_, h, trivial⟩
    | dT kvs => obtain ⟨vs, h, _⟩ := q; exact ⟨_, h, trivial⟩
  have asL : ∀ a ∈ dictsOf L' S' S.length, a ∈ L' := fun a ha => by
    obtain ⟨k, c, hk, e1, e2, hc⟩ := mem_dicts.mp ha
    exact List.mem_of_getElem? e1
  -- addresses from the entry on are new
  have new : ∀ k a, S.length ≤ k → L'[k]? = some a → a ∉ L ∧ H a = none ∧ ¬ E a := fun k a hk e => by
    have hnl : a ∉ L := fun h => by
      obtain ⟨i, hi⟩ := List.getElem?_of_mem h
      have hi2 := b.pre i a hi
      have := nodup_ix nd hi2 e
      have hi0 := (List.getElem?_eq_some_iff.mp hi).1
      omega
    have hn : H a = none := (b.newc a (List.mem_of_getElem? e)).elim (fun h => absurd h hnl) id
    exact ⟨hnl, hn, fun h => (exd a h).ne hn⟩
  have asN : ∀ a ∈ dictsOf L' S' S.length, H a = none ∧ ¬ E a := fun a ha => by
    obtain ⟨k, c, hk, e1, e2, hc⟩ := mem_dicts.mp ha
    exact (new k a hk e1).2
  have g : Grow L' (fun a => E a ∨ a ∈ L') H' L' (fun a => E a ∨ a ∈ L') H'' := ⟨fun a o h n _ => ⟨by rw [h1 a (fun x => n (.inr (asL a x)))]; exact h, n⟩, fun _ _ h => h, fun a h => by
    by_cases x : a ∈ dictsOf L' S' S.length
    · obtain ⟨od, u, _, e⟩ := h2 a x
      rw [e]; intro z; cases z
    · rw [h1 a x]; exact h⟩
  have hsub : ∀ a, a ∈ L'.take S.length → a ∈ L' := fun a h => List.mem_of_mem_take h
  have s : Shr S.length L' (fun a => E a ∨ a ∈ L') (L'.take S.length) (fun a => E a ∨ a ∈ L'.take S.length) := ⟨fun m a hm h => by rw [List.getElem?_take_of_lt hm]; exact h, fun a h => h.imp id (hsub a)⟩
  have notTake : ∀ k a, S.length ≤ k → L'[k]? = some a → a ∉ L'.take S.length := fun k a hk e h => by
    obtain ⟨i, hi⟩ := List.getElem?_of_mem h
    have hi0 := (List.getElem?_eq_some_iff.mp hi).1
    rw [List.length_take] at hi0
    rw [List.getElem?_take_of_lt (by omega)] at hi
    have := nodup_ix nd hi e
    omega
  have ok := resO_ok (S := S') s (K := K) (C := C) (H := H'') (fun m a c hm e1 e2 => ⟨by
    have q := b.st.at_ m a c e1 e2
    cases c with
    | lst xs =>
      obtain ⟨vs, h, i⟩ := q
      have na : a ∉ dictsOf L' S' S.length := fun x => by
        obtain ⟨k, c, hk, e3, e4, hc⟩ := mem_dicts.mp x
        have := nodup_ix nd e1 e3
        subst this
        rw [e2] at e4
        cases e4
        cases hc
      exact ⟨vs, by rw [h1 a na]; exact h, ImmL.stay g _ _ i⟩
    | ins k fs =>
      obtain ⟨A, dx, vs, hA, h, i⟩ := q
      have na : a ∉ dictsOf L' S' S.length := fun x => by
        obtain ⟨k, c, hk, e3, e4, hc⟩ := mem_dicts.mp x
        have := nodup_ix nd e1 e3
        subst this
        rw [e2] at e4
        cases e4
        cases hc
      exact ⟨A, dx, vs, hA, by rw [h1 a na]; exact h, ImmF.stay g _ _ i⟩
    | dK kvs =>
      obtain ⟨vs, h, i⟩ := q
      obtain ⟨od, u, hu, e⟩ := h2 a (mem_dicts.mpr ⟨m, _, hm, e1, e2, rfl⟩)
      rw [h] at hu
      cases hu
      exact ⟨vs, od, e, ImmK.stay g _ _ i⟩
    | dT kvs =>
      obtain ⟨vs, h, i⟩ := q
      obtain ⟨od, u, hu, e⟩ := h2 a (mem_dicts.mpr ⟨m, _, hm, e1, e2, rfl⟩)
      rw [h] at hu
      cases hu
      exact ⟨vs, od, e, ImmT.stay g _ _ i⟩, fun h => h.elim (new m a hm e1).2.2 (notTake m a hm e1)⟩) 40
  have same : ∀ a, a ∉ dictsOf L' S' S.length → ∀ o, H' a = some o → H'' a = some o := fun a n o h => by rw [h1 a n]; exact h
  have takeN : ∀ a, a ∈ L'.take S.length → a ∉ dictsOf L' S' S.length := fun a h x => by
    obtain ⟨k, c, hk, e1, e2, hc⟩ := mem_dicts.mp x
    exact notTake k a hk e1 h
  have tab' : TabR C.T H H'' := b.tab.keep fun a o e k => by
    by_cases x : a ∈ dictsOf L' S' S.length
    · obtain ⟨m, c, hm, e1, e2, hc⟩ := mem_dicts.mp x
      obtain ⟨u, hu, nu⟩ := (b.st.at_ m a c e1 e2).nx
      rw [e] at hu
      cases hu
      rcases k with ⟨_, rfl⟩ | ⟨_, rfl⟩ <;> exact nu.elim
    · rw [h1 a x]; exact e
  refine hQ H'' (L'.take S.length) ⟨⟨?_, ?_, fun a h => .inr h, fun m a c e1 e2 => ?_⟩, fun m a h => ?_, fun a h => b.newc a (hsub a h), fun a o h n nb => ?_, fun a h => ?_, tab'⟩ (res_imm s ok v d d' (Imm.stay g _ _ im) hd)
  · rw [List.length_take, List.length_take, hlen]
  · exact nd.sublist (List.take_sublist _ _)
  · have m0 := (List.getElem?_eq_some_iff.mp e1).1
    rw [List.length_take] at m0
    have ha := List.mem_of_getElem? e1
    rw [List.getElem?_take_of_lt (by omega)] at e1
    have hk := List.all_eq_true.mp hb c (List.mem_of_getElem? e2)
    rw [List.getElem?_take_of_lt (by omega)] at e2
    exact s.cell ((b.st.at_ m a c e1 e2).stay g (same a (takeN a ha))) hk
  · have m0 := (List.getElem?_eq_some_iff.mp h).1
    rw [List.getElem?_take_of_lt (by rw [← hL0]; exact m0)]
    exact b.pre m a h
  · exact same a (fun x => by
      have := (asN a x).1
      have h' : H a = some o := h
      rw [this] at h'
      cases h') o (b.frame a o h n nb)
  · have hn : a ∉ dictsOf L' S' S.length := h.elim (fun h x => (asN a x).2 h) (takeN a)
    exact (b.exd a (h.imp id (hsub a))).keep (same a hn)
/-- .. when an exception leaves -/
theorem pop_err {Q : Value → Option Addr → Hp → Prop} {x : Exn} {cls : Value} {dd : Option Addr} (st : StRel K C L E H S) (exd : ∀ a, E a → Here H a) (b : Back ⟨K, C, E, H, L, E, none⟩ S' H' L') (im : ExnRel K C L' (fun a => E a ∨ a ∈ L') H' x cls dd)
    (hl : S.length ≤ S'.length) (hx : belF S.length x.fs = true) (hb : (S'.take S.length).all (belC S.length) = true)
    (hQ : ∀ L'', Back ⟨K, C, E, H, L, E, none⟩ (S'.take S.length) H' L'' → ExnRel K C L'' (fun a => E a ∨ a ∈ L'') H' x cls dd → Q cls dd H') : Q cls dd H' := by
  have hlen : L'.length = S'.length := b.st.len
  have hL0 : L.length = S.length := st.len
  have hsub : ∀ a, a ∈ L'.take S.length → a ∈ L' := fun a h => List.mem_of_mem_take h
  have s : Shr S.length L' (fun a => E a ∨ a ∈ L') (L'.take S.length) (fun a => E a ∨ a ∈ L'.take S.length) := ⟨fun m a hm h => by rw [List.getElem?_take_of_lt hm]; exact h, fun a h => h.imp id (hsub a)⟩
  obtain ⟨A, vs, q1, q2, q3, q4⟩ := im
  refine hQ (L'.take S.length) ⟨⟨?_, ?_, fun a h => .inr h, fun m a c e1 e2 => ?_⟩, fun m a h => ?_, fun a h => b.newc a (hsub a h), b.frame, fun a h => b.exd a (h.imp id (hsub a)), b.tab⟩ ⟨A, vs, q1, q2, s.xd q3, Shr.immF s _ _ q4 hx⟩
  · rw [List.length_take, List.length_take, hlen]
  · exact b.st.nd.sublist (List.take_sublist _ _)
  · have m0 := (List.getElem?_eq_some_iff.mp e1).1
    rw [List.length_take] at m0
    rw [List.getElem?_take_of_lt (by omega)] at e1
    have hk := List.all_eq_true.mp hb c (List.mem_of_getElem? e2)
    rw [List.getElem?_take_of_lt (by omega)] at e2
    exact s.cell (b.st.at_ m a c e1 e2) hk
  · have m0 := (List.getElem?_eq_some_iff.mp h).1
    rw [List.getElem?_take_of_lt (by rw [← hL0]; exact m0)]
    exact b.pre m a h
end
end DL
set_option Elab.async false
set_option linter.all false
set_option maxRecDepth 100000
set_option maxHeartbeats 2000000
namespace DL
open PySem PySem.Spec L2 PyProof.Rows PySem.Calls
section
variable {K : Fr} {C : Cl} {L L' : List Addr} {E : Addr → Prop} {H H' : Hp} {S S' : List Cell}
/-- the store cut back, nothing handed on -/
theorem pop_cut (st : StRel K C L E H S) (b : Back ⟨K, C, E, H, L, E, none⟩ S' H' L')
    (hl : S.length ≤ S'.length) (hb : (S'.take S.length).all (belC S.length) = true) : Back ⟨K, C, E, H, L, E, none⟩ (S'.take S.length) H' (L'.take S.length) := by
  have hlen : L'.length = S'.length := b.st.len
  have hL0 : L.length = S.length := st.len
  have hsub : ∀ a, a ∈ L'.take S.length → a ∈ L' := fun a h => List.mem_of_mem_take h
  have s : Shr S.length L' (fun a => E a ∨ a ∈ L') (L'.take S.length) (fun a => E a ∨ a ∈ L'.take S.length) := ⟨fun m a hm h => by rw [List.getElem?_take_of_lt hm]; exact h, fun a h => h.imp id (hsub a)⟩
  refine ⟨⟨?_, ?_, fun a h => .inr h, fun m a c e1 e2 => ?_⟩, fun m a h => ?_, fun a h => b.newc a (hsub a h), b.frame, fun a h => b.exd a (h.imp id (hsub a)), b.tab⟩
  · rw [List.length_take, List.length_take, hlen]
  · exact b.st.nd.sublist (List.take_sublist _ _)
  · have m0 := (List.getElem?_eq_some_iff.mp e1).1
    rw [List.length_take] at m0
    rw [List.getElem?_take_of_lt (by omega)] at e1
    have hk := List.all_eq_true.mp hb c (List.mem_of_getElem? e2)
    rw [List.getElem?_take_of_lt (by omega)] at e2
    exact s.cell (b.st.at_ m a c e1 e2) hk
  · have m0 := (List.getElem?_eq_some_iff.mp h).1
    rw [List.getElem?_take_of_lt (by rw [← hL0]; exact m0)]
    exact b.pre m a h
end
section
variable {P : Program} {w : World} {K : Fr} {mg : Str → Option Value} {base : Heap} {C : Cl}
theorem lockN0 {Q : V → Hp → Prop} {v : V} {H : Hp} (h : Q v H) : ∃ n, LockN Q n v H := ⟨0, h⟩
/-- what stands behind a def whose cells are popped -/
theorem aft_pop {Q : VK} {Ex' : XK} {E' : Addr → Prop} {H : Hp} {L : List Addr} {S' : List Cell} {r : RS} (st' : StRel K C L E' H S') (exd : ∀ a, E' a → Here H a)
    (h : AftF K C E' H L Q Ex' (popR S' (match r with | .nx z => .ok .non z.st | .rt d z => .ok d z.st | .err x z => .err x z.st | _ => .bad))) :
    match (generalizing := false) r with
    | .nx z => ∀ H' L', Back ⟨K, C, E', H, L, E', none⟩ z.st H' L' → Q .non H'
    | .rt d z => ∀ v H' L', Back ⟨K, C, E', H, L, E', none⟩ z.st H' L' → Imm K C L' (fun a => E' a ∨ a ∈ L') H' v d → ∃ n, LockN Q n v H'
    | .err x z => ∀ cls dd H' L', Back ⟨K, C, E', H, L, E', none⟩ z.st H' L' → ExnRel K C L' (fun a => E' a ∨ a ∈ L') H' x cls dd → Ex' cls dd H'
    | _ => False := by
  match r, h with
  | .nx z, h =>
    intro H' L' b
    simp only [popR, resD] at h
    split at h
    · exact h .non H' L' b (by simp [Imm])
    · split at h
      · rename_i q
        exact h .non H' _ (pop_cut st' b q.1 q.2) (by simp [Imm])
      · exact h.elim
  | .rt d z, h =>
    intro v H' L' b im
    simp only [popR] at h
    split at h
    · exact lockN0 (h v H' L' b im)
    · split at h
      · rename_i d' e
        split at h
        · rename_i q
          exact pop_ok st' exd b im e q.1 q.2 fun H'' L'' b' i' => h v H'' L'' b' i'
        · exact h.elim
      · exact h.elim
  | .err x z, h =>
    intro cls dd H' L' b im
    simp only [popR] at h
    split at h
    · exact h cls dd H' L' b im
    · split at h
      · rename_i q
        exact pop_err st' exd b im q.1 q.2.1 q.2.2 fun L'' b' i' => h cls dd H' L'' b' i'
      · exact h.elim
  | .bad, h => exact h.elim
  | .bk _, h => exact h.elim
  | .ct _, h => exact h.elim
/-- THE RULE of a def whose own cells are data when it has returned -/
theorem fn_DP {x qual : Str} {st : Stmt} {f : Addr} {fd : FuncData} {N ps : List Str} {k : Nat} {mb : MS} (F : Fun K x qual st f fd) (S : FnScope N ps (defScope st)) (hC : ∀ c A, C c = some A → mg c = some (.ref A))
    (hbody : ∀ (cdv : Value) (A : Around) (outer : List Env) (s : Shared) (H : Hp) (E : XK) (B : Bs), B.C = C → B.xs = none → Room k (A.deeper (envOfC qual (defScope st) s.heap.objs.size f cdv)) →
      Plc (cxOf (L2N.CX P w) P w K mg base N qual (defScope st) f cdv A outer s H E) B (fun cls d _ H => E cls d H) → PassesOwn (model P w) (A.deeper (envOfC qual (defScope st) s.heap.objs.size f cdv)) (envOfC qual (defScope st) s.heap.objs.size f cdv) (cxOf (L2N.CX P w) P w K mg base N qual (defScope st) f cdv A outer s H E).xe →
      PSsD (cxOf (L2N.CX P w) P w K mg base N qual (defScope st) f cdv A outer s H E) B (fun cls d _ H => E cls d H) (defBody st) mb) :
    FnOk P w K mg base (L2N.CX P w) (k + 1) f fd ps (spD K C none ps.length (popF (fnM N.length mb))) := by
  refine okN F S (fun vs H Q E h => ?_) (fun cdv A outer s H vs Q E hr h => ?_)
  · obtain ⟨_, _, _, _, h, _⟩ := h
    exact h
  · obtain ⟨L, E', S', as, h1, h2, st', exd, ar, h⟩ := h
    have tk : L2N.Takes (cxOf (L2N.CX P w) P w K mg base N qual (defScope st) f cdv A outer s H E) (fun cls d _ H => E cls d H) := L2N.takes_of rfl rfl rfl rfl
    obtain ⟨t, p, sm⟩ := hbody cdv A outer s H E ⟨K, C, E', H, L, E', none⟩ rfl rfl hr ⟨⟨rfl, by have := hr.un; show _ < _; exact Nat.lt_of_le_of_lt (by show A.units + 3 + 66 ≤ A.units + 3 + 16 * k + 200; omega) this, tk, hC, fun _ _ _ h => nomatch h⟩, rfl⟩ (passes_of rfl)
    refine ⟨_, pss_lockRet p, ?_⟩
    refine sm ⟨as ++ List.replicate (N.length - as.length) .un, S'⟩ (start N vs) H L _ (Rel.entry (by rw [h1, h2]) st' exd ar) ?_
    unfold popF fnM at h
    generalize mb ⟨as ++ List.replicate (N.length - as.length) .un, S'⟩ = r at h ⊢
    replace h := aft_pop st' exd.1 h
    match r, h with
    | .nx z, h => exact fun σ H' L' R g => h H' L' R.back
    | .rt d z, h => exact fun v σ H' L' R q => h v H' L' R.back q
    | .err x z, h => exact fun cls dd σ H' L' R g q => h cls dd H' L' R.back (ExnRel.weak (fun a h => h.imp id .inl) q)
    | .bad, h => exact h.elim
    | .bk _, h => exact h.elim
    | .ct _, h => exact h.elim
variable {k : Nat} {x : Str} {st : Stmt} {ps N : List Str} {mb : MS}
theorem fx_ofP (D : Df K mg x st ps) (S : FnScope N ps (defScope st)) (hC : ∀ c A, C c = some A → mg c = some (.ref A))
    (hbody : ∀ (cdv : Value) (A : Around) (outer : List Env) (s : Shared) (H : Hp) (E : XK) (f : Addr) (B : Bs), B.C = C → B.xs = none → Room k (A.deeper (envOfC x (defScope st) s.heap.objs.size f cdv)) →
      Plc (cxOf (L2N.CX P w) P w K mg base N x (defScope st) f cdv A outer s H E) B (fun cls d _ H => E cls d H) →
      PassesOwn (model P w) (A.deeper (envOfC x (defScope st) s.heap.objs.size f cdv)) (envOfC x (defScope st) s.heap.objs.size f cdv) (cxOf (L2N.CX P w) P w K mg base N x (defScope st) f cdv A outer s H E).xe →
      PSsD (cxOf (L2N.CX P w) P w K mg base N x (defScope st) f cdv A outer s H E) B (fun cls d _ H => E cls d H) (defBody st) mb) : FX P w K mg base C (k + 1) x st ps (popF (fnM N.length mb)) := by
  obtain ⟨f, fd, h1, h2, h3, h4⟩ := D
  exact ⟨f, fd, h1, fn_DP h1 S hC fun cdv A outer s H E B hc hx hr P hp => hbody cdv A outer s H E f B hc hx hr P hp, h2, h3, h4⟩
end
end DL
set_option Elab.async false
set_option linter.all false
set_option maxRecDepth 100000
set_option maxHeartbeats 2000000
namespace DL
open PySem PySem.Spec L2 PyProof.Rows PySem.Calls
section
variable {X : Cx} {B : Bs} {E : WX} {e f o : Expr} {p pos apos cpos : Pos} {m mo m2' : M W} {z z' : Z} {σ σ' : L2.St} {H H' : Hp} {L L' : List Addr}
/-! ### d.get(k, x) -/
def fDGet2 (x k y : W) : M W := fun z => match dictGet z x k with
  | some (some d) => .ok (.d d) z
  | some none => .ok y z
  | none => .bad
/-- o.get(e, f) -/
def mDGet2 (mo me mf : M W) : M W := fun z => (mo z).bind fun x z1 => if isDict z1 x then (me z1).bind fun k z2 => (mf z2).bind fun y z3 => fDGet2 x k y z3 else .bad
theorem d_dget2 (P : Pl X B E) (ho : PED X B E o mo) (he : PED X B E e m) (hf : PED X B E f m2') (hM : M2 X o "get" apos e f cpos) : PED X B E (.Call (.Attribute o "get" apos) [e, f] [] cpos) (mDGet2 mo m m2') := by
  obtain ⟨t1, p1, s1⟩ := ho
  obtain ⟨t2, p2, s2⟩ := he
  obtain ⟨t3, p3, s3⟩ := hf
  refine ⟨_, pe_dget2 (Nat.lt_of_le_of_lt (by omega) P.hu) p1 p2 p3 hM, fun z σ H L Q R h => ?_⟩
  refine s1 z σ H L _ R (AftE.bind h fun x z1 vx H1 L1 R1 g1 h1 k1 => ?_)
  split at k1
  · rename_i hd
    obtain ⟨a, ea, isd⟩ := isD_of R1 h1 hd
    refine ⟨a, ea, isd, ?_⟩
    refine s2 z1 σ H1 L1 _ R1 (AftE.bind k1 fun y z2 vy H2 L2 R2 g2 h2 k2 => ?_)
    refine s3 z2 σ H2 L2 _ R2 (AftE.bind k2 fun w z3 vw H3 L3 R3 g3 h3 k3 => ?_)
    unfold fDGet2 at k3
    cases eg : dictGet z3 x y with
    | none => rw [eg] at k3; exact k3.elim
    | some od =>
      rw [eg] at k3
      obtain ⟨a', vo, e1, g, im⟩ := dget_of R3 (VRel.stay g3 (VRel.stay g2 h1)) (VRel.stay g3 h2) eg
      rw [ea] at e1
      cases e1
      refine ⟨vo, g, ?_⟩
      cases vo with
      | none =>
        cases od with
        | none => exact AftE.here R3 k3 h3
        | some d => exact im.elim
      | some v =>
        cases od with
        | none => exact im.elim
        | some d => exact AftE.here R3 k3 im
  · exact k1.elim
end
end DL
set_option Elab.async false
set_option linter.all false
set_option maxRecDepth 100000
set_option maxHeartbeats 2000000
namespace DL
open PySem PySem.Spec L2 PyProof.Rows PySem.Calls
/-! ### isinstance(x, C), C a class of the text -/
structure InsT (K : Fr) (A : Addr) : Prop where
  cl : L2.Cls K A
  ha : PySem.W.findIn K (.ref A) "__class__" = some (some (.builtin "object.__class__"))
  hn : PySem.W.specialIn K (.builtin "object.__class__") "__get__" = some (some (.builtin "getset_descriptor.__get__"))
  htk : PySem.W.takesIn K (.builtin "object.__class__") = some true
  hm : PySem.W.mroIn K A (.type "object") = some true
structure IsiO (K : Fr) (mg : Str → Option Value) (C : Cl) (c : Str) (os : List Str) : Prop where
  ex : ∃ A, C c = some A ∧ mg c = some (.ref A) ∧ InsT K A ∧ PySem.W.kitOne K (.ref A) (.ref A) = some true ∧ (∀ t : Ty, PySem.W.kitOne K (.type t.name) (.ref A) = some false) ∧
    ∀ k ∈ os, ∃ A', C k = some A' ∧ InsT K A' ∧ PySem.W.kitOne K (.ref A') (.ref A) = some false
def isiO (z : Z) (c : Str) (os : List Str) (w : W) : Option Bool := match z.ty w with
  | some _ => some false
  | none => match z.cont w with
    | some (.ins k _) => if k = c then some true else if k ∈ os then some false else none
    | _ => none
def fIsiO (c : Str) (os : List Str) (w : W) : M W := fun z => flat ((isiO z c os w).map .bl) z
section
variable {X : Cx} {B : Bs} {E : WX} {e : Expr} {p pos : Pos} {m : M W} {z z' : Z} {σ σ' : L2.St} {H H' : Hp} {L L' : List Addr} {c : Str} {os : List Str}
theorem d_isiO {pt : Pos} (P : Pl X B E) (hm : X.mg "isinstance" = none) (hI : IsiO B.K X.mg B.C c os) (ha : PED X B E e m) (hg : Gl X "isinstance" := by rfl) (hgT : Gl X c := by rfl) (hdb : (c == ("__debug__" : Str)) = false := by decide)
    (he : starEach [e, .Name c pt] X.env = (false, eval e X.env) :: starEach [.Name c pt] X.env := by rfl) (he2 : starEach [.Name c pt] X.env = (false, eval (.Name c pt) X.env) :: starEach [] X.env := by rfl) (hpl : (backTo pos (starEach [.Name c pt] X.env)).any (·.1) = false := by rfl) :
    PED X B E (.Call (.Name "isinstance" p) [e, .Name c pt] [] pos) (mBind m (fIsiO c os)) := by
  obtain ⟨t, pa, sa⟩ := ha
  obtain ⟨A, hA, hmA, iA, kA, kT, kO⟩ := hI
  refine ⟨_, pe_callB call_isi hg hm (by decide +kernel) (pa_cons pa (pa_cons (pe_glob hgT hmA (v := .ref A) rfl hdb) pa_nil he2) he) (he := he) (hpl := hpl), fun z σ H L Q R h => ?_⟩
  refine sa z σ H L _ R (AftE.bind h fun w z1 v H1 L1 R1 g1 hv k1 => ?_)
  obtain ⟨d, ed, q⟩ := flat_of R1 k1
  unfold isiO at ed
  have K : X.K = B.K := P.K.symm
  split at ed
  · rename_i ty et
    cases ed
    rw [K]
    exact ⟨v, .ref A, .type ty.name, .ref A, false, rfl, .own _, R1.tyX hv et, kT ty, q _ vr_bl'⟩
  · split at ed
    · rename_i k fs ec
      obtain ⟨a, rfl, A', dx, vs, hA', hH, _⟩ := R1.read hv ec
      rw [K]
      split at ed
      · rename_i ek
        subst ek
        cases ed
        rw [hA] at hA'
        cases hA'
        exact ⟨_, .ref A, .ref A, .ref A, true, rfl, .own _, .base (.ins hH iA.cl iA.ha iA.hn iA.htk iA.hm), kA, q _ vr_bl'⟩
      · split at ed
        · rename_i hk
          cases ed
          obtain ⟨A2, h2, i2, k2⟩ := kO k hk
          rw [h2] at hA'
          cases hA'
          exact ⟨_, .ref A, .ref _, .ref A, false, rfl, .own _, .base (.ins hH i2.cl i2.ha i2.hn i2.htk i2.hm), k2, q _ vr_bl'⟩
        · cases ed
    · cases ed
end
end DL
set_option Elab.async false
set_option linter.all false
set_option maxRecDepth 100000
set_option maxHeartbeats 2000000
namespace DL
open PySem PySem.Spec L2 PyProof.Rows PySem.Calls
/-! ### sorted, plain -/
section
variable {α : Type} {le : α → α → Bool}
def insBy (le : α → α → Bool) (x : α) : List α → List α
  | [] => [x]
  | y :: ys => if le x y then x :: y :: ys else y :: insBy le x ys
def srtBy (le : α → α → Bool) : List α → List α
  | [] => []
  | x :: xs => insBy le x (srtBy le xs)
theorem insBy_perm (x : α) : ∀ ys, (insBy le x ys).Perm (x :: ys)
  | [] => .refl _
  | y :: ys => by
    unfold insBy
    split
    · exact .refl _
    · exact ((insBy_perm x ys).cons y).trans (.swap x y ys)
theorem srtBy_perm : ∀ xs : List α, (srtBy le xs).Perm xs
  | [] => .refl _
  | x :: xs => (insBy_perm x _).trans ((srtBy_perm xs).cons x)
theorem insBy_pw (tot : ∀ a b, le a b = true ∨ le b a = true) (tr : ∀ a b c, le a b = true → le b c = true → le a c = true) (x : α) : ∀ ys, ys.Pairwise (fun a b => le a b = true) → (insBy le x ys).Pairwise (fun a b => le a b = true)
  | [], _ => by simp [insBy]
  | y :: ys, h => by
    have hc := List.pairwise_cons.mp h
    unfold insBy
    split
    · rename_i e
      refine List.pairwise_cons.mpr ⟨fun b hb => ?_, h⟩
      rcases List.mem_cons.mp hb with rfl | hb
      · exact e
      · exact tr _ _ _ e (hc.1 b hb)
    · rename_i e
      have e' : le y x = true := (tot x y).elim (fun h => absurd h e) id
      refine List.pairwise_cons.mpr ⟨fun b hb => ?_, insBy_pw tot tr x ys hc.2⟩
      rcases List.mem_cons.mp ((insBy_perm x ys).mem_iff.mp hb) with rfl | hb
      · exact e'
      · exact hc.1 b hb
theorem srtBy_pw (tot : ∀ a b, le a b = true ∨ le b a = true) (tr : ∀ a b c, le a b = true → le b c = true → le a c = true) : ∀ xs : List α, (srtBy le xs).Pairwise (fun a b => le a b = true)
  | [] => .nil
  | x :: xs => insBy_pw tot tr x _ (srtBy_pw tot tr xs)
theorem srtBy_uniq (tot : ∀ a b, le a b = true ∨ le b a = true) (tr : ∀ a b c, le a b = true → le b c = true → le a c = true) (as : ∀ a b, le a b = true → le b a = true → a = b) {xs ys : List α} (p : ys.Perm xs) (s : ys.Pairwise (fun a b => le a b = true)) : ys = srtBy le xs :=
  List.Perm.eq_of_pairwise (fun a b _ _ h1 h2 => as a b h1 h2) s (srtBy_pw tot tr xs) (p.trans (srtBy_perm xs).symm)
end
def leI (a b : Int) : Bool := decide (a ≤ b)
def leS (a b : Str) : Bool := !ltCps b.cps.toList a.cps.toList
theorem leS_iff {a b : Str} : leS a b = true ↔ ¬ b.cps.toList < a.cps.toList := by
  unfold leS
  rw [PyProof.Rows.ltCps_eq]
  simp
theorem leS_tot (a b : Str) : leS a b = true ∨ leS b a = true := by
  rw [leS_iff, leS_iff]
  rcases Classical.em (b.cps.toList < a.cps.toList) with h | h
  · exact .inr fun h' => List.lt_irrefl _ (List.lt_trans h h')
  · exact .inl h
theorem leS_tr (a b c : Str) (h1 : leS a b = true) (h2 : leS b c = true) : leS a c = true := by
  rw [leS_iff] at *
  exact List.le_trans (α := Nat) (show a.cps.toList ≤ b.cps.toList from h1) h2
theorem leS_as (a b : Str) (h1 : leS a b = true) (h2 : leS b a = true) : a = b := by
  rw [leS_iff] at *
  have := List.le_antisymm (α := Nat) (show a.cps.toList ≤ b.cps.toList from h1) h2
  cases a; cases b
  simp only [Str.mk.injEq]
  exact Array.toList_inj.mp this
theorem risingS_pw : ∀ (p : Str) (l : List Str), risingS p l = true → (p :: l).Pairwise (fun a b => leS a b = true)
  | p, [], _ => by simp
  | p, x :: r, h => by
    simp only [risingS, Bool.and_eq_true] at h
    have ih := risingS_pw x r h.2
    have hx : leS p x = true := h.1
    refine List.pairwise_cons.mpr ⟨fun b hb => ?_, ih⟩
    rcases List.mem_cons.mp hb with rfl | hb
    · exact hx
    · exact leS_tr _ _ _ hx ((List.pairwise_cons.mp ih).1 b hb)
theorem sortedS_pw : ∀ l : List Str, sortedS l = true → l.Pairwise (fun a b => leS a b = true)
  | [], _ => .nil
  | x :: r, h => risingS_pw x r h
/-- sorted(xs): ints or texts, fewer than 64 -/
def sortD (ds : List D) : Option (List D) := if ds.length < 64 then match intsD ds with
  | some ns => some ((srtBy leI ns).map .int)
  | none => (strsD ds).map fun xs => (srtBy leS xs).map .str
  else none
section
variable {K : Fr} {C : Cl} {L : List Addr} {Ee : Addr → Prop} {H : Hp}
theorem immL_intsM : ∀ ns : List Int, ImmL K C L Ee H (ns.map V.int) (ns.map D.int)
  | [] => by simp only [List.map_nil, ImmL]
  | n :: ns => by simp only [List.map_cons, ImmL, Imm]; exact ⟨trivial, immL_intsM ns⟩
theorem immL_strs : ∀ ns : List Str, ImmL K C L Ee H (ns.map V.str) (ns.map D.str)
  | [] => by simp only [List.map_nil, ImmL]
  | n :: ns => by simp only [List.map_cons, ImmL, Imm]; exact ⟨trivial, immL_strs ns⟩
end
def rSortD (K : PySem.W.Frag) : List V → Hp → VK → Prop := fun vs H Q => rSorted K vs H Q ∨ rSortedS K vs H Q
section
variable {X : Cx} {B : Bs} {E : WX} {e : Expr} {p pos : Pos} {m : M W} {z z' : Z} {σ σ' : L2.St} {H H' : Hp} {L L' : List Addr}
theorem cr_sortD : CallR X (.builtin "sorted") (rSortD X.K) := by
  intro pins s σ H vs us Q I r h
  rcases h with h | h
  · exact cr_sorted pins s σ H vs us Q I r h
  · exact cr_sortedS pins s σ H vs us Q I r h
theorem sortD_run {a : Addr} {us : List V} {ds ds' : List D} {Q : VK} (hs : SqL B.K H a us) (im : ImmL B.K B.C L (Ex B z σ L) H us ds) (e : sortD ds = some ds')
    (q : ∀ vs p, ImmL B.K B.C L (Ex B z σ L) H vs ds' → H p = none → Q (.ref p) (upd H p (.lst vs))) : rSortD B.K [.ref a] H Q := by
  unfold sortD at e
  split at e
  · rename_i hl
    split at e
    · rename_i ns en
      cases e
      have := intsD_imm im en
      subst this
      refine .inl ⟨a, ns, rfl, hs, ?_, fun ns' p h1 h2 h3 => ?_⟩
      · have := ImmL.length im
        rw [List.length_map] at this
        omega
      · have : ns' = srtBy leI ns := srtBy_uniq (fun a b => by simp only [leI, decide_eq_true_eq]; omega) (fun a b c => by simp only [leI, decide_eq_true_eq]; omega) (fun a b => by simp only [leI, decide_eq_true_eq]; omega) h1 (h2.imp fun h => by simpa [leI] using h)
        subst this
        exact q _ p (immL_intsM _) h3
    · obtain ⟨xs, ex, rfl⟩ := Option.map_eq_some_iff.mp e
      have := strsD_imm im ex
      subst this
      refine .inr ⟨a, xs, rfl, hs, ?_, fun ys p h1 h2 h3 => ?_⟩
      · have := ImmL.length im
        rw [List.length_map] at this
        omega
      · have : ys = srtBy leS xs := srtBy_uniq leS_tot leS_tr leS_as h1 (sortedS_pw _ h2)
        subst this
        exact q _ p (immL_strs _) h3
  · cases e
/-- sorted(e), data -/
def fSort (xs : List W) : M W := fun z => newL ((z.lst1 xs).bind sortD) z
theorem d_sorted (P : Pl X B E) (hm : X.mg "sorted" = none) (ha : PED X B E e m) (hg : Gl X "sorted" := by rfl) (he : starEach [e] X.env = (false, eval e X.env) :: starEach [] X.env := by rfl) : PED X B E (.Call (.Name "sorted" p) [e] [] pos) (mBind (wCons m wNil) fSort) :=
  d_callB cr_sortD (r := rSortD X.K) (fun z σ H L Q xs vs R hv h => by
    obtain ⟨ds, ed, q⟩ := newL_of R h
    obtain ⟨ds0, e1, e2⟩ := Option.bind_eq_some_iff.mp ed
    obtain ⟨a, us, rfl, h1, h2⟩ := R.lst1 hv e1
    rw [← P.K]
    exact sortD_run h1 h2 e2 q) (dw_cons ha dw_nil he) hg hm (by decide +kernel) (he := he)
end
end DL
set_option Elab.async false
set_option linter.all false
set_option maxRecDepth 100000
set_option maxHeartbeats 2000000
namespace DL
open PySem PySem.Spec L2 PyProof.Rows PySem.Calls
/-! ### max(xs), min(xs) of ints -/
def maxI : List Int → Option Int
  | [] => none
  | n :: ns => match maxI ns with
    | some m => some (if n ≤ m then m else n)
    | none => some n
def minI : List Int → Option Int
  | [] => none
  | n :: ns => match minI ns with
    | some m => some (if m ≤ n then m else n)
    | none => some n
theorem maxI_none {ns : List Int} (h : maxI ns = none) : ns = [] := by
  cases ns with
  | nil => rfl
  | cons n ns => unfold maxI at h; split at h <;> cases h
theorem minI_none {ns : List Int} (h : minI ns = none) : ns = [] := by
  cases ns with
  | nil => rfl
  | cons n ns => unfold minI at h; split at h <;> cases h
theorem maxI_mem : ∀ {ns : List Int} {m : Int}, maxI ns = some m → m ∈ ns ∧ ∀ y ∈ ns, y ≤ m
  | n :: ns, m, h => by
    unfold maxI at h
    split at h
    · rename_i k e
      cases h
      obtain ⟨h1, h2⟩ := maxI_mem e
      split
      · rename_i l
        exact ⟨List.mem_cons_of_mem _ h1, fun y hy => (List.mem_cons.mp hy).elim (fun e => e ▸ l) (h2 y)⟩
      · rename_i l
        exact ⟨List.mem_cons_self .., fun y hy => (List.mem_cons.mp hy).elim (fun e => by omega) fun hy => by have := h2 y hy; omega⟩
    · rename_i e
      cases h
      have := maxI_none e
      subst this
      exact ⟨List.mem_cons_self .., fun y hy => by simp at hy; omega⟩
theorem minI_mem : ∀ {ns : List Int} {m : Int}, minI ns = some m → m ∈ ns ∧ ∀ y ∈ ns, m ≤ y
  | n :: ns, m, h => by
    unfold minI at h
    split at h
    · rename_i k e
      cases h
      obtain ⟨h1, h2⟩ := minI_mem e
      split
      · rename_i l
        exact ⟨List.mem_cons_of_mem _ h1, fun y hy => (List.mem_cons.mp hy).elim (fun e => e ▸ l) (h2 y)⟩
      · rename_i l
        exact ⟨List.mem_cons_self .., fun y hy => (List.mem_cons.mp hy).elim (fun e => by omega) fun hy => by have := h2 y hy; omega⟩
    · rename_i e
      cases h
      have := minI_none e
      subst this
      exact ⟨List.mem_cons_self .., fun y hy => by simp at hy; omega⟩
def fMaxL (xs : List W) : M W := fun z => flat ((((z.lst1 xs).bind intsD).bind maxI).map .int) z
def fMinL (xs : List W) : M W := fun z => flat ((((z.lst1 xs).bind intsD).bind minI).map .int) z
section
variable {X : Cx} {B : Bs} {E : WX} {e : Expr} {p pos : Pos} {m : M W}
theorem callS_maxL (P : Pl X B E) : CallS B E (rMax X.K) fMaxL := by
  intro z σ H L Q xs vs R hv h
  obtain ⟨d, ed, q⟩ := flat_of R h
  rw [← P.K]
  obtain ⟨k, ed2, rfl⟩ := Option.map_eq_some_iff.mp ed
  obtain ⟨bs, eb, em⟩ := Option.bind_eq_some_iff.mp ed2
  obtain ⟨ds, e1, e2⟩ := Option.bind_eq_some_iff.mp eb
  obtain ⟨a, us, rfl, h1, h2⟩ := R.lst1 hv e1
  obtain ⟨g1, g2⟩ := maxI_mem em
  refine ⟨a, bs, rfl, by rw [← intsD_imm h2 e2]; exact h1, List.length_pos_of_mem g1, fun m hm hmax => ?_⟩
  have : m = k := Int.le_antisymm (g2 m hm) (hmax k g1)
  subst this
  exact q _ vr_int'
theorem callS_minL (P : Pl X B E) : CallS B E (rMin X.K) fMinL := by
  intro z σ H L Q xs vs R hv h
  obtain ⟨d, ed, q⟩ := flat_of R h
  rw [← P.K]
  obtain ⟨k, ed2, rfl⟩ := Option.map_eq_some_iff.mp ed
  obtain ⟨bs, eb, em⟩ := Option.bind_eq_some_iff.mp ed2
  obtain ⟨ds, e1, e2⟩ := Option.bind_eq_some_iff.mp eb
  obtain ⟨a, us, rfl, h1, h2⟩ := R.lst1 hv e1
  obtain ⟨g1, g2⟩ := minI_mem em
  refine ⟨a, bs, rfl, by rw [← intsD_imm h2 e2]; exact h1, List.length_pos_of_mem g1, fun m hm hmax => ?_⟩
  have : m = k := Int.le_antisymm (hmax k g1) (g2 m hm)
  subst this
  exact q _ vr_int'
theorem d_maxL (P : Plc X B E) (hm : X.mg "max" = none) (ha : PED X B E e m) (hg : Gl X "max" := by rfl) (he : starEach [e] X.env = (false, eval e X.env) :: starEach [] X.env := by rfl) : PED X B E (.Call (.Name "max" p) [e] [] pos) (mBind (wCons m wNil) fMaxL) :=
  d_callB (cr_max P.calm) (callS_maxL P.toPl) (dw_cons ha dw_nil he) hg hm (by decide +kernel) (he := he)
theorem d_minL (P : Plc X B E) (hm : X.mg "min" = none) (ha : PED X B E e m) (hg : Gl X "min" := by rfl) (he : starEach [e] X.env = (false, eval e X.env) :: starEach [] X.env := by rfl) : PED X B E (.Call (.Name "min" p) [e] [] pos) (mBind (wCons m wNil) fMinL) :=
  d_callB (cr_min P.calm) (callS_minL P.toPl) (dw_cons ha dw_nil he) hg hm (by decide +kernel) (he := he)
end
end DL
set_option Elab.async false
set_option linter.all false
set_option maxRecDepth 100000
set_option maxHeartbeats 4000000
namespace PySem
section
variable {prog : Program} {w : World} {A : Around} {E : Value → Shared → Prop} {s : Shared}
theorem fits_range {i : Int} (h : Builtin.SmallTypes.fitsIndex i = true) : -(2 ^ 63) ≤ i ∧ i < 2 ^ 63 := by
  unfold Builtin.SmallTypes.fitsIndex at h
  simp only [Bool.and_eq_true, decide_eq_true_eq] at h
  omega
theorem call_enumerate_listS {l : Addr} {items : Array Value} {i : Int} {t : Tok} {Q : Value → Shared → Prop} (hi : Builtin.SmallTypes.fitsIndex i = true) (hL : s.heap.IsList l items)
    (h : ∀ h', IsEnum h' (s.heap.objs.size + 1) s.heap.objs.size i .none → h'.IsListIter s.heap.objs.size l 0 → h'.objs.size = s.heap.objs.size + 2 →
      (∀ b o, s.heap.get? b = some o → h'.get? b = some o) → Q (.ref (s.heap.objs.size + 1)) { s with heap := h' }) :
    wpAny (model prog w) A (call (.type "enumerate") [.ref l] [("start", .int i t)]) Q E s :=
  enum_begins_start (begins_list l items) hL (fits_range hi).1 (fits_range hi).2 fun h' a b c d => h h' a ⟨_, b, rfl, rfl⟩ c d
end
end PySem
set_option Elab.async false
set_option linter.all false
set_option maxRecDepth 100000
set_option maxHeartbeats 4000000
namespace L2
open PySem PySem.Spec PyProof.Rows
theorem drawsS {prog : Program} {w : World} {A : Around} (hh : A.handled = none) (c : Nat) (it l : Addr) (hne : l ≠ it) (items : Array Value) :
    Draws prog w A it [it, l] (c + items.size) (fun i v => ∃ k, i = c + k ∧ items[k]? = some v) (fun i h => ∃ k, i = c + k ∧ h.IsListIter it l k ∧ h.IsList l items) where
  live := fun i h ⟨k, _, q⟩ => (Draws.list (prog := prog) (w := w) hh it l hne items).live k h q
  frame := fun i h h' ⟨k, e, q⟩ f => ⟨k, e, (Draws.list (prog := prog) (w := w) hh it l hne items).frame k h h' q f⟩
  item := fun i s Q E hi ⟨k, e, q⟩ hQ => (Draws.list hh it l hne items).item k s Q E (by omega) q fun x h' tk p st' sb => hQ x h' tk ⟨k, e, p⟩ ⟨k + 1, by omega, st'⟩ sb
  done := fun s Q E ⟨k, e, q⟩ hE => (Draws.list hh it l hne items).done s Q E (by have : k = items.size := by omega
                                                                                  rw [← this]; exact q) hE
/-- the list at a as it stands at each turn, counted from c on, each item in a new pair -/
def IteS (K : PySem.W.Frag) (c : Nat) (a : Addr) : It :=
  ⟨fun i H => ∃ (xs : List V) (x : V), SqL K H a xs ∧ xs[i]? = some x, fun i H v H' => ∃ T x, v = .ref T ∧ H T = none ∧ H' = upd H T (.tup [.int ((c + i : Nat) : Int), x]) ∧ ∀ xs, SqL K H a xs → xs[i]? = some x, fun i H => ∃ xs : List V, SqL K H a xs ∧ xs.length = i⟩
theorem turn_enumS {P : Program} {w : World} {K : PySem.W.Frag} {elts : List Expr} {kk : Nat} {tpos : Pos} (c : Nat) (a e it : Addr) (hai : a ≠ it) (hae : a ≠ e) :
    Turn P w K (.Tuple elts kk tpos) (IteS K c a) [e, it] e (fun i h => (∃ old, IsEnum h e it ((c + i : Nat) : Int) old) ∧ h.IsListIter it a i ∧ e ≠ it) where
  mem := by simp
  obj := fun i h st b hb => by
    obtain ⟨⟨old, he⟩, ⟨o, ho, hc, hd⟩, _⟩ := st
    have e' : b = e ∨ b = it := by simpa using hb
    rcases e' with z | z
    · rw [z]; exact ⟨_, he, fun v q => nomatch q⟩
    · rw [z]; exact ⟨o, ho, fun v q => by rw [hd] at q; cases q⟩
  keep := fun i h h' st k => let ⟨⟨old, he⟩, hi, hne⟩ := st; ⟨⟨old, k e (by simp) _ he⟩, hi.at fun o q => k it (by simp) o q, hne⟩
  item := by
    intro X hP hw hK hc i pins s σ H E I hf st hg
    subst hP hw hK
    obtain ⟨⟨old, he⟩, hit, hne⟩ := st
    obtain ⟨xs, x, hq, hx⟩ := hg
    obtain ⟨its, rv, p, hz⟩ := I.list hq
    obtain ⟨u, hu, ru⟩ := rv.get hx
    have hel : e < s.heap.objs.size := Heap.lt_size he
    have hil : it < s.heap.objs.size := by obtain ⟨_, q, _⟩ := hit; exact Heap.lt_size q
    have hh : X.A.in1.handled = none := I.ok.hd hc
    have hlt : i < its.length := (List.getElem?_eq_some_iff.mp hu).1
    refine wpAny_pyNext_enum_itemD (fp := [it, a]) (n := c + its.toArray.size) (drawsS hh c it a hai its.toArray) he ⟨i, rfl, hit, p.isList⟩ (by simpa using hlt) hne (by simp [hne, Ne.symm hae]) fun x' h' tk ⟨k, ek, hxk⟩ ho ⟨k', ek', hit', _⟩ hT hsz hk => ?_
    have ek1 : k = i := by omega
    have ek2 : k' = i + 1 := by omega
    subst ek1 ek2
    have hux : x' = u := by
      rw [List.getElem?_toArray] at hxk
      rw [hu] at hxk
      cases hxk
      rfl
    subst hux
    refine ⟨_, rfl, wpAny_letOwnedTupleGo_enum (s := { s with heap := h', toks := tk + 1 }) ho fun h'' he' sb => ?_⟩
    have hT2 : h''.get? s.heap.objs.size = some { cls := .type "tuple", data := .seq #[.int ((c + k : Nat) : Int) tk, x'] } := (sb.2 _ (Nat.ne_of_gt hel)).trans hT
    have new : ObjOk X.prog X.w (upd H s.heap.objs.size (.tup [.int ((c + k : Nat) : Int), x])) h'' s.heap.objs.size (.tup [.int ((c + k : Nat) : Int), x]) :=
      ⟨by show 2 ≤ sizeLine; decide, [.int ((c + k : Nat) : Int) tk, x'], .cons ⟨_, rfl⟩ (.cons ru .nil), ⟨_, hT2, rfl, _, rfl⟩⟩
    have I1 : Inv X pins σ (upd H s.heap.objs.size (.tup [.int ((c + k : Nat) : Int), x])) { s with heap := h'', toks := tk + 1 } :=
      I.turnedNew (ch := [e, it]) (fun b ob hb q => (sb.2 b (fun z => hb (by simp [z]))).trans (hk b ob (fun z => hb (by simp [z])) (fun z => hb (by simp [z])) q)) hf (Nat.le_refl _) new
    refine ⟨.ref s.heap.objs.size, _, I1, rfl, ⟨_, x, rfl, I.hok.fresh (Nat.le_refl _), rfl, fun ys hy => by rw [I.list_inj hy hq]; exact hx⟩, ⟨⟨x', ?_⟩, hit'.at fun o q => (sb.2 it (Ne.symm hne)).trans q, hne⟩, fun b hb => ?_⟩
    · have e1 : ((c + (k + 1) : Nat) : Int) = ((c + k : Nat) : Int) + 1 := by omega
      rw [e1]; exact he'
    · have hb' : b < s.heap.objs.size := by
        have e' : b = e ∨ b = it := by simpa using hb
        rcases e' with z | z
        · rw [z]; exact hel
        · rw [z]; exact hil
      rw [upd_ne (Nat.ne_of_lt hb')]
      exact (hf b hb).1
  done := by
    intro X hP hw hK hc i pins s σ H E I hf st hg
    subst hP hw hK
    obtain ⟨⟨old, he⟩, hit, hne⟩ := st
    obtain ⟨xs, hq, hx⟩ := hg
    obtain ⟨its, rv, p, hz⟩ := I.list hq
    obtain ⟨f0, f1, f2, f3, f4, f5⟩ := hf it (by simp)
    have hl := rv.length
    have hh : X.A.in1.handled = none := I.ok.hd hc
    exact wpAny_pyNext_enum_endD (fp := [it, a]) (n := c + its.toArray.size) (drawsS hh c it a hai its.toArray) he ⟨i, by simp; omega, hit, p.isList⟩ fun h' eb => ⟨rfl, I.turned (t' := s.toks) (fun b o hb q => eb b o hb q) f0 f1 f3 f4 f5⟩
  self := fun A i s Q E st h => let ⟨⟨_, he⟩, _⟩ := st; wpAny_pyIter_enum he h
end L2
set_option Elab.async false
set_option linter.all false
set_option maxRecDepth 100000
set_option maxHeartbeats 4000000
namespace L2
open PySem PySem.Spec PyProof.Rows PySem.Calls
theorem callWith_typeK {M : Model} {A : Around} {E : Value → Shared → Prop} {s : Shared} {env : Env} {pos : Pos} {T : String} {e : Expr} {rest : List Expr} {kws : List Keyword} {Q : Value → Shared → Prop}
    (h : wpAny M A (spliced (backTo pos (starEach (e :: rest) env))) (fun vs s₁ => wpAny M A (evalAll ((backToKw pos (keywordEach kws env)).map (·.2)))
      (fun kvs s₂ => wpAny M A (call (.type T) vs (((backToKw pos (keywordEach kws env)).filterMap (·.1)).zip kvs)) Q E s₂) E s₁) E s)
    (he : backTo pos (starEach (e :: rest) env) = (false, eval e env) :: backTo pos (starEach rest env) := by rfl)
    (hplain : (backTo pos (starEach (e :: rest) env)).any (·.1) = false := by rfl)
    (hall : (backToKw pos (keywordEach kws env)).all (·.1.isSome) = true := by rfl)
    (hkw : (backToKw pos (keywordEach kws env)).any (·.1.isNone) = false := by rfl) :
    wpAny M A (callWith pos (.type T) [] (backTo pos (starEach (e :: rest) env)) (backToKw pos (keywordEach kws env))) Q E s := by
  have h' : wpAny M A (evalArgs (.type T) true (backTo pos (starEach (e :: rest) env)) (backToKw pos (keywordEach kws env))) (fun a s₁ => wpAny M A (call (.type T) ([] ++ a.pos) a.kw) Q E s₁) E s := by
    rw [he] at h ⊢
    exact evalArgs_kwB hall h
  unfold callWith
  refine wpAny_bind (wpAny_holding (wpAny_mono h' (fun a s₁ h₁ => wpAny_bind (wpAny_standAt ?_)) fun _ _ x => x))
  simp only [hplain, hkw, Bool.or_false]
  refine wpAny_bind (wpAny_pure ?_)
  exact wpAny_bind (wpAny_mono h₁ (fun r s₂ hr => wpAny_bind (wpAny_holding (wpAny_point (wpAny_pure hr)))) fun _ _ x => x)
theorem CallK_ {M : Model} {A : Around} {E : Value → Shared → Prop} {s : Shared} {env : Env} {func : Expr} {args : List Expr} {kws : List Keyword} {pos : Pos} {Q : Value → Shared → Prop}
    (h : wpAny M A (eval func env) (fun f s₁ => wpAny M A (callWith pos f [] (backTo pos (starEach args env)) (backToKw pos (keywordEach kws env))) Q E s₁) E s)
    (he : eval (.Call func args kws pos) env = (do callWith pos (← eval func env) [] (backTo pos (starEach args env)) (backToKw pos (keywordEach kws env))) := by rfl) :
    wpAny M A (eval (.Call func args kws pos) env) Q E s := by
  rw [he]; exact wpAny_bind h
def iEnumS (K : PySem.W.Frag) (c : Nat) (ta : TA) : TI := fun σ H R => ta σ H fun vs H1 => ∃ a xs, vs = [.ref a] ∧ SqL K H1 a xs ∧ R (IteS K c a) H1
theorem pi_enumS {X : Cx} {e : Expr} {ta : TA} {p pos tpos kp cp : Pos} {j c : Nat} {elts : List Expr} {kk : Nat} (hg : Gl X "enumerate") (hm : X.mg "enumerate" = none) (ha : PA X [e] ta) (hc : Builtin.SmallTypes.fitsIndex ((c : Nat) : Int) = true := by decide)
    (hs : starEach [e] X.env = [(false, eval e X.env)] := by rfl) :
    PI X (.Tuple elts kk tpos) (.Call (.Name "enumerate" p) [e] [⟨some "start", .Constant (.int ((c : Nat) : Int)) j cp, kp⟩] pos) (iEnumS X.K c ta) := by
  refine ⟨fun pins s σ H R I h => ?_⟩
  refine CallK_ (ld_blt I hg hm boot_enumerate (callWith_typeK (kws := [⟨some "start", .Constant (.int ((c : Nat) : Int)) j cp, kp⟩]) (thn (ha.run pos pins s σ H _ I h) fun us s1 ⟨vs, H1, I1, r1, q1⟩ => ?_) (by rw [hs]; rfl) (by rw [hs]; rfl) (by rfl) (by rfl)))
  obtain ⟨a, xs, ex, hq, q⟩ := q1
  subst ex
  cases r1 with
  | cons r rr =>
    cases rr
    cases r
    refine kws_cons (thn ((pe_int (X := X)).run pins s1 σ H1 (fun v H' => v = .int ((c : Nat) : Int) ∧ H' = H1) I1 ⟨rfl, rfl⟩) fun kv s2 ⟨v, H2, I2, rv', ev, eh⟩ => kws_nil ?_)
    subst ev eh
    obtain ⟨tk, rfl⟩ := (show ∃ t, kv = Value.int ((c : Nat) : Int) t from rv')
    obtain ⟨its, rv, p', hz⟩ := I2.list hq
    have hal : a < s2.heap.objs.size := by obtain ⟨o, ho, _⟩ := p'.isList; exact Heap.lt_size ho
    show wpAny _ _ (call (.type "enumerate") [.ref a] [("start", .int ((c : Nat) : Int) tk)]) _ _ s2
    refine call_enumerate_listS hc p'.isList fun h' he hit hsz hk => wpAny_pyIter_enum he ?_
    have I3 : Inv X pins σ H2 { s2 with heap := h' } := I2.kept (t' := s2.toks) hk
    refine ⟨s2.heap.objs.size + 1, [s2.heap.objs.size + 1, s2.heap.objs.size], _, _, H2, rfl, I3, turn_enumS c a (s2.heap.objs.size + 1) s2.heap.objs.size (Nat.ne_of_lt hal) (Nat.ne_of_lt (Nat.lt_succ_of_lt hal)), ⟨⟨.none, he⟩, hit, Nat.succ_ne_self _⟩, fun b hb => ?_, q⟩
    have e' : b = s2.heap.objs.size + 1 ∨ b = s2.heap.objs.size := by simpa using hb
    have hle : s2.heap.objs.size ≤ b := by
      rcases e' with z | z
      · rw [z]; exact Nat.le_add_right _ _
      · rw [z]; exact Nat.le_refl _
    exact I2.fpOk hle (I2.hok.fresh hle)
end L2
namespace DL
open PySem PySem.Spec L2 PyProof.Rows PySem.Calls
section
variable {X : Cx} {B : Bs} {E : WX} {e : Expr} {p pos tpos kp cp : Pos} {j kk c : Nat} {elts : List Expr} {md : M D} {z z' : Z} {σ σ' : L2.St} {H H' : Hp} {L L' : List Addr}
/-- enumerate(xs, start=c) -/
def enumSD (c : Nat) (ds : List D) : List D := ds.zipIdx.map fun q => .tup [.int ((c + q.2 : Nat) : Int), q.1]
theorem itD_enumS {a : Addr} {us : List V} {ds : List D} (h : RdL B.K (Ex B z σ L) H a us) (im : ImmL B.K B.C L (Ex B z σ L) H us ds) : ItD B.K B.C L (Ex B z σ L) H (IteS B.K c a) (enumSD c ds) := by
  refine ⟨fun i d B1 z1 σ1 H1 L1 eK eC hi R1 g => ?_, fun B1 z1 σ1 H1 L1 eK R1 g => ⟨us, (g.rdL h).sq, by rw [im.length]; simp [enumSD]⟩⟩
  have h1 := (g.rdL h).sq
  have im1 := ImmL.stay g _ _ im
  simp only [enumSD, List.getElem?_map, List.getElem?_zipIdx, Option.map_eq_some_iff] at hi
  obtain ⟨q, ⟨d', hd, rfl⟩, rfl⟩ := hi
  obtain ⟨v, e1, e2⟩ := ImmL.get im1 hd
  refine ⟨⟨us, v, h1, e1⟩, fun w H2 hy => ?_⟩
  obtain ⟨T, x, rfl, hT, rfl, hy⟩ := hy
  have := hy us h1
  rw [e1] at this
  cases this
  refine ⟨same_new hT, Imm.new_tup hT (R1.noEx hT) ?_⟩
  simp only [ImmL, Imm, and_true]
  exact ⟨by simp, e2⟩
def fEnumS (c : Nat) (xs : List D) : M (List D) := fun z => match xs with
  | [.lst ds] => .ok (enumSD c ds) z
  | _ => .bad
theorem di_enumS (P : Pl X B E) (hm : X.mg "enumerate" = none) (ha : PXD X B E e md) (hg : Gl X "enumerate" := by rfl) (hc : Builtin.SmallTypes.fitsIndex ((c : Nat) : Int) = true := by decide) (hs : starEach [e] X.env = [(false, eval e X.env)] := by rfl) :
    PID X B E (.Tuple elts kk tpos) (.Call (.Name "enumerate" p) [e] [⟨some "start", .Constant (.int ((c : Nat) : Int)) j cp, kp⟩] pos) (mBind (mCons md mNil) (fEnumS c)) := by
  obtain ⟨t, pa, sa⟩ := (ds_cons ha ds_nil hs : PXDs X B E [e] (mCons md mNil))
  refine ⟨_, pi_enumS hg hm pa hc hs, fun z σ H L Q R h => ?_⟩
  refine sa z σ H L _ R (AftE.bind h fun xs z1 vs H1 L1 R1 g1 hv k1 => ?_)
  unfold fEnumS at k1
  rw [← P.K]
  split at k1
  · cases vs with
    | nil => simp only [vDs, ImmL] at hv
    | cons v vs => cases vs with
      | cons _ _ => simp only [vDs, ImmL] at hv; exact hv.2.elim
      | nil =>
        simp only [vDs, ImmL, Imm] at hv
        obtain ⟨⟨a, us, rfl, h1, h2⟩, _⟩ := hv
        exact ⟨a, us, rfl, h1.sq, AftE.here R1 k1 (itD_enumS h1 h2)⟩
  · exact k1.elim
end
end DL
set_option Elab.async false
set_option linter.all false
set_option maxRecDepth 100000
set_option maxHeartbeats 2000000
namespace L2
open PySem PySem.Spec PyProof.Rows
section
variable {X : Cx} {CX : CXT} {C f : Addr} {fd : FuncData} {ps : List Str} {ds : List Value} {dvs : List V} {sp : Sp} {E : XK} {k : Nat}
/-- -x by an own __neg__ -/
theorem un_negOwn (F : FnOk X.prog X.w X.K X.mg X.base CX k f fd ps sp) (hr : Room k X.A) (hb : Binds X.K fd ps ds) (hd : Vals dvs ds) (hx : Passes CX X E)
    (hs : PySem.W.findIn X.K (.ref C) "__neg__" = some (some (.ref f))) (hf : PySem.W.isFn X.K (.ref f) = true) :
    UnR X (unaryOp .USub) (fun x H Q => ∃ a dx fs, x = .ref a ∧ H a = some (.ins C dx fs) ∧ sp ([.ref a] ++ dvs) H Q E) := by
  intro pins s σ H x v Q I rx h
  obtain ⟨a, dx, fs, rfl, ha, q⟩ := h
  cases rx
  obtain ⟨mA, J, _⟩ := ins_get I.hok ha
  obtain ⟨od, J, _⟩ := J.look
  obtain ⟨m, hF⟩ := I.fr
  exact PySem.W.ksp_neg hF I.ok.mod.kin J hs hf (run_fn (us := [.ref a]) (vs := [.ref a]) F hr hb hd hx I (.cons rfl .nil) q)
theorem relV_ni {x : V} {v : Value} (r : RelV x v) : v ≠ .notImplemented := by
  rintro rfl
  cases x <;> first | (obtain ⟨t, q⟩ := r; cases q) | cases r
theorem back_of {pins : List (Addr × Obj)} {σ : St} {Q : VK} {v : Value} {s : Shared} (h : EP X pins σ Q v s) : PySem.W.CmpBack (EP X pins σ Q) v s := by
  obtain ⟨x, H, I, r, q⟩ := id h
  have := relV_ni r
  unfold PySem.W.CmpBack
  split
  · exact this rfl
  · exact h
/-- x op y, two instances of one class, by its own method -/
theorem op_own {op : Operator} (F : FnOk X.prog X.w X.K X.mg X.base CX k f fd ps sp) (hr : Room k X.A) (hb : Binds X.K fd ps ds) (hd : Vals dvs ds) (hx : Passes CX X E) (hc : PySem.W.selfFirst X.K C = true)
    (hs : PySem.W.findIn X.K (.ref C) (PySem.dunder op.info.2) = some (some (.ref f))) (hf : PySem.W.isFn X.K (.ref f) = true) :
    OpR X (binaryOp op) (fun x y H Q => ∃ a dx fs b dy gs, x = .ref a ∧ y = .ref b ∧ H a = some (.ins C dx fs) ∧ H b = some (.ins C dy gs) ∧ sp ([.ref a, .ref b] ++ dvs) H Q E) := by
  intro pins s σ H x y v u Q I rx ry h
  obtain ⟨a, dx, fs, b, dy, gs, rfl, rfl, ha, hb', q⟩ := h
  cases rx
  cases ry
  obtain ⟨mA, J, _⟩ := ins_get I.hok ha
  obtain ⟨mB, J', _⟩ := ins_get I.hok hb'
  obtain ⟨od, J, _⟩ := J.look
  obtain ⟨od', J', _⟩ := J'.look
  obtain ⟨m, hF⟩ := I.fr
  exact PySem.W.binop_K hF I.ok.mod.kin J J'.type hc hs hf (thn (run_fn (us := [.ref a, .ref b]) (vs := [.ref a, .ref b]) F hr hb hd hx I (.cons rfl (.cons rfl .nil)) q) fun _ _ h => back_of h)
/-- what the class at C says of `x op i`, i an int -/
structure OpInt (K : PySem.W.Frag) (C f : Addr) (op : Operator) : Prop where
  first : PySem.W.selfFirst K C = true
  at_ : PySem.W.findIn K (.ref C) (PySem.dunder op.info.2) = some (some (.ref f))
  fn : PySem.W.isFn K (.ref f) = true
  rev : ∃ rc, PySem.W.findIn K (.ref C) (dunderR op.info.2) = some rc ∧ (rc = none ∨ ∃ g : Addr, rc = some (.ref g))
  int1 : ∃ fo, PySem.W.findIn K (.type "int") (PySem.dunder op.info.2) = some fo
  int2 : ∃ ro, PySem.W.findIn K (.type "int") (dunderR op.info.2) = some ro
  sub : PySem.W.subIn K (.type "int") (.ref C) = some false
theorem op_ownI {op : Operator} (F : FnOk X.prog X.w X.K X.mg X.base CX k f fd ps sp) (hr : Room k X.A) (hb : Binds X.K fd ps ds) (hd : Vals dvs ds) (hx : Passes CX X E) (o : OpInt X.K C f op) :
    OpR X (binaryOp op) (fun x y H Q => ∃ a dx fs i, x = .ref a ∧ y = .int i ∧ H a = some (.ins C dx fs) ∧ sp ([.ref a, .int i] ++ dvs) H Q E) := by
  intro pins s σ H x y v u Q I rx ry h
  obtain ⟨a, dx, fs, i, rfl, rfl, ha, q⟩ := h
  cases rx
  obtain ⟨t, rfl⟩ := (show ∃ t, u = Value.int i t from ry)
  obtain ⟨mA, J, _⟩ := ins_get I.hok ha
  obtain ⟨od, J, _⟩ := J.look
  obtain ⟨m, hF⟩ := I.fr
  obtain ⟨rc, hrc, hrp⟩ := o.rev
  obtain ⟨fo, h1⟩ := o.int1
  obtain ⟨ro, h2⟩ := o.int2
  exact PySem.W.ksp_binT hF I.ok.mod.kin J rfl o.first o.at_ o.fn hrc hrp h1 h2 o.sub (thn (run_fn (us := [.ref a, .int i t]) (vs := [.ref a, .int i]) F hr hb hd hx I (.cons rfl (.cons ⟨t, rfl⟩ .nil)) q) fun _ _ h => back_of h)
end
end L2
set_option Elab.async false
set_option linter.all false
set_option maxRecDepth 100000
set_option maxHeartbeats 2000000
namespace DL
open PySem PySem.Spec L2 PyProof.Rows PySem.Calls
/-! ### operators of own classes -/
/-- the classes' methods of one operator, what they mean -/
structure OpD (P : Program) (w : World) (K : Fr) (mg : Str → Option Value) (base : Heap) (C : Cl) (k : Nat) (op : Operator) (tbl : Str → Option MF) : Prop where
  ok : ∀ c A mf, C c = some A → tbl c = some mf → PySem.W.selfFirst K A = true ∧ ∃ f fd ps, PySem.W.findIn K (.ref A) (PySem.dunder op.info.2) = some (some (.ref f)) ∧ PySem.W.isFn K (.ref f) = true ∧
    FnOk P w K mg base (L2N.CX P w) k f fd ps (spD K C none 2 mf) ∧ Binds K fd ps []
def mOpO (tbl : Str → Option MF) (ma mb : M W) : M D := fun z => (ma z).bind fun x z1 => (mb z1).bind fun y z2 => match z2.cont x, z2.cont y with
  | some (.ins c _), some (.ins c' _) => if c = c' then match tbl c with
    | some mf => callF 2 mf [x, y] z2
    | none => .bad
    else .bad
  | _, _ => .bad
section
variable {X : Cx} {B : Bs} {E : WX} {a b : Expr} {pos : Pos} {ma mb : M W} {z z' : Z} {σ σ' : L2.St} {H H' : Hp} {L L' : List Addr} {op : Operator} {k n : Nat} {tbl : Str → Option MF}
theorem d_opO {C : Cl} (P : Pl X B E) (hC : B.C = C) (F : OpD X.prog X.w X.K X.mg X.base C k op tbl) (hr : Room k X.A) (ha : PED X B E a ma) (hb : PED X B E b mb) : PXD X B E (.BinOp a op b pos) (mOpO tbl ma mb) := by
  subst hC
  obtain ⟨ta, pa, sa⟩ := ha
  obtain ⟨tb, pb, sb⟩ := hb
  refine ⟨fun σ H Q => tOp (fun x y H Q => ∃ a dx fs b dy gs A mf f fd ps, x = .ref a ∧ y = .ref b ∧ H a = some (.ins A dx fs) ∧ H b = some (.ins A dy gs) ∧ PySem.W.selfFirst X.K A = true ∧
      PySem.W.findIn X.K (.ref A) (PySem.dunder op.info.2) = some (some (.ref f)) ∧ PySem.W.isFn X.K (.ref f) = true ∧ FnOk X.prog X.w X.K X.mg X.base (L2N.CX X.prog X.w) k f fd ps (spD X.K B.C none 2 mf) ∧ Binds X.K fd ps [] ∧
      spD X.K B.C none 2 mf [.ref a, .ref b] H Q (WE E σ)) ta tb σ H Q, ⟨fun pins s σ H Q I h => ?_⟩, fun z σ H L Q R h => ?_⟩
  · refine wpAny_BinOp (binT pa pb I h fun v u s2 x y H2 I2 rx ry hh => ?_)
    obtain ⟨a, dx, fs, b, dy, gs, A, mf, f, fd, ps, rfl, rfl, ea, eb, hc, hs, hf, hF, hbd, q⟩ := hh
    cases rx
    cases ry
    obtain ⟨mA, J, _⟩ := ins_get I2.hok ea
    obtain ⟨mB, J', _⟩ := ins_get I2.hok eb
    obtain ⟨od, J, _⟩ := J.look
    obtain ⟨od', J', _⟩ := J'.look
    obtain ⟨m, hFr⟩ := I2.fr
    exact PySem.W.binop_K hFr I2.ok.mod.kin J J'.type hc hs hf (thn (run_fnS (us := [.ref a, .ref b]) (vs := [.ref a, .ref b]) hF hr hbd (P.ps σ) I2 (.cons rfl (.cons rfl .nil)) q) fun _ _ h => back_of h)
  · refine sa z σ H L _ R (AftE.bind h fun x z1 v H1 L1 R1 g1 hv k1 => ?_)
    refine sb z1 σ H1 L1 _ R1 (AftE.bind k1 fun y z2 u H2 L2 R2 g2 hu k2 => ?_)
    have hv2 := VRel.stay g2 hv
    split at k2
    · rename_i c fs c' gs ec ec'
      split at k2
      · rename_i hcc
        subst hcc
        split at k2
        · rename_i mf et
          obtain ⟨a, rfl, A, dx, vs, hA, hH, im⟩ := R2.read hv2 ec
          obtain ⟨b, rfl, A', dy, ws, hA', hH', im'⟩ := R2.read hu ec'
          rw [hA] at hA'
          cases hA'
          obtain ⟨hc, f, fd, ps, hs, hf, hF, hbd⟩ := F.ok c A mf hA et
          have k3 := callF_of (vs := [.ref a, .ref b]) (xs := [x, y]) R2 ⟨hv2, hu, trivial⟩ k2
          rw [P.K] at k3
          exact ⟨a, dx, vs, b, dy, ws, A, mf, f, fd, ps, rfl, rfl, hH, hH', hc, hs, hf, hF, hbd, k3⟩
        · exact k2.elim
      · exact k2.elim
    · exact k2.elim
end
end DL
set_option Elab.async false
set_option linter.all false
set_option maxRecDepth 100000
set_option maxHeartbeats 2000000
namespace DL
open PySem PySem.Spec L2 PyProof.Rows PySem.Calls
/-- the classes' __neg__, what they mean -/
structure NegD (P : Program) (w : World) (K : Fr) (mg : Str → Option Value) (base : Heap) (C : Cl) (k : Nat) (tbl : Str → Option MF) : Prop where
  ok : ∀ c A mf, C c = some A → tbl c = some mf → ∃ f fd ps, PySem.W.findIn K (.ref A) "__neg__" = some (some (.ref f)) ∧ PySem.W.isFn K (.ref f) = true ∧
    FnOk P w K mg base (L2N.CX P w) k f fd ps (spD K C none 1 mf) ∧ Binds K fd ps []
def mNegO (tbl : Str → Option MF) (ma : M W) : M D := fun z => (ma z).bind fun x z1 => match z1.cont x with
  | some (.ins c _) => match tbl c with
    | some mf => callF 1 mf [x] z1
    | none => .bad
  | _ => .bad
/-- the classes' operator with an int, what they mean -/
structure OpID (P : Program) (w : World) (K : Fr) (mg : Str → Option Value) (base : Heap) (C : Cl) (k : Nat) (op : Operator) (tbl : Str → Option MF) : Prop where
  ok : ∀ c A mf, C c = some A → tbl c = some mf → ∃ f fd ps, OpInt K A f op ∧ FnOk P w K mg base (L2N.CX P w) k f fd ps (spD K C none 2 mf) ∧ Binds K fd ps []
def mOpI (tbl : Str → Option MF) (ma mb : M W) : M D := fun z => (ma z).bind fun x z1 => (mb z1).bind fun y z2 => match z2.cont x, y with
  | some (.ins c _), .d (.int _) => match tbl c with
    | some mf => callF 2 mf [x, y] z2
    | none => .bad
  | _, _ => .bad
section
variable {X : Cx} {B : Bs} {E : WX} {a b : Expr} {pos : Pos} {ma mb : M W} {z z' : Z} {σ σ' : L2.St} {H H' : Hp} {L L' : List Addr} {op : Operator} {k n : Nat} {tbl : Str → Option MF}
theorem d_negO {C : Cl} (P : Pl X B E) (hC : B.C = C) (F : NegD X.prog X.w X.K X.mg X.base C k tbl) (hr : Room k X.A) (ha : PED X B E a ma) : PXD X B E (.UnaryOp .USub a pos) (mNegO tbl ma) := by
  subst hC
  obtain ⟨ta, pa, sa⟩ := ha
  refine ⟨fun σ H Q => ta σ H fun x H => ∃ a dx fs A mf f fd ps, x = .ref a ∧ H a = some (.ins A dx fs) ∧
      PySem.W.findIn X.K (.ref A) "__neg__" = some (some (.ref f)) ∧ PySem.W.isFn X.K (.ref f) = true ∧ FnOk X.prog X.w X.K X.mg X.base (L2N.CX X.prog X.w) k f fd ps (spD X.K B.C none 1 mf) ∧ Binds X.K fd ps [] ∧
      spD X.K B.C none 1 mf [.ref a] H Q (WE E σ), ⟨fun pins s σ H Q I h => ?_⟩, fun z σ H L Q R h => ?_⟩
  · refine UnaryOp_ (thn (pa.run pins s σ H _ I h) fun u s1 hh => ?_)
    obtain ⟨x, H1, I1, rx, a, dx, fs, A, mf, f, fd, ps, rfl, ea, hs, hf, hF, hbd, q⟩ := hh
    cases rx
    obtain ⟨mA, J, _⟩ := ins_get I1.hok ea
    obtain ⟨od, J, _⟩ := J.look
    obtain ⟨m, hFr⟩ := I1.fr
    exact PySem.W.ksp_neg hFr I1.ok.mod.kin J hs hf (run_fnS (us := [.ref a]) (vs := [.ref a]) hF hr hbd (P.ps σ) I1 (.cons rfl .nil) q)
  · refine sa z σ H L _ R (AftE.bind h fun x z1 v H1 L1 R1 g1 hv k1 => ?_)
    split at k1
    · rename_i c fs ec
      split at k1
      · rename_i mf et
        obtain ⟨a, rfl, A, dx, vs, hA, hH, im⟩ := R1.read hv ec
        obtain ⟨f, fd, ps, hs, hf, hF, hbd⟩ := F.ok c A mf hA et
        have k3 := callF_of (vs := [.ref a]) (xs := [x]) R1 ⟨hv, trivial⟩ k1
        rw [P.K] at k3
        exact ⟨a, dx, vs, A, mf, f, fd, ps, rfl, hH, hs, hf, hF, hbd, k3⟩
      · exact k1.elim
    · exact k1.elim
theorem d_opI {C : Cl} (P : Pl X B E) (hC : B.C = C) (F : OpID X.prog X.w X.K X.mg X.base C k op tbl) (hr : Room k X.A) (ha : PED X B E a ma) (hb : PED X B E b mb) : PXD X B E (.BinOp a op b pos) (mOpI tbl ma mb) := by
  subst hC
  obtain ⟨ta, pa, sa⟩ := ha
  obtain ⟨tb, pb, sb⟩ := hb
  refine ⟨fun σ H Q => tOp (fun x y H Q => ∃ a dx fs i A mf f fd ps, x = .ref a ∧ y = .int i ∧ H a = some (.ins A dx fs) ∧ OpInt X.K A f op ∧
      FnOk X.prog X.w X.K X.mg X.base (L2N.CX X.prog X.w) k f fd ps (spD X.K B.C none 2 mf) ∧ Binds X.K fd ps [] ∧
      spD X.K B.C none 2 mf [.ref a, .int i] H Q (WE E σ)) ta tb σ H Q, ⟨fun pins s σ H Q I h => ?_⟩, fun z σ H L Q R h => ?_⟩
  · refine wpAny_BinOp (binT pa pb I h fun v u s2 x y H2 I2 rx ry hh => ?_)
    obtain ⟨a, dx, fs, i, A, mf, f, fd, ps, rfl, rfl, ea, o, hF, hbd, q⟩ := hh
    cases rx
    obtain ⟨t, rfl⟩ := (show ∃ t, u = Value.int i t from ry)
    obtain ⟨mA, J, _⟩ := ins_get I2.hok ea
    obtain ⟨od, J, _⟩ := J.look
    obtain ⟨m, hFr⟩ := I2.fr
    obtain ⟨rc, hrc, hrp⟩ := o.rev
    obtain ⟨fo, h1⟩ := o.int1
    obtain ⟨ro, h2⟩ := o.int2
    exact PySem.W.ksp_binT hFr I2.ok.mod.kin J rfl o.first o.at_ o.fn hrc hrp h1 h2 o.sub (thn (run_fnS (us := [.ref a, .int i t]) (vs := [.ref a, .int i]) hF hr hbd (P.ps σ) I2 (.cons rfl (.cons ⟨t, rfl⟩ .nil)) q) fun _ _ h => back_of h)
  · refine sa z σ H L _ R (AftE.bind h fun x z1 v H1 L1 R1 g1 hv k1 => ?_)
    refine sb z1 σ H1 L1 _ R1 (AftE.bind k1 fun y z2 u H2 L2 R2 g2 hu k2 => ?_)
    have hv2 := VRel.stay g2 hv
    split at k2
    · rename_i c fs i ec
      split at k2
      · rename_i mf et
        obtain ⟨a, rfl, A, dx, vs, hA, hH, im⟩ := R2.read hv2 ec
        obtain ⟨f, fd, ps, o, hF, hbd⟩ := F.ok c A mf hA et
        have e := vr_int hu
        subst e
        have k3 := callF_of (vs := [.ref a, .int i]) (xs := [x, .d (.int i)]) R2 ⟨hv2, hu, trivial⟩ k2
        rw [P.K] at k3
        exact ⟨a, dx, vs, i, A, mf, f, fd, ps, rfl, rfl, hH, (by rw [← P.K]; rw [P.K]; exact o), hF, hbd, k3⟩
      · exact k2.elim
    · exact k2.elim
end
end DL
set_option Elab.async false
set_option linter.all false
set_option maxRecDepth 100000
set_option maxHeartbeats 2000000
namespace DL
open PySem PySem.Spec L2 PyProof.Rows PySem.Calls
/-- the classes' __contains__, what they mean -/
structure InD (P : Program) (w : World) (K : Fr) (mg : Str → Option Value) (base : Heap) (C : Cl) (k : Nat) (tbl : Str → Option MF) : Prop where
  ok : ∀ c A mf, C c = some A → tbl c = some mf → ∃ f fd ps, PySem.W.findIn K (.ref A) "__contains__" = some (some (.ref f)) ∧ PySem.W.isFn K (.ref f) = true ∧
    FnOk P w K mg base (L2N.CX P w) k f fd ps (spD K C none 2 mf) ∧ Binds K fd ps []
def onlyB : D → M D
  | .bl k => fun z => .ok (.bl k) z
  | _ => fun _ => .bad
/-- x in o -/
def mInO (tbl : Str → Option MF) (ma mb : M W) : M D := fun z => (ma z).bind fun x z1 => (mb z1).bind fun y z2 => match z2.cont y with
  | some (.ins c _) => match tbl c with
    | some mf => (callF 2 mf [y, x] z2).bind onlyB
    | none => .bad
  | _ => .bad
section
variable {X : Cx} {B : Bs} {E : WX} {a b : Expr} {pos : Pos} {ma mb : M W} {z z' : Z} {σ σ' : L2.St} {H H' : Hp} {L L' : List Addr} {k n : Nat} {tbl : Str → Option MF}
theorem d_inO {C : Cl} (P : Pl X B E) (hC : B.C = C) (F : InD X.prog X.w X.K X.mg X.base C k tbl) (hr : Room k X.A) (ha : PED X B E a ma) (hb : PED X B E b mb) (hm : behindInMarks .In b = false := by rfl) :
    PXD X B E (.Compare a [.In] [b] pos) (mInO tbl ma mb) := by
  subst hC
  obtain ⟨ta, pa, sa⟩ := ha
  obtain ⟨tb, pb, sb⟩ := hb
  refine ⟨fun σ H Q => tOp (fun x y H Q => ∃ a dx fs A mf f fd ps, y = .ref a ∧ H a = some (.ins A dx fs) ∧
      PySem.W.findIn X.K (.ref A) "__contains__" = some (some (.ref f)) ∧ PySem.W.isFn X.K (.ref f) = true ∧ FnOk X.prog X.w X.K X.mg X.base (L2N.CX X.prog X.w) k f fd ps (spD X.K B.C none 2 mf) ∧ Binds X.K fd ps [] ∧
      spD X.K B.C none 2 mf [.ref a, x] H (fun v H' => ∃ k, v = .bl k ∧ Q (.bl k) H') (WE E σ)) ta tb σ H Q, ⟨fun pins s σ H Q I h => ?_⟩, fun z σ H L Q R h => ?_⟩
  · refine wpAny_Compare1 (binT pa pb I h fun v u s2 x y H2 I2 rx ry hh => ?_) hm
    obtain ⟨a, dx, fs, A, mf, f, fd, ps, rfl, ea, hs, hf, hF, hbd, q⟩ := hh
    cases ry
    obtain ⟨mA, J, _⟩ := ins_get I2.hok ea
    obtain ⟨od, J, _⟩ := J.look
    obtain ⟨m, hFr⟩ := I2.fr
    refine PySem.W.in_K hFr I2.ok.mod.kin J hs hf (thn (run_fnS (us := [.ref a, v]) (vs := [.ref a, x]) hF hr hbd (P.ps σ) I2 (.cons rfl (.cons rx .nil)) q) fun r s3 h3 => ?_)
    obtain ⟨y', H3, I3, r3, k, e, q3⟩ := h3
    subst e
    cases r3
    exact wpAny_truthy_bool ⟨.bl k, H3, I3, rfl, q3⟩
  · refine sa z σ H L _ R (AftE.bind h fun x z1 v H1 L1 R1 g1 hv k1 => ?_)
    refine sb z1 σ H1 L1 _ R1 (AftE.bind k1 fun y z2 u H2 L2 R2 g2 hu k2 => ?_)
    have hv2 := VRel.stay g2 hv
    split at k2
    · rename_i c fs ec
      split at k2
      · rename_i mf et
        obtain ⟨a, rfl, A, dx, vs, hA, hH, im⟩ := R2.read hu ec
        obtain ⟨f, fd, ps, hs, hf, hF, hbd⟩ := F.ok c A mf hA et
        have k3 := callF_of (vs := [.ref a, v]) (xs := [y, x]) (Q := fun v H' => ∃ k, v = .bl k ∧ Q (.bl k) H') R2 ⟨hu, hv2, trivial⟩ (AftE.bind k2 fun d z3 w H3 L3 R3 g3 hd k4 => by
          cases d <;> first | exact k4.elim | skip
          rename_i t
          have hw : w = .bl t := by simpa [vD, Imm] using hd
          exact ⟨t, hw, AftE.here R3 k4 (by simp [vD, Imm])⟩)
        rw [P.K] at k3
        exact ⟨a, dx, vs, A, mf, f, fd, ps, rfl, hH, hs, hf, hF, hbd, k3⟩
      · exact k2.elim
    · exact k2.elim
end
end DL
set_option Elab.async false
set_option linter.all false
set_option maxRecDepth 100000
set_option maxHeartbeats 2000000
namespace DL
open PySem PySem.Spec L2 PyProof.Rows PySem.Calls
/-- the classes' __eq__, what they mean -/
structure EqD (P : Program) (w : World) (K : Fr) (mg : Str → Option Value) (base : Heap) (C : Cl) (k : Nat) (tbl : Str → Option MF) : Prop where
  ok : ∀ c A mf, C c = some A → tbl c = some mf → ∃ f fd ps, PySem.W.findIn K (.ref A) "__eq__" = some (some (.ref f)) ∧ PySem.W.isFn K (.ref f) = true ∧
    FnOk P w K mg base (L2N.CX P w) k f fd ps (spD K C none 2 mf) ∧ Binds K fd ps []
section
variable {X : Cx} {B : Bs} {E : WX} {a b : Expr} {pos : Pos} {ma mb : M W} {z z' : Z} {σ σ' : L2.St} {H H' : Hp} {L L' : List Addr} {k n : Nat} {tbl : Str → Option MF}
/-- x == y, two instances of one class with its own __eq__ -/
theorem d_eqO {C : Cl} (P : Pl X B E) (hC : B.C = C) (F : EqD X.prog X.w X.K X.mg X.base C k tbl) (hr : Room k X.A) (ha : PED X B E a ma) (hb : PED X B E b mb) (hm : behindInMarks .Eq b = false := by rfl) :
    PXD X B E (.Compare a [.Eq] [b] pos) (mOpO tbl ma mb) := by
  subst hC
  obtain ⟨ta, pa, sa⟩ := ha
  obtain ⟨tb, pb, sb⟩ := hb
  refine ⟨fun σ H Q => tOp (fun x y H Q => ∃ a dx fs b dy gs A mf f fd ps, x = .ref a ∧ y = .ref b ∧ H a = some (.ins A dx fs) ∧ H b = some (.ins A dy gs) ∧
      PySem.W.findIn X.K (.ref A) "__eq__" = some (some (.ref f)) ∧ PySem.W.isFn X.K (.ref f) = true ∧ FnOk X.prog X.w X.K X.mg X.base (L2N.CX X.prog X.w) k f fd ps (spD X.K B.C none 2 mf) ∧ Binds X.K fd ps [] ∧
      spD X.K B.C none 2 mf [.ref a, .ref b] H Q (WE E σ)) ta tb σ H Q, ⟨fun pins s σ H Q I h => ?_⟩, fun z σ H L Q R h => ?_⟩
  · refine wpAny_Compare1 (binT pa pb I h fun v u s2 x y H2 I2 rx ry hh => ?_) hm
    obtain ⟨a, dx, fs, b, dy, gs, A, mf, f, fd, ps, rfl, rfl, ea, eb, hs, hf, hF, hbd, q⟩ := hh
    cases rx
    cases ry
    obtain ⟨mA, J, _⟩ := ins_get I2.hok ea
    obtain ⟨mB, J', _⟩ := ins_get I2.hok eb
    obtain ⟨od, J, _⟩ := J.look
    obtain ⟨od', J', _⟩ := J'.look
    obtain ⟨m, hFr⟩ := I2.fr
    refine PySem.W.cmp_K (op := .Eq) (tb := .ref A) (Nat.lt_of_le_of_lt (by omega) P.hu) hFr I2.ok.mod.kin J J'.type (by simp [PySem.W.notFirst]) hs hf (thn (run_fnS (us := [.ref a, .ref b]) (vs := [.ref a, .ref b]) hF hr hbd (P.ps σ) I2 (.cons rfl (.cons rfl .nil)) q) fun _ _ h => back_of h)
  · refine sa z σ H L _ R (AftE.bind h fun x z1 v H1 L1 R1 g1 hv k1 => ?_)
    refine sb z1 σ H1 L1 _ R1 (AftE.bind k1 fun y z2 u H2 L2 R2 g2 hu k2 => ?_)
    have hv2 := VRel.stay g2 hv
    split at k2
    · rename_i c fs c' gs ec ec'
      split at k2
      · rename_i hcc
        subst hcc
        split at k2
        · rename_i mf et
          obtain ⟨a, rfl, A, dx, vs, hA, hH, im⟩ := R2.read hv2 ec
          obtain ⟨b, rfl, A', dy, ws, hA', hH', im'⟩ := R2.read hu ec'
          rw [hA] at hA'
          cases hA'
          obtain ⟨f, fd, ps, hs, hf, hF, hbd⟩ := F.ok c A mf hA et
          have k3 := callF_of (vs := [.ref a, .ref b]) (xs := [x, y]) R2 ⟨hv2, hu, trivial⟩ k2
          rw [P.K] at k3
          exact ⟨a, dx, vs, b, dy, ws, A, mf, f, fd, ps, rfl, rfl, hH, hH', hs, hf, hF, hbd, k3⟩
        · exact k2.elim
      · exact k2.elim
    · exact k2.elim
end
end DL
set_option Elab.async false
set_option linter.all false
set_option maxRecDepth 100000
set_option maxHeartbeats 2000000
namespace DL
open PySem PySem.Spec L2 PyProof.Rows PySem.Calls
/-! ### d.setdefault(k, x), keys ints and texts -/
def fSetd (x y : W) (d : D) : M D := fun z => match z.mut x, y with
  | some (.dK kvs), .d kd => match keyD kd with
    | some k => if kvs.length < sizeLine then match lookD kvs k with
        | some d0 => .ok d0 z
        | none => .ok d (z.put x (.dK (putD kvs k d)))
      else .bad
    | none => .bad
  | _, _ => .bad
def mSetd (mo me : M W) (mf : M D) : M D := fun z => (mo z).bind fun x z1 => if isDict z1 x then (me z1).bind fun y z2 => (mf z2).bind fun d z3 => fSetd x y d z3 else .bad
section
variable {X : Cx} {B : Bs} {E : WX} {e f o : Expr} {p pos apos cpos : Pos} {m mo : M W} {md : M D} {z z' : Z} {σ σ' : L2.St} {H H' : Hp} {L L' : List Addr}
theorem d_setd (P : Pl X B E) (ho : PED X B E o mo) (he : PED X B E e m) (hf : PXD X B E f md) (hM : M2 X o "setdefault" apos e f cpos) : PXD X B E (.Call (.Attribute o "setdefault" apos) [e, f] [] cpos) (mSetd mo m md) := by
  obtain ⟨t1, p1, s1⟩ := ho
  obtain ⟨t2, p2, s2⟩ := he
  obtain ⟨t3, p3, s3⟩ := hf
  refine ⟨_, pe_dsetd p1 p2 p3 hM, fun z σ H L Q R h => ?_⟩
  refine s1 z σ H L _ R (AftE.bind h fun x z1 vx H1 L1 R1 g1 h1 k1 => ?_)
  split at k1
  · rename_i hd
    obtain ⟨a, ea, isd⟩ := isD_of R1 h1 hd
    refine ⟨a, ea, isd, ?_⟩
    refine s2 z1 σ H1 L1 _ R1 (AftE.bind k1 fun y z2 vy H2 L2 R2 g2 h2 k2 => ?_)
    refine s3 z2 σ H2 L2 _ R2 (AftE.bind k2 fun d z3 vd H3 L3 R3 g3 h3 k3 => ?_)
    have hx := VRel.stay g3 (VRel.stay g2 h1)
    have hy := VRel.stay g3 h2
    unfold fSetd at k3
    split at k3
    · rename_i kvs kd ec
      split at k3
      · rename_i k ek
        split at k3
        · rename_i hl
          obtain ⟨q, e1, ⟨vs, hq, im⟩, ex, up⟩ := R3.write hx ec
          rw [ea] at e1
          cases e1
          have io := immK_val (k := k) im
          refine ⟨vs, k, hq, keyD_imm hy ek, by rw [immK_length im]; exact hl, fun v hv => ?_, fun hv => ?_⟩
          · rw [hv] at io
            cases el : lookD kvs k with
            | none => rw [el] at io; exact io.elim
            | some d0 =>
              rw [el] at io k3
              exact AftE.here R3 k3 io
          · rw [hv] at io
            cases el : lookD kvs k with
            | some d0 => rw [el] at io; exact io.elim
            | none =>
              rw [el] at k3
              have u := up (.dK (putD kvs k d)) (.dK (putK vs k vd)) ⟨_, upd_same, immK_put (Imm.stay (grow_upd ex) _ _ h3) (ImmK.stay (grow_upd ex) _ _ im)⟩
              exact k3 _ _ _ u.1 u.2 (Imm.stay u.2 _ _ h3)
        · exact k3.elim
      · exact k3.elim
    · exact k3.elim
  · exact k1.elim
end
end DL
set_option Elab.async false
set_option linter.all false
set_option maxRecDepth 100000
set_option maxHeartbeats 2000000
/-! methods as defs of a class; keywords in any order -/
namespace DL
open PySem PySem.Spec L2 PyProof.Rows PySem.Calls
/-! ### a class's def -/
structure Dm (K : Fr) (C : Cl) (c m qual : Str) (st : Stmt) (ps : List Str) : Prop where
  ex : ∃ A f fd, C c = some A ∧ L2.Cls K A ∧ L2.Meth K A m f ∧ Fun K m qual st f fd ∧ Binds K fd ps []
/-- .. that means mf -/
structure FM (P : Program) (w : World) (K : Fr) (mg : Str → Option Value) (base : Heap) (C : Cl) (k : Nat) (c m qual : Str) (st : Stmt) (ps : List Str) (mf : MF) : Prop where
  ex : ∃ A f fd, C c = some A ∧ L2.Cls K A ∧ L2.Meth K A m f ∧ Fun K m qual st f fd ∧ Binds K fd ps [] ∧ FnOk P w K mg base (L2N.CX P w) k f fd ps (spD K C none ps.length mf)
section
variable {P : Program} {w : World} {K : Fr} {mg : Str → Option Value} {base : Heap} {C : Cl} {j k n : Nat} {c m qual : Str} {st : Stmt} {ps N : List Str} {mf : MF} {mb : MS}
theorem FM.mono (F : FM P w K mg base C j c m qual st ps mf) (h : j ≤ k) : FM P w K mg base C k c m qual st ps mf := by
  obtain ⟨A, f, fd, h1, h2, h3, h4, h5, h6⟩ := F
  exact ⟨A, f, fd, h1, h2, h3, h4, h5, h6.mono h⟩
/-- a def of a class, by its body -/
theorem fm_of (D : Dm K C c m qual st ps) (S : FnScope N ps (defScope st)) (hC : ∀ c A, C c = some A → mg c = some (.ref A))
    (hbody : ∀ (cdv : Value) (A : Around) (outer : List Env) (s : Shared) (H : Hp) (E : XK) (f : Addr) (B : Bs), B.C = C → B.xs = none → Room k (A.deeper (envOfC qual (defScope st) s.heap.objs.size f cdv)) →
      Plc (cxOf (L2N.CX P w) P w K mg base N qual (defScope st) f cdv A outer s H E) B (fun cls d _ H => E cls d H) →
      PassesOwn (model P w) (A.deeper (envOfC qual (defScope st) s.heap.objs.size f cdv)) (envOfC qual (defScope st) s.heap.objs.size f cdv) (cxOf (L2N.CX P w) P w K mg base N qual (defScope st) f cdv A outer s H E).xe →
      PSsD (cxOf (L2N.CX P w) P w K mg base N qual (defScope st) f cdv A outer s H E) B (fun cls d _ H => E cls d H) (defBody st) mb) : FM P w K mg base C (k + 1) c m qual st ps (fnM N.length mb) := by
  obtain ⟨A, f, fd, h1, h2, h3, h4, h5⟩ := D
  exact ⟨A, f, fd, h1, h2, h3, h4, h5, fn_D h4 S hC fun cdv A outer s H E B hc hx hr P hp => hbody cdv A outer s H E f B hc hx hr P hp⟩
/-- .. its own cells are data when it has returned -/
theorem fm_ofP (D : Dm K C c m qual st ps) (S : FnScope N ps (defScope st)) (hC : ∀ c A, C c = some A → mg c = some (.ref A))
    (hbody : ∀ (cdv : Value) (A : Around) (outer : List Env) (s : Shared) (H : Hp) (E : XK) (f : Addr) (B : Bs), B.C = C → B.xs = none → Room k (A.deeper (envOfC qual (defScope st) s.heap.objs.size f cdv)) →
      Plc (cxOf (L2N.CX P w) P w K mg base N qual (defScope st) f cdv A outer s H E) B (fun cls d _ H => E cls d H) →
      PassesOwn (model P w) (A.deeper (envOfC qual (defScope st) s.heap.objs.size f cdv)) (envOfC qual (defScope st) s.heap.objs.size f cdv) (cxOf (L2N.CX P w) P w K mg base N qual (defScope st) f cdv A outer s H E).xe →
      PSsD (cxOf (L2N.CX P w) P w K mg base N qual (defScope st) f cdv A outer s H E) B (fun cls d _ H => E cls d H) (defBody st) mb) : FM P w K mg base C (k + 1) c m qual st ps (popF (fnM N.length mb)) := by
  obtain ⟨A, f, fd, h1, h2, h3, h4, h5⟩ := D
  exact ⟨A, f, fd, h1, h2, h3, h4, h5, fn_DP h4 S hC fun cdv A outer s H E B hc hx hr P hp => hbody cdv A outer s H E f B hc hx hr P hp⟩
/-- a table of one class -/
def tb1 {α : Type} (c : Str) (a : α) (x : Str) : Option α := if x = c then some a else none
@[simp] theorem tb1_same {α : Type} (c : Str) (a : α) : tb1 c a c = some a := if_pos rfl
theorem tb1_of {α : Type} {c x : Str} {a b : α} (h : tb1 c a x = some b) : x = c ∧ b = a := by
  unfold tb1 at h
  split at h
  · rename_i e
    exact ⟨e, (Option.some.inj h).symm⟩
  · cases h
/-- two tables in one -/
def tbO {α : Type} (t u : Str → Option α) (x : Str) : Option α := match t x with
  | some a => some a
  | none => u x
theorem FM.mt (F : FM P w K mg base C k c m qual st ps mf) (h : ps.length = n + 1 := by rfl) : MtD P w K mg base C k m n (tb1 c mf) := ⟨fun c' A' mf' e1 e2 => by
  obtain ⟨rfl, rfl⟩ := tb1_of e2
  obtain ⟨A, f, fd, h1, h2, h3, h4, h5, h6⟩ := F
  rw [h1] at e1
  cases e1
  exact ⟨h2, f, fd, ps, h3, h ▸ h6, h5⟩⟩
theorem MtD.or {t u : Str → Option MF} (F : MtD P w K mg base C k m n t) (G : MtD P w K mg base C k m n u) : MtD P w K mg base C k m n (tbO t u) := ⟨fun c' A' mf' e1 e2 => by
  unfold tbO at e2
  split at e2
  · rename_i e
    cases e2
    exact F.ok c' A' _ e1 e
  · exact G.ok c' A' _ e1 e2⟩
/-- its __init__ -/
theorem FM.mkD (F : FM P w K mg base C k c "__init__" qual st ps mf) (g : ∀ A, C c = some A → mg c = some (.ref A) ∧ PySem.W.makesIn K A = true ∧ PySem.W.keepIn K (.ref A) = true) (h : ps.length = n + 1 := by rfl) : MkD P w K mg base C k c n mf := by
  obtain ⟨A, f, fd, h1, h2, h3, h4, h5, h6⟩ := F
  obtain ⟨g1, g2, g3⟩ := g A h1
  exact ⟨A, f, fd, ps, h1, g1, ⟨g2, h3.at_, h3.fn, g3⟩, h ▸ h6, h5⟩
/-- a property -/
structure Dp (K : Fr) (C : Cl) (c m qual : Str) (st : Stmt) (ps : List Str) : Prop where
  ex : ∃ A p g fd, C c = some A ∧ L2.Cls K A ∧ L2.PropOf K A m p g ∧ Fun K m qual st g fd ∧ Binds K fd ps []
theorem pr_of (D : Dp K C c m qual st ps) (S : FnScope N ps (defScope st)) (hC : ∀ c A, C c = some A → mg c = some (.ref A)) (h1 : ps.length = 1)
    (hbody : ∀ (cdv : Value) (A : Around) (outer : List Env) (s : Shared) (H : Hp) (E : XK) (f : Addr) (B : Bs), B.C = C → B.xs = none → Room k (A.deeper (envOfC qual (defScope st) s.heap.objs.size f cdv)) →
      Plc (cxOf (L2N.CX P w) P w K mg base N qual (defScope st) f cdv A outer s H E) B (fun cls d _ H => E cls d H) →
      PassesOwn (model P w) (A.deeper (envOfC qual (defScope st) s.heap.objs.size f cdv)) (envOfC qual (defScope st) s.heap.objs.size f cdv) (cxOf (L2N.CX P w) P w K mg base N qual (defScope st) f cdv A outer s H E).xe →
      PSsD (cxOf (L2N.CX P w) P w K mg base N qual (defScope st) f cdv A outer s H E) B (fun cls d _ H => E cls d H) (defBody st) mb) : PrD P w K mg base C (k + 1) m (tb1 c (fnM N.length mb)) := ⟨fun c' A' mf' e1 e2 => by
  obtain ⟨rfl, rfl⟩ := tb1_of e2
  obtain ⟨A, p, g, fd, a1, a2, a3, a4, a5⟩ := D
  rw [a1] at e1
  cases e1
  exact ⟨a2, p, g, fd, ps, a3, h1 ▸ fn_D a4 S hC fun cdv A outer s H E B hc hx hr P hp => hbody cdv A outer s H E g B hc hx hr P hp, a5⟩⟩
theorem PrD.or {t u : Str → Option MF} (F : PrD P w K mg base C k m t) (G : PrD P w K mg base C k m u) : PrD P w K mg base C k m (tbO t u) := ⟨fun c' A' mf' e1 e2 => by
  unfold tbO at e2
  split at e2
  · rename_i e
    cases e2
    exact F.ok c' A' _ e1 e
  · exact G.ok c' A' _ e1 e2⟩
end
/-! ### keywords in any order -/
/-- the items at the places is -/
def pick {α : Type} : List Nat → List α → List α
  | [], _ => []
  | i :: is, xs => match xs[i]? with
    | some x => x :: pick is xs
    | none => pick is xs
theorem Vals.pick {vs : List V} {us : List Value} (r : Vals vs us) : ∀ is : List Nat, Vals (DL.pick is vs) (DL.pick is us)
  | [] => .nil
  | i :: is => by
    unfold DL.pick
    cases e : vs[i]? with
    | some v =>
      obtain ⟨u, hu, rv⟩ := r.get e
      rw [hu]
      exact .cons rv (Vals.pick r is)
    | none =>
      have : us[i]? = none := by rw [List.getElem?_eq_none_iff] at e ⊢; rw [← Paired.length r]; exact e
      rw [this]
      exact Vals.pick r is
theorem vVs.get {B : Bs} {z : Z} {σ : L2.St} {H : Hp} {L : List Addr} : ∀ {vs : List V} {xs : List W} (i : Nat), vVs B σ z H L vs xs → (vs[i]? = none ∧ xs[i]? = none) ∨ ∃ v x, vs[i]? = some v ∧ xs[i]? = some x ∧ VRel B z σ H L v x
  | [], [], i, _ => .inl ⟨rfl, rfl⟩
  | v :: vs, x :: xs, 0, h => .inr ⟨v, x, rfl, rfl, h.1⟩
  | v :: vs, x :: xs, i + 1, h => by simpa using vVs.get i h.2
  | [], _ :: _, i, h => h.elim
  | _ :: _, [], i, h => h.elim
theorem vVs.pick {B : Bs} {z : Z} {σ : L2.St} {H : Hp} {L : List Addr} {vs : List V} {xs : List W} (h : vVs B σ z H L vs xs) : ∀ is : List Nat, vVs B σ z H L (DL.pick is vs) (DL.pick is xs)
  | [] => trivial
  | i :: is => by
    unfold DL.pick
    rcases h.get i with ⟨e1, e2⟩ | ⟨v, x, e1, e2, hv⟩
    · rw [e1, e2]
      exact vVs.pick h is
    · rw [e1, e2]
      exact ⟨hv, vVs.pick h is⟩
/-- n values by place, then the keywords ks; is: where each parameter's value stands among them -/
def KBp (K : Fr) (fd : FuncData) (ps : List Str) (n : Nat) (ks : List Str) (is : List Nat) : Prop := ∀ (s : Shared) (us ws : List Value), K.In s.heap → us.length = n → ws.length = ks.length → BindsTo s fd ⟨us, ks.zip ws⟩ (ps.zip (pick is (us ++ ws)))
theorem kbp_of {K : Fr} {x qual : Str} {st : Stmt} {f : Addr} {fd : FuncData} {ps ks : List Str} {n : Nat} {is : List Nat} (F : Fun K x qual st f fd)
    (h : ∀ (kV doc pm : Value) (an : Option Addr) (cdv ct : Value) (us ws : List Value), us.length = n → ws.length = ks.length → bindArgs (PySem.W.fnOf x qual (defArgs st) (defBody st) (defScope st) .none kV doc pm an cdv ct) ⟨us, ks.zip ws⟩ = pure (ps.zip (pick is (us ++ ws)))) : KBp K fd ps n ks is := by
  obtain ⟨oc, od, kV, doc, pm, an, cdv, ct, osl, rfl, lk, hcd⟩ := F.ex
  exact fun s us ws _ h1 h2 => .of_eq (h kV doc pm an cdv ct us ws h1 h2)
section
variable {P : Program} {w : World} {K : Fr} {mg : Str → Option Value} {base : Heap} {C : Cl} {j k n : Nat} {c m qual x : Str} {st : Stmt} {ps N ks : List Str} {mf : MF} {is : List Nat}
/-- a method called with keywords: n values by place (the object not counted) -/
structure MtK (P : Program) (w : World) (K : Fr) (mg : Str → Option Value) (base : Heap) (C : Cl) (k : Nat) (m : Str) (n : Nat) (ks : List Str) (is : List Nat) (tbl : Str → Option MF) : Prop where
  ok : ∀ c A mf, C c = some A → tbl c = some mf → L2.Cls K A ∧ ∃ f fd ps, L2.Meth K A m f ∧ FnOk P w K mg base (L2N.CX P w) k f fd ps (spD K C none is.length mf) ∧ KBp K fd ps (n + 1) ks is
theorem MtK.mono {tbl : Str → Option MF} (F : MtK P w K mg base C j m n ks is tbl) (h : j ≤ k) : MtK P w K mg base C k m n ks is tbl :=
  ⟨fun c A mf h1 h2 => by
    obtain ⟨q, f, fd, ps, h3, h4, h5⟩ := F.ok c A mf h1 h2
    exact ⟨q, f, fd, ps, h3, h4.mono h, h5⟩⟩
theorem FM.mtk (F : FM P w K mg base C k c m qual st ps mf) (ks : List Str) (is : List Nat) (n : Nat)
    (h : ∀ (kV doc pm : Value) (an : Option Addr) (cdv ct : Value) (us ws : List Value), us.length = n + 1 → ws.length = ks.length → bindArgs (PySem.W.fnOf m qual (defArgs st) (defBody st) (defScope st) .none kV doc pm an cdv ct) ⟨us, ks.zip ws⟩ = pure (ps.zip (pick is (us ++ ws))))
    (hn : ps.length = is.length := by rfl) : MtK P w K mg base C k m n ks is (tb1 c mf) := ⟨fun c' A' mf' e1 e2 => by
  obtain ⟨rfl, rfl⟩ := tb1_of e2
  obtain ⟨A, f, fd, h1, h2, h3, h4, h5, h6⟩ := F
  rw [h1] at e1
  cases e1
  exact ⟨h2, f, fd, ps, h3, hn ▸ h6, kbp_of h4 h⟩⟩
/-- an instance made with keywords -/
structure MkK (P : Program) (w : World) (K : Fr) (mg : Str → Option Value) (base : Heap) (C : Cl) (k : Nat) (x : Str) (n : Nat) (ks : List Str) (is : List Nat) (mi : MF) : Prop where
  ex : ∃ A f fd ps, C x = some A ∧ mg x = some (.ref A) ∧ L2.Mk K A f ∧ FnOk P w K mg base (L2N.CX P w) k f fd ps (spD K C none (is.length + 1) mi) ∧ KBp K fd ps (n + 1) ks (0 :: is.map (· + 1))
theorem MkK.mono {mi : MF} (F : MkK P w K mg base C j x n ks is mi) (h : j ≤ k) : MkK P w K mg base C k x n ks is mi := by
  obtain ⟨A, f, fd, ps, h1, h2, h3, h4, h5⟩ := F
  exact ⟨A, f, fd, ps, h1, h2, h3, h4.mono h, h5⟩
theorem FM.mkk (F : FM P w K mg base C k c "__init__" qual st ps mf) (g : ∀ A, C c = some A → mg c = some (.ref A) ∧ PySem.W.makesIn K A = true ∧ PySem.W.keepIn K (.ref A) = true) (ks : List Str) (is : List Nat) (n : Nat)
    (h : ∀ (kV doc pm : Value) (an : Option Addr) (cdv ct : Value) (us ws : List Value), us.length = n + 1 → ws.length = ks.length → bindArgs (PySem.W.fnOf "__init__" qual (defArgs st) (defBody st) (defScope st) .none kV doc pm an cdv ct) ⟨us, ks.zip ws⟩ = pure (ps.zip (pick (0 :: is.map (· + 1)) (us ++ ws))))
    (hn : ps.length = is.length + 1 := by rfl) : MkK P w K mg base C k c n ks is mf := by
  obtain ⟨A, f, fd, h1, h2, h3, h4, h5, h6⟩ := F
  obtain ⟨g1, g2, g3⟩ := g A h1
  exact ⟨A, f, fd, ps, h1, g1, ⟨g2, h3.at_, h3.fn, g3⟩, hn ▸ h6, kbp_of h4 h⟩
/-- a def called with keywords -/
structure FKp (P : Program) (w : World) (K : Fr) (mg : Str → Option Value) (base : Heap) (C : Cl) (k : Nat) (x : Str) (n : Nat) (ks : List Str) (is : List Nat) (m : MF) : Prop where
  ex : ∃ f fd ps, FnOk P w K mg base (L2N.CX P w) k f fd ps (spD K C none is.length m) ∧ mg x = some (.ref f) ∧ PySem.W.keepIn K (.ref f) = true ∧ KBp K fd ps n ks is
theorem FKp.mono {m : MF} (F : FKp P w K mg base C j x n ks is m) (h : j ≤ k) : FKp P w K mg base C k x n ks is m :=
  let ⟨f, fd, ps, h1, h2⟩ := F; ⟨f, fd, ps, h1.mono h, h2⟩
theorem FX.fkp {m : MF} (F : FX P w K mg base C k x st ps m) (ks : List Str) (is : List Nat) (n : Nat)
    (h : ∀ (kV doc pm : Value) (an : Option Addr) (cdv ct : Value) (us ws : List Value), us.length = n → ws.length = ks.length → bindArgs (PySem.W.fnOf x x (defArgs st) (defBody st) (defScope st) .none kV doc pm an cdv ct) ⟨us, ks.zip ws⟩ = pure (ps.zip (pick is (us ++ ws))))
    (hn : ps.length = is.length := by rfl) : FKp P w K mg base C k x n ks is m := by
  obtain ⟨f, fd, h1, h2, h3, h4, h5⟩ := F
  exact ⟨f, fd, ps, hn ▸ h2, h3, h4, kbp_of h1 h⟩
end
end DL
set_option Elab.async false
set_option linter.all false
set_option maxRecDepth 100000
set_option maxHeartbeats 2000000
/-! calls with keywords in any order: o.m(a, k=b), C(a, k=b), f(a, k=b) -/
namespace DL
open PySem PySem.Spec L2 PyProof.Rows PySem.Calls
section
variable {X : Cx} {B : Bs} {E : WX} {e o : Expr} {es : List Expr} {kws : List Keyword} {p pos apos : Pos} {ws wk : M (List W)} {mo : M W} {z z' : Z} {σ σ' : L2.St} {H H' : Hp} {L L' : List Addr} {m x : Str} {k n : Nat} {ks : List Str} {is : List Nat} {tbl : Str → Option MF} {mf mi : MF}
theorem run_kw {pins : List (Addr × Obj)} {s : Shared} {f : Addr} {fd : FuncData} {ps : List Str} {CX : CXT} {sp : Sp} {Ee : XK} {Q : VK} {us vs' : List Value} {vs zs : List V} (F : FnOk X.prog X.w X.K X.mg X.base CX k f fd ps sp) (hr : Room k X.A) (hb : KBp X.K fd ps n ks is)
    (hx : PassesAt CX X σ Ee) (I : Inv X pins σ H s) (r : Vals vs us) (rz : Vals zs vs') (l1 : vs.length = n) (l2 : zs.length = ks.length) (h : sp (pick is (vs ++ zs)) H Q Ee) :
    wpAny (model X.prog X.w) X.A (call (.ref f) us (ks.zip vs')) (EP X pins σ Q) X.xe s := by
  have bd := hb s us vs' I.kIn (r.length.symm.trans l1) (rz.length.symm.trans l2)
  refine wpAny_call (codeAny_mono (F.run X.A X.stack s H ⟨us, ks.zip vs'⟩ _ _ Q Ee hr I.env0 bd (Vals.pick (r.append rz) is) h) fun r s' hq => ?_)
  match r, hq with
  | .error er, hq => exact hx pins H s er s' I hq
  | .ok (.ret u), hq => exact I.after hq
  | .ok .next, hq => exact hq.elim
  | .ok .brk, hq => exact hq.elim
  | .ok .cont, hq => exact hq.elim
def callP (n kn : Nat) (is : List Nat) (m : MF) (xs ys : List W) : M D := fun z => if xs.length = n ∧ ys.length = kn then callF is.length m (pick is (xs ++ ys)) z else .bad
theorem callP_of {Q : VK} {vs zs : List V} {xs ys : List W} {kn : Nat} (R : Rel B z σ H L) (hv : vVs B σ z H L vs xs) (hz : vVs B σ z H L zs ys) (h : AftE B E (vD B σ) z σ H L Q (callP n kn is mf xs ys z)) :
    vs.length = n ∧ zs.length = kn ∧ spD B.K B.C none is.length mf (pick is (vs ++ zs)) H Q (WE E σ) := by
  unfold callP at h
  split at h
  · rename_i hl
    exact ⟨hv.len.trans hl.1, hz.len.trans hl.2, callF_of R (vVs.pick (vVs.append hv hz) is) h⟩
  · exact h.elim
/-- f(a, k=b) -/
def mCallP (n kn : Nat) (is : List Nat) (m : MF) (ws wk : M (List W)) : M D := fun z => (ws z).bind fun xs z1 => (wk z1).bind fun ys z2 => callP n kn is m xs ys z2
theorem d_callP {C : Cl} (P : Pl X B E) (hC : B.C = C) (F : FKp X.prog X.w X.K X.mg X.base C k x n ks is mf) (hr : Room k X.A) (ha : PAD X B E (e :: es) ws) (hk : PKD X B E kws wk) (hg : Gl X x := by rfl) (hdb : (x == ("__debug__" : Str)) = false := by decide)
    (hall : (backToKw pos (keywordEach kws X.env)).all (·.1.isSome) = true := by rfl) (hks : (backToKw pos (keywordEach kws X.env)).filterMap (·.1) = ks := by rfl)
    (he : starEach (e :: es) X.env = (false, eval e X.env) :: starEach es X.env := by rfl) (hpl : ((backTo pos (starEach (e :: es) X.env)).any (·.1) || (backToKw pos (keywordEach kws X.env)).any (·.1.isNone)) = false := by rfl) :
    PXD X B E (.Call (.Name x p) (e :: es) kws pos) (mCallP n ks.length is mf ws wk) := by
  subst hC
  obtain ⟨f, fd, ps, h1, h2, h3, h4⟩ := F
  obtain ⟨t, pa, sa⟩ := ha
  obtain ⟨tk, pk, sk⟩ := hk
  refine ⟨fun σ H Q => t σ H fun vs H1 => tk σ H1 fun zs H2 => vs.length = n ∧ zs.length = ks.length ∧ spD X.K B.C none is.length mf (pick is (vs ++ zs)) H2 Q (WE E σ), ⟨fun pins s σ H Q I h => ?_⟩, fun z σ H L Q R h => ?_⟩
  · refine wpAny_Call_Name_kw (ld_glob I hg h2 ?_ hdb)
    refine PySem.W.callWith_KW (h₀ := X.base) I.ok.mod.kin h3 hall (thn (pa.run pos pins s σ H _ I h) fun us s1 ⟨vs, H1, I1, r, q⟩ => thn (pk.run pos pins s1 σ H1 _ I1 q) fun us2 s2 ⟨zs, H2, I2, rz, l1, l2, q2⟩ => ⟨I2.kIn, ?_⟩) hpl he
    rw [hks]
    exact run_kw h1 hr h4 (P.ps σ) I2 r rz l1 l2 q2
  · refine sa z σ H L _ R (AftE.bind h fun xs z1 vs H1 L1 R1 g1 hv k1 => ?_)
    refine sk z1 σ H1 L1 _ R1 (AftE.bind k1 fun ys z2 zs H2 L2 R2 g2 hz k2 => ?_)
    have k3 := callP_of R2 (vVs.stay g2 hv) hz k2
    rw [P.K] at k3
    exact k3
theorem d_callP0 {C : Cl} (P : Pl X B E) (hC : B.C = C) (F : FKp X.prog X.w X.K X.mg X.base C k x 0 ks is mf) (hr : Room k X.A) (hk : PKD X B E kws wk) (hg : Gl X x := by rfl) (hdb : (x == ("__debug__" : Str)) = false := by decide)
    (hall : (backToKw pos (keywordEach kws X.env)).all (·.1.isSome) = true := by rfl) (hks : (backToKw pos (keywordEach kws X.env)).filterMap (·.1) = ks := by rfl)
    (hpl : ((backTo pos (starEach [] X.env)).any (·.1) || (backToKw pos (keywordEach kws X.env)).any (·.1.isNone)) = false := by rfl) :
    PXD X B E (.Call (.Name x p) [] kws pos) (mCallP 0 ks.length is mf wNil wk) := by
  subst hC
  obtain ⟨f, fd, ps, h1, h2, h3, h4⟩ := F
  obtain ⟨tk, pk, sk⟩ := hk
  refine ⟨fun σ H Q => tk σ H fun zs H2 => zs.length = ks.length ∧ spD X.K B.C none is.length mf (pick is ([] ++ zs)) H2 Q (WE E σ), ⟨fun pins s σ H Q I h => ?_⟩, fun z σ H L Q R h => ?_⟩
  · refine wpAny_Call_Name_kw (ld_glob I hg h2 ?_ hdb)
    refine PySem.W.callWith_KW0 (h₀ := X.base) I.ok.mod.kin h3 hall (thn (pk.run pos pins s σ H _ I h) fun us2 s2 ⟨zs, H2, I2, rz, l2, q2⟩ => ⟨I2.kIn, ?_⟩) hpl
    rw [hks]
    exact run_kw (vs := []) (us := []) h1 hr h4 (P.ps σ) I2 .nil rz rfl l2 q2
  · refine sk z σ H L _ R (AftE.bind (f := fun ys z2 => callP 0 ks.length is mf [] ys z2) h fun ys z2 zs H2 L2 R2 g2 hz k2 => ?_)
    have k3 := callP_of (vs := []) (xs := []) R2 trivial hz k2
    rw [P.K] at k3
    exact k3.2
/-- o.m(a, k=b) -/
def mMethP (m : Str) (n kn : Nat) (is : List Nat) (tbl : Str → Option MF) (mo : M W) (ws wk : M (List W)) : M D := fun z => (mo z).bind fun x z1 => match z1.cont x with
  | some (.ins c fs) => match tbl c with
    | some mf => if fs.lookup m = none then (ws z1).bind fun xs z2 => (wk z2).bind fun ys z3 => callP (n + 1) kn is mf (x :: xs) ys z3 else .bad
    | none => .bad
  | _ => .bad
theorem d_methP {C : Cl} {pl : Sem Bool} (P : Pl X B E) (hC : B.C = C) (F : MtK X.prog X.w X.K X.mg X.base C k m n ks is tbl) (hr : Room k X.A) (ho : PED X B E o mo) (ha : PAD X B E (e :: es) ws) (hk : PKD X B E kws wk)
    (hall : (backToKw pos (keywordEach kws X.env)).all (·.1.isSome) = true := by rfl) (hks : (backToKw pos (keywordEach kws X.env)).filterMap (·.1) = ks := by rfl)
    (he : starEach (e :: es) X.env = (false, eval e X.env) :: starEach es X.env := by rfl) (hpl : ((backTo pos (starEach (e :: es) X.env)).any (·.1) || (backToKw pos (keywordEach kws X.env)).any (·.1.isNone)) = false := by rfl)
    (ht : eval (.Call (.Attribute o m apos) (e :: es) kws pos) X.env = (do
      let ov ← eval o X.env
      standAt apos.atName
      let (f, first) ← holding [ov] (getMethod ov m pl)
      callWith pos f first (backTo pos (starEach (e :: es) X.env)) (backToKw pos (keywordEach kws X.env))) := by rfl) : PXD X B E (.Call (.Attribute o m apos) (e :: es) kws pos) (mMethP m n ks.length is tbl mo ws wk) := by
  subst hC
  obtain ⟨t, pa, sa⟩ := ha
  obtain ⟨tk, pk, sk⟩ := hk
  obtain ⟨t0, po, so⟩ := ho
  refine ⟨fun σ H Q => t0 σ H fun v H1 => ∃ a A dx fs mf f fd ps, v = .ref a ∧ H1 a = some (.ins A dx fs) ∧ L2.Cls X.K A ∧ L2.Meth X.K A m f ∧ FnOk X.prog X.w X.K X.mg X.base (L2N.CX X.prog X.w) k f fd ps (spD X.K B.C none is.length mf) ∧ KBp X.K fd ps (n + 1) ks is ∧ fs.lookup m = none ∧
    t σ H1 fun vs H2 => tk σ H2 fun zs H3 => (V.ref a :: vs).length = n + 1 ∧ zs.length = ks.length ∧ spD X.K B.C none is.length mf (pick is (.ref a :: vs ++ zs)) H3 Q (WE E σ), ⟨fun pins s σ H Q I h => ?_⟩, fun z σ H L Q R h => ?_⟩
  · refine PySem.W.methodCall_KW (pl := pl) (thn (po.run pins s σ H _ I h) fun u s1 hh => ?_) ht
    obtain ⟨x, H1, I1, rx, a, A, dx, fs, mf, f, fd, ps, ex, ea, hc, hm, hF, hb, l, q⟩ := hh
    subst ex
    obtain rfl : u = Value.ref a := rx
    refine getmeth_ok I1 ea hc hm l ?_
    refine PySem.W.callWith_KW (first := [.ref a]) (h₀ := X.base) I.ok.mod.kin hm.kp hall (thn (pa.run pos pins s1 σ H1 _ I1 q) fun us s2 ⟨vs, H2, I2, r, q2⟩ => thn (pk.run pos pins s2 σ H2 _ I2 q2) fun us2 s3 ⟨zs, H3, I3, rz, l1, l2, q3⟩ => ⟨I3.kIn, ?_⟩) hpl he
    rw [hks]
    exact run_kw (us := .ref a :: us) (vs := .ref a :: vs) hF hr hb (P.ps σ) I3 (.cons rfl r) rz l1 l2 q3
  · refine so z σ H L _ R (AftE.bind h fun x z1 v H1 L1 R1 g1 hv k1 => ?_)
    split at k1
    · rename_i c fs ec
      split at k1
      · rename_i mf et
        split at k1
        · rename_i hl
          obtain ⟨a, rfl, A, dx, vs, hA, hH, im⟩ := R1.read hv ec
          obtain ⟨hc, f, fd, ps, hm, hF, hb⟩ := F.ok c A mf hA et
          refine ⟨a, A, dx, vs, mf, f, fd, ps, rfl, hH, hc, hm, hF, hb, immF_none im hl, ?_⟩
          refine sa z1 σ H1 L1 _ R1 (AftE.bind k1 fun xs z2 us H2 L2 R2 g2 hu k2 => ?_)
          refine sk z2 σ H2 L2 _ R2 (AftE.bind k2 fun ys z3 zs H3 L3 R3 g3 hz k3 => ?_)
          have k4 := callP_of (vs := .ref a :: us) (xs := x :: xs) R3 ⟨VRel.stay g3 (VRel.stay g2 hv), vVs.stay g3 hu⟩ hz k3
          rw [P.K] at k4
          exact k4
        · exact k1.elim
      · exact k1.elim
    · exact k1.elim
theorem d_methP0 {C : Cl} {pl : Sem Bool} (P : Pl X B E) (hC : B.C = C) (F : MtK X.prog X.w X.K X.mg X.base C k m 0 ks is tbl) (hr : Room k X.A) (ho : PED X B E o mo) (hk : PKD X B E kws wk)
    (hall : (backToKw pos (keywordEach kws X.env)).all (·.1.isSome) = true := by rfl) (hks : (backToKw pos (keywordEach kws X.env)).filterMap (·.1) = ks := by rfl)
    (hpl : ((backTo pos (starEach [] X.env)).any (·.1) || (backToKw pos (keywordEach kws X.env)).any (·.1.isNone)) = false := by rfl)
    (ht : eval (.Call (.Attribute o m apos) [] kws pos) X.env = (do
      let ov ← eval o X.env
      standAt apos.atName
      let (f, first) ← holding [ov] (getMethod ov m pl)
      callWith pos f first (backTo pos (starEach [] X.env)) (backToKw pos (keywordEach kws X.env))) := by rfl) : PXD X B E (.Call (.Attribute o m apos) [] kws pos) (mMethP m 0 ks.length is tbl mo wNil wk) := by
  subst hC
  obtain ⟨tk, pk, sk⟩ := hk
  obtain ⟨t0, po, so⟩ := ho
  refine ⟨fun σ H Q => t0 σ H fun v H1 => ∃ a A dx fs mf f fd ps, v = .ref a ∧ H1 a = some (.ins A dx fs) ∧ L2.Cls X.K A ∧ L2.Meth X.K A m f ∧ FnOk X.prog X.w X.K X.mg X.base (L2N.CX X.prog X.w) k f fd ps (spD X.K B.C none is.length mf) ∧ KBp X.K fd ps 1 ks is ∧ fs.lookup m = none ∧
    tk σ H1 fun zs H3 => zs.length = ks.length ∧ spD X.K B.C none is.length mf (pick is ([.ref a] ++ zs)) H3 Q (WE E σ), ⟨fun pins s σ H Q I h => ?_⟩, fun z σ H L Q R h => ?_⟩
  · refine PySem.W.methodCall_KW (pl := pl) (thn (po.run pins s σ H _ I h) fun u s1 hh => ?_) ht
    obtain ⟨x, H1, I1, rx, a, A, dx, fs, mf, f, fd, ps, ex, ea, hc, hm, hF, hb, l, q⟩ := hh
    subst ex
    obtain rfl : u = Value.ref a := rx
    refine getmeth_ok I1 ea hc hm l ?_
    refine PySem.W.callWith_KW0 (first := [.ref a]) (h₀ := X.base) I.ok.mod.kin hm.kp hall (thn (pk.run pos pins s1 σ H1 _ I1 q) fun us2 s3 ⟨zs, H3, I3, rz, l2, q3⟩ => ⟨I3.kIn, ?_⟩) hpl
    rw [hks]
    exact run_kw (us := [.ref a]) (vs := [.ref a]) hF hr hb (P.ps σ) I3 (.cons rfl .nil) rz rfl l2 q3
  · refine so z σ H L _ R (AftE.bind h fun x z1 v H1 L1 R1 g1 hv k1 => ?_)
    split at k1
    · rename_i c fs ec
      split at k1
      · rename_i mf et
        split at k1
        · rename_i hl
          obtain ⟨a, rfl, A, dx, vs, hA, hH, im⟩ := R1.read hv ec
          obtain ⟨hc, f, fd, ps, hm, hF, hb⟩ := F.ok c A mf hA et
          refine ⟨a, A, dx, vs, mf, f, fd, ps, rfl, hH, hc, hm, hF, hb, immF_none im hl, ?_⟩
          refine sk z1 σ H1 L1 _ R1 (AftE.bind (f := fun ys z3 => callP 1 ks.length is mf [x] ys z3) k1 fun ys z3 zs H3 L3 R3 g3 hz k3 => ?_)
          have k4 := callP_of (vs := [.ref a]) (xs := [x]) R3 ⟨VRel.stay g3 hv, trivial⟩ hz k3
          rw [P.K] at k4
          exact k4.2
        · exact k1.elim
      · exact k1.elim
    · exact k1.elim
/-- C(a, k=b) -/
theorem run_mkw {pins : List (Addr × Obj)} {A f : Addr} {fd : FuncData} {ps : List Str} {sp : Sp} {Ee : XK} {s : Shared} {Q : VK} {us us2 : List Value} {vs zs : List V} {CX : CXT} (M : L2.Mk X.K A f) (F : FnOk X.prog X.w X.K X.mg X.base CX k f fd ps sp) (hr : Room (k + 1) X.A) (hb : KBp X.K fd ps (n + 1) ks (0 :: is.map (· + 1)))
    (hx : PassesAt CX X σ Ee) (I : Inv X pins σ H s) (r : Vals vs us) (rz : Vals zs us2) (l1 : vs.length = n) (l2 : zs.length = ks.length)
    (h : ∀ y dx, H y = none → H dx = none → dx ≠ y → sp (.ref y :: pick is (vs ++ zs)) (upd (upd H dx (.own y)) y (.ins A dx [])) (fun v H2 => v = .non ∧ Q (.ref y) H2) Ee) :
    wpAny (model X.prog X.w) X.A (call (.ref A) us (ks.zip us2)) (EP X pins σ Q) X.xe s := by
  have hq := h (s.heap.objs.size + 1) s.heap.objs.size (I.hok.fresh (Nat.le_succ _)) (I.hok.fresh (Nat.le_refl _)) (Nat.ne_of_lt (Nat.lt_succ_self _))
  have I2 := Inv.made (C := A) I
  have pk : ∀ {α : Type} (a : α) (l : List α) (js : List Nat), pick (0 :: js.map (· + 1)) (a :: l) = a :: pick js l := fun {α} a l js => by
    have : ∀ js : List Nat, pick (js.map (· + 1)) (a :: l) = pick js l := fun js => by
      induction js with
      | nil => rfl
      | cons j js ih => simp only [List.map_cons, pick, List.getElem?_cons_succ, ih]
    simp only [pick, List.getElem?_cons_zero, this]
  have r2 : Vals (V.ref (s.heap.objs.size + 1) :: pick is (vs ++ zs)) (pick (0 :: is.map (· + 1)) (Value.ref (s.heap.objs.size + 1) :: us ++ us2)) := by
    rw [show Value.ref (s.heap.objs.size + 1) :: us ++ us2 = Value.ref (s.heap.objs.size + 1) :: (us ++ us2) from rfl, pk]
    exact .cons rfl (Vals.pick (r.append rz) is)
  have bd := hb _ (Value.ref (s.heap.objs.size + 1) :: us) us2 I2.kIn (congrArg Nat.succ (r.length.symm.trans l1)) (rz.length.symm.trans l2)
  refine wpAny_call (make_map (f := f) I.kIn M.makes M.init (beq_iff_eq.mp M.fn) (codeAny_mono (F.run _ X.stack _ _ ⟨Value.ref (s.heap.objs.size + 1) :: us, ks.zip us2⟩ _ _ _ Ee (hr.make A us (ks.zip us2))
    (I2.env0.make A us (ks.zip us2)) bd r2 hq) fun r s' hq' => ?_))
  match r, hq' with
  | .error er, hq' => exact hx pins _ _ er s' I2 hq'
  | .ok (.ret u), hq' =>
    obtain ⟨v, H', I3, rv, ev, q3⟩ := I2.after hq'
    subst ev
    exact ⟨rv, ⟨V.ref (s.heap.objs.size + 1), H', I3, rfl, q3⟩⟩
  | .ok .next, hq' => exact hq'.elim
  | .ok .brk, hq' => exact hq'.elim
  | .ok .cont, hq' => exact hq'.elim
def makeP (mk : List W → M D) (n kn : Nat) (is : List Nat) (xs ys : List W) : M D := fun z => if xs.length = n ∧ ys.length = kn then mk (pick is (xs ++ ys)) z else .bad
def mMakeP (x : Str) (n kn : Nat) (is : List Nat) (mi : MF) (ws wk : M (List W)) : M D := fun z => (ws z).bind fun xs z1 => (wk z1).bind fun ys z2 => makeP (makeF x is.length mi) n kn is xs ys z2
def mMakeZP (x : Str) (n kn : Nat) (is : List Nat) (mi : MF) (ws wk : M (List W)) : M D := fun z => (ws z).bind fun xs z1 => (wk z1).bind fun ys z2 => makeP (makeZ x is.length mi) n kn is xs ys z2
/-- what is asked of a making -/
def MkOk (x : Str) (n : Nat) (mi : MF) (mk : List W → M D) : Prop := ∀ {B : Bs} {E : WX} {z : Z} {σ : L2.St} {H : Hp} {L : List Addr} {Q : VK} {vs : List V} {xs : List W} {A y dx : Addr}, Rel B z σ H L → vVs B σ z H L vs xs → B.C x = some A → AftE B E (vD B σ) z σ H L Q (mk xs z) → H y = none → H dx = none → dx ≠ y →
  spD B.K B.C none (n + 1) mi (.ref y :: vs) (upd (upd H dx (.own y)) y (.ins A dx [])) (fun v H2 => v = .non ∧ Q (.ref y) H2) (WE E σ)
theorem mkOk_F : MkOk x n mi (makeF x n mi) := fun R hv hA h hy hd ne => makeF_of R hv hA h hy hd ne
theorem mkOk_Z : MkOk x n mi (makeZ x n mi) := fun R hv hA h hy hd ne => makeZ_of R hv hA h hy hd ne
theorem d_makeG {C : Cl} {mk : List W → M D} (ok : MkOk x is.length mi mk) (P : Pl X B E) (hC : B.C = C) (F : MkK X.prog X.w X.K X.mg X.base C k x n ks is mi) (hr : Room (k + 1) X.A) (ha : PAD X B E (e :: es) ws) (hk : PKD X B E kws wk) (hg : Gl X x) (hdb : (x == ("__debug__" : Str)) = false)
    (hall : (backToKw pos (keywordEach kws X.env)).all (·.1.isSome) = true) (hks : (backToKw pos (keywordEach kws X.env)).filterMap (·.1) = ks)
    (he : starEach (e :: es) X.env = (false, eval e X.env) :: starEach es X.env) (hpl : ((backTo pos (starEach (e :: es) X.env)).any (·.1) || (backToKw pos (keywordEach kws X.env)).any (·.1.isNone)) = false) :
    PXD X B E (.Call (.Name x p) (e :: es) kws pos) (fun z => (ws z).bind fun xs z1 => (wk z1).bind fun ys z2 => makeP mk n ks.length is xs ys z2) := by
  subst hC
  obtain ⟨A, f, fd, ps, h1, h2, h3, h4, h5⟩ := F
  obtain ⟨t, pa, sa⟩ := ha
  obtain ⟨tk, pk, sk⟩ := hk
  refine ⟨fun σ H Q => t σ H fun vs H1 => tk σ H1 fun zs H2 => vs.length = n ∧ zs.length = ks.length ∧ ∀ y dx, H2 y = none → H2 dx = none → dx ≠ y → spD X.K B.C none (is.length + 1) mi (.ref y :: pick is (vs ++ zs)) (upd (upd H2 dx (.own y)) y (.ins A dx [])) (fun v H3 => v = .non ∧ Q (.ref y) H3) (WE E σ), ⟨fun pins s σ H Q I h => ?_⟩, fun z σ H L Q R h => ?_⟩
  · refine wpAny_Call_Name_kw (ld_glob I hg h2 ?_ hdb)
    refine PySem.W.callWith_KW (h₀ := X.base) I.ok.mod.kin h3.kp hall (thn (pa.run pos pins s σ H _ I h) fun us s1 ⟨vs, H1, I1, r, q⟩ => thn (pk.run pos pins s1 σ H1 _ I1 q) fun us2 s2 ⟨zs, H2, I2, rz, l1, l2, q2⟩ => ⟨I2.kIn, ?_⟩) hpl he
    rw [hks]
    exact run_mkw h3 h4 hr h5 (P.ps σ) I2 r rz l1 l2 q2
  · refine sa z σ H L _ R (AftE.bind h fun xs z1 vs H1 L1 R1 g1 hv k1 => ?_)
    refine sk z1 σ H1 L1 _ R1 (AftE.bind k1 fun ys z2 zs H2 L2 R2 g2 hz k2 => ?_)
    unfold makeP at k2
    split at k2
    case isFalse => exact k2.elim
    rename_i hl
    have hv2 := vVs.stay g2 hv
    refine ⟨hv2.len.trans hl.1, hz.len.trans hl.2, fun y dx hy hd ne => ?_⟩
    have k3 := ok R2 (vVs.pick (vVs.append hv2 hz) is) h1 k2 hy hd ne
    rw [P.K] at k3
    exact k3
theorem d_makeG0 {C : Cl} {mk : List W → M D} (ok : MkOk x is.length mi mk) (P : Pl X B E) (hC : B.C = C) (F : MkK X.prog X.w X.K X.mg X.base C k x 0 ks is mi) (hr : Room (k + 1) X.A) (hk : PKD X B E kws wk) (hg : Gl X x) (hdb : (x == ("__debug__" : Str)) = false)
    (hall : (backToKw pos (keywordEach kws X.env)).all (·.1.isSome) = true) (hks : (backToKw pos (keywordEach kws X.env)).filterMap (·.1) = ks)
    (hpl : ((backTo pos (starEach [] X.env)).any (·.1) || (backToKw pos (keywordEach kws X.env)).any (·.1.isNone)) = false) :
    PXD X B E (.Call (.Name x p) [] kws pos) (fun z => (wNil z).bind fun xs z1 => (wk z1).bind fun ys z2 => makeP mk 0 ks.length is xs ys z2) := by
  subst hC
  obtain ⟨A, f, fd, ps, h1, h2, h3, h4, h5⟩ := F
  obtain ⟨tk, pk, sk⟩ := hk
  refine ⟨fun σ H Q => tk σ H fun zs H2 => zs.length = ks.length ∧ ∀ y dx, H2 y = none → H2 dx = none → dx ≠ y → spD X.K B.C none (is.length + 1) mi (.ref y :: pick is ([] ++ zs)) (upd (upd H2 dx (.own y)) y (.ins A dx [])) (fun v H3 => v = .non ∧ Q (.ref y) H3) (WE E σ), ⟨fun pins s σ H Q I h => ?_⟩, fun z σ H L Q R h => ?_⟩
  · refine wpAny_Call_Name_kw (ld_glob I hg h2 ?_ hdb)
    refine PySem.W.callWith_KW0 (h₀ := X.base) I.ok.mod.kin h3.kp hall (thn (pk.run pos pins s σ H _ I h) fun us2 s2 ⟨zs, H2, I2, rz, l2, q2⟩ => ⟨I2.kIn, ?_⟩) hpl
    rw [hks]
    exact run_mkw (us := []) (vs := []) h3 h4 hr h5 (P.ps σ) I2 .nil rz rfl l2 q2
  · refine sk z σ H L _ R (AftE.bind (f := fun ys z2 => makeP mk 0 ks.length is [] ys z2) h fun ys z2 zs H2 L2 R2 g2 hz k2 => ?_)
    unfold makeP at k2
    split at k2
    case isFalse => exact k2.elim
    rename_i hl
    refine ⟨hz.len.trans hl.2, fun y dx hy hd ne => ?_⟩
    have k3 := ok R2 (vVs.pick (vVs.append (vs := []) (xs := []) trivial hz) is) h1 k2 hy hd ne
    rw [P.K] at k3
    exact k3
theorem d_makeP {C : Cl} (P : Pl X B E) (hC : B.C = C) (F : MkK X.prog X.w X.K X.mg X.base C k x n ks is mi) (hr : Room (k + 1) X.A) (ha : PAD X B E (e :: es) ws) (hk : PKD X B E kws wk) (hg : Gl X x := by rfl) (hdb : (x == ("__debug__" : Str)) = false := by decide)
    (hall : (backToKw pos (keywordEach kws X.env)).all (·.1.isSome) = true := by rfl) (hks : (backToKw pos (keywordEach kws X.env)).filterMap (·.1) = ks := by rfl)
    (he : starEach (e :: es) X.env = (false, eval e X.env) :: starEach es X.env := by rfl) (hpl : ((backTo pos (starEach (e :: es) X.env)).any (·.1) || (backToKw pos (keywordEach kws X.env)).any (·.1.isNone)) = false := by rfl) :
    PXD X B E (.Call (.Name x p) (e :: es) kws pos) (mMakeP x n ks.length is mi ws wk) := d_makeG mkOk_F P hC F hr ha hk hg hdb hall hks he hpl
theorem d_makeP0 {C : Cl} (P : Pl X B E) (hC : B.C = C) (F : MkK X.prog X.w X.K X.mg X.base C k x 0 ks is mi) (hr : Room (k + 1) X.A) (hk : PKD X B E kws wk) (hg : Gl X x := by rfl) (hdb : (x == ("__debug__" : Str)) = false := by decide)
    (hall : (backToKw pos (keywordEach kws X.env)).all (·.1.isSome) = true := by rfl) (hks : (backToKw pos (keywordEach kws X.env)).filterMap (·.1) = ks := by rfl)
    (hpl : ((backTo pos (starEach [] X.env)).any (·.1) || (backToKw pos (keywordEach kws X.env)).any (·.1.isNone)) = false := by rfl) :
    PXD X B E (.Call (.Name x p) [] kws pos) (mMakeP x 0 ks.length is mi wNil wk) := d_makeG0 mkOk_F P hC F hr hk hg hdb hall hks hpl
theorem d_makeZP {C : Cl} (P : Pl X B E) (hC : B.C = C) (F : MkK X.prog X.w X.K X.mg X.base C k x n ks is mi) (hr : Room (k + 1) X.A) (ha : PAD X B E (e :: es) ws) (hk : PKD X B E kws wk) (hg : Gl X x := by rfl) (hdb : (x == ("__debug__" : Str)) = false := by decide)
    (hall : (backToKw pos (keywordEach kws X.env)).all (·.1.isSome) = true := by rfl) (hks : (backToKw pos (keywordEach kws X.env)).filterMap (·.1) = ks := by rfl)
    (he : starEach (e :: es) X.env = (false, eval e X.env) :: starEach es X.env := by rfl) (hpl : ((backTo pos (starEach (e :: es) X.env)).any (·.1) || (backToKw pos (keywordEach kws X.env)).any (·.1.isNone)) = false := by rfl) :
    PXD X B E (.Call (.Name x p) (e :: es) kws pos) (mMakeZP x n ks.length is mi ws wk) := d_makeG mkOk_Z P hC F hr ha hk hg hdb hall hks he hpl
theorem d_makeZP0 {C : Cl} (P : Pl X B E) (hC : B.C = C) (F : MkK X.prog X.w X.K X.mg X.base C k x 0 ks is mi) (hr : Room (k + 1) X.A) (hk : PKD X B E kws wk) (hg : Gl X x := by rfl) (hdb : (x == ("__debug__" : Str)) = false := by decide)
    (hall : (backToKw pos (keywordEach kws X.env)).all (·.1.isSome) = true := by rfl) (hks : (backToKw pos (keywordEach kws X.env)).filterMap (·.1) = ks := by rfl)
    (hpl : ((backTo pos (starEach [] X.env)).any (·.1) || (backToKw pos (keywordEach kws X.env)).any (·.1.isNone)) = false := by rfl) :
    PXD X B E (.Call (.Name x p) [] kws pos) (mMakeZP x 0 ks.length is mi wNil wk) := d_makeG0 mkOk_Z P hC F hr hk hg hdb hall hks hpl
end
end DL
set_option Elab.async false
set_option linter.all false
set_option maxRecDepth 100000
set_option maxHeartbeats 2000000
/-! f(lambda: e): a lambda without parameters handed to a def of the text, which calls it -/
namespace DL
open PySem PySem.Spec L2 PyProof.Rows PySem.Calls LamX
/-- the lambda's frame -/
abbrev lamN (X : Cx) (A : Around) (outer : List Env) (s : Shared) (H : Hp) (E : XK) (scope : Scope) (f c' : Addr) : Cx :=
  (lamCx X A outer s H E scope f c').tr [] fun e s' => wpAny (model X.prog X.w) (A.deeper (lamEnv X scope s.heap.objs.size f c')) (leaving (lamEnv X scope s.heap.objs.size f c') e) (fun _ s'' => L2N.CX X.prog X.w outer H s E e s'') (fun e' s'' => L2N.CX X.prog X.w outer H s E e' s'') s'
section
variable {X : Cx} {pins : List (Addr × Obj)} {σ : L2.St} {H : Hp} {s : Shared}
/-- the lambda called in the frame that it was handed to -/
theorem lam_called {Eg : XK} {Ng : List Str} {qg : Str} {sg : Scope} {g f c' : Addr} {cdg pm ctv : Value} {params : Arguments} {body : Expr} {scope : Scope} {k i : Nat} {a : Str} {pn : List (Addr × Obj)} {xe : Value → Shared → Prop} {W : WX} {tb : XK → TE} {p1 p2 : Pos}
    (I : Inv X pins σ H s) (L : LamS X.env.scope scope) (at_ : s.heap.get? f = some (PySem.W.kla_obj "<lambda>" (X.env.qual ++ "<lambda>") params body scope (cloFrom X.env.cells scope.names []) pm c' ctv)) (free : H f = none) (nofr : f ∉ frs X.stack)
    (binds : bindArgs (PySem.W.kla_fn "<lambda>" (X.env.qual ++ "<lambda>") params body scope (cloFrom X.env.cells scope.names []) pm (.ref c') ctv) ⟨[], []⟩ = pure [])
    (tk : L2N.Takes ((cxOf (L2N.CX X.prog X.w) X.prog X.w X.K X.mg X.base Ng qg sg g cdg X.A X.stack s H Eg).tr pn xe) W) (room : Room (k + 1) (X.A.deeper (envOfC qg sg s.heap.objs.size g cdg)))
    (body_ : ∀ (A : Around) (outer : List Env) (s1 : Shared) (H1 : Hp) (E : XK), Room k (A.deeper (lamEnv X scope s1.heap.objs.size f c')) → PE (lamN X A outer s1 H1 E scope f c') body (tb E))
    (hN : Ng[i]? = some a) (hv : Vis sg a) (hd : (a == ("__debug__" : Str)) = false) (hcd : (a == ("__classdict__" : Str)) = false) :
    PE ((cxOf (L2N.CX X.prog X.w) X.prog X.w X.K X.mg X.base Ng qg sg g cdg X.A X.stack s H Eg).tr pn xe) (.Call (.Name a p1) [] [] p2)
      (fun σZ HZ Q => σZ[i]? = some (some (.ref f)) ∧ HZ c' = some (CodeO c' (X.env.qual ++ "<lambda>")) ∧ tb (WE W σZ) σ HZ Q) := by
  refine ⟨fun pinsZ sZ σZ HZ Q IZ want => ?_⟩
  obtain ⟨slot, code, rd⟩ := want
  have nm := (pe_var (X := (cxOf (L2N.CX X.prog X.w) X.prog X.w X.K X.mg X.base Ng qg sg g cdg X.A X.stack s H Eg).tr pn xe) (pos := p1) (i := i) hN hv hd hcd).run pinsZ sZ σZ HZ (fun v H1 => v = .ref f ∧ H1 = HZ) IZ ⟨.ref f, slot, rfl, rfl⟩
  refine wpAny_Call_Name_kw (thn nm fun u s1 got => ?_)
  obtain ⟨v, H1, I1, r1, rfl, rfl⟩ := got
  obtain rfl : u = Value.ref f := r1
  have of1 := I1.base.keep f _ at_ free nofr (fun z => nomatch (show f ∈ ([] : List Addr) from z))
  refine PySem.W.callWith_F0 ⟨_, _, _, _, of1⟩ ?_
  have un : Un (frs X.stack) [] H H1 s.heap s1.heap := I1.base
  obtain ⟨⟨oc, vs, t, hoc, hdc, hvc⟩, _, _⟩ := I1.hok c' _ code
  have run : codeAny (model X.prog X.w) (X.A.deeper (envOfC qg sg s.heap.objs.size g cdg)) (.call (.ref f) ⟨[], []⟩) (CR (L2N.CX X.prog X.w) (envOfC qg sg s.heap.objs.size g cdg :: X.stack) X.prog X.w H1 s1 Q (WE W σZ)) s1 := by
    refine PySem.W.kla_callFunE room.depth of1 rfl L.co L.gen rfl ⟨c', oc, vs, t, rfl, hoc, hdc, hvc⟩ ?_
    rw [binds]
    refine wpAny_pure (wpAny_newFunctionEnv (fun y hy => (L.own y hy).2) (fun y hy => absurd hy (by simp)) (fun h₁ hns hsb => ⟨I1.nolimit.fresh _ hsb, ?_⟩) L.kind)
    have kept : ∀ b o, s1.heap.get? b = some o → h₁.get? b = some o := fun b o e => hsb.extBut b o (Nat.ne_of_lt (Heap.lt_size e)) (Heap.get?_push_of_some _ e)
    have J := (lam_start2 (tk := s1.toks + ([] : List (Str × Value)).length) (E := WE W σZ) (f := f) (c' := c') I L I1.env0 room.hd un hns kept).toTry (fun e s' => wpAny (model X.prog X.w) ((X.A.deeper (envOfC qg sg s.heap.objs.size g cdg)).deeper (lamEnv X scope s1.heap.objs.size f c')) (leaving (lamEnv X scope s1.heap.objs.size f c') e) (fun _ s'' => L2N.CX X.prog X.w (envOfC qg sg s.heap.objs.size g cdg :: X.stack) H1 s1 (WE W σZ) e s'') (fun e' s'' => L2N.CX X.prog X.w (envOfC qg sg s.heap.objs.size g cdg :: X.stack) H1 s1 (WE W σZ) e' s'') s')
    refine PySem.W.kla_codeExpr (wpAny_mono ((body_ _ _ s1 H1 (WE W σZ) (room.deeper _)).run [] _ _ H1 Q J rd) (fun v s' hq => ?_) fun e s' hq => hq)
    obtain ⟨w', H', J', rv, q⟩ := hq
    exact ⟨w', H', J'.os, J'.bare, J'.base, J'.hok, rv, q⟩
  refine wpAny_call (codeAny_mono run fun r s' hq => ?_)
  match r, hq with
  | .error e, hq => exact L2N.passAt tk σZ pinsZ H1 s1 e s' I1 hq
  | .ok (.ret u), hq => exact I1.after hq
  | .ok .next, hq => exact hq.elim
  | .ok .brk, hq => exact hq.elim
  | .ok .cont, hq => exact hq.elim
/-- what making a lambda leaves of the heap: the table at P may have grown, by a code object at c' -/
structure LamMade (T : List (Addr × Str)) (q : Str) (P c' : Addr) (H H1 : Hp) : Prop where
  tabs : Tabs T H1
  code : H1 c' = some (CodeO c' q)
  keep : ∀ b o, H b = some o → NB o → H1 b = some o
  old : ∀ b ps, H b = some (.tbl ps) → ∃ qs, H1 b = some (.tbl qs)
theorem lam_made {T : List (Addr × Str)} {c P : Addr} {params : Arguments} {body : Expr} {scope : Scope} {pos : Pos} {E : Value → Shared → Prop} {Q : Value → Shared → Prop} (I : Inv X pins σ H s) (TB : TabB X.base X.mg c P) (hcode : X.env.code = .ref c)
    (hm : (P, X.env.qual ++ "<lambda>") ∈ T) (hu : ∀ p ∈ T, p.1 = P → p.2 = X.env.qual ++ "<lambda>") (hT : Tabs T H) (hdef : defaultsOf params X.env = ([], [])) (hfree : ∀ y ∈ scope.names, y.2 = .free → ∃ c, X.env.cells.lookup y.1 = some c)
    (h : ∀ (f c' : Addr) (pm ctv : Value) (H1 : Hp) (s' : Shared), Inv X pins σ H1 s' → LamMade T (X.env.qual ++ "<lambda>") P c' H H1 →
      s'.heap.get? f = some (PySem.W.kla_obj "<lambda>" (X.env.qual ++ "<lambda>") params body scope (cloFrom X.env.cells scope.names []) pm c' ctv) → H1 f = none → f ∉ frs X.stack → Q (.ref f) s') :
    wpAny (model X.prog X.w) X.A (eval (.Lambda params body scope pos) X.env) Q E s := by
  obtain ⟨ps, tblP, trip, known⟩ := hT _ hm
  have bmP : s.heap.BuiltinsAt X.mg P := TB.bm.keeps I.bk
  have getP : s.heap.get? P = some { cls := .none, data := .fields ps } := I.hok P _ tblP
  have above : ∀ f, s.heap.objs.size ≤ f → f ∉ frs X.stack := fun f big m => by
    rcases List.mem_cons.mp (I.stkSub _ m) with e | e
    · exact Nat.lt_irrefl _ (Nat.lt_of_lt_of_le (e ▸ I.lt) big)
    · exact I.nofs big e
  refine PySem.W.kla_eval hdef ?_
  cases hc : codeAmong pos ps.toList with
  | some cv =>
    obtain ⟨c', rfl, hco⟩ := known pos cv hc
    refine PySem.W.kla_makeFunctionHit (mg := X.mg) (c := c) (P := P) (ps := ps) (closure_ok hfree) I.ok.glob (I.mod.glob.keeps I.bk) hcode (TB.code.keeps I.bk) getP trip hc bmP fun ctv h' tk grown size => ?_
    have J : Inv X pins σ H { s with heap := h'.push (PySem.W.kla_obj "<lambda>" (X.env.qual ++ "<lambda>") params body scope (cloFrom X.env.cells scope.names []) ((X.mg "__name__").getD .none) c' ctv), toks := tk } := I.kept fun b o e => Heap.get?_push_of_some _ (grown b o e)
    exact h h'.objs.size c' _ ctv H _ J ⟨hT, hco, fun _ _ e _ => e, fun _ _ e => ⟨_, e⟩⟩ (Heap.get?_push_size _ rfl) (I.hok.fresh size) (above _ size)
  | none =>
    refine PySem.W.kla_makeFunction (mg := X.mg) (c := c) (P := P) (ps := ps) (closure_ok hfree) I.ok.glob (I.mod.glob.keeps I.bk) hcode (TB.code.keeps I.bk) getP trip hc TB.gP bmP fun c' ctv h' tk grown big small made tab1 => ?_
    obtain ⟨c2, oc, vs, t, e2, hoc, hd, hv⟩ := made
    cases e2
    have size : s.heap.objs.size ≤ h'.objs.size := Nat.le_trans big (Nat.le_of_lt small)
    have newC : H c' = none := I.hok.fresh big
    have J := inv_table (t' := tk) (more := #[rawInt pos.line, rawInt pos.col, .ref c']) (h' := h'.push (PySem.W.kla_obj "<lambda>" (X.env.qual ++ "<lambda>") params body scope (cloFrom X.env.cells scope.names []) ((X.mg "__name__").getD .none) c' ctv)) I tblP
      (fun b o n e => Heap.get?_push_of_some _ (grown b o n e)) (Heap.get?_push_of_some _ tab1) big ⟨oc, vs, t, Heap.get?_push_of_some _ hoc, hd, hv⟩
    have other : ∀ b, b ≠ P → b ≠ c' → upd (upd H P (.tbl (ps ++ #[rawInt pos.line, rawInt pos.col, .ref c']))) c' (CodeO c' (X.env.qual ++ "<lambda>")) b = H b := fun b n1 n2 => (upd_ne n2).trans (upd_ne n1)
    have notP : ∀ b o, H b = some o → NB o → b ≠ P := fun b o e nb z => by
      rw [z, tblP] at e
      cases e
      exact nb
    have notC : ∀ b o, H b = some o → b ≠ c' := fun b o e => ne_of_none e newC
    have PC : P ≠ c' := ne_of_none tblP newC
    have app : (ps ++ #[rawInt pos.line, rawInt pos.col, .ref c']).toList = ps.toList ++ [rawInt pos.line, rawInt pos.col, .ref c'] := by simp
    refine h h'.objs.size c' _ ctv _ _ J ⟨fun p hp => ?_, upd_same, fun b o e nb => (other b (notP b o e nb) (notC b o e)).trans e, fun b qs e => ?_⟩ (Heap.get?_push_size _ rfl) ?_ (above _ size)
    · by_cases e : p.1 = P
      · refine ⟨ps ++ #[rawInt pos.line, rawInt pos.col, .ref c'], by rw [e]; exact (upd_ne PC).trans upd_same, by rw [app]; exact PySem.TriplesOk_snoc _ _ _ _ trip, fun p' cv hcv => ?_⟩
        rw [hu p hp e]
        rw [app] at hcv
        rcases among_app _ trip hcv with z | z
        · obtain ⟨c0, e1, e3⟩ := known p' cv z
          exact ⟨c0, e1, (other c0 (notP c0 _ e3 trivial) (notC c0 _ e3)).trans e3⟩
        · exact ⟨c', z, upd_same⟩
      · obtain ⟨ps', a1, a2, a3⟩ := hT p hp
        refine ⟨ps', (other _ e (notC _ _ a1)).trans a1, a2, fun p' cv hcv => ?_⟩
        obtain ⟨c0, e1, e3⟩ := a3 p' cv hcv
        exact ⟨c0, e1, (other c0 (notP c0 _ e3 trivial) (notC c0 _ e3)).trans e3⟩
    · by_cases e1 : b = P
      · exact ⟨_, by rw [e1]; exact (upd_ne PC).trans upd_same⟩
      · exact ⟨qs, (other b e1 (notC b _ e)).trans e⟩
    · rw [other _ (fun z => Nat.lt_irrefl _ (Nat.lt_of_lt_of_le (Heap.lt_size (z ▸ getP)) size)) (Nat.ne_of_gt small)]
      exact I.hok.fresh size
end
/-! ### in the data layer -/
section
variable {B : Bs} {z z' z2 : Z} {σ σ' σ2 : L2.St} {H H' : Hp} {L L' : List Addr} {q : Str} {P c' : Addr}
theorem LamMade.grow (m : LamMade B.C.T q P c' H H') : Grow L (Ex B z σ L) H L (Ex B z σ L) H' := ⟨fun a o h n nb => ⟨m.keep a o h nb, n⟩, fun _ _ h => h, fun a h => by
  cases e : H a with
  | none => exact absurd e h
  | some o =>
    by_cases nb : NB o
    · rw [m.keep a o e nb]; intro z; cases z
    · cases o with
      | tbl ps =>
        obtain ⟨qs, hq⟩ := m.old a ps e
        rw [hq]; intro z; cases z
      | _ => exact (nb trivial).elim⟩
theorem Rel.made (R : Rel B z σ H L) (m : LamMade B.C.T q P c' H H') : Rel B z σ H' L := by
  have g : Grow L (Ex B z σ L) H L (Ex B z σ L) H' := m.grow
  have cel : ∀ {a : Addr} {c : Cell}, CellRel B.K B.C L (Ex B z σ L) H a c → CellRel B.K B.C L (Ex B z σ L) H' a c := fun {a c} r => r.stay g fun o h => by
    obtain ⟨u, hu, nu⟩ := r.nx
    rw [h] at hu
    cases hu
    exact m.keep a _ h nu.nb
  refine ⟨fun i => ?_, R.inj, R.new, ⟨R.st.len, R.st.nd, R.st.ex, fun n a c h1 h2 => cel (R.st.at_ n a c h1 h2)⟩, R.pre, R.newc, fun a o h n nb => m.keep a o (R.frame a o h n nb) nb, fun a h => ?_, R.ae, ⟨m.tabs, fun a ps h => ?_⟩⟩
  · have s := R.slot i
    generalize z.sl[i]? = x at s ⊢
    generalize σ[i]? = y at s ⊢
    match x, y, s with
    | some (.val d), some (some v), s => exact Imm.stay g _ _ s
    | some (.own c), some (some v), ⟨a, e, s⟩ => exact ⟨a, e, cel s⟩
    | some (.brw c), some (some v), ⟨a, e, s, b⟩ => exact ⟨a, e, s.stayB g fun o h nb => m.keep a o h nb, b⟩
    | some (.exn x), some (some v), s => exact ExSl.stay g s
    | some .un, some _, _ => trivial
    | none, none, _ => trivial
  · obtain ⟨o, ho, nt⟩ := R.exd a h
    by_cases nb : NB o
    · exact ⟨o, m.keep a o ho nb, nt⟩
    · cases o with
      | tbl ps =>
        obtain ⟨qs, hq⟩ := m.old a ps ho
        exact ⟨_, hq, trivial⟩
      | _ => exact (nb trivial).elim
  · obtain ⟨qs, hq⟩ := R.tab.old a ps h
    exact m.old a qs hq
/-- the maker's slots as the lambda finds them -/
def lamSl : Sl → Sl
  | .own c => .brw c
  | .exn _ => .un
  | s => s
/-- the lambda's entry: R the maker's state, Rx that of the def which calls it -/
theorem Rel.lam (R : Rel B z σ H L) (Rx : Rel ⟨B.K, B.C, Ex B z σ L, H, L, Ex B z σ L, none⟩ z2 σ2 H' L') {E' : Addr → Prop} (hE : E' = Ex ⟨B.K, B.C, Ex B z σ L, H, L, Ex B z σ L, none⟩ z2 σ2 L') :
    Rel ⟨B.K, B.C, E', H', L', E', none⟩ ⟨z.sl.map lamSl, z2.st⟩ σ H' L' := by
  subst hE
  generalize hB : (⟨B.K, B.C, Ex B z σ L, H, L, Ex B z σ L, none⟩ : Bs) = Bx at Rx ⊢
  have eK : Bx.K = B.K := by rw [← hB]
  have eC : Bx.C = B.C := by rw [← hB]
  have eE : Bx.E = Ex B z σ L := by rw [← hB]
  have eH : Bx.H0 = H := by rw [← hB]
  have eL : Bx.L0 = L := by rw [← hB]
  have fr : ∀ a o, H a = some o → a ∉ L → NB o → H' a = some o := fun a o h n nb => Rx.frame a o (by rw [eH]; exact h) (by rw [eL]; exact n) nb
  have exL : ∀ a, a ∈ L → Ex B z σ L a := fun a h => .inr (.inl h)
  have notL : ∀ a o, H a = some o → a ∉ L → a ∉ L' := fun a o h n h' => by
    rcases Rx.newc a h' with q | q
    · exact n (by rw [← eL]; exact q)
    · rw [eH, h] at q; cases q
  have g : Grow L (Ex B z σ L) H L' (Ex Bx z2 σ2 L') H' := by
    refine ⟨fun a o h n nb => ⟨fr a o h (fun m => n (exL a m)) nb, fun x => ?_⟩, fun n a h => Rx.pre n a (by rw [eL]; exact h), fun a h => ?_⟩
    · rcases x with x | x | ⟨i, x⟩
      · exact n (by rw [← eE]; exact x)
      · exact notL a o h (fun m => n (exL a m)) x
      · have := (Rx.new i a x).1
        rw [eH, h] at this
        cases this
    · intro e
      have := Rx.h0 e
      rw [eH] at this
      exact h this
  have no : ∀ i a, ¬ OwnAt (⟨z.sl.map lamSl, z2.st⟩ : Z) σ i a := fun i a ⟨⟨c, h⟩, _⟩ => by
    rw [List.getElem?_map] at h
    cases e : z.sl[i]? with
    | none => rw [e] at h; cases h
    | some s => rw [e] at h; cases s <;> cases h
  have exs : Ex ⟨B.K, B.C, Ex Bx z2 σ2 L', H', L', Ex Bx z2 σ2 L', none⟩ ⟨z.sl.map lamSl, z2.st⟩ σ L' = Ex Bx z2 σ2 L' := funext fun a => propext ⟨fun h => h.elim id fun h => h.elim (fun h => .inr (.inl h)) fun ⟨i, o⟩ => (no i a o).elim, .inl⟩
  have inEx : ∀ a, Ex B z σ L a → Ex Bx z2 σ2 L' a := fun a h => .inl (by rw [eE]; exact h)
  refine ⟨fun i => ?_, fun i j a o => (no i a o).elim, fun i a o => (no i a o).elim, by rw [exs]; exact eK ▸ eC ▸ Rx.st, fun _ _ h => h, fun _ h => .inl h, fun _ _ h _ _ => h, by rw [exs]; exact Rx.exd, fun _ h => h, ⟨by have := Rx.tab.ok; rw [eC] at this; exact this, fun a ps h => ⟨ps, h⟩⟩⟩
  rw [exs]
  have s := R.slot i
  show SlRel B.K B.C L' (Ex Bx z2 σ2 L') H' (Ex Bx z2 σ2 L') none ((z.sl.map lamSl)[i]?) (σ[i]?)
  rw [List.getElem?_map]
  generalize hz : z.sl[i]? = x at s ⊢
  generalize hs : σ[i]? = y at s ⊢
  match x, y, s, hz, hs with
  | some (.val d), some (some v), s, _, _ => exact Imm.stay g _ _ s
  | some (.own c), some (some v), ⟨a, e, s⟩, hz, hs =>
    have own : OwnAt z σ i a := ⟨⟨c, hz⟩, by rw [hs, e]⟩
    obtain ⟨u, hu, nu⟩ := s.nx
    have nL := (R.new i a own).2.1
    exact ⟨a, e, s.read.stayB g fun o h nb => fr a o h nL nb, inEx a (.inr (.inr ⟨i, own⟩)), notL a u hu nL⟩
  | some (.brw c), some (some v), ⟨a, e, s, b1, b2⟩, _, _ =>
    have hex : Ex B z σ L a := .inl (R.ae a b1)
    obtain ⟨u, hu, _⟩ := R.exd a hex
    exact ⟨a, e, s.stayB g fun o h nb => fr a o h b2 nb, inEx a hex, notL a u hu b2⟩
  | some (.exn x), some (some v), s, _, _ => trivial
  | some .un, some _, _, _, _ => trivial
  | none, none, _, _, _ => trivial
end
def RF.on (r : RF) (z : Z) : R D := match r with
  | .ok d S => .ok d { z with st := S }
  | .err x S => .err x { z with st := S }
  | .bad => .bad
/-- the lambda's body, run over a store -/
def thunk (ml : M D) (z : Z) (S : List Cell) : RF := match ml ⟨z.sl.map lamSl, S⟩ with
  | .ok d z' => .ok d z'.st
  | .err x z' => .err x z'.st
  | .bad => .bad
/-- a(), a the lambda that was handed in -/
def mAct (i : Nat) (u : V) (th : List Cell → RF) : M D := fun z => match z.sl[i]? with
  | some (.val (.con v)) => if v = u then (th z.st).on z else .bad
  | _ => .bad
/-- f(lambda: e): mx says what f makes of it -/
def mLam (mx : (List Cell → RF) → List Cell → RF) (ml : M D) : M D := fun z => (mx (thunk ml z) z.st).on z
section
variable {X : Cx} {B : Bs} {E : WX} {z z' z2 : Z} {σ σ' σ2 : L2.St} {H H' : Hp} {L L' : List Addr} {ml : M D} {pins : List (Addr × Obj)} {s : Shared}
theorem room_units {A : Around} {k : Nat} {env : Env} (r : Room k (A.deeper env)) : (A.deeper env).units + 66 < cLine := by
  have := r.un
  show _ < _
  exact Nat.lt_of_le_of_lt (by omega) this
/-- the call of the lambda, within the def that it was handed to -/
theorem act_of {Eg : XK} {Ng : List Str} {qg : Str} {sg : Scope} {g f c' : Addr} {cdg pm ctv : Value} {params : Arguments} {body : Expr} {scope : Scope} {k i : Nat} {a : Str} (pn : List (Addr × Obj)) (xe : Value → Shared → Prop) (W : WX) (p1 p2 : Pos)
    (hC : ∀ c A, B.C c = some A → X.mg c = some (.ref A)) (hK : B.K = X.K) (R : Rel B z σ H L) (code : H c' = some (CodeO c' (X.env.qual ++ "<lambda>")))
    (I : Inv X pins σ H s) (Ls : LamS X.env.scope scope) (at_ : s.heap.get? f = some (PySem.W.kla_obj "<lambda>" (X.env.qual ++ "<lambda>") params body scope (cloFrom X.env.cells scope.names []) pm c' ctv)) (free : H f = none) (nofr : f ∉ frs X.stack)
    (binds : bindArgs (PySem.W.kla_fn "<lambda>" (X.env.qual ++ "<lambda>") params body scope (cloFrom X.env.cells scope.names []) pm (.ref c') ctv) ⟨[], []⟩ = pure [])
    (tk : L2N.Takes ((cxOf (L2N.CX X.prog X.w) X.prog X.w X.K X.mg X.base Ng qg sg g cdg X.A X.stack s H Eg).tr pn xe) W) (room : Room (k + 1) (X.A.deeper (envOfC qg sg s.heap.objs.size g cdg)))
    (body_ : ∀ (A : Around) (outer : List Env) (s1 : Shared) (H1 : Hp) (E : XK) (Bl : Bs), Bl.C = B.C → Bl.xs = none → Room k (A.deeper (lamEnv X scope s1.heap.objs.size f c')) → Plc (lamN X A outer s1 H1 E scope f c') Bl (fun cls d _ H => E cls d H) →
      PXD (lamN X A outer s1 H1 E scope f c') Bl (fun cls d _ H => E cls d H) body ml)
    (hN : Ng[i]? = some a) (hv : Vis sg a) (hd : (a == ("__debug__" : Str)) = false) (hcd : (a == ("__classdict__" : Str)) = false) :
    PXD ((cxOf (L2N.CX X.prog X.w) X.prog X.w X.K X.mg X.base Ng qg sg g cdg X.A X.stack s H Eg).tr pn xe) ⟨B.K, B.C, Ex B z σ L, H, L, Ex B z σ L, none⟩ W (.Call (.Name a p1) [] [] p2) (mAct i (.ref f) (thunk ml z)) := by
  refine ⟨_, lam_called (tb := fun E σ' H' Q => ∃ (E1 : Addr → Prop) (L1 : List Addr) (S1 : List Cell), Rel ⟨B.K, B.C, E1, H', L1, E1, none⟩ ⟨z.sl.map lamSl, S1⟩ σ' H' L1 ∧ AftE ⟨B.K, B.C, E1, H', L1, E1, none⟩ (fun cls d _ H => E cls d H) (vD ⟨B.K, B.C, E1, H', L1, E1, none⟩ σ') ⟨z.sl.map lamSl, S1⟩ σ' H' L1 Q (ml ⟨z.sl.map lamSl, S1⟩)) I Ls at_ free nofr binds tk room (fun A outer s1 H1 E1 r => ?_) hN hv hd hcd, fun z2 σ2 H2 L2 Q Rx h => ?_⟩
  · refine ⟨fun pins' s' σ' H' Q I' h => ?_⟩
    obtain ⟨Ee, L1, S1, R1, h⟩ := h
    obtain ⟨t, pt, st⟩ := body_ A outer s1 H1 E1 ⟨B.K, B.C, Ee, H', L1, Ee, none⟩ rfl rfl r ⟨⟨hK, room_units r, L2N.takes_of rfl rfl rfl rfl, hC, fun _ _ _ h => nomatch h⟩, rfl⟩
    exact pt.run pins' s' σ' H' Q I' (st _ σ' H' L1 Q R1 h)
  · unfold mAct at h
    split at h
    case h_2 => exact h.elim
    rename_i v e0
    split at h
    case isFalse => exact h.elim
    rename_i ev
    subst ev
    have s0 := Rx.slot i
    rw [e0] at s0
    generalize e1 : σ2[i]? = y at s0
    match y, s0 with
    | some (some w), s0 =>
      obtain rfl : w = .ref f := by simpa only [SlRel, Imm] using s0
      refine ⟨rfl, Rx.frame c' _ code (fun hm => ?_) trivial, Ex ⟨B.K, B.C, Ex B z σ L, H, L, Ex B z σ L, none⟩ z2 σ2 L2, L2, z2.st, R.lam Rx rfl, ?_⟩
      · obtain ⟨n, hn⟩ := List.getElem?_of_mem hm
        obtain ⟨u, hu, nu⟩ := R.cellNX hn
        rw [code] at hu
        cases hu
        exact nu.elim
      · unfold thunk RF.on at h
        generalize ml ⟨z.sl.map lamSl, z2.st⟩ = r at h ⊢
        match r, h with
        | .ok d z', h =>
          intro v H3 L3 R3 g3 im
          obtain ⟨R4, g4, exs, _⟩ := Rx.behind R3.back
          exact h v H3 L3 R4 g4 (Imm.stay (⟨fun a o e n _ => ⟨e, fun q => n (((exs a).mpr q).imp id .inl)⟩, fun _ _ h => h, fun _ h => h⟩ : Grow L3 _ H3 L3 (Ex ⟨B.K, B.C, Ex B z σ L, H, L, Ex B z σ L, none⟩ { z2 with st := z'.st } σ2 L3) H3) _ _ im)
        | .err x z', h =>
          intro cls dd H3 L3 R3 g3 q
          obtain ⟨R4, g4, exs, _⟩ := Rx.behind R3.back
          exact h cls dd H3 L3 R4 g4 (ExnRel.weak (fun a h => ((exs a).mpr h).imp id .inl) q)
        | .bad, h => exact h.elim
/-- f(lambda: e) -/
theorem d_lam {x a : Str} {st : Stmt} {Ng : List Str} {b : V → (List Cell → RF) → MS} {mx : (List Cell → RF) → List Cell → RF} {k : Nat} {c P : Addr} {C : Cl} {params : Arguments} {body : Expr} {scope : Scope} {p lpos pos : Pos}
    (P0 : Pl X B E) (hC : B.C = C) (D : Df X.K X.mg x st [a]) (Sg : FnScope Ng [a] (defScope st)) (TB : TabB X.base X.mg c P) (hcode : X.env.code = .ref c) (hmT : (P, X.env.qual ++ "<lambda>") ∈ C.T) (hu : ∀ p ∈ C.T, p.1 = P → p.2 = X.env.qual ++ "<lambda>")
    (hr : Room (k + 2) X.A) (Ls : LamS X.env.scope scope)
    (uni : ∀ (u : V) (th : List Cell → RF) (S : List Cell), fnM Ng.length (b u th) [.val (.con u)] S = mx th S)
    (hG : ∀ (u : V) (th : List Cell → RF) (cdv : Value) (A : Around) (outer : List Env) (s : Shared) (H : Hp) (E' : XK) (g : Addr) (Bx : Bs), Bx.C = C → Bx.xs = none → Room (k + 1) (A.deeper (envOfC x (defScope st) s.heap.objs.size g cdv)) →
      Plc (cxOf (L2N.CX X.prog X.w) X.prog X.w X.K X.mg X.base Ng x (defScope st) g cdv A outer s H E') Bx (fun cls d _ H => E' cls d H) →
      PassesOwn (model X.prog X.w) (A.deeper (envOfC x (defScope st) s.heap.objs.size g cdv)) (envOfC x (defScope st) s.heap.objs.size g cdv) (cxOf (L2N.CX X.prog X.w) X.prog X.w X.K X.mg X.base Ng x (defScope st) g cdv A outer s H E').xe →
      (∀ (pn : List (Addr × Obj)) (xe : Value → Shared → Prop) (W : WX) (p1 p2 : Pos), L2N.Takes ((cxOf (L2N.CX X.prog X.w) X.prog X.w X.K X.mg X.base Ng x (defScope st) g cdv A outer s H E').tr pn xe) W →
        PXD ((cxOf (L2N.CX X.prog X.w) X.prog X.w X.K X.mg X.base Ng x (defScope st) g cdv A outer s H E').tr pn xe) Bx W (.Call (.Name a p1) [] [] p2) (mAct 0 u th)) →
      PSsD (cxOf (L2N.CX X.prog X.w) X.prog X.w X.K X.mg X.base Ng x (defScope st) g cdv A outer s H E') Bx (fun cls d _ H => E' cls d H) (defBody st) (b u th))
    (hbody : ∀ (A : Around) (outer : List Env) (s1 : Shared) (H1 : Hp) (E1 : XK) (f c' : Addr) (Bl : Bs), Bl.C = C → Bl.xs = none → Room k (A.deeper (lamEnv X scope s1.heap.objs.size f c')) → Plc (lamN X A outer s1 H1 E1 scope f c') Bl (fun cls d _ H => E1 cls d H) →
      PXD (lamN X A outer s1 H1 E1 scope f c') Bl (fun cls d _ H => E1 cls d H) body ml)
    (hv : Vis (defScope st) a := by exact .inl rfl) (hg : Gl X x := by rfl) (hdef : defaultsOf params X.env = ([], []) := by rfl)
    (hbind : ∀ (q : Str) (cl : List (Str × Addr)) (pm cv ctv : Value), bindArgs (PySem.W.kla_fn "<lambda>" q params body scope cl pm cv ctv) ⟨[], []⟩ = pure [] := by intros; rfl)
    (hdb : (x == ("__debug__" : Str)) = false := by decide) (hd : (a == ("__debug__" : Str)) = false := by decide) (hcd : (a == ("__classdict__" : Str)) = false := by decide) :
    PXD X B E (.Call (.Name x p) [.Lambda params body scope lpos] [] pos) (mLam mx ml) := by
  subst hC
  obtain ⟨g, fd, hfun, hmg, hkp, hbd⟩ := D
  refine ⟨fun σ H Q => ∃ z L, Rel B z σ H L ∧ AftE B E (vD B σ) z σ H L Q (mLam mx ml z), ⟨fun pins s σ H Q I h => ?_⟩, fun z σ H L Q R h => ⟨z, L, R, h⟩⟩
  obtain ⟨z, L, R, h⟩ := h
  refine wpAny_Call_Name_kw (ld_glob I hg hmg ?_ hdb)
  refine PySem.W.callWith_K (h₀ := X.base) I.ok.mod.kin hkp ?_ rfl rfl
  show wpAny _ _ (spliced ((false, eval (.Lambda params body scope lpos) X.env) :: backTo pos (starEach [] X.env))) _ _ s
  refine Calls.spliced_cons (lam_made I TB hcode hmT hu R.tab.ok hdef (Ls.has I.ok) fun f c' pm ctv H1 s' I1 M at_ free nofr => ?_)
  refine Calls.spliced_nil ⟨I1.kIn, ?_⟩
  have R1 : Rel B z σ H1 L := R.made M
  have g1 : G B z σ L H z σ L H1 := M.grow
  obtain ⟨oc, od, kV, doc, pm2, an, cdv, ct, osl, rfl, lk, hcd2⟩ := hfun.ex
  have e1 := uni (.ref f) (thunk ml z) z.st
  unfold mLam RF.on at h
  rw [← e1] at h
  have hlen : ([Value.ref f] ++ ([] : List Value)).length = [a].length := rfl
  have run : codeAny (model X.prog X.w) X.A (.call (.ref g) ⟨[.ref f], []⟩) (CR (L2N.CX X.prog X.w) X.stack X.prog X.w H1 s' Q (WE E σ)) s' := by
    refine run_ofS (N := Ng) (ps := [a]) (us := [.ref f]) (vs := [.ref f]) lk hcd2 Sg hr I1.env0 (hbd s' [.ref f] I1.kIn hlen) (.cons rfl .nil) rfl fun hr' => ?_
    have hN0 : Ng[0]? = some a := by
      have := congrArg (fun l : List Str => l[0]?) Sg.pre
      simpa [List.getElem?_take] using this
    have pl : Plc (cxOf (L2N.CX X.prog X.w) X.prog X.w X.K X.mg X.base Ng x (defScope st) g cdv X.A X.stack s' H1 (WE E σ)) ⟨B.K, B.C, Ex B z σ L, H1, L, Ex B z σ L, none⟩ (fun cls d _ H => WE E σ cls d H) :=
      ⟨⟨P0.K, room_units hr', L2N.takes_of rfl rfl rfl rfl, P0.C, fun _ _ _ h => nomatch h⟩, rfl⟩
    obtain ⟨t, pt, sm⟩ := hG (.ref f) (thunk ml z) cdv X.A X.stack s' H1 (WE E σ) g ⟨B.K, B.C, Ex B z σ L, H1, L, Ex B z σ L, none⟩ rfl rfl hr' pl (passes_of rfl) fun pn xe W p1 p2 tk =>
      act_of (k := k) pn xe W p1 p2 P0.C P0.K R1 M.code I1 Ls at_ free nofr (hbind _ _ _ _ _) tk hr' (fun A outer s1 H2 E2 Bl h1 h2 r pl => hbody A outer s1 H2 E2 f c' Bl h1 h2 r pl) hN0 hv hd hcd
    refine ⟨t, pt, sm ⟨[.val (.con (.ref f))] ++ List.replicate (Ng.length - 1) .un, z.st⟩ (start Ng [.ref f]) H1 L _ (Rel.entry (xs := none) (vs := [.ref f]) (as := [.val (.con (.ref f))]) rfl R1.st ⟨R1.exd, R1.tab.ok⟩ ⟨by simp only [Imm], trivial⟩) ?_⟩
    unfold fnM at h
    generalize b (.ref f) (thunk ml z) ⟨[.val (.con (.ref f))] ++ List.replicate (Ng.length - 1) .un, z.st⟩ = r at h ⊢
    match r, h with
    | .nx z', h =>
      intro σ' H' L' R' g'
      obtain ⟨R4, g4, exs, _⟩ := R1.behind R'.back
      exact h .non H' L' R4 (g1.trans g4) (by simp [vD, Imm])
    | .rt d z', h =>
      intro v σ' H' L' R' im
      obtain ⟨R4, g4, exs, _⟩ := R1.behind R'.back
      exact h v H' L' R4 (g1.trans g4) (Imm.stay (⟨fun a o e n _ => ⟨e, fun q => n ((exs a).mpr q)⟩, fun _ _ h => h, fun _ h => h⟩ : Grow L' _ H' L' _ H') _ _ im)
    | .err x z', h =>
      intro cls dd σ' H' L' R' g' q
      obtain ⟨R4, g4, exs, _⟩ := R1.behind R'.back
      exact h cls dd H' L' R4 (g1.trans g4) (ExnRel.weak (fun a h => ((exs a).mpr h).imp id .inl) q)
    | .bad, h => exact h.elim
    | .bk _, h => exact h.elim
    | .ct _, h => exact h.elim
  refine wpAny_call (codeAny_mono run fun r s2 hq => ?_)
  match r, hq with
  | .error e, hq => exact P0.ps σ pins H1 s' e s2 I1 hq
  | .ok (.ret u), hq => exact I1.after hq
  | .ok .next, hq => exact hq.elim
  | .ok .brk, hq => exact hq.elim
  | .ok .cont, hq => exact hq.elim
end
end DL
set_option Elab.async false
set_option linter.all false
set_option maxRecDepth 100000
set_option maxHeartbeats 2000000
/-! a def whose code object is known (it makes lambdas) -/
namespace DL
open PySem PySem.Spec L2
/-- a def of the text, its code object at c -/
structure DfC (K : Fr) (mg : Str → Option Value) (x : Str) (st : Stmt) (ps : List Str) (c : Addr) : Prop where
  ex : ∃ (f : Addr) (oc : Value) (od : Option Addr) (kV doc pm : Value) (an : Option Addr) (ct : Value) (osl : Array (Option Value)), K.lookup f = some ⟨oc, od, .func (PySem.W.fnOf x x (defArgs st) (defBody st) (defScope st) .none kV doc pm an (.ref c) ct), osl⟩ ∧ PySem.W.codeIn K (.ref c) x = true ∧
    mg x = some (.ref f) ∧ PySem.W.keepIn K (.ref f) = true ∧ Binds K (PySem.W.fnOf x x (defArgs st) (defBody st) (defScope st) .none kV doc pm an (.ref c) ct) ps []
theorem DfC.df {K : Fr} {mg : Str → Option Value} {x : Str} {st : Stmt} {ps : List Str} {c : Addr} (D : DfC K mg x st ps c) : Df K mg x st ps := by
  obtain ⟨f, oc, od, kV, doc, pm, an, ct, osl, h1, h2, h3, h4, h5⟩ := D
  exact ⟨f, _, fun_mk h1 h2 h4, h3, h4, h5⟩
theorem dfc_mk {K : Fr} {mg : Str → Option Value} {h : Heap} {x : Str} {st : Stmt} {ps : List Str} {f c : Addr} {oc : Value} {od an : Option Addr} {osl : Array (Option Value)} {kV doc pm ct : Value} (X : K.In h) (G : h.Ns mainGlobals mg)
    (hb : ∀ (kV doc pm : Value) (an : Option Addr) (cdv ct : Value) (us : List Value), us.length = ps.length → bindArgs (PySem.W.fnOf x x (defArgs st) (defBody st) (defScope st) .none kV doc pm an cdv ct) ⟨us, []⟩ = pure (ps.zip us))
    (a : PySem.W.nsIn K mainGlobals x = some (some (.ref f)))
    (l : K.lookup f = some ⟨oc, od, .func (PySem.W.fnOf x x (defArgs st) (defBody st) (defScope st) .none kV doc pm an (.ref c) ct), osl⟩) (cc : PySem.W.codeIn K (.ref c) x = true) (k : PySem.W.keepIn K (.ref f) = true) : DfC K mg x st ps c :=
  ⟨f, oc, od, kV, doc, pm, an, ct, osl, l, cc, PySem.W.mg_of X G a, k, (fun_mk l cc k).binds hb⟩
section
variable {P : Program} {w : World} {K : Fr} {mg : Str → Option Value} {base : Heap} {C : Cl} {k : Nat} {x : Str} {st : Stmt} {ps N : List Str} {mb : MS} {c : Addr}
theorem fn_DC {f : Addr} {oc : Value} {od : Option Addr} {kV doc pm : Value} {an : Option Addr} {ct : Value} {osl : Array (Option Value)} (pop : Bool) (lk : K.lookup f = some ⟨oc, od, .func (PySem.W.fnOf x x (defArgs st) (defBody st) (defScope st) .none kV doc pm an (.ref c) ct), osl⟩) (hcd : PySem.W.codeIn K (.ref c) x = true)
    (S : FnScope N ps (defScope st)) (hC : ∀ c A, C c = some A → mg c = some (.ref A))
    (hbody : ∀ (A : Around) (outer : List Env) (s : Shared) (H : Hp) (E : XK) (B : Bs), B.C = C → B.xs = none → Room k (A.deeper (envOfC x (defScope st) s.heap.objs.size f (.ref c))) →
      Plc (cxOf (L2N.CX P w) P w K mg base N x (defScope st) f (.ref c) A outer s H E) B (fun cls d _ H => E cls d H) → PassesOwn (model P w) (A.deeper (envOfC x (defScope st) s.heap.objs.size f (.ref c))) (envOfC x (defScope st) s.heap.objs.size f (.ref c)) (cxOf (L2N.CX P w) P w K mg base N x (defScope st) f (.ref c) A outer s H E).xe →
      PSsD (cxOf (L2N.CX P w) P w K mg base N x (defScope st) f (.ref c) A outer s H E) B (fun cls d _ H => E cls d H) (defBody st) mb) :
    FnOk P w K mg base (L2N.CX P w) (k + 1) f (PySem.W.fnOf x x (defArgs st) (defBody st) (defScope st) .none kV doc pm an (.ref c) ct) ps (spD K C none ps.length (if pop then popF (fnM N.length mb) else fnM N.length mb)) := by
  refine fn_of lk hcd S (fun vs H Q E h => ?_) (fun A outer s H vs Q E hr h => ?_)
  · obtain ⟨_, _, _, _, h, _⟩ := h
    exact h
  · obtain ⟨L, E', S', as, h1, h2, st', exd, ar, h⟩ := h
    have tk : L2N.Takes (cxOf (L2N.CX P w) P w K mg base N x (defScope st) f (.ref c) A outer s H E) (fun cls d _ H => E cls d H) := L2N.takes_of rfl rfl rfl rfl
    obtain ⟨t, p, sm⟩ := hbody A outer s H E ⟨K, C, E', H, L, E', none⟩ rfl rfl hr ⟨⟨rfl, room_units hr, tk, hC, fun _ _ _ h => nomatch h⟩, rfl⟩ (passes_of rfl)
    cases pop with
    | false =>
      refine ⟨t, p, ?_⟩
      refine sm ⟨as ++ List.replicate (N.length - as.length) .un, S'⟩ (start N vs) H L _ (Rel.entry (by rw [h1, h2]) st' exd ar) ?_
      simp only [Bool.false_eq_true, if_false] at h
      unfold fnM at h
      generalize mb ⟨as ++ List.replicate (N.length - as.length) .un, S'⟩ = r at h ⊢
      match r, h with
      | .nx z, h => exact fun σ H' L' R g => h .non H' L' R.back (by simp [Imm])
      | .rt d z, h => exact fun v σ H' L' R q => h v H' L' R.back q
      | .err x z, h => exact fun cls dd σ H' L' R g q => h cls dd H' L' R.back (ExnRel.weak (fun a h => h.imp id .inl) q)
      | .bad, h => exact h.elim
      | .bk _, h => exact h.elim
      | .ct _, h => exact h.elim
    | true =>
      refine ⟨_, pss_lockRet p, ?_⟩
      refine sm ⟨as ++ List.replicate (N.length - as.length) .un, S'⟩ (start N vs) H L _ (Rel.entry (by rw [h1, h2]) st' exd ar) ?_
      simp only [if_true] at h
      unfold popF fnM at h
      generalize mb ⟨as ++ List.replicate (N.length - as.length) .un, S'⟩ = r at h ⊢
      replace h := aft_pop st' exd.1 h
      match r, h with
      | .nx z, h => exact fun σ H' L' R g => h H' L' R.back
      | .rt d z, h => exact fun v σ H' L' R q => h v H' L' R.back q
      | .err x z, h => exact fun cls dd σ H' L' R g q => h cls dd H' L' R.back (ExnRel.weak (fun a h => h.imp id .inl) q)
      | .bad, h => exact h.elim
      | .bk _, h => exact h.elim
      | .ct _, h => exact h.elim
theorem fx_ofC (pop : Bool) (D : DfC K mg x st ps c) (S : FnScope N ps (defScope st)) (hC : ∀ c A, C c = some A → mg c = some (.ref A))
    (hbody : ∀ (A : Around) (outer : List Env) (s : Shared) (H : Hp) (E : XK) (f : Addr) (B : Bs), B.C = C → B.xs = none → Room k (A.deeper (envOfC x (defScope st) s.heap.objs.size f (.ref c))) →
      Plc (cxOf (L2N.CX P w) P w K mg base N x (defScope st) f (.ref c) A outer s H E) B (fun cls d _ H => E cls d H) → PassesOwn (model P w) (A.deeper (envOfC x (defScope st) s.heap.objs.size f (.ref c))) (envOfC x (defScope st) s.heap.objs.size f (.ref c)) (cxOf (L2N.CX P w) P w K mg base N x (defScope st) f (.ref c) A outer s H E).xe →
      PSsD (cxOf (L2N.CX P w) P w K mg base N x (defScope st) f (.ref c) A outer s H E) B (fun cls d _ H => E cls d H) (defBody st) mb) : FX P w K mg base C (k + 1) x st ps (if pop then popF (fnM N.length mb) else fnM N.length mb) := by
  obtain ⟨f, oc, od, kV, doc, pm, an, ct, osl, h1, h2, h3, h4, h5⟩ := D
  exact ⟨f, _, fun_mk h1 h2 h4, fn_DC pop h1 h2 S hC fun A outer s H E B hc hx hr P hp => hbody A outer s H E f B hc hx hr P hp, h3, h4, h5⟩
end
end DL
set_option Elab.async false
set_option linter.all false
set_option maxRecDepth 100000
set_option maxHeartbeats 2000000
/-! walks over a list that is a cell -/
namespace DL
open PySem PySem.Spec L2 PyProof.Rows PySem.Calls
/-- at most f turns over the n-th cell, from its i-th item on -/
def forCell (g : D → M Unit) (b : MS) (n : Nat) : Nat → Nat → MS
  | 0, _, _ => .bad
  | f + 1, i, z => match z.st[n]? with
    | some (.lst ds) => match ds[i]? with
      | some d => match g d z with
        | .ok _ z1 => sTurn (b z1) (forCell g b n f (i + 1))
        | _ => .bad
      | none => .nx z
    | _ => .bad
def sForC (md : M D) (g : D → M Unit) (b : MS) : MS := fun z => (md z).bindS fun d z1 => match d with
  | .obj n => forCell g b n Fuel 0 z1
  | _ => .bad
section
variable {X : Cx} {B : Bs} {E : WX} {md : M D} {ms : MS} {z z' : Z} {σ σ' : L2.St} {H H' : Hp} {L L' : List Addr}
theorem d_forC {tg it : Expr} {body : List Stmt} {pos : Pos} {g : D → M Unit} (P : Plc X B E) (hp : PassesOwn (model X.prog X.w) X.A X.env X.xe) (hi : PXD X B E it md) (hg : PGD X B tg g) (hb : PSsD X B E body ms)
    (hs : ∀ x, foldedSetIterable it X.env x = pure x := by intro _; rfl) : PSD X B E (.For tg it body [] pos) (sForC md g ms) := by
  obtain ⟨ti, pi, si⟩ := hi
  obtain ⟨tg', pg, sg⟩ := hg
  obtain ⟨tb, pb, sb⟩ := hb
  refine ⟨_, ps_for hp P.calm (pi_seq pi) pg pb hs, fun z σ H L N R h => ?_⟩
  refine si z σ H L _ R (AftE.bindS h fun d z1 v H1 L1 R1 g1 hv k1 => ?_)
  match d, k1 with
  | .obj n, k1 =>
    obtain ⟨a, rfl, hn⟩ : ∃ a, v = .ref a ∧ L1[n]? = some a := by simpa only [vD, Imm] using hv
    -- the cell as it stands
    have look : ∀ {z2 : Z} {σ2 : L2.St} {H2 : Hp} {L2 : List Addr} {ds : List D}, Rel B z2 σ2 H2 L2 → G B z1 σ L1 H1 z2 σ2 L2 H2 → z2.st[n]? = some (.lst ds) → ∃ us, H2 a = some (.lst us) ∧ ImmL B.K B.C L2 (Ex B z2 σ2 L2) H2 us ds := fun R2 g2 e => R2.st.at_ n a _ (g2.pre n a hn) e
    have k2 : AftS B E z1 σ H1 L1 N (forCell g ms n Fuel 0 z1) := k1
    have isL : ∃ us, SqL X.K H1 a us := by
      have k3 := k2
      unfold Fuel at k3
      rw [show (2 : Nat) ^ 80 = (2 ^ 80 - 1) + 1 by decide] at k3
      unfold forCell at k3
      split at k3
      · rename_i ds e
        obtain ⟨us, hu, _⟩ := look R1 Grow.refl e
        exact ⟨us, SqL.of hu⟩
      · exact k3.elim
    refine .inl ⟨a, rfl, isL, fun i m σ2 H2 => LoopAt B E z1 σ H1 L1 N (forCell g ms n m i) σ2 H2, ⟨Fuel, z1, L1, R1, Grow.refl, k2⟩, ?_⟩
    rintro i m σ2 H2 ⟨z2, L2, R2, g2, h2⟩
    match m, h2 with
    | 0, h2 => exact h2.elim
    | m + 1, h2 =>
      unfold forCell at h2
      split at h2
      · rename_i ds e
        obtain ⟨us, hu, im⟩ := look R2 g2 e
        have hs2 : SqL X.K H2 a us := SqL.of hu
        split at h2
        · rename_i d e2
          obtain ⟨v, e3, im2⟩ := ImmL.get im e2
          refine .inr ⟨⟨us, v, hs2, e3⟩, fun σ3 H3 => LoopAt B E z1 σ H1 L1 N (forCell g ms n m (i + 1)) σ3 H3, fun σ3 H3 q => ⟨m, Nat.lt_succ_self m, q⟩, fun w H3 hy => ?_⟩
          obtain ⟨rfl, hy⟩ := hy
          have e4 := hy us hs2
          rw [e3] at e4
          cases e4
          refine sg z2 σ2 H3 L2 v d _ R2 im2 ?_
          generalize eg : g d z2 = r at h2
          match r, h2 with
          | .ok _ z4, h2 =>
            intro σ4 H4 L4 R4 g4
            have h4 : AftS B E z4 σ4 H4 L4 N (sTurn (ms z4) (forCell g ms n m (i + 1))) := AftS.from g4 h2
            have q := AftS.loop (g2.trans g4) h4
            refine sb z4 σ4 H4 L4 _ R4 ?_
            generalize ms z4 = r4 at q ⊢
            match r4, q with
            | .nx z5, q => exact q
            | .ct z5, q => exact q
            | .bk z5, q => exact q
            | .rt d z5, q => exact q
            | .err x S, q => exact q
            | .bad, q => exact q
          | .err x S, h2 => exact h2.elim
          | .bad, h2 => exact h2.elim
        · rename_i e2
          refine .inl ⟨⟨us, hs2, ?_⟩, h2 σ2 H2 L2 R2 Grow.refl⟩
          rw [im.length]
          exact List.getElem?_eq_none_iff.mp e2
      · exact h2.elim
  | .non, k1 => exact k1.elim
  | .bl _, k1 => exact k1.elim
  | .int _, k1 => exact k1.elim
  | .str _, k1 => exact k1.elim
  | .lst _, k1 => exact k1.elim
  | .tup _, k1 => exact k1.elim
  | .dK _, k1 => exact k1.elim
  | .dT _, k1 => exact k1.elim
  | .ins _ _, k1 => exact k1.elim
  | .con _, k1 => exact k1.elim
/-- a list, a tuple, a text, a dict, or a list that is a cell -/
def sForA (md : M D) (g : D → M Unit) (b : MS) : MS := fun z => match md z with
  | .ok (.obj n) z1 => forCell g b n Fuel 0 z1
  | _ => sFor (mBind md itemsA) g b z
theorem d_forA {tg it : Expr} {body : List Stmt} {pos : Pos} {g : D → M Unit} (P : Plc X B E) (hp : PassesOwn (model X.prog X.w) X.A X.env X.xe) (hi : PXD X B E it md) (hg : PGD X B tg g) (hb : PSsD X B E body ms)
    (hs : ∀ x, foldedSetIterable it X.env x = pure x := by intro _; rfl) : PSD X B E (.For tg it body [] pos) (sForA md g ms) :=
  (d_forC P hp hi hg hb hs).alt (d_for P hp (di_any P.toPl hi) hg hb hs) fun z => by
    unfold sForA sForC
    cases e : md z with
    | ok d z1 => cases d <;> simp [R.bindS]
    | err x z1 => simp
    | bad => simp
end
end DL
set_option Elab.async false
set_option linter.all false
set_option maxRecDepth 100000
set_option maxHeartbeats 2000000
/-! clear, reverse, extend of lists; a fresh list times an int; a list unpacked into names -/
namespace DL
open PySem PySem.Spec L2 PyProof.Rows PySem.Calls
section
variable {X : Cx} {B : Bs} {E : WX} {e a b o : Expr} {pos apos cpos : Pos} {ma mb m : M W} {mc : M Cell} {md : M D} {z z' : Z} {σ σ' : L2.St} {H H' : Hp} {L L' : List Addr}
/-- x.clear(), x.reverse() -/
def fLst0 (g : List D → List D) (x : W) (xs : List W) : M W := fun z => match xs, z.mut x with
  | [], some (.lst ds) => .ok (.d .non) (z.put x (.lst (g ds)))
  | _, _ => .bad
def fClear : W → List W → M W := fLst0 fun _ => []
def fReverse : W → List W → M W := fLst0 List.reverse
theorem mtS_clear : MtS B E rClear fClear := by
  intro z σ H L Q x vx xs vs R hx hvs h
  unfold fClear fLst0 at h
  split at h
  · rename_i ds em
    obtain ⟨q, rfl, ⟨us, hq, imu⟩, ex, up⟩ := R.write hx em
    have u := up (.lst []) (.lst []) ⟨_, upd_same, by simp only [ImmL]⟩
    obtain rfl : vs = [] := List.eq_nil_of_length_eq_zero hvs.len
    exact ⟨q, us, rfl, rfl, hq, h _ _ _ u.1 u.2 (by simp [VRel, Imm])⟩
  · exact h.elim
theorem mtS_reverse : MtS B E rReverse fReverse := by
  intro z σ H L Q x vx xs vs R hx hvs h
  unfold fReverse fLst0 at h
  split at h
  · rename_i ds em
    obtain ⟨q, rfl, ⟨us, hq, imu⟩, ex, up⟩ := R.write hx em
    have u := up (.lst ds.reverse) (.lst us.reverse) ⟨_, upd_same, ImmL.stay (grow_upd ex) _ _ imu.reverse⟩
    obtain rfl : vs = [] := List.eq_nil_of_length_eq_zero hvs.len
    exact ⟨q, us, rfl, rfl, hq, h _ _ _ u.1 u.2 (by simp [VRel, Imm])⟩
  · exact h.elim
theorem d_clear (P : Pl X B E) (ho : PED X B E o m) (hbase : attributeBase o "clear" X.env (eval o X.env) = eval o X.env := by rfl) (hline : (apos.endLine == cpos.line) = true := by rfl) :
    PED X B E (.Call (.Attribute o "clear" apos) [] [] cpos) (mBM .lst m wNil fClear) := d_bm0 .lst P PySem.F.plainAttrs_list PySem.F.slot_list_clear PySem.F.type_list_clear mt_clear mtS_clear ho hbase hline
theorem d_reverse (P : Pl X B E) (ho : PED X B E o m) (hbase : attributeBase o "reverse" X.env (eval o X.env) = eval o X.env := by rfl) (hline : (apos.endLine == cpos.line) = true := by rfl) :
    PED X B E (.Call (.Attribute o "reverse" apos) [] [] cpos) (mBM .lst m wNil fReverse) := d_bm0 .lst P PySem.F.plainAttrs_list PySem.F.slot_list_reverse PySem.F.type_list_reverse mt_reverse mtS_reverse ho hbase hline
/-- x.extend(y), y a cell or an own list -/
def fExtend (x : W) (xs : List W) : M W := fun z => match xs with
  | [y] => match z.mut y, z.mut x with
    | some (.lst ys), some (.lst ds) => if ds.length + ys.length ≤ sizeLine then .ok (.d .non) (z.put x (.lst (ds ++ ys))) else .bad
    | _, _ => .bad
  | _ => .bad
theorem mtS_extend : MtS B E rExtend fExtend := by
  intro z σ H L Q x vx xs vs R hx hvs h
  unfold fExtend at h
  split at h
  · obtain ⟨v, rfl, hv⟩ := vvs1 hvs
    split at h
    · rename_i ys ds ey em
      split at h
      · rename_i hl
        obtain ⟨q, rfl, ⟨us, hq, imu⟩, ex, up⟩ := R.write hx em
        obtain ⟨r, rfl, ⟨ws, hr, imw⟩, _, _⟩ := R.write hv ey
        have u := up (.lst (ds ++ ys)) (.lst (us ++ ws)) ⟨_, upd_same, ImmL.stay (grow_upd ex) _ _ (imu.append imw)⟩
        exact ⟨q, r, us, ws, rfl, rfl, hq, hr, by rw [imu.length, imw.length]; exact hl, h _ _ _ u.1 u.2 (by simp [VRel, Imm])⟩
      · exact h.elim
    · exact h.elim
  · exact h.elim
theorem d_extend (P : Pl X B E) (ho : PED X B E o m) (he : PED X B E e ma) (hbase : attributeBase o "extend" X.env (eval o X.env) = eval o X.env := by rfl)
    (hfew : ((backTo cpos (starEach (e :: []) X.env)).all (fun x => !x.1) && (backToKw cpos (keywordEach [] X.env)).all (fun x => x.1.isSome)
      && decide ((e :: []).length + ([] : List Keyword).length + (if ([] : List Keyword).isEmpty then 0 else 1) < 30)) = true := by rfl)
    (hline : (apos.endLine == cpos.line) = true := by rfl) (hs : starEach (e :: []) X.env = (false, eval e X.env) :: starEach [] X.env := by rfl) (hplain : (backTo cpos (starEach [] X.env)).any (·.1) = false := by rfl) :
    PED X B E (.Call (.Attribute o "extend" apos) [e] [] cpos) (mBM .lst m (wCons ma wNil) fExtend) :=
  d_bm .lst P PySem.F.plainAttrs_list PySem.F.slot_list_extend PySem.F.type_list_extend mt_extend mtS_extend ho (dw_cons he dw_nil hs) hbase hfew hline hs hplain
/-- .. y a fresh list -/
def mExtF (m : M W) (mc : M Cell) : M W := fun z => (m z).bind fun x z1 => if z1.isMT .lst x then (mc z1).bind fun c z2 => match c, z2.mut x with
    | .lst ys, some (.lst ds) => if ds.length + ys.length ≤ sizeLine then .ok (.d .non) (z2.put x (.lst (ds ++ ys))) else .bad
    | _, _ => .bad
  else .bad
theorem Fresh.immL {p : Addr} {ys : List D} (F : Fresh B z σ H L p (.lst ys)) : ∃ ws, H p = some (.lst ws) ∧ ImmL B.K B.C L (Ex B z σ L) H ws ys := by
  obtain ⟨ws, h, im⟩ := F.cell
  exact ⟨ws, h, ImmL.stay (⟨fun a o e n _ => ⟨e, fun q => n (ex_add.mpr (.inl q))⟩, fun _ _ h => h, fun _ h => h⟩ : Grow L (Ex (B.add p) z σ L) H L (Ex B z σ L) H) _ _ im⟩
theorem d_extF (P : Pl X B E) (ho : PED X B E o m) (he : PFD X B E e mc) (hbase : attributeBase o "extend" X.env (eval o X.env) = eval o X.env := by rfl)
    (hfew : ((backTo cpos (starEach (e :: []) X.env)).all (fun x => !x.1) && (backToKw cpos (keywordEach [] X.env)).all (fun x => x.1.isSome)
      && decide ((e :: []).length + ([] : List Keyword).length + (if ([] : List Keyword).isEmpty then 0 else 1) < 30)) = true := by rfl)
    (hline : (apos.endLine == cpos.line) = true := by rfl) (hs : starEach (e :: []) X.env = (false, eval e X.env) :: starEach [] X.env := by rfl) (hplain : (backTo cpos (starEach [] X.env)).any (·.1) = false := by rfl) :
    PED X B E (.Call (.Attribute o "extend" apos) [e] [] cpos) (mExtF m mc) := by
  obtain ⟨t1, p1, s1⟩ := ho
  obtain ⟨t2, p2, s2⟩ := he
  refine ⟨_, pe_bm PySem.F.plainAttrs_list PySem.F.slot_list_extend PySem.F.type_list_extend mt_extend p1 (pa_cons p2 pa_nil hs) hbase hfew hline hs hplain, fun z σ H L Q R h => ?_⟩
  refine s1 z σ H L _ R (AftE.bind h fun x z1 v H1 L1 R1 g1 hv k1 => ?_)
  split at k1
  · rename_i ht
    refine ⟨by rw [← P.K]; exact R1.tyV hv ht, ?_⟩
    refine s2 z1 σ H1 L1 _ R1 (AftE.bind k1 fun c z2 w H2 L2 R2 g2 hc k2 => ?_)
    obtain ⟨p, rfl, F, _⟩ := hc
    split at k2
    · rename_i ys ds em
      split at k2
      · rename_i hl
        obtain ⟨ws, hp, imw⟩ := F.immL
        obtain ⟨q, rfl, ⟨us, hq, imu⟩, ex, up⟩ := F.rel0.write (VRel.stay g2 hv) em
        have u := up (.lst (ds ++ ys)) (.lst (us ++ ws)) ⟨_, upd_same, ImmL.stay (grow_upd ex) _ _ (imu.append imw)⟩
        exact ⟨q, p, us, ws, rfl, rfl, hq, hp, by rw [imu.length, imw.length]; exact hl, k2 _ _ _ u.1 u.2 (by simp [VRel, Imm])⟩
      · exact k2.elim
    · exact k2.elim
  · exact k1.elim
/-- a fresh list * int -/
def mRepF (mc : M Cell) (mb : M W) : M W := fun z => (mc z).bind fun c z1 => (mb z1).bind fun y z2 => newL (match c, y with
  | .lst ds, .d (.int k) => if k < 2 ^ 63 ∧ -(2 ^ 63) ≤ k ∧ ds.length * k.toNat ≤ sizeLine then some (List.replicate k.toNat ds).flatten else none
  | _, _ => none) z2
theorem immL_rep {K : Fr} {C : Cl} {Ee : Addr → Prop} {vs : List V} {ds : List D} (h : ImmL K C L Ee H vs ds) : ∀ n : Nat, ImmL K C L Ee H (List.replicate n vs).flatten (List.replicate n ds).flatten
  | 0 => by simp [ImmL]
  | n + 1 => by
    simp only [List.replicate_succ, List.flatten_cons]
    exact ImmL.append h (immL_rep h n)
theorem d_repF (ha : PFD X B E a mc) (hb : PED X B E b mb) : PED X B E (.BinOp a .Mult b pos) (mRepF mc mb) := by
  obtain ⟨t1, p1, s1⟩ := ha
  obtain ⟨t2, p2, s2⟩ := hb
  refine ⟨_, pe_op op_rep p1 p2, fun z σ H L Q R h => ?_⟩
  refine s1 z σ H L _ R (AftE.bind h fun c z1 v H1 L1 R1 g1 hc k1 => ?_)
  obtain ⟨p, rfl, F, _⟩ := hc
  refine s2 z1 σ H1 L1 _ R1 (AftE.bind k1 fun y z2 w H2 L2 R2 g2 hy k2 => ?_)
  obtain ⟨xs, e, q⟩ := newL_of R2 k2
  split at e
  · rename_i ds k
    split at e
    · rename_i hk
      cases e
      obtain ⟨ws, hp, imw⟩ := F.immL
      have hp2 := (g2.keep p _ hp F.nE trivial).1
      have iw2 := ImmL.stay g2 _ _ imw
      exact ⟨p, k, ws, rfl, vr_int hy, hp2, hk.2.1, hk.1, by rw [iw2.length]; exact hk.2.2, fun r hr => q _ r (immL_rep iw2 _) hr⟩
    · cases e
  · cases e
/-! ### a list unpacked into names -/
def gU (n : Nat) (m : List D → M Unit) (d : D) : M Unit := fun z => match z.cont (.d d) with
  | some (.lst ds) => if ds.length = n then m ds z else .bad
  | _ => .bad
theorem dg_unl {es : List Expr} {k : Nat} {n : Nat} {gm : List D → M Unit} (P : Plc X B E) (hp : PGDs X B es gm) (hn : (assignEach es X.env).length = n := by rfl) (hst : (assignEach es X.env).findIdx? (·.1) = none := by rfl) : PGD X B (.Tuple es k pos) (gU n gm) := by
  obtain ⟨g, p, s⟩ := hp
  refine ⟨_, pg_unl P.calm p hn hst, fun z σ H L v d Q R hv h => ?_⟩
  unfold gU at h
  split at h
  · rename_i ds e
    split at h
    · rename_i hl
      obtain ⟨a, vs, rfl, r, q⟩ := R.readL (d := .d d) hv e
      rw [← P.K]
      exact ⟨a, vs, rfl, r, by rw [q.length, hl], s _ _ _ _ _ _ _ R q h⟩
    · exact h.elim
  · exact h.elim
theorem PGD.alt {tg : Expr} {m m' M : D → DL.M Unit} (h : PGD X B tg m) (h' : PGD X B tg m') (hm : ∀ d z, M d z = m d z ∨ M d z = m' d z) : PGD X B tg M := by
  obtain ⟨g, p, s⟩ := h
  obtain ⟨g', p', s'⟩ := h'
  refine ⟨fun v σ H Q => g v σ H Q ∨ g' v σ H Q, ?_, fun z σ H L v d Q R hv k => ?_⟩
  · exact ⟨fun pins s σ H v u Q I r h => h.elim (p.run pins s σ H v u Q I r) (p'.run pins s σ H v u Q I r)⟩
  · rcases hm d z with e | e
    · rw [e] at k
      exact .inl (s z σ H L v d Q R hv k)
    · rw [e] at k
      exact .inr (s' z σ H L v d Q R hv k)
/-- a tuple or a list unpacked -/
def gTU (n : Nat) (m : List D → M Unit) (d : D) : M Unit := match d with
  | .tup ds => gT n m (.tup ds)
  | d => gU n m d
theorem dg_seq {es : List Expr} {k : Nat} {n : Nat} {gm : List D → M Unit} (P : Plc X B E) (hp : PGDs X B es gm) (hn : (assignEach es X.env).length = n := by rfl) (hst : (assignEach es X.env).findIdx? (·.1) = none := by rfl) : PGD X B (.Tuple es k pos) (gTU n gm) :=
  (dg_tup P hp hn hst).alt (dg_unl P hp hn hst) fun d z => by
    cases d <;> first | exact .inl rfl | exact .inr rfl
end
end DL
set_option Elab.async false
set_option linter.all false
set_option maxRecDepth 100000
set_option maxHeartbeats 2000000
/-! repr of an own class's instance, of a list of ints -/
namespace DL
open PySem PySem.Spec L2 PyProof.Rows PySem.Calls
/-! ### repr(o), o's class with its own __repr__ -/
def rReprO (X : Cx) (C : Cl) (k : Nat) : List V → Hp → VK → Prop := fun xs H Q => ∃ a dx fs A mf f fd ps, xs = [.ref a] ∧ H a = some (.ins A dx fs) ∧ PySem.W.findIn X.K (.ref A) "__repr__" = some (some (.ref f)) ∧ PySem.W.isFn X.K (.ref f) = true ∧
  FnOk X.prog X.w X.K X.mg X.base (L2N.CX X.prog X.w) k f fd ps (spD X.K C none 1 mf) ∧ Binds X.K fd ps [] ∧ spD X.K C none 1 mf [.ref a] H (fun v H' => ∃ t, v = .str t ∧ Q (.str t) H') (fun _ _ _ => False)
section
variable {X : Cx} {B : Bs} {E : WX} {e : Expr} {p pos : Pos} {m : M W} {z z' : Z} {σ σ' : L2.St} {H H' : Hp} {L L' : List Addr} {k : Nat} {tbl : Str → Option MF}
theorem call_reprO {C : Cl} (hr : Room (k + 1) X.A) : CallR X (.builtin "repr") (rReprO X C k) := by
  intro pins s σ H xs us Q I r h
  obtain ⟨a, dx, fs, A, mf, f, fd, ps, rfl, ea, hs, hf, hF, hb, q⟩ := h
  obtain ⟨u, rfl, rfl⟩ := vals1 r
  obtain ⟨mA, J, _⟩ := ins_get I.hok ea
  obtain ⟨od, J, _⟩ := J.look
  obtain ⟨m, hFr⟩ := I.fr
  have hl : [Value.ref a].length = ps.length := (hF.len _ _ _ _ q)
  have b := hb s [.ref a] I.kIn (by rw [List.append_nil]; exact hl)
  rw [List.append_nil] at b
  refine PySem.W.repr_K (by have := hr.un; show X.A.units + 1 < _; omega) hFr I.ok.mod.kin J hs hf (wpAny_call (codeAny_mono (hF.run X.A.in1 X.stack s H ⟨[.ref a], []⟩ [.ref a] [.ref a] _ _ hr.in1 I.env0.in1 b (.cons rfl .nil) q) fun r s' hq => ?_))
  match r, hq with
  | .error er, hq => exact passN (X := X) pins σ H s er s' I hq
  | .ok (.ret u), hq =>
    obtain ⟨v, H1, I1, rv, t, ev, q1⟩ := I.after hq
    subst ev
    obtain ⟨tk, rfl⟩ := rv
    exact ⟨.str t, H1, I1, ⟨tk, rfl⟩, q1⟩
  | .ok .next, hq => exact hq.elim
  | .ok .brk, hq => exact hq.elim
  | .ok .cont, hq => exact hq.elim
/-- the classes' __repr__, what they mean -/
structure RepD (P : Program) (w : World) (K : Fr) (mg : Str → Option Value) (base : Heap) (C : Cl) (k : Nat) (tbl : Str → Option MF) : Prop where
  ok : ∀ c A mf, C c = some A → tbl c = some mf → ∃ f fd ps, PySem.W.findIn K (.ref A) "__repr__" = some (some (.ref f)) ∧ PySem.W.isFn K (.ref f) = true ∧ FnOk P w K mg base (L2N.CX P w) k f fd ps (spD K C none 1 mf) ∧ Binds K fd ps []
theorem RepD.mono {P : Program} {w : World} {K : Fr} {mg : Str → Option Value} {base : Heap} {C : Cl} {j k : Nat} {tbl : Str → Option MF} (F : RepD P w K mg base C j tbl) (h : j ≤ k) : RepD P w K mg base C k tbl :=
  ⟨fun c A mf h1 h2 => by
    obtain ⟨f, fd, ps, h3, h4, h5, h6⟩ := F.ok c A mf h1 h2
    exact ⟨f, fd, ps, h3, h4, h5.mono h, h6⟩⟩
theorem FM.rep {P : Program} {w : World} {K : Fr} {mg : Str → Option Value} {base : Heap} {C : Cl} {k : Nat} {c qual : Str} {st : Stmt} {ps : List Str} {mf : MF} (F : FM P w K mg base C k c "__repr__" qual st ps mf) (h : ps.length = 1 := by rfl) : RepD P w K mg base C k (tb1 c mf) := ⟨fun c' A' mf' e1 e2 => by
  obtain ⟨rfl, rfl⟩ := tb1_of e2
  obtain ⟨A, f, fd, h1, h2, h3, h4, h5, h6⟩ := F
  rw [h1] at e1
  cases e1
  exact ⟨f, fd, ps, h3.at_, h3.fn, h ▸ h6, h5⟩⟩
def onlyS (d : D) : M W := fun z => match d with
  | .str t => .ok (.d (.str t)) z
  | _ => .bad
def fReprO (tbl : Str → Option MF) (x : W) : M W := fun z => match z.cont x with
  | some (.ins c fs) => match tbl c with
    | some mf => (callQ 1 mf [x] z).bind onlyS
    | none => .bad
  | _ => .bad
theorem d_reprO {C : Cl} (P : Pl X B E) (hC : B.C = C) (F : RepD X.prog X.w X.K X.mg X.base C k tbl) (hr : Room (k + 1) X.A) (hm : X.mg "repr" = none) (ha : PED X B E e m) (hg : Gl X "repr" := by rfl) (he : starEach [e] X.env = (false, eval e X.env) :: starEach [] X.env := by rfl) :
    PED X B E (.Call (.Name "repr" p) [e] [] pos) (fun z => (m z).bind (fReprO tbl)) := by
  subst hC
  obtain ⟨t, pa, sa⟩ := ha
  refine ⟨_, pe_callB (call_reprO (C := B.C) hr) hg hm (by decide +kernel) (pa_cons pa pa_nil he) (he := he), fun z σ H L Q R h => ?_⟩
  refine sa z σ H L _ R (AftE.bind h fun x z1 v H1 L1 R1 g1 hv k1 => ?_)
  unfold fReprO at k1
  split at k1
  · rename_i c fs ec
    split at k1
    · rename_i mf et
      obtain ⟨a, rfl, A, dx, vs, hA, hH, im⟩ := R1.read hv ec
      obtain ⟨f, fd, ps, h1, h2, hF, hb⟩ := F.ok c A mf hA et
      refine ⟨a, dx, vs, A, mf, f, fd, ps, rfl, hH, h1, h2, hF, hb, ?_⟩
      have k2 := callQ_of (vs := [.ref a]) (xs := [x]) (Q := fun v H' => ∃ t, v = .str t ∧ Q (.str t) H') R1 ⟨hv, trivial⟩ (AftE.bind k1 fun d z3 w H3 L3 R3 g3 hd k4 => by
        cases d <;> first | exact k4.elim | skip
        rename_i t
        have hw : w = .str t := by simpa [vD, Imm] using hd
        exact ⟨t, hw, AftE.here R3 k4 (by simp [VRel, Imm])⟩)
      rw [P.K] at k2
      exact k2
    · exact k1.elim
  · exact k1.elim
/-! ### repr(xs), xs a list of ints -/
def rReprL (K : PySem.W.Frag) : List V → Hp → VK → Prop := fun xs H Q => ∃ (a : Addr) (ns : List Int), xs = [.ref a] ∧ SqL K H a (ns.map V.int) ∧ PyData.showable (.list (ns.map .int)) = true ∧ (PyData.shown (.list (ns.map .int))).length ≤ sizeLine ∧ Q (.str (PyData.shown (.list (ns.map .int)))) H
theorem reads_ints {h : Heap} : ∀ {ns : List Int} {its : List Value}, Vals (ns.map V.int) its → ∃ as, ReadsAll h its (ns.map .int) as
  | [], its, r => by
    cases r
    exact ⟨[], .nil⟩
  | n :: ns, its, r => by
    cases r with
    | cons r1 r2 =>
      obtain ⟨t, rfl⟩ := r1
      obtain ⟨as, q⟩ := reads_ints r2
      exact ⟨_, .cons (.int n t) q⟩
theorem nodict_ints : ∀ ns : List Int, PyData.hasDictAll (ns.map .int) = false
  | [] => rfl
  | n :: ns => by simp only [List.map_cons, PyData.hasDictAll, PyData.hasDict, nodict_ints ns, Bool.or_false]
theorem depth_ints : ∀ ns : List Int, PyData.depthAll (ns.map .int) ≤ 1
  | [] => Nat.zero_le _
  | n :: ns => by
    have := depth_ints ns
    simp only [List.map_cons, PyData.depthAll, PyData.depth]
    omega
theorem call_reprL (hg : X.A.guards = some []) (hu : X.A.units + 66 < cLine) : CallR X (.builtin "repr") (rReprL X.K) := by
  intro pins s σ H xs us Q I r h
  obtain ⟨a, ns, rfl, hs, sh, sz, q⟩ := h
  obtain ⟨u, rfl, rfl⟩ := vals1 r
  obtain ⟨its, rv, ⟨⟨cls, dd, data, sl⟩, n, e, hc, hdn, hd⟩, hl⟩ := I.list hs
  simp only at hc hd
  subst hc hd
  obtain ⟨as, ra⟩ := reads_ints (h := s.heap) rv
  have rd : Reads s.heap (.ref a) (.list (ns.map .int)) (a :: as) := .list e rfl rfl (by simpa using ra)
  have dp : (PyData.list (ns.map .int)).depth ≤ 3 := by
    have := depth_ints ns
    simp only [PyData.depth]
    omega
  refine repr_of_reads' rd sh (fun h => ?_) hg (by omega) (fun _ _ e => e) (fun h' u tk hk => ?_) sz
  · simp only [PyData.hasDict, nodict_ints] at h
    cases h
  · exact ⟨.str _, H, I.kept hk, ⟨u, rfl⟩, q⟩
def fReprL (x : W) : M W := fun z => flat (match z.cont x with
  | some (.lst ds) => match intsD ds with
    | some ns => if PyData.showable (.list (ns.map .int)) = true ∧ (PyData.shown (.list (ns.map .int))).length ≤ sizeLine then some (.str (PyData.shown (.list (ns.map .int)))) else none
    | none => none
  | _ => none) z
theorem d_reprL (P : Pl X B E) (gu : X.A.guards = some []) (hm : X.mg "repr" = none) (ha : PED X B E e m) (hg : Gl X "repr" := by rfl) (he : starEach [e] X.env = (false, eval e X.env) :: starEach [] X.env := by rfl) :
    PED X B E (.Call (.Name "repr" p) [e] [] pos) (mBind m fReprL) := by
  obtain ⟨t, pa, sa⟩ := ha
  refine ⟨_, pe_callB (call_reprL gu P.hu) hg hm (by decide +kernel) (pa_cons pa pa_nil he) (he := he), fun z σ H L Q R h => ?_⟩
  refine sa z σ H L _ R (AftE.bind h fun x z1 v H1 L1 R1 g1 hv k1 => ?_)
  obtain ⟨d, ed, hq⟩ := flat_of R1 k1
  split at ed
  · rename_i ds ec
    split at ed
    · rename_i ns en
      split at ed
      · rename_i hh
        cases ed
        obtain ⟨a, us, rfl, hs, im⟩ := R1.readL hv ec
        rw [P.K] at hs
        rw [intsD_imm im en] at hs
        exact ⟨a, ns, rfl, hs, hh.1, hh.2, hq _ (by simp [VRel, Imm])⟩
      · cases ed
    · cases ed
  · cases ed
end
end DL
set_option Elab.async false
set_option linter.all false
set_option maxRecDepth 100000
set_option maxHeartbeats 2000000
/-! the law's call, where its body wants to know that no repr is under way -/
namespace DL
open PySem PySem.Spec L2 PyProof.Rows PySem.Calls LamX
/-- the def at f, called by the claim's caller -/
def RunL (P : Program) (w : World) (K : Fr) (mg : Str → Option Value) (base : Heap) (C : Cl) (f : Addr) (fd : FuncData) (ps : List Str) (m : MF) : Prop :=
  ∀ (s : Shared) (H : Hp) (args : Args) (us : List Value) (vs : List V) (Q : VK) (E : XK), Env0 P w K mg base callerA [] s H → BindsTo s fd args (ps.zip us) → Vals vs us → spD K C none ps.length m vs H Q E → codeAny (model P w) callerA (.call (.ref f) args) (CR (L2N.CX P w) [] P w H s Q E) s
section
variable {P : Program} {w : World} {K : Fr} {mg mb : Str → Option Value} {C : Cl} {fa a : Addr} {cs : List (Addr × Addr)} {fd : FuncData} {x : Str} {s : Shared} {vs : List Value} {ns : List Int} {m : MF}
/-- what is tracked at the law's call: the script (where the written part has it not), the tables -/
def hpL (K : Fr) (cs : List (Addr × Addr)) (a : Addr) (vs : List Value) (ns : List Int) : Hp := fun b =>
  if b ∈ cs.map (·.2) then some (.tbl #[]) else if b = a ∧ K.lookup a = none then some (.frz { cls := .type "list", data := .seq vs.toArray } (.lst (ns.map V.int))) else none
theorem hpL_inv {b : Addr} {u : HO} (h : hpL K cs a vs ns b = some u) : (b ∈ cs.map (·.2) ∧ u = .tbl #[]) ∨ (b = a ∧ K.lookup a = none ∧ u = .frz { cls := .type "list", data := .seq vs.toArray } (.lst (ns.map V.int))) := by
  unfold hpL at h
  split at h
  · rename_i c
    exact .inl ⟨c, (Option.some.inj h).symm⟩
  · split at h
    · rename_i c
      exact .inr ⟨c.1, c.2, (Option.some.inj h).symm⟩
    · cases h
theorem law_runs (KX : K.In s.heap) (hns : s.heap.Ns mainGlobals mg) (hb : s.heap.Ns builtinsNs mb) (hbb : ∀ x : Str, x ≠ "__name__" → mb x = bootBuiltins x) (lim : s.heap.NoLimit) (hg : s.gens = #[])
    (tabs : ∀ p ∈ cs, s.heap.get? p.2 = some { cls := .none, data := .fields #[] }) (notK : ∀ p ∈ cs, K.lookup p.2 = none) (codes : ∀ p ∈ cs, PySem.W.CodeHd s.heap p.1 p.2)
    (bmain : ∃ (bm : Addr) (ob : Obj), mg "__builtins__" = some (.ref bm) ∧ bm ≠ builtinsNs ∧ s.heap.get? bm = some ob ∧ ob.cls = .type "module" ∧ ob.dict = some builtinsNs ∧ ob.data = .plain)
    (ha : s.heap.get? a = some { cls := .type "list", data := .seq vs.toArray }) (hi : IntsAre vs ns) (hl : ns.length ≤ sizeLine)
    (F : ∀ base : Heap, (∀ p ∈ cs, TabB base mg p.1 p.2) → RunL P w K mg base C fa fd [x] m) (bind : ∀ u : Value, BindsTo s fd ⟨[u], []⟩ [(x, u)]) (hT : ∀ p ∈ C.T, ∃ c, (c, p.1) ∈ cs) (hm : ∃ S, m [.val (.lst (ns.map .int))] [] = .ok (.bl true) S) :
    codeAny (model P w) callerA (.call (.ref fa) ⟨[.ref a], []⟩) (fun r s' => r = .ok (.ret (.bool true)) ∧ OldK s.heap s'.heap ∧ s'.os = s.os ∧ AllBare s'.gens) s := by
  have rvs := vals_ints hi
  have inTab : ∀ b, b ∈ cs.map (·.2) → s.heap.get? b = some { cls := .none, data := .fields #[] } := fun b h => by
    obtain ⟨p, hp, rfl⟩ := List.mem_map.mp h
    exact tabs p hp
  -- what is tracked is a table or a list
  have kinds : ∀ {b : Addr} {o : Obj}, s.heap.get? b = some o → hpL K cs a vs ns b ≠ none → o.data = .fields #[] ∨ ∃ v n, o.data = .seq v n := fun {b o} e h => by
    cases q : hpL K cs a vs ns b with
    | none => exact absurd q h
    | some u =>
      rcases hpL_inv q with ⟨c, _⟩ | ⟨c, _, _⟩
      · rw [inTab b c] at e
        cases e
        exact .inl rfl
      · rw [c, ha] at e
        cases e
        exact .inr ⟨_, _, rfl⟩
  have free : ∀ {b : Addr} {o : Obj}, s.heap.get? b = some o → (∀ v n, o.data ≠ .seq v n) → o.data ≠ .fields #[] → hpL K cs a vs ns b = none := fun {b o} e h1 h2 => Classical.byContradiction fun h => by
    rcases kinds e h with c | ⟨v, n, c⟩
    · exact h2 c
    · exact h1 v n c
  have hid : ∀ {b : Addr} {o : Obj}, s.heap.get? b = some o → hpL K cs a vs ns b = none → (hidT s.heap (hpL K cs a vs ns)).get? b = some o := fun e n => hidT_get e n
  have freeD : ∀ {b : Addr} {o : Obj} {es : Array DictEntry} {ep : Nat}, s.heap.get? b = some o → o.data = .dict es ep → hpL K cs a vs ns b = none := fun {b o es ep} e d => free e (fun v n z => by rw [d] at z; cases z) fun z => by rw [d] at z; cases z
  have nsT : ∀ {b : Addr} {f : Str → Option Value}, s.heap.Ns b f → (hidT s.heap (hpL K cs a vs ns)).Ns b f := fun {b f} ⟨o, es, ep, e, d, r⟩ => ⟨o, es, ep, hid e (freeD e d), d, r⟩
  have kin : K.In (hidT s.heap (hpL K cs a vs ns)) := fun b o e => hid (KX b o e) (by
    cases q : hpL K cs a vs ns b with
    | none => rfl
    | some u =>
      rcases hpL_inv q with ⟨c, _⟩ | ⟨c, k, _⟩
      · obtain ⟨p, hp, rfl⟩ := List.mem_map.mp c
        rw [notK p hp] at e
        cases e
      · rw [c, k] at e
        cases e)
  have md : L2.Mod K mg (hidT s.heap (hpL K cs a vs ns)) := ⟨kin, nsT hns, ⟨mb, nsT hb, hbb⟩, let ⟨mc, h1, h2⟩ := lim; ⟨mc, nsT h1, h2⟩⟩
  have aNot : a ∉ cs.map (·.2) := fun h => by
    have q := inTab a h
    rw [ha] at q
    cases congrArg Obj.data (Option.some.inj q)
  have tb : ∀ p ∈ cs, TabB (hidT s.heap (hpL K cs a vs ns)) mg p.1 p.2 := fun p hp => by
    refine ⟨?_, ?_, fun z => ?_⟩
    · obtain ⟨o, us, file, tf, flags, tg, inF, text, tt, e, r1, r2, r3, rest⟩ := codes p hp
      refine ⟨o, us, file, tf, flags, tg, inF, text, tt, hid e (free e (fun v n z => ?_) fun z => ?_), r1, r2, r3, rest⟩
      · rw [r2] at z; cases z
      · rw [r2] at z
        cases z
        simp at r3
    · obtain ⟨bm, ob, b1, b2, b3, b4, b5, b6⟩ := bmain
      refine ⟨bm, ob, b1, b2, fun q => ?_, fun q => ?_, hid b3 (free b3 (fun v n z => ?_) fun z => ?_), b4, b5, b6⟩
      · obtain ⟨o, es, ep, e, hd, _⟩ := hns
        rw [q, e] at b3
        cases b3
        rw [hd] at b6
        cases b6
      · rw [q, tabs p hp] at b3
        cases b3
        cases b6
      · rw [b6] at z; cases z
      · rw [b6] at z; cases z
    · obtain ⟨o, es, ep, e, hd, _⟩ := hns
      rw [z, tabs p hp] at e
      cases e
      cases hd
  have hok : HOk P w (hpL K cs a vs ns) s.heap := fun b u q => by
    rcases hpL_inv q with ⟨c, rfl⟩ | ⟨c, _, rfl⟩
    · exact inTab b c
    · rw [c]
      exact ⟨ha, by rw [List.length_map]; exact hl, vs, _, rvs, ha⟩
  have e0 : Env0 P w K mg (hidT s.heap (hpL K cs a vs ns)) callerA [] s (hpL K cs a vs ns) :=
    ⟨rfl, md, fun b o e => of_hidT e, Nat.le_of_eq (hidT_size _ _), trivial, fun b h => absurd (show b ∈ ([] : List Addr) from h) (by simp), hok, .of_eq hg⟩
  have sq : SqL K (hpL K cs a vs ns) a (ns.map V.int) := by
    cases k : K.lookup a with
    | none => exact .inl (.inr ⟨_, (if_neg aNot).trans (if_pos ⟨rfl, k⟩)⟩)
    | some o =>
      have e := KX a o k
      rw [ha] at e
      cases e
      exact .inr ⟨_, vs.toArray, _, k, rfl, rfl, rfl, by rw [List.size_toArray, hi.length]; exact hl, by simpa using rvs⟩
  have sp := sp_law (C := C) (m := m) (H := hpL K cs a vs ns) (fun p hp => by
    obtain ⟨c, hc⟩ := hT p hp
    exact LamX.TabS.nil (if_pos (List.mem_map.mpr ⟨_, hc, rfl⟩))) sq hm
  refine codeAny_mono (F _ tb s _ ⟨[.ref a], []⟩ [.ref a] [.ref a] _ _ e0 (bind (.ref a)) (.cons rfl .nil) sp) fun r s' h => ?_
  match r, h with
  | .error e, h => exact (cx_false (w := w) rfl h).elim
  | .ok .next, h => exact h.elim
  | .ok .brk, h => exact h.elim
  | .ok .cont, h => exact h.elim
  | .ok (.ret u), h =>
    obtain ⟨v, H', os, bare, un, hok', rv, q⟩ := h
    obtain rfl : v = .bl true := q
    obtain rfl : u = Value.bool true := rv
    have grown : ∀ b, b ∈ cs.map (·.2) → ∃ more : Array Value, s'.heap.get? b = some { cls := .none, data := .fields more } := fun b c => by
      obtain ⟨more, z⟩ := un.tbls b #[] (if_pos c)
      exact ⟨_, hok' b _ z⟩
    have stays : ∀ b o, b ∉ cs.map (·.2) → s.heap.get? b = some o → s'.heap.get? b = some o := fun b o nb e => by
      cases q : hpL K cs a vs ns b with
      | none => exact un.keep b o e q (fun z => absurd (show b ∈ ([] : List Addr) from z) (by simp)) (by simp)
      | some u =>
        rcases hpL_inv q with ⟨c, _⟩ | ⟨c, _, rfl⟩
        · exact absurd c nb
        · have e2 := (hok' b _ (un.frzs b _ _ q)).1
          rw [c] at e ⊢
          rw [ha] at e
          cases e
          rw [c] at e2
          exact e2
    refine ⟨rfl, ⟨fun b o e => ?_, fun b o e => ?_⟩, os, bare⟩
    · by_cases c : b ∈ cs.map (·.2)
      · obtain ⟨p, hp, rfl⟩ := List.mem_map.mp c
        obtain ⟨more, hm⟩ := grown _ c
        rw [tabs p hp] at e
        cases e
        exact .inr (.inl ⟨((codes p hp).tab (tabs p hp)).isCodeTable, rfl, #[], more, rfl, by rw [Array.empty_append]; exact hm⟩)
      · exact .inl (stays b o c e)
    · by_cases c : b ∈ cs.map (·.2)
      · obtain ⟨more, hm⟩ := grown b c
        exact ⟨_, hm⟩
      · exact ⟨o, stays b o c e⟩
end
section
variable {P : Program} {w : World} {K : Fr} {mg : Str → Option Value} {base : Heap} {C : Cl} {k : Nat} {x : Str} {st : Stmt} {ps N : List Str} {mb : MS} {c f : Addr}
/-- a def's body, run at the claim's caller -/
theorem runL_of {oc : Value} {od : Option Addr} {kV doc pm : Value} {an : Option Addr} {cdv ct : Value} {osl : Array (Option Value)} (lk : K.lookup f = some ⟨oc, od, .func (PySem.W.fnOf x x (defArgs st) (defBody st) (defScope st) .none kV doc pm an cdv ct), osl⟩) (hcd : PySem.W.codeIn K cdv x = true)
    (S : FnScope N ps (defScope st)) (hC : ∀ c A, C c = some A → mg c = some (.ref A)) (hr : Room (k + 1) callerA)
    (hbody : ∀ (s : Shared) (H : Hp) (E : XK) (B : Bs), B.C = C → B.xs = none → Room k (callerA.deeper (envOfC x (defScope st) s.heap.objs.size f cdv)) →
      Plc (cxOf (L2N.CX P w) P w K mg base N x (defScope st) f cdv callerA [] s H E) B (fun cls d _ H => E cls d H) → PassesOwn (model P w) (callerA.deeper (envOfC x (defScope st) s.heap.objs.size f cdv)) (envOfC x (defScope st) s.heap.objs.size f cdv) (cxOf (L2N.CX P w) P w K mg base N x (defScope st) f cdv callerA [] s H E).xe →
      PSsD (cxOf (L2N.CX P w) P w K mg base N x (defScope st) f cdv callerA [] s H E) B (fun cls d _ H => E cls d H) (defBody st) mb) :
    RunL P w K mg base C f (PySem.W.fnOf x x (defArgs st) (defBody st) (defScope st) .none kV doc pm an cdv ct) ps (fnM N.length mb) := by
  intro s H args us vs Q E e0 hb r h
  have hl : vs.length = ps.length := by
    obtain ⟨_, _, _, _, h, _⟩ := h
    exact h
  refine run_ofS lk hcd S hr e0 hb r hl fun hr' => ?_
  obtain ⟨L, E', S', as, h1, h2, st', exd, ar, h⟩ := h
  have tk : L2N.Takes (cxOf (L2N.CX P w) P w K mg base N x (defScope st) f cdv callerA [] s H E) (fun cls d _ H => E cls d H) := L2N.takes_of rfl rfl rfl rfl
  obtain ⟨t, p, sm⟩ := hbody s H E ⟨K, C, E', H, L, E', none⟩ rfl rfl hr' ⟨⟨rfl, room_units hr', tk, hC, fun _ _ _ h => nomatch h⟩, rfl⟩ (passes_of rfl)
  refine ⟨t, p, ?_⟩
  refine sm ⟨as ++ List.replicate (N.length - as.length) .un, S'⟩ (start N vs) H L _ (Rel.entry (by rw [h1, h2]) st' exd ar) ?_
  unfold fnM at h
  generalize mb ⟨as ++ List.replicate (N.length - as.length) .un, S'⟩ = r at h ⊢
  match r, h with
  | .nx z, h => exact fun σ H' L' R g => h .non H' L' R.back (by simp [Imm])
  | .rt d z, h => exact fun v σ H' L' R q => h v H' L' R.back q
  | .err x z, h => exact fun cls dd σ H' L' R g q => h cls dd H' L' R.back (ExnRel.weak (fun a h => h.imp id .inl) q)
  | .bad, h => exact h.elim
  | .bk _, h => exact h.elim
  | .ct _, h => exact h.elim
/-- the law, its code object at c, at the claim's caller -/
structure LawRun (P : Program) (w : World) (K : Fr) (mg : Str → Option Value) (base : Heap) (C : Cl) (x : Str) (st : Stmt) (ps : List Str) (c : Addr) (m : MF) : Prop where
  run : ∀ (f : Addr) (oc : Value) (od : Option Addr) (kV doc pm : Value) (an : Option Addr) (ct : Value) (osl : Array (Option Value)), K.lookup f = some ⟨oc, od, .func (PySem.W.fnOf x x (defArgs st) (defBody st) (defScope st) .none kV doc pm an (.ref c) ct), osl⟩ → PySem.W.codeIn K (.ref c) x = true →
    RunL P w K mg base C f (PySem.W.fnOf x x (defArgs st) (defBody st) (defScope st) .none kV doc pm an (.ref c) ct) ps m
end
/-- the law's call, from what its text means: with tables of code objects, at the claim's caller -/
theorem walk_DL {l : PySem.W.OpenLaw} {n : Nat} {q : Program} {loose : List Str} {XP : (Str → Option Value) → Heap → Prop} {YP : World → Heap → Prop} {d : DefRec} {Kw : Params → Fr} {x : Str} {st : Stmt}
    (hn : l.most = some n) (hn2 : n ≤ sizeLine) (hdf : d.params.defaults = []) (hY : ∀ (w : World) (h : Heap), YP w h → (Kw w.params).In h)
    (hbd : ∀ (kV doc pm : Value) (an : Option Addr) (cdv ct u : Value), bindArgs (PySem.W.fnOf d.name d.name (defArgs st) (defBody st) (defScope st) .none kV doc pm an cdv ct) ⟨[u], []⟩ = pure [(x, u)])
    (F : ∀ (w : World) (mg : Str → Option Value) (h : Heap), YP w h → (Kw w.params).In h → h.Ns mainGlobals mg → XP mg h →
      (∀ (x : Str) (c P : Addr), ((recsOf q).any fun e => e.name == x) = true → PySem.W.tabIn (Kw w.params) x = some (c, P) → PySem.W.CodeHd h c P ∧ h.get? P = some { cls := .none, data := .fields #[] }) →
      ∃ (C : Cl) (m : MF) (c : Addr) (cs : List (Addr × Addr)), (∀ p ∈ cs, h.get? p.2 = some { cls := .none, data := .fields #[] }) ∧ (∀ p ∈ cs, (Kw w.params).lookup p.2 = none) ∧ (∀ p ∈ cs, PySem.W.CodeHd h p.1 p.2) ∧ (∀ p ∈ C.T, ∃ c, (c, p.1) ∈ cs) ∧ DfC (Kw w.params) mg d.name st [x] c ∧
        (∀ base : Heap, (∀ p ∈ cs, LamX.TabB base mg p.1 p.2) → LawRun l.prog w (Kw w.params) mg base C d.name st [x] c m) ∧ ∀ ns : List Int, ∃ S, m [.val (.lst (ns.map .int))] [] = .ok (.bl true) S) :
    PySem.W.WalkO q loose XP YP l.row.toRowW d [] (fun f vs => PySem.call f vs) := by
  refine Att.attach_call hn hdf ?_
  intro w s₀ s₁ mg mb fa o pm cd doc a vs ns G Y ho hd hcd hmg hobj hints hlen hg
  have KX := hY w _ Y
  obtain ⟨C, m, c, cs, h1, h2, h3, h4, hD, hF, hm⟩ := F w mg _ Y KX G.T.g G.X fun x c P hr ht => by
    rw [List.any_eq_true] at hr
    obtain ⟨e, he, hx⟩ := hr
    cases hf : (recsOf q).find? fun e => e.name == x with
    | none => exact absurd hx (by simpa using List.find?_eq_none.mp hf e he)
    | some d2 => exact PySem.W.tab_of G.T KX hf ht
  obtain ⟨f, oc, od, kV, doc', pm', an, ct, osl, hlk, hco, hmf, hkp, hbi⟩ := hD
  obtain rfl : fa = f := by
    have e := hmg.symm.trans hmf
    cases e
    rfl
  exact law_runs (m := m) KX G.T.g G.T.b G.T.builtins G.T.nolimit hg h1 h2 h3 G.T.bmain hobj hints (Nat.le_trans hlen hn2) (fun base tb => (hF base tb).run _ _ _ _ _ _ _ _ _ hlk hco) (fun u => .of_eq (hbd ..)) h4 (hm ns)
end DL
set_option Elab.async false
set_option linter.all false
set_option maxRecDepth 100000
set_option maxHeartbeats 2000000
/-! what a class of the text brings: makers of its facts; an exception's field where other classes stand beside; list + list as a fresh list -/
namespace DL
open PySem PySem.Spec L2 PyProof.Rows PySem.Calls
def clsBody : Stmt → List Stmt
  | .ClassDef _ _ _ b _ _ _ _ _ _ _ => b
  | _ => []
/-- a def of the class at A -/
structure DmA (K : Fr) (A : Addr) (m qual : Str) (st : Stmt) (ps : List Str) : Prop where
  ex : ∃ f fd, L2.Meth K A m f ∧ Fun K m qual st f fd ∧ Binds K fd ps []
theorem DmA.dm {K : Fr} {C : Cl} {A : Addr} {c m qual : Str} {st : Stmt} {ps : List Str} (D : DmA K A m qual st ps) (h : C c = some A) (hc : L2.Cls K A) : Dm K C c m qual st ps := by
  obtain ⟨f, fd, h1, h2, h3⟩ := D
  exact ⟨A, f, fd, h, hc, h1, h2, h3⟩
structure DpA (K : Fr) (A : Addr) (m qual : Str) (st : Stmt) (ps : List Str) : Prop where
  ex : ∃ p g fd, L2.PropOf K A m p g ∧ Fun K m qual st g fd ∧ Binds K fd ps []
theorem DpA.dp {K : Fr} {C : Cl} {A : Addr} {c m qual : Str} {st : Stmt} {ps : List Str} (D : DpA K A m qual st ps) (h : C c = some A) (hc : L2.Cls K A) : Dp K C c m qual st ps := by
  obtain ⟨p, g, fd, h1, h2, h3⟩ := D
  exact ⟨A, p, g, fd, h, hc, h1, h2, h3⟩
theorem dmA_mk {K : Fr} {A : Addr} {m qual : Str} {st : Stmt} {ps : List Str} {f : Addr} {oc : Value} {od an : Option Addr} {osl : Array (Option Value)} {kV doc pm cdv ct : Value}
    (hb : ∀ (kV doc pm : Value) (an : Option Addr) (cdv ct : Value) (us : List Value), us.length = ps.length → bindArgs (PySem.W.fnOf m qual (defArgs st) (defBody st) (defScope st) .none kV doc pm an cdv ct) ⟨us, []⟩ = pure (ps.zip us))
    (a : PySem.W.findIn K (.ref A) m = some (some (.ref f))) (n : PySem.W.isFn K (.ref f) = true)
    (l : K.lookup f = some ⟨oc, od, .func (PySem.W.fnOf m qual (defArgs st) (defBody st) (defScope st) .none kV doc pm an cdv ct), osl⟩) (c : PySem.W.codeIn K cdv qual = true) (k : PySem.W.keepIn K (.ref f) = true) : DmA K A m qual st ps :=
  ⟨f, _, ⟨a, n, k⟩, fun_mk l c k, (fun_mk l c k).binds hb⟩
theorem dpA_mk {K : Fr} {A : Addr} {m qual : Str} {st : Stmt} {ps : List Str} {p f : Addr} {rest : List Value} {oc : Value} {od an : Option Addr} {osl : Array (Option Value)} {kV doc pm cdv ct : Value}
    (hb : ∀ (kV doc pm : Value) (an : Option Addr) (cdv ct : Value) (us : List Value), us.length = ps.length → bindArgs (PySem.W.fnOf m qual (defArgs st) (defBody st) (defScope st) .none kV doc pm an cdv ct) ⟨us, []⟩ = pure (ps.zip us))
    (a : PySem.W.findIn K (.ref A) m = some (some (.ref p))) (g : PySem.W.specialIn K (.ref p) "__get__" = some (some (.builtin "property.__get__"))) (tk : PySem.W.takesIn K (.ref p) = some true) (r : PySem.W.recIn K p "property" = some (.ref f :: rest))
    (l : K.lookup f = some ⟨oc, od, .func (PySem.W.fnOf m qual (defArgs st) (defBody st) (defScope st) .none kV doc pm an cdv ct), osl⟩) (c : PySem.W.codeIn K cdv qual = true) (k : PySem.W.keepIn K (.ref f) = true) : DpA K A m qual st ps :=
  ⟨p, f, _, ⟨a, g, tk, _, r⟩, fun_mk l c k, (fun_mk l c k).binds hb⟩
section
variable {X : Cx} {B : Bs} {E : WX} {e a b : Expr} {pos : Pos} {m ma mb : M W} {z z' : Z} {σ σ' : L2.St} {H H' : Hp} {L L' : List Addr}
/-- e.f, e an exception of one of the classes cs -/
def fExC (cs : List Str) (f : Str) (w : W) : M W := fun z => flat (match w with
  | .own i => match z.sl[i]? with
    | some (.exn x) => if cs.contains x.cls then x.fs.lookup f else none
    | _ => none
  | _ => none) z
theorem d_excC {cs : List Str} {f : Str} {pos' : Pos} (P : Pl X B E) (hT : ∀ c A, B.C c = some A → cs.contains c = true → XcK X.K A ∧ PySem.W.findIn X.K (.ref A) f = some none) (ha : PED X B E e m) (hb : attributeBase e f X.env (eval e X.env) = eval e X.env := by rfl) :
    PED X B E (.Attribute e f pos') (mBind m (fExC cs f)) := by
  obtain ⟨t, pa, sa⟩ := ha
  refine ⟨fun σ H Q => t σ H fun x H1 => ∃ a A dd vs Ee v, x = .ref a ∧ B.xs = some (a, A, dd) ∧ XdAt Ee H1 dd vs ∧ XcK X.K A ∧ PySem.W.findIn X.K (.ref A) f = some none ∧ vs.lookup f = some v ∧ Q v H1, ⟨fun pins s σ H Q I h => ?_⟩, fun z σ H L Q R h => ?_⟩
  · refine attr_of hb (thn (pa.run pins s σ H _ I h) fun u s1 hh => ?_)
    obtain ⟨x, H1, I1, rx, a, A, dd, vs, Ee, v, ex, e1, hx, T, hn, hl, q⟩ := hh
    subst ex
    obtain rfl : u = Value.ref a := rx
    obtain ⟨oe, hp, hz, hf⟩ := P.xs a A dd e1
    obtain ⟨od, J, hlk⟩ := xd_inst I1 hp hz hf hx
    obtain ⟨oo, w, rfl, ew, rw⟩ := hlk f v hl
    exact HandSPX.exc_get I1.kIn J T.ga T.gg T.exC (PySem.W.findObj_own T.hdC hn rfl ew) (handed_of rw) ⟨v, H1, I1.tok _, rw, q⟩
  · refine sa z σ H L _ R (AftE.bind h fun w z1 v1 H1 L1 R1 g1 h1 k1 => ?_)
    obtain ⟨d, ed, q⟩ := flat_of R1 k1
    split at ed
    · split at ed
      · rename_i x es
        split at ed
        · rename_i hc
          obtain ⟨a, A, dd, vs, rfl, e1, e2, e3, e4⟩ := exn_of R1 h1 es
          obtain ⟨v, ev, im⟩ := immF_lookup e4 ed
          obtain ⟨t1, t2⟩ := hT _ _ e2 hc
          exact ⟨a, A, dd, vs, _, v, rfl, e1, e3, t1, t2, ev, q _ (vrel_imm im)⟩
        · cases ed
      · cases ed
    · cases ed
/-- list + list, a fresh one -/
def fAddF (x y : W) : M Cell := fun z => frL (match z.cont x, z.cont y with
  | some (.lst a), some (.lst b) => if a.length + b.length ≤ sizeLine then some (a ++ b) else none
  | _, _ => none) z
theorem df_add (P : Pl X B E) (ha : PED X B E a ma) (hb : PED X B E b mb) : PFD X B E (.BinOp a .Add b pos) (fun z => (ma z).bind fun x z1 => (mb z1).bind fun y z2 => fAddF x y z2) := by
  obtain ⟨t1, p1, s1⟩ := ha
  obtain ⟨t2, p2, s2⟩ := hb
  refine ⟨_, pe_op op_catS p1 p2, fun z σ H L Q R h => ?_⟩
  refine s1 z σ H L _ R (AftE.bind h fun x z1 v H1 L1 R1 g1 hx k1 => ?_)
  refine s2 z1 σ H1 L1 _ R1 (AftE.bind k1 fun y z2 w H2 L2 R2 g2 hy k2 => ?_)
  obtain ⟨xs, e, q⟩ := frL_of R2 (fun a h => g2.dom a (g1.dom a h)) k2
  split at e
  · rename_i as bs ea eb
    split at e
    · rename_i hl
      cases e
      obtain ⟨p, us, rfl, hp, iu⟩ := R2.readL (VRel.stay g2 hx) ea
      obtain ⟨r, ws, rfl, hr, iw⟩ := R2.readL hy eb
      rw [P.K] at hp hr
      exact ⟨p, r, us, ws, rfl, rfl, hp, hr, by rw [iu.length, iw.length]; exact hl, fun l hl => q _ l (iu.append iw) hl⟩
    · cases e
  · cases e
end
end DL
set_option Elab.async false
set_option linter.all false
set_option maxRecDepth 100000
set_option maxHeartbeats 4000000
/-! simp lemmas: what the meanings compute over cells, objects, lambdas -/
namespace DL
open PySem L2
theorem sizeS : sizeLine = 16777216 := rfl
theorem okRg_of {i : Int} (h0 : 0 ≤ i) (h : i < 1000000) : okRg i = true := decide_eq_true (by omega : i.natAbs < 4611686018427387904)
@[simp] theorem e_rng1 {j : Int} (z : Z) (h : okRg j = true) : fRange1 [.d (.int j)] z = .ok (rangeD 0 j.toNat) z := by rw [e_rg1, if_pos h]
@[simp] theorem e_rng2 {i j : Int} (z : Z) (h : okRg i = true) (h2 : okRg j = true) : fRange2 [.d (.int i), .d (.int j)] z = .ok (rangeD i (j - i).toNat) z := by rw [e_rg2, h, h2]; rfl
@[simp] theorem atI0 {α : Type} (c : α) (cs : List α) : atI (c :: cs) 0 = some c := by
  unfold atI ixN
  simp
@[simp] theorem atI1 {α : Type} (c d : α) (cs : List α) : atI (c :: d :: cs) 1 = some d := by
  unfold atI ixN
  have h : (1 : Int) < ((c :: d :: cs).length : Int) := by simp only [List.length_cons]; omega
  rw [if_pos (by decide), if_pos h]
  rfl
@[simp] theorem atI2 {α : Type} (c d e : α) (cs : List α) : atI (c :: d :: e :: cs) 2 = some e := by
  unfold atI ixN
  have h : (2 : Int) < ((c :: d :: e :: cs).length : Int) := by simp only [List.length_cons]; omega
  rw [if_pos (by decide), if_pos h]
  rfl
@[simp] theorem atI3 {α : Type} (c d e f : α) (cs : List α) : atI (c :: d :: e :: f :: cs) 3 = some f := by
  unfold atI ixN
  have h : (3 : Int) < ((c :: d :: e :: f :: cs).length : Int) := by simp only [List.length_cons]; omega
  rw [if_pos (by decide), if_pos h]
  rfl
@[simp] theorem atI4 {α : Type} (c d e f g : α) (cs : List α) : atI (c :: d :: e :: f :: g :: cs) 4 = some g := by
  unfold atI ixN
  have h : (4 : Int) < ((c :: d :: e :: f :: g :: cs).length : Int) := by simp only [List.length_cons]; omega
  rw [if_pos (by decide), if_pos h]
  rfl
@[simp] theorem atIn {α : Type} : atI ([] : List α) 0 = none := by
  unfold atI ixN
  simp
theorem atI_get {α : Type} (cs : List α) (k : Nat) (h : k < cs.length) : atI cs (k : Int) = some cs[k] := by
  unfold atI ixN
  rw [if_pos (by omega), if_pos (by omega)]
  simp [h]
theorem atI_nat {α : Type} (cs : List α) (i : Int) (h0 : 0 ≤ i) (h1 : i < (cs.length : Int)) : ∃ c, c ∈ cs ∧ atI cs i = some c := by
  obtain ⟨k, rfl⟩ := Int.eq_ofNat_of_zero_le h0
  have hk : k < cs.length := by omega
  exact ⟨cs[k], List.getElem_mem hk, atI_get cs k hk⟩
@[simp] theorem e_gSub (mo mi : M W) (d : D) (z : Z) : gSubD mo mi d z = (mo z).bind fun o z1 => (mi z1).bind fun i z2 => match setItemZ z2 o i d with
  | some z3 => .ok () z3
  | none => .bad := rfl
@[simp] theorem e_setO (n : Nat) (k : Int) (d : D) (sl : List Sl) (st : List Cell) : setItemZ ⟨sl, st⟩ (.d (.obj n)) (.d (.int k)) d = match st[n]? with
  | some (.lst xs) => (match ixN xs.length k with
    | some j => some ⟨sl, st.set n (.lst (xs.set j d))⟩
    | none => none)
  | _ => none := by
  unfold setItemZ Z.mut
  dsimp only
  cases h : st[n]? with
  | none => rfl
  | some c => cases c <;> rfl
@[simp] theorem ix40 : ixN 4 0 = some 0 := by decide
@[simp] theorem ix43 : ixN 4 3 = some 3 := by decide
@[simp] theorem ix51 : ixN 5 1 = some 1 := by decide
@[simp] theorem ix52 : ixN 5 2 = some 2 := by decide
@[simp] theorem ix53 : ixN 5 3 = some 3 := by decide
@[simp] theorem ix54 : ixN 5 4 = some 4 := by decide
theorem fm {i j : Int} (h : 0 < j) : 0 ≤ i.fmod j ∧ i.fmod j < j := ⟨Int.fmod_nonneg_of_pos _ h, Int.fmod_lt_of_pos _ h⟩
theorem get_set {α : Type} {l : List α} {n : Nat} {x : α} (h : l[n]? = some x) (y : α) : (l.set n y)[n]? = some y := by
  obtain ⟨hl, _⟩ := List.getElem?_eq_some_iff.mp h
  simp [hl]
@[simp] theorem e_mCell (m : M Cell) (z : Z) : mCell m z = (m z).bind fun c z1 => .ok (.obj z1.st.length) { z1 with st := z1.st ++ [c] } := rfl
@[simp] theorem e_for (m : M (List D)) (g : D → M Unit) (b : MS) (z : Z) : sFor m g b z = (m z).bindS fun ds z1 => forGo g b ds z1 := rfl
theorem forGo_inv {g : D → M Unit} {b : MS} (I : Z → Prop) : ∀ (ds : List D) (z : Z), (∀ d ∈ ds, ∀ z, I z → ∃ z1 z2, g d z = .ok () z1 ∧ b z1 = .nx z2 ∧ I z2) → I z → ∃ z', forGo g b ds z = .nx z' ∧ I z'
  | [], z, _, h => ⟨z, rfl, h⟩
  | d :: ds, z, hs, h => by
    obtain ⟨z1, z2, e1, e2, h2⟩ := hs d (List.mem_cons_self ..) z h
    obtain ⟨z', e3, h3⟩ := forGo_inv I ds z2 (fun x hx => hs x (List.mem_cons_of_mem _ hx)) h2
    refine ⟨z', ?_, h3⟩
    unfold forGo
    simp only [e1, e2, e3]
theorem forGo_cnt {g : D → M Unit} {b : MS} (I : Nat → Z → Prop) (N : Nat) : ∀ (ds : List D) (k : Nat) (z : Z), (∀ k d z, k < N → d ∈ ds → I k z → ∃ z1 z2, g d z = .ok () z1 ∧ b z1 = .nx z2 ∧ I (k + 1) z2) → k + ds.length ≤ N → I k z → ∃ z', forGo g b ds z = .nx z' ∧ I (k + ds.length) z'
  | [], k, z, _, _, h => ⟨z, rfl, h⟩
  | d :: ds, k, z, hs, hn, h => by
    simp only [List.length_cons] at hn ⊢
    obtain ⟨z1, z2, e1, e2, h2⟩ := hs k d z (by omega) (List.mem_cons_self ..) h
    obtain ⟨z', e3, h3⟩ := forGo_cnt I N ds (k + 1) z2 (fun k x z hk hx => hs k x z hk (List.mem_cons_of_mem _ hx)) (by omega) h2
    refine ⟨z', ?_, by rw [show k + (ds.length + 1) = k + 1 + ds.length by omega]; exact h3⟩
    unfold forGo
    simp only [e1, e2, e3]
@[simp] theorem e_addII (i j : Int) (z : Z) : fAddI (.d (.int i)) (.d (.int j)) z = .ok (.d (.int (i + j))) z := rfl
@[simp] theorem e_aug (i : Nat) (m : M D) (f : W → W → M W) (z : Z) : sAug i m f z = (mV i z).bindS fun x _ => (m z).bindS fun y z1 => (f x (.d y) z1).bindS fun w z2 => match w with
  | .d d => .nx (z2.set i (.val d))
  | .own _ => .bad := rfl
@[simp] theorem nonN : isNonD .non = true := rfl
@[simp] theorem nonB (b : Bool) : isNonD (.bl b) = false := rfl
@[simp] theorem nonI (i : Int) : isNonD (.int i) = false := rfl
@[simp] theorem nonS (s : Str) : isNonD (.str s) = false := rfl
@[simp] theorem nonT (xs : List D) : isNonD (.tup xs) = false := rfl
@[simp] theorem nonL (xs : List D) : isNonD (.lst xs) = false := rfl
@[simp] theorem nonO (n : Nat) : isNonD (.obj n) = false := rfl
/-! ### lambdas -/
@[simp] theorem e_act (i : Nat) (u : V) (th : List Cell → RF) (sl : List Sl) (st : List Cell) : mAct i u th ⟨sl, st⟩ = match sl[i]? with
  | some (.val (.con v)) => if v = u then (th st).on ⟨sl, st⟩ else .bad
  | _ => .bad := rfl
@[simp] theorem on_ok (d : D) (S : List Cell) (sl : List Sl) (st : List Cell) : (RF.ok d S).on ⟨sl, st⟩ = .ok d ⟨sl, S⟩ := rfl
@[simp] theorem on_err (x : Exn) (S : List Cell) (sl : List Sl) (st : List Cell) : (RF.err x S).on ⟨sl, st⟩ = .err x ⟨sl, S⟩ := rfl
@[simp] theorem on_bad (z : Z) : RF.bad.on z = .bad := rfl
@[simp] theorem e_mLam (mx : (List Cell → RF) → List Cell → RF) (ml : M D) (sl : List Sl) (st : List Cell) : mLam mx ml ⟨sl, st⟩ = (mx (thunk ml ⟨sl, st⟩) st).on ⟨sl, st⟩ := rfl
@[simp] theorem e_thunk (ml : M D) (sl : List Sl) (st S : List Cell) : thunk ml ⟨sl, st⟩ S = match ml ⟨sl.map lamSl, S⟩ with
  | .ok d z' => .ok d z'.st
  | .err x z' => .err x z'.st
  | .bad => .bad := rfl
@[simp] theorem lamSl_val (d : D) : lamSl (.val d) = .val d := rfl
@[simp] theorem lamSl_un : lamSl .un = .un := rfl
/-! ### exceptions' fields -/
@[simp] theorem e_exC (cs : List Str) (f : Str) (i : Nat) (sl : List Sl) (st : List Cell) : fExC cs f (.own i) ⟨sl, st⟩ = match sl[i]? with
  | some (.exn x) => if cs.contains x.cls then (match x.fs.lookup f with
    | some d => .ok (.d d) ⟨sl, st⟩
    | none => .bad) else .bad
  | _ => .bad := by
  unfold fExC
  dsimp only
  cases h : sl[i]? with
  | none => rfl
  | some s =>
    cases s <;> try rfl
    rename_i x
    dsimp only
    split
    · cases x.fs.lookup f <;> rfl
    · rfl
/-! ### cells -/
section
variable {n : Nat} {sl : List Sl} {st : List Cell} {xs ys : List D} {c : Str} {fs : List (Str × D)}
theorem c_len (h : st[n]? = some (.lst xs)) : fLen [.d (.obj n)] ⟨sl, st⟩ = .ok (.d (.int xs.length)) ⟨sl, st⟩ := by
  unfold fLen Z.cont
  simp [h]
theorem c_list (h : st[n]? = some (.lst xs)) : fList [.d (.obj n)] ⟨sl, st⟩ = .ok (.d (.lst xs)) ⟨sl, st⟩ := by
  unfold fList Z.seq Z.cont
  simp [h]
theorem c_listF (h : st[n]? = some (.lst xs)) : fListF [.d (.obj n)] ⟨sl, st⟩ = .ok (.lst xs) ⟨sl, st⟩ := by
  unfold fListF Z.seq Z.cont
  simp [h]
@[simp] theorem e_listF (ds : List D) (z : Z) : fListF [.d (.lst ds)] z = .ok (.lst ds) z := rfl
@[simp] theorem e_listFT (ds : List D) (z : Z) : fListF [.d (.tup ds)] z = .ok (.lst ds) z := rfl
theorem c_isL (h : st[n]? = some (.lst xs)) : Z.isMT ⟨sl, st⟩ .lst (.d (.obj n)) = true := by
  unfold Z.isMT Z.cont
  simp [h]
theorem c_append {d : D} (h : st[n]? = some (.lst xs)) (hl : xs.length < 16777216) : fAppend (.d (.obj n)) [.d d] ⟨sl, st⟩ = .ok (.d .non) ⟨sl, st.set n (.lst (xs ++ [d]))⟩ := by
  unfold fAppend
  simp [Z.mut, Z.put, h, sizeS, hl]
theorem c_clear (h : st[n]? = some (.lst xs)) : fClear (.d (.obj n)) [] ⟨sl, st⟩ = .ok (.d .non) ⟨sl, st.set n (.lst [])⟩ := by
  unfold fClear fLst0
  simp [Z.mut, Z.put, h]
theorem c_extend {m : Nat} (h : st[n]? = some (.lst xs)) (h2 : st[m]? = some (.lst ys)) (hl : xs.length + ys.length ≤ 16777216) : fExtend (.d (.obj n)) [.d (.obj m)] ⟨sl, st⟩ = .ok (.d .non) ⟨sl, st.set n (.lst (xs ++ ys))⟩ := by
  unfold fExtend
  simp [Z.mut, Z.put, h, h2, sizeS, hl]
theorem c_slice {lo hi : Option Int} (h : st[n]? = some (.lst xs)) : fSl (.d (.obj n)) lo hi ⟨sl, st⟩ = .ok (.d (.lst (cutD xs lo hi))) ⟨sl, st⟩ := by
  have e1 : slS (.d (.obj n)) lo hi ⟨sl, st⟩ = .bad := rfl
  have e2 : slT (.d (.obj n)) lo hi ⟨sl, st⟩ = .bad := rfl
  unfold fSl
  rw [e1, e2]
  unfold slL Z.cont
  simp [h]
theorem c_fld {cs : List Str} {f : Str} {d : D} (h : st[n]? = some (.ins c fs)) (hc : cs.contains c = true) (hf : fs.lookup f = some d) : fFld cs f (.d (.obj n)) ⟨sl, st⟩ = .ok (.d d) ⟨sl, st⟩ := by
  unfold fFld Z.cont
  simp only [h, hc, hf, if_true]
  rfl
@[simp] theorem e_sFld (md : M D) (mo : M W) (cs : List Str) (f : Str) (z : Z) : sFldD md mo cs f z = (md z).bindS fun d z1 => (mo z1).bindS fun o z2 => match setFld cs f z2 o d with
  | some z3 => .nx z3
  | none => .bad := rfl
theorem c_setF {cs : List Str} {f : Str} {d : D} (h : st[n]? = some (.ins c fs)) (hc : cs.contains c = true) (hl : fs.length < 1000) : setFld cs f ⟨sl, st⟩ (.d (.obj n)) d = some ⟨sl, st.set n (.ins c (putFD f d fs))⟩ := by
  unfold setFld Z.mut
  simp only [h, hc, hl, decide_true, Bool.and_self, if_true, Z.put]
theorem c_meth {m : Str} {k : Nat} {tbl : Str → Option MF} {mo : M W} {ws : M (List W)} {mf : MF} {z : Z} (e : mo z = .ok (.d (.obj n)) ⟨sl, st⟩) (h : st[n]? = some (.ins c fs)) (ht : tbl c = some mf) (hf : fs.lookup m = none) :
    mMeth m k tbl mo ws z = (ws ⟨sl, st⟩).bind fun xs z2 => callF (k + 1) mf (.d (.obj n) :: xs) z2 := by
  unfold mMeth
  rw [e]
  simp only [R.bind_ok, Z.cont, h, ht, hf, if_true]
theorem c_methP {m : Str} {k kn : Nat} {is : List Nat} {tbl : Str → Option MF} {mo : M W} {ws wk : M (List W)} {mf : MF} {z : Z} (e : mo z = .ok (.d (.obj n)) ⟨sl, st⟩) (h : st[n]? = some (.ins c fs)) (ht : tbl c = some mf) (hf : fs.lookup m = none) :
    mMethP m k kn is tbl mo ws wk z = (ws ⟨sl, st⟩).bind fun xs z2 => (wk z2).bind fun ys z3 => callP (k + 1) kn is mf (.d (.obj n) :: xs) ys z3 := by
  unfold mMethP
  rw [e]
  simp only [R.bind_ok, Z.cont, h, ht, hf, if_true]
theorem c_prop {tbl : Str → Option MF} {mf : MF} {d : D} (h : st[n]? = some (.ins c fs)) (ht : tbl c = some mf) (hm : mf [.val (.obj n)] st = .ok d st) : fProp tbl (.d (.obj n)) ⟨sl, st⟩ = .ok d ⟨sl, st⟩ := by
  unfold fProp Z.cont
  simp only [h, ht]
  unfold callQ callF
  simp only [List.length_cons, List.length_nil, toArgs, toArg, hm, if_true]
theorem c_repr {tbl : Str → Option MF} {mf : MF} {t : Str} (h : st[n]? = some (.ins c fs)) (ht : tbl c = some mf) (hm : mf [.val (.obj n)] st = .ok (.str t) st) : fReprO tbl (.d (.obj n)) ⟨sl, st⟩ = .ok (.d (.str t)) ⟨sl, st⟩ := by
  unfold fReprO Z.cont
  simp only [h, ht]
  unfold callQ callF
  simp only [List.length_cons, List.length_nil, toArgs, toArg, hm, if_true]
  rfl
@[simp] theorem e_fmtI (i : Int) (z : Z) : fFmt (.d (.int i)) z = if i.natAbs.log2 < 1920 then .ok (.d (.str (Str.ofString (toString i)))) z else .bad := by
  unfold fFmt
  dsimp only
  split <;> rfl
@[simp] theorem e_js0 (acc : Str) (z : Z) : mJs [] acc z = .ok (.d (.str acc)) z := rfl
@[simp] theorem e_js1 (m : M W) (ms : List (M W)) (acc : Str) (z : Z) : mJs (m :: ms) acc z = (m z).bind fun x z1 => match x with
    | .d (.str y) => if (acc ++ y).length ≤ sizeLine then mJs ms (acc ++ y) z1 else .bad
    | _ => .bad := rfl
@[simp] theorem e_mMake (x : Str) (k : Nat) (mi : MF) (ws : M (List W)) (z : Z) : mMake x k mi ws z = (ws z).bind fun xs z1 => makeF x k mi xs z1 := rfl
@[simp] theorem e_makeF (x : Str) (k : Nat) (mi : MF) (ws : List W) (sl : List Sl) (st : List Cell) : makeF x k mi ws ⟨sl, st⟩ = if ws.length = k then match toArgs ⟨sl, st⟩ ws with
  | some as => match mi (.val (.obj st.length) :: as) (st ++ [.ins x []]) with
    | .ok .non S => .ok (.obj st.length) ⟨sl, S⟩
    | .err e S => .err e ⟨sl, S⟩
    | _ => .bad
  | none => .bad
  else .bad := rfl
@[simp] theorem e_mMakeP (x : Str) (k kn : Nat) (is : List Nat) (mi : MF) (ws wk : M (List W)) (z : Z) : mMakeP x k kn is mi ws wk z = (ws z).bind fun xs z1 => (wk z1).bind fun ys z2 => if xs.length = k ∧ ys.length = kn then makeF x is.length mi (pick is (xs ++ ys)) z2 else .bad := rfl
@[simp] theorem e_callP (k kn : Nat) (is : List Nat) (mi : MF) (xs ys : List W) (z : Z) : callP k kn is mi xs ys z = if xs.length = k ∧ ys.length = kn then callF is.length mi (pick is (xs ++ ys)) z else .bad := rfl
@[simp] theorem e_pick0 {α : Type} (xs : List α) : pick [] xs = [] := rfl
@[simp] theorem e_pick1 {α : Type} (i : Nat) (is : List Nat) (xs : List α) : pick (i :: is) xs = match xs[i]? with
    | some x => x :: pick is xs
    | none => pick is xs := rfl
theorem c_addF {x y : W} {z : Z} (hx : z.cont x = some (.lst xs)) (hy : z.cont y = some (.lst ys)) (hl : xs.length + ys.length ≤ 16777216) : fAddF x y z = .ok (.lst (xs ++ ys)) z := by
  unfold fAddF
  simp only [hx, hy, sizeS, hl, if_true]
  rfl
theorem c_extF {m : M W} {mc : M Cell} {z : Z} {sl2 : List Sl} {st2 : List Cell} (e : m z = .ok (.d (.obj n)) ⟨sl, st⟩) (h : st[n]? = some (.lst xs)) (e2 : mc ⟨sl, st⟩ = .ok (.lst ys) ⟨sl2, st2⟩) (h2 : st2[n]? = some (.lst xs)) (hl : xs.length + ys.length ≤ 16777216) :
    mExtF m mc z = .ok (.d .non) ⟨sl2, st2.set n (.lst (xs ++ ys))⟩ := by
  unfold mExtF
  rw [e]
  simp only [R.bind_ok, c_isL h, if_true, e2, Z.mut, h2, sizeS, hl, Z.put]
@[simp] theorem e_repF (mc : M Cell) (mb : M W) (z : Z) : mRepF mc mb z = (mc z).bind fun c z1 => (mb z1).bind fun y z2 => newL (match c, y with
  | .lst ds, .d (.int k) => if k < 2 ^ 63 ∧ -(2 ^ 63) ≤ k ∧ ds.length * k.toNat ≤ sizeLine then some (List.replicate k.toNat ds).flatten else none
  | _, _ => none) z2 := rfl
theorem c_gTU {k : Nat} {m : List D → M Unit} (h : st[n]? = some (.lst xs)) (hl : xs.length = k) : gTU k m (.obj n) ⟨sl, st⟩ = m xs ⟨sl, st⟩ := by
  unfold gTU gU Z.cont
  simp only [h, hl, if_true]
theorem c_reprL {x : W} {ns : List Int} {z : Z} (h : z.cont x = some (.lst (ns.map D.int))) (h1 : PyData.showable (.list (ns.map .int)) = true) (h2 : (PyData.shown (.list (ns.map .int))).length ≤ sizeLine) : fReprL x z = .ok (.d (.str (PyData.shown (.list (ns.map .int))))) z := by
  unfold fReprL
  simp only [h, intsD_map, h1, h2, and_self, if_true]
  rfl
@[simp] theorem e_forAL {md : M D} (g : D → M Unit) (b : MS) (z z1 : Z) (ds : List D) (h : md z = .ok (.lst ds) z1) : sForA md g b z = forGo g b ds z1 := by
  unfold sForA
  rw [h]
  simp [sFor, mBind, h, itemsA, itemsOf, R.bindS]
theorem e_forAO {md : M D} (g : D → M Unit) (b : MS) (z z1 : Z) (n : Nat) (h : md z = .ok (.obj n) z1) : sForA md g b z = forCell g b n Fuel 0 z1 := by
  unfold sForA
  rw [h]
/-- a walk over a cell that nobody changes -/
theorem forCell_go {g : D → M Unit} {b : MS} {n : Nat} {xs : List D} (I : Z → Prop) (hI : ∀ z, I z → z.st[n]? = some (.lst xs)) (hb : ∀ d ∈ xs, ∀ z, I z → ∀ z1, g d z = .ok () z1 → ∀ z2, b z1 = .nx z2 ∨ b z1 = .ct z2 → I z2) (hg : ∀ d ∈ xs, ∀ z, I z → ∃ z1, g d z = .ok () z1) :
    ∀ (f i : Nat) (z : Z), I z → xs.length ≤ f + i → i ≤ xs.length → forCell g b n (f + 1) i z = forGo g b (xs.drop i) z
  | f, i, z, h, hf, hi => by
    unfold forCell
    simp only [hI z h]
    cases e : xs[i]? with
    | none =>
      have : xs.drop i = [] := List.drop_eq_nil_of_le (List.getElem?_eq_none_iff.mp e)
      rw [this]
      rfl
    | some d =>
      obtain ⟨hlt, hd⟩ := List.getElem?_eq_some_iff.mp e
      have hm : d ∈ xs := hd ▸ List.getElem_mem hlt
      obtain ⟨z1, e1⟩ := hg d hm z h
      have ed : xs.drop i = d :: xs.drop (i + 1) := by rw [List.drop_eq_getElem_cons hlt, hd]
      rw [ed]
      unfold forGo
      simp only [e1]
      cases f with
      | zero => omega
      | succ f =>
        cases e2 : b z1 with
        | nx z2 => exact forCell_go I hI hb hg f (i + 1) z2 (hb d hm z h z1 e1 z2 (.inl e2)) (by omega) (by omega)
        | ct z2 => exact forCell_go I hI hb hg f (i + 1) z2 (hb d hm z h z1 e1 z2 (.inr e2)) (by omega) (by omega)
        | bk z2 => rfl
        | rt d z2 => rfl
        | err x z2 => rfl
        | bad => rfl
end
end DL
set_option Elab.async false
set_option linter.all false
set_option maxRecDepth 100000
set_option maxHeartbeats 4000000
namespace Qk50
open PySem L2 DL
def top (i : Nat) : Stmt := PySem.Challenge.pw_leastgiven_k50_noises_from_digits.main.body.getD i (.Pass ⟨0, 0, 0, 0⟩)
abbrev s__law_bag : Stmt := top 20
abbrev s__law_draw : Stmt := top 21
abbrev s__law_of : Stmt := top 22
abbrev s__law_whole : Stmt := top 24
abbrev s__law_gcd : Stmt := top 26
abbrev s__law_odds : Stmt := top 25
abbrev s__law_digits : Stmt := top 27
abbrev s__law_noise : Stmt := top 28
abbrev s__law_caught : Stmt := top 29
abbrev s_Coins_used : Stmt := (clsBody (top 18)).getD 1 (.Pass ⟨0, 0, 0, 0⟩)
abbrev s_Coins_left : Stmt := (clsBody (top 18)).getD 2 (.Pass ⟨0, 0, 0, 0⟩)
abbrev s_Coins_U_reprU_ : Stmt := (clsBody (top 18)).getD 6 (.Pass ⟨0, 0, 0, 0⟩)
abbrev s__law_stands : Stmt := top 30
abbrev s__law_refused : Stmt := top 31
abbrev s_wrong_digits : Stmt := top 11
abbrev s_is_integer_value : Stmt := top 13
abbrev s_base_value : Stmt := top 14
abbrev s_is_base : Stmt := top 16
abbrev s_Coins_U_initU_ : Stmt := (clsBody (top 18)).getD 0 (.Pass ⟨0, 0, 0, 0⟩)
abbrev s__law_bad_bases : Stmt := top 32
abbrev s_go_count : Stmt := top 9
abbrev s_noise_made : Stmt := top 10
abbrev s_Coins_noise : Stmt := (clsBody (top 18)).getD 4 (.Pass ⟨0, 0, 0, 0⟩)
abbrev s_Coins_pour : Stmt := (clsBody (top 18)).getD 5 (.Pass ⟨0, 0, 0, 0⟩)
abbrev s_law : Stmt := top 33
abbrev N__law_bag : List Str := ["script", "mix", "cell"]
abbrev p__law_bag : List Str := ["script"]
theorem sc__law_bag : FnScope N__law_bag p__law_bag (defScope s__law_bag) := ⟨rfl, rfl, rfl, by decide +kernel, rfl, by decide +kernel, by decide +kernel⟩
abbrev N__law_draw : List Str := ["bag", "limit", "cell", "digit", "mix"]
abbrev p__law_draw : List Str := ["bag", "limit"]
theorem sc__law_draw : FnScope N__law_draw p__law_draw (defScope s__law_draw) := ⟨rfl, rfl, rfl, by decide +kernel, rfl, by decide +kernel, by decide +kernel⟩
abbrev N__law_of : List Str := ["bag", "things"]
abbrev p__law_of : List Str := ["bag", "things"]
theorem sc__law_of : FnScope N__law_of p__law_of (defScope s__law_of) := ⟨rfl, rfl, rfl, by decide +kernel, rfl, by decide +kernel, by decide +kernel⟩
abbrev N__law_whole : List Str := ["value"]
abbrev p__law_whole : List Str := ["value"]
theorem sc__law_whole : FnScope N__law_whole p__law_whole (defScope s__law_whole) := ⟨rfl, rfl, rfl, by decide +kernel, rfl, by decide +kernel, by decide +kernel⟩
abbrev N__law_gcd : List Str := ["one", "two", "a", "b"]
abbrev p__law_gcd : List Str := ["one", "two"]
theorem sc__law_gcd : FnScope N__law_gcd p__law_gcd (defScope s__law_gcd) := ⟨rfl, rfl, rfl, by decide +kernel, rfl, by decide +kernel, by decide +kernel⟩
abbrev N__law_odds : List Str := ["bag", "below", "tops", "k"]
abbrev p__law_odds : List Str := ["bag"]
theorem sc__law_odds : FnScope N__law_odds p__law_odds (defScope s__law_odds) := ⟨rfl, rfl, rfl, by decide +kernel, rfl, by decide +kernel, by decide +kernel⟩
abbrev N__law_digits : List Str := ["bag", "odds", "many", "found", "k"]
abbrev p__law_digits : List Str := ["bag", "odds", "many"]
theorem sc__law_digits : FnScope N__law_digits p__law_digits (defScope s__law_digits) := ⟨rfl, rfl, rfl, by decide +kernel, rfl, by decide +kernel, by decide +kernel⟩
abbrev N__law_noise : List Str := ["odds", "store", "at", "slopes", "found", "side", "turn", "good", "k"]
abbrev p__law_noise : List Str := ["odds", "store", "at", "slopes"]
theorem sc__law_noise : FnScope N__law_noise p__law_noise (defScope s__law_noise) := ⟨rfl, rfl, rfl, by decide +kernel, rfl, by decide +kernel, by decide +kernel⟩
abbrev N__law_caught : List Str := ["deed", "error"]
abbrev p__law_caught : List Str := ["deed"]
theorem sc__law_caught : FnScope N__law_caught p__law_caught (defScope s__law_caught) := ⟨rfl, rfl, rfl, by decide +kernel, rfl, by decide +kernel, by decide +kernel⟩
abbrev N_Coins_used : List Str := ["self"]
abbrev p_Coins_used : List Str := ["self"]
theorem sc_Coins_used : FnScope N_Coins_used p_Coins_used (defScope s_Coins_used) := ⟨rfl, rfl, rfl, by decide +kernel, rfl, by decide +kernel, by decide +kernel⟩
abbrev N_Coins_left : List Str := ["self"]
abbrev p_Coins_left : List Str := ["self"]
theorem sc_Coins_left : FnScope N_Coins_left p_Coins_left (defScope s_Coins_left) := ⟨rfl, rfl, rfl, by decide +kernel, rfl, by decide +kernel, by decide +kernel⟩
abbrev N_Coins_U_reprU_ : List Str := ["self"]
abbrev p_Coins_U_reprU_ : List Str := ["self"]
theorem sc_Coins_U_reprU_ : FnScope N_Coins_U_reprU_ p_Coins_U_reprU_ (defScope s_Coins_U_reprU_) := ⟨rfl, rfl, rfl, by decide +kernel, rfl, by decide +kernel, by decide +kernel⟩
abbrev N__law_stands : List Str := ["coins", "at", "store"]
abbrev p__law_stands : List Str := ["coins", "at", "store"]
theorem sc__law_stands : FnScope N__law_stands p__law_stands (defScope s__law_stands) := ⟨rfl, rfl, rfl, by decide +kernel, rfl, by decide +kernel, by decide +kernel⟩
abbrev N__law_refused : List Str := ["told", "name", "bad"]
abbrev p__law_refused : List Str := ["told", "name", "bad"]
theorem sc__law_refused : FnScope N__law_refused p__law_refused (defScope s__law_refused) := ⟨rfl, rfl, rfl, by decide +kernel, rfl, by decide +kernel, by decide +kernel⟩
abbrev N_wrong_digits : List Str := ["values", "bottom", "found", "value"]
abbrev p_wrong_digits : List Str := ["values", "bottom"]
theorem sc_wrong_digits : FnScope N_wrong_digits p_wrong_digits (defScope s_wrong_digits) := ⟨rfl, rfl, rfl, by decide +kernel, rfl, by decide +kernel, by decide +kernel⟩
abbrev N_is_integer_value : List Str := ["value"]
abbrev p_is_integer_value : List Str := ["value"]
theorem sc_is_integer_value : FnScope N_is_integer_value p_is_integer_value (defScope s_is_integer_value) := ⟨rfl, rfl, rfl, by decide +kernel, rfl, by decide +kernel, by decide +kernel⟩
abbrev N_base_value : List Str := ["value", "top", "bottom"]
abbrev p_base_value : List Str := ["value"]
theorem sc_base_value : FnScope N_base_value p_base_value (defScope s_base_value) := ⟨rfl, rfl, rfl, by decide +kernel, rfl, by decide +kernel, by decide +kernel⟩
abbrev N_is_base : List Str := ["value"]
abbrev p_is_base : List Str := ["value"]
theorem sc_is_base : FnScope N_is_base p_is_base (defScope s_is_base) := ⟨rfl, rfl, rfl, by decide +kernel, rfl, by decide +kernel, by decide +kernel⟩
abbrev N_Coins_U_initU_ : List Str := ["self", "base", "digits", "wrong"]
abbrev p_Coins_U_initU_ : List Str := ["self", "base", "digits"]
theorem sc_Coins_U_initU_ : FnScope N_Coins_U_initU_ p_Coins_U_initU_ (defScope s_Coins_U_initU_) := ⟨rfl, rfl, rfl, by decide +kernel, rfl, by decide +kernel, by decide +kernel⟩
abbrev N__law_bad_bases : List Str := ["bag", "odds", "bad", "good", "handed", "other"]
abbrev p__law_bad_bases : List Str := ["bag", "odds", "bad"]
theorem sc__law_bad_bases : FnScope N__law_bad_bases p__law_bad_bases (defScope s__law_bad_bases) := ⟨rfl, rfl, rfl, by decide +kernel, rfl, by decide +kernel, by decide +kernel⟩
abbrev N_go_count : List Str := ["digits", "at", "top", "length", "count", "good", "digit"]
abbrev p_go_count : List Str := ["digits", "at", "top", "length"]
theorem sc_go_count : FnScope N_go_count p_go_count (defScope s_go_count) := ⟨rfl, rfl, rfl, by decide +kernel, rfl, by decide +kernel, by decide +kernel⟩
abbrev N_noise_made : List Str := ["digits", "at", "top", "up", "down", "first", "second"]
abbrev p_noise_made : List Str := ["digits", "at", "top", "up", "down"]
theorem sc_noise_made : FnScope N_noise_made p_noise_made (defScope s_noise_made) := ⟨rfl, rfl, rfl, by decide +kernel, rfl, by decide +kernel, by decide +kernel⟩
abbrev N_Coins_noise : List Str := ["self", "up", "down", "found"]
abbrev p_Coins_noise : List Str := ["self", "up", "down"]
theorem sc_Coins_noise : FnScope N_Coins_noise p_Coins_noise (defScope s_Coins_noise) := ⟨rfl, rfl, rfl, by decide +kernel, rfl, by decide +kernel, by decide +kernel⟩
abbrev N_Coins_pour : List Str := ["self", "digits", "wrong"]
abbrev p_Coins_pour : List Str := ["self", "digits"]
theorem sc_Coins_pour : FnScope N_Coins_pour p_Coins_pour (defScope s_Coins_pour) := ⟨rfl, rfl, rfl, by decide +kernel, rfl, by decide +kernel, by decide +kernel⟩
abbrev N_law : List Str := ["script", "bag", "lots", "k", "odds", "store", "handed", "lot", "at", "due", "told", "one", "bad", "coins", "deed", "more", "slopes", "spot"]
abbrev p_law : List Str := ["script"]
theorem sc_law : FnScope N_law p_law (defScope s_law) := ⟨rfl, rfl, rfl, by decide +kernel, rfl, by decide +kernel, by decide +kernel⟩
def isx_BadBase (c : Str) : Option Bool := if c = "BadBase" then some true else if c = "BadNumber" then some false else if c = "Thirsty" then some false else none
def isx_BadNumber (c : Str) : Option Bool := if c = "BadBase" then some false else if c = "BadNumber" then some true else if c = "Thirsty" then some false else none
def isx_GivenError (c : Str) : Option Bool := if c = "BadBase" then some true else if c = "BadNumber" then some true else if c = "Thirsty" then some false else none
def isx_LookupError (c : Str) : Option Bool := if c = "BadBase" then some false else if c = "BadNumber" then some false else if c = "Thirsty" then some true else none
def isx_Missing (c : Str) : Option Bool := if c = "BadBase" then some false else if c = "BadNumber" then some false else if c = "Thirsty" then some true else none
def isx_Thirsty (c : Str) : Option Bool := if c = "BadBase" then some false else if c = "BadNumber" then some false else if c = "Thirsty" then some true else none
def isx_ValueError (c : Str) : Option Bool := if c = "BadBase" then some true else if c = "BadNumber" then some true else if c = "Thirsty" then some false else none
@[simp] theorem is_BadBase_BadBase : isx_BadBase "BadBase" = some true := by decide +kernel
@[simp] theorem is_BadNumber_BadBase : isx_BadNumber "BadBase" = some false := by decide +kernel
@[simp] theorem is_GivenError_BadBase : isx_GivenError "BadBase" = some true := by decide +kernel
@[simp] theorem is_LookupError_BadBase : isx_LookupError "BadBase" = some false := by decide +kernel
@[simp] theorem is_Missing_BadBase : isx_Missing "BadBase" = some false := by decide +kernel
@[simp] theorem is_Thirsty_BadBase : isx_Thirsty "BadBase" = some false := by decide +kernel
@[simp] theorem is_ValueError_BadBase : isx_ValueError "BadBase" = some true := by decide +kernel
@[simp] theorem is_BadBase_BadNumber : isx_BadBase "BadNumber" = some false := by decide +kernel
@[simp] theorem is_BadNumber_BadNumber : isx_BadNumber "BadNumber" = some true := by decide +kernel
@[simp] theorem is_GivenError_BadNumber : isx_GivenError "BadNumber" = some true := by decide +kernel
@[simp] theorem is_LookupError_BadNumber : isx_LookupError "BadNumber" = some false := by decide +kernel
@[simp] theorem is_Missing_BadNumber : isx_Missing "BadNumber" = some false := by decide +kernel
@[simp] theorem is_Thirsty_BadNumber : isx_Thirsty "BadNumber" = some false := by decide +kernel
@[simp] theorem is_ValueError_BadNumber : isx_ValueError "BadNumber" = some true := by decide +kernel
@[simp] theorem is_BadBase_Thirsty : isx_BadBase "Thirsty" = some false := by decide +kernel
@[simp] theorem is_BadNumber_Thirsty : isx_BadNumber "Thirsty" = some false := by decide +kernel
@[simp] theorem is_GivenError_Thirsty : isx_GivenError "Thirsty" = some false := by decide +kernel
@[simp] theorem is_LookupError_Thirsty : isx_LookupError "Thirsty" = some true := by decide +kernel
@[simp] theorem is_Missing_Thirsty : isx_Missing "Thirsty" = some true := by decide +kernel
@[simp] theorem is_Thirsty_Thirsty : isx_Thirsty "Thirsty" = some true := by decide +kernel
@[simp] theorem is_ValueError_Thirsty : isx_ValueError "Thirsty" = some false := by decide +kernel
def xf_many : List Str := ["Thirsty"]
def xf_value : List Str := ["BadBase", "BadNumber"]
@[simp] theorem xi_many_Thirsty : ("Thirsty" : Str) ∈ xf_many := by unfold xf_many; simp
@[simp] theorem xi_value_BadBase : ("BadBase" : Str) ∈ xf_value := by unfold xf_value; simp
@[simp] theorem xi_value_BadNumber : ("BadNumber" : Str) ∈ xf_value := by unfold xf_value; simp
def fl__at : List Str := ["Coins"]
def fl__base : List Str := ["Coins"]
def fl__digits : List Str := ["Coins"]
/-- what the text's top has left -/
structure Txt (P : Program) (K : Fr) (mg : Str → Option Value) (C : Cl) (base : Heap) (c__law_bad_bases P__law_bad_bases : Addr) (c_law P_law : Addr) : Prop where
  n_abs : mg "abs" = none
  n_bool : mg "bool" = none
  n_int : mg "int" = none
  n_isinstance : mg "isinstance" = none
  n_len : mg "len" = none
  n_list : mg "list" = none
  n_range : mg "range" = none
  n_repr : mg "repr" = none
  n_str : mg "str" = none
  n_tuple : mg "tuple" = none
  i_gcd : mg "gcd" = some (.builtin "math.gcd")
  f__law_bag : Df K mg "_law_bag" s__law_bag p__law_bag
  f__law_draw : Df K mg "_law_draw" s__law_draw p__law_draw
  f__law_of : Df K mg "_law_of" s__law_of p__law_of
  f__law_whole : Df K mg "_law_whole" s__law_whole p__law_whole
  f__law_gcd : Df K mg "_law_gcd" s__law_gcd p__law_gcd
  f__law_odds : Df K mg "_law_odds" s__law_odds p__law_odds
  f__law_digits : Df K mg "_law_digits" s__law_digits p__law_digits
  f__law_noise : Df K mg "_law_noise" s__law_noise p__law_noise
  f__law_caught : Df K mg "_law_caught" s__law_caught p__law_caught
  f_Coins_used : Dp K C "Coins" "used" "Coins.used" s_Coins_used p_Coins_used
  f_Coins_left : Dp K C "Coins" "left" "Coins.left" s_Coins_left p_Coins_left
  f_Coins_U_reprU_ : Dm K C "Coins" "__repr__" "Coins.__repr__" s_Coins_U_reprU_ p_Coins_U_reprU_
  f__law_stands : Df K mg "_law_stands" s__law_stands p__law_stands
  f__law_refused : Df K mg "_law_refused" s__law_refused p__law_refused
  f_wrong_digits : Df K mg "wrong_digits" s_wrong_digits p_wrong_digits
  f_is_integer_value : Df K mg "is_integer_value" s_is_integer_value p_is_integer_value
  f_base_value : Df K mg "base_value" s_base_value p_base_value
  f_is_base : Df K mg "is_base" s_is_base p_is_base
  f_Coins_U_initU_ : Dm K C "Coins" "__init__" "Coins.__init__" s_Coins_U_initU_ p_Coins_U_initU_
  f__law_bad_bases : DfC K mg "_law_bad_bases" s__law_bad_bases p__law_bad_bases c__law_bad_bases
  f_go_count : Df K mg "go_count" s_go_count p_go_count
  f_noise_made : Df K mg "noise_made" s_noise_made p_noise_made
  f_Coins_noise : Dm K C "Coins" "noise" "Coins.noise" s_Coins_noise p_Coins_noise
  f_Coins_pour : Dm K C "Coins" "pour" "Coins.pour" s_Coins_pour p_Coins_pour
  f_law : DfC K mg "law" s_law p_law c_law
  tb__law_bad_bases : LamX.TabB base mg c__law_bad_bases P__law_bad_bases
  tm__law_bad_bases : (P__law_bad_bases, ((("_law_bad_bases" : Str) ++ ".<locals>.") ++ "<lambda>" : Str)) ∈ C.T
  tu__law_bad_bases : ∀ p ∈ C.T, p.1 = P__law_bad_bases → p.2 = ((("_law_bad_bases" : Str) ++ ".<locals>.") ++ "<lambda>" : Str)
  tb_law : LamX.TabB base mg c_law P_law
  tm_law : (P_law, ((("law" : Str) ++ ".<locals>.") ++ "<lambda>" : Str)) ∈ C.T
  tu_law : ∀ p ∈ C.T, p.1 = P_law → p.2 = ((("law" : Str) ++ ".<locals>.") ++ "<lambda>" : Str)
  g_Coins : ∀ A, C "Coins" = some A → mg "Coins" = some (.ref A) ∧ PySem.W.makesIn K A = true ∧ PySem.W.keepIn K (.ref A) = true
  fl__at : ∀ c A, C c = some A → Qk50.fl__at.contains c = true → L2.Cls K A ∧ L2.NoAttr K A "_at"
  fl__base : ∀ c A, C c = some A → Qk50.fl__base.contains c = true → L2.Cls K A ∧ L2.NoAttr K A "_base"
  fl__digits : ∀ c A, C c = some A → Qk50.fl__digits.contains c = true → L2.Cls K A ∧ L2.NoAttr K A "_digits"
  xf_many : ∀ c A, C c = some A → Qk50.xf_many.contains c = true → XcK K A ∧ PySem.W.findIn K (.ref A) "many" = some none
  xf_value : ∀ c A, C c = some A → Qk50.xf_value.contains c = true → XcK K A ∧ PySem.W.findIn K (.ref A) "value" = some none
  a_BadBase : ∃ A, mg "BadBase" = some (.ref A) ∧ (∀ c D b, C c = some D → isx_BadBase c = some b → XcK K D ∧ PySem.W.kitOne K (.ref D) (.ref A) = some b ∧ PySem.W.exmOne K (.ref D) (.ref A) = some b)
  a_BadNumber : ∃ A, mg "BadNumber" = some (.ref A) ∧ (∀ c D b, C c = some D → isx_BadNumber c = some b → XcK K D ∧ PySem.W.kitOne K (.ref D) (.ref A) = some b ∧ PySem.W.exmOne K (.ref D) (.ref A) = some b)
  a_GivenError : ∃ A, mg "GivenError" = some (.ref A) ∧ (∀ c D b, C c = some D → isx_GivenError c = some b → XcK K D ∧ PySem.W.kitOne K (.ref D) (.ref A) = some b ∧ PySem.W.exmOne K (.ref D) (.ref A) = some b)
  n_LookupError : mg "LookupError" = none
  b_LookupError : ∀ c D b, C c = some D → isx_LookupError c = some b → XcK K D ∧ PySem.W.kitOne K (.ref D) (.type "LookupError") = some b ∧ PySem.W.exmOne K (.ref D) (.type "LookupError") = some b
  a_Missing : ∃ A, mg "Missing" = some (.ref A) ∧ (∀ c D b, C c = some D → isx_Missing c = some b → XcK K D ∧ PySem.W.kitOne K (.ref D) (.ref A) = some b ∧ PySem.W.exmOne K (.ref D) (.ref A) = some b)
  a_Thirsty : ∃ A, mg "Thirsty" = some (.ref A) ∧ (∀ c D b, C c = some D → isx_Thirsty c = some b → XcK K D ∧ PySem.W.kitOne K (.ref D) (.ref A) = some b ∧ PySem.W.exmOne K (.ref D) (.ref A) = some b)
  n_ValueError : mg "ValueError" = none
  b_ValueError : ∀ c D b, C c = some D → isx_ValueError c = some b → XcK K D ∧ PySem.W.kitOne K (.ref D) (.type "ValueError") = some b ∧ PySem.W.exmOne K (.ref D) (.type "ValueError") = some b
  x_BadBase : ∀ (w : World) (base : Heap), XD P w K mg base C 1 "BadBase" ["value"]
  x_BadNumber : ∀ (w : World) (base : Heap), XD P w K mg base C 1 "BadNumber" ["value"]
  x_Thirsty : ∀ (w : World) (base : Heap), XD P w K mg base C 1 "Thirsty" ["many"]
  hC : ∀ c A, C c = some A → mg c = some (.ref A)
section
variable {P : Program} {w : World} {K : Fr} {mg : Str → Option Value} {base : Heap} {C : Cl} {c__law_bad_bases P__law_bad_bases : Addr} {c_law P_law : Addr}
theorem xd_BadBase (T : Txt P K mg C base c__law_bad_bases P__law_bad_bases c_law P_law) : XD P w K mg base C 1 "BadBase" ["value"] := T.x_BadBase w base
theorem xd_BadNumber (T : Txt P K mg C base c__law_bad_bases P__law_bad_bases c_law P_law) : XD P w K mg base C 1 "BadNumber" ["value"] := T.x_BadNumber w base
theorem xd_Thirsty (T : Txt P K mg C base c__law_bad_bases P__law_bad_bases c_law P_law) : XD P w K mg base C 1 "Thirsty" ["many"] := T.x_Thirsty w base
def l1__law_bag : MS :=
  sAsg (mSh (m2 (mBind (wCons (m2 (m2 (m2 (mV 1) (mC (.int 52361)) fMul) (m2 (mBind (wCons (mV 2) wNil) fInt) (mC (.int 2147483549)) fMod) fAdd) (mC (.int 613)) fAdd) wNil) fInt) (mC (.int 2147483587)) fMod)) (gN 1)
def b__law_bag : MS :=
  sSeq (sAsg (mSh (mC (.int 7368787))) (gN 1))
  (sSeq (sFor (mBind (mSh (mSl (mV 0) (oNone) (oSome (mC (.int 63))))) itemsOf) (gN 2) (l1__law_bag))
  (sRet (mCell (mBind (mCons (mSh (mBind (wCons (mSl (mV 0) (oNone) (oSome (mC (.int 63)))) wNil) fList)) (mCons (mSh (mC (.int 0))) (mCons (mSh (mC (.int 0))) (mCons (mSh (mV 1)) (mCons (mSh (mC (.int 0))) (mNil)))))) fun ds => frL (okLen ds)))))
def m__law_bag : MF := fnM 3 b__law_bag
theorem fx__law_bag (T : Txt P K mg C base c__law_bad_bases P__law_bad_bases c_law P_law) : FX P w K mg base C 1 "_law_bag" s__law_bag p__law_bag m__law_bag :=
  have S := sc__law_bag
  fx_of T.f__law_bag S T.hC (k := 0) fun cdv A outer s H E f B hC hx hr P hp =>
  (dss_cons (d_set 1 S.nd (d_sh d_int))
  (dss_cons (d_for P hp (di_seq P.toPl (d_sh (d_slice P.toPl (dv 0) do_none (do_some d_int)))) (dg_name 2 S.nd) (dss_one (d_set 1 S.nd (d_sh (d_mod (d_int_ T.n_int (d_add P.K (d_add P.K (d_mul (dv 1) d_int) (d_mod (d_int_ T.n_int (dv 2)) d_int)) d_int)) d_int)))))
  (dss_one (d_ret (d_cell (df_lst (ds_cons (d_sh (d_list P.toPl T.n_list (d_slice P.toPl (dv 0) do_none (do_some d_int)))) (ds_cons (d_sh d_int) (ds_cons (d_sh d_int) (ds_cons (d_sh (dv 1)) (ds_cons (d_sh d_int) ds_nil)))))))))))
theorem fd__law_bag (T : Txt P K mg C base c__law_bad_bases P__law_bad_bases c_law P_law) : FD P w K mg base C 1 "_law_bag" 1 m__law_bag := (fx__law_bag T).fd
def b__law_draw : MS :=
  sSeq (sAsg (mSh (m2 (m2 (mV 0) (mC (.int 4)) fIx) (mC (.int 1)) fAdd)) (gSubD (mV 0) (mC (.int 4))))
  (sSeq (sIf (tyAnd (asB (m2 (m2 (mV 0) (mC (.int 2)) fIx) (mC (.int 0)) fEq)) (asB (m2 (m2 (mV 0) (mC (.int 1)) fIx) (mBind (wCons (m2 (mV 0) (mC (.int 0)) fIx) wNil) fLen) fLt))) (sSeq (sAsg (mSh (mBind (wCons (m2 (m2 (mV 0) (mC (.int 0)) fIx) (m2 (mV 0) (mC (.int 1)) fIx) fIx) wNil) fInt)) (gN 2))
  (sSeq (sAsg (mSh (m2 (m2 (mV 0) (mC (.int 1)) fIx) (mC (.int 1)) fAdd)) (gSubD (mV 0) (mC (.int 1))))
  (sIf (asB (m2 (mBind (wCons (mV 2) wNil) fAbs) (m2 (mC (.int 10)) (mC (.int 18)) fPow) fGe)) (sAsg (mSh (mBind (wCons (mV 2) wNil) fAbs)) (gSubD (mV 0) (mC (.int 2)))) (sAsg (mSh (m2 (mBind (wCons (m2 (m2 (m2 (m2 (mV 0) (mC (.int 3)) fIx) (mC (.int 70237)) fMul) (m2 (m2 (mBind (wCons (mV 2) wNil) fInt) (mC (.int 2147483543)) fMod) (mC (.int 15013)) fMul) fAdd) (mC (.int 97)) fAdd) wNil) fInt) (mC (.int 2147483587)) fMod)) (gSubD (mV 0) (mC (.int 3))))))) (sNx))
  (sSeq (sIf (asB (m2 (m2 (mV 0) (mC (.int 2)) fIx) (mC (.int 0)) fGt)) (sSeq (sAsg (mSh (m2 (mBind (wCons (m2 (mV 0) (mC (.int 2)) fIx) wNil) fInt) (mV 1) fMod)) (gN 3))
  (sSeq (sAsg (mSh (m2 (m2 (mV 0) (mC (.int 2)) fIx) (mV 1) fDiv)) (gSubD (mV 0) (mC (.int 2))))
  (sRet (mSh (mV 3))))) (sNx))
  (sSeq (sAsg (mSh (mBind (wCons (m2 (mV 0) (mC (.int 3)) fIx) wNil) fInt)) (gN 4))
  (sSeq (sAsg (mSh (m2 (mBind (wCons (m2 (m2 (m2 (m2 (mV 4) (mC (.int 3)) fPow) (m2 (mV 4) (mC (.int 30089)) fMul) fAdd) (m2 (m2 (mV 0) (mC (.int 4)) fIx) (mC (.int 1299709)) fMul) fAdd) (mC (.int 70001)) fAdd) wNil) fInt) (mC (.int 2147483587)) fMod)) (gSubD (mV 0) (mC (.int 3))))
  (sRet (mSh (m2 (mBind (wCons (m2 (m2 (m2 (mV 0) (mC (.int 3)) fIx) (mC (.int 89)) fDiv) (m2 (m2 (mBind (wCons (m2 (mV 0) (mC (.int 3)) fIx) wNil) fInt) (mC (.int 7907)) fMod) (mC (.int 61)) fMul) fAdd) wNil) fInt) (mV 1) fMod)))))))
def m__law_draw : MF := fnM 5 b__law_draw
theorem fx__law_draw (T : Txt P K mg C base c__law_bad_bases P__law_bad_bases c_law P_law) : FX P w K mg base C 1 "_law_draw" s__law_draw p__law_draw m__law_draw :=
  have S := sc__law_draw
  fx_of T.f__law_draw S T.hC (k := 0) fun cdv A outer s H E f B hC hx hr P hp =>
  (dss_cons (d_asg (d_sh (d_add P.K (d_ix P.toPl (dv 0) d_int) d_int)) (dg_sub (E := (fun cls d _ H => E cls d H)) (dv 0) d_int))
  (dss_cons (d_if (PWD.pt (dw_and (dt_eq P.toPl (d_ix P.toPl (dv 0) d_int) d_int) (dw_and1 (dt_lt (d_ix P.toPl (dv 0) d_int) (d_len P.toPl T.n_len (d_ix P.toPl (dv 0) d_int)))))) (dss_cons (d_set 2 S.nd (d_sh (d_int_ T.n_int (d_ix P.toPl (d_ix P.toPl (dv 0) d_int) (d_ix P.toPl (dv 0) d_int)))))
  (dss_cons (d_asg (d_sh (d_add P.K (d_ix P.toPl (dv 0) d_int) d_int)) (dg_sub (E := (fun cls d _ H => E cls d H)) (dv 0) d_int))
  (dss_one (d_if (dt_ge (d_abs T.n_abs (dv 2)) (d_pow d_int d_int)) (dss_one (d_asg (d_sh (d_abs T.n_abs (dv 2))) (dg_sub (E := (fun cls d _ H => E cls d H)) (dv 0) d_int))) (dss_one (d_asg (d_sh (d_mod (d_int_ T.n_int (d_add P.K (d_add P.K (d_mul (d_ix P.toPl (dv 0) d_int) d_int) (d_mul (d_mod (d_int_ T.n_int (dv 2)) d_int) d_int)) d_int)) d_int)) (dg_sub (E := (fun cls d _ H => E cls d H)) (dv 0) d_int))))))) dss_nil)
  (dss_cons (d_if (dt_gt (d_ix P.toPl (dv 0) d_int) d_int) (dss_cons (d_set 3 S.nd (d_sh (d_mod (d_int_ T.n_int (d_ix P.toPl (dv 0) d_int)) (dv 1))))
  (dss_cons (d_asg (d_sh (d_fdiv (d_ix P.toPl (dv 0) d_int) (dv 1))) (dg_sub (E := (fun cls d _ H => E cls d H)) (dv 0) d_int))
  (dss_one (d_ret (d_sh (dv 3)))))) dss_nil)
  (dss_cons (d_set 4 S.nd (d_sh (d_int_ T.n_int (d_ix P.toPl (dv 0) d_int))))
  (dss_cons (d_asg (d_sh (d_mod (d_int_ T.n_int (d_add P.K (d_add P.K (d_add P.K (d_pow (dv 4) d_int) (d_mul (dv 4) d_int)) (d_mul (d_ix P.toPl (dv 0) d_int) d_int)) d_int)) d_int)) (dg_sub (E := (fun cls d _ H => E cls d H)) (dv 0) d_int))
  (dss_one (d_ret (d_sh (d_mod (d_int_ T.n_int (d_add P.K (d_fdiv (d_ix P.toPl (dv 0) d_int) d_int) (d_mul (d_mod (d_int_ T.n_int (d_ix P.toPl (dv 0) d_int)) d_int) d_int))) (dv 1))))))))))
theorem fd__law_draw (T : Txt P K mg C base c__law_bad_bases P__law_bad_bases c_law P_law) : FD P w K mg base C 1 "_law_draw" 2 m__law_draw := (fx__law_draw T).fd
def b__law_of : MS :=
  sRet (mSh (m2 (mV 1) (mW (mCall 2 m__law_draw (wCons (mV 0) (wCons (mBind (wCons (mV 1) wNil) fLen) (wNil))))) fIx))
def m__law_of : MF := fnM 2 b__law_of
theorem fx__law_of (T : Txt P K mg C base c__law_bad_bases P__law_bad_bases c_law P_law) : FX P w K mg base C 2 "_law_of" s__law_of p__law_of m__law_of :=
  have S := sc__law_of
  fx_of T.f__law_of S T.hC (k := 1) fun cdv A outer s H E f B hC hx hr P hp =>
  (dss_one (d_ret (d_sh (d_ix P.toPl (dv 1) (d_w (d_call P.toPl hC ((fd__law_draw T).mono (by decide)) hr (dw_cons (dv 0) (dw_cons (d_len P.toPl T.n_len (dv 1)) dw_nil))))))))
theorem fd__law_of (T : Txt P K mg C base c__law_bad_bases P__law_bad_bases c_law P_law) : FD P w K mg base C 2 "_law_of" 2 m__law_of := (fx__law_of T).fd
def b__law_whole : MS :=
  sRet (mSh (mAnd (mBind (mV 0) (fIsi .int)) (mNot (mBind (mV 0) (fIsi .bl)))))
def m__law_whole : MF := fnM 1 b__law_whole
theorem fx__law_whole (T : Txt P K mg C base c__law_bad_bases P__law_bad_bases c_law P_law) : FX P w K mg base C 1 "_law_whole" s__law_whole p__law_whole m__law_whole :=
  have S := sc__law_whole
  fx_of T.f__law_whole S T.hC (k := 0) fun cdv A outer s H E f B hC hx hr P hp =>
  (dss_one (d_ret (d_sh (d_and P.toPl (d_isi .int P.toPl T.n_isinstance T.n_int (by decide +kernel) (dv 0)) (d_one (d_not P.toPl (d_isi .bl P.toPl T.n_isinstance T.n_bool (by decide +kernel) (dv 0))))))))
theorem fd__law_whole (T : Txt P K mg C base c__law_bad_bases P__law_bad_bases c_law P_law) : FD P w K mg base C 1 "_law_whole" 1 m__law_whole := (fx__law_whole T).fd
def c1__law_gcd : M Bool :=
  asB (m2 (mV 3) (mC (.int 0)) fGt)
def l1__law_gcd : MS :=
  sPar [2, 3] (mCons (mSh (mV 3)) (mCons (mSh (m2 (mBind (wCons (mV 2) wNil) fInt) (mV 3) fMod)) (mNil)))
def b__law_gcd : MS :=
  sSeq (sPar [2, 3] (mCons (mSh (mBind (wCons (mV 0) wNil) fAbs)) (mCons (mSh (mBind (wCons (mV 1) wNil) fAbs)) (mNil))))
  (sSeq (sWhile (c1__law_gcd) (l1__law_gcd))
  (sRet (mSh (mV 2))))
def m__law_gcd : MF := fnM 4 b__law_gcd
theorem fx__law_gcd (T : Txt P K mg C base c__law_bad_bases P__law_bad_bases c_law P_law) : FX P w K mg base C 1 "_law_gcd" s__law_gcd p__law_gcd m__law_gcd :=
  have S := sc__law_gcd
  fx_of T.f__law_gcd S T.hC (k := 0) fun cdv A outer s H E f B hC hx hr P hp =>
  (dss_cons (d_par2 2 3 P S.nd (ds_cons (d_sh (d_abs T.n_abs (dv 0))) (ds_cons (d_sh (d_abs T.n_abs (dv 1))) ds_nil)))
  (dss_cons (d_while hp (dt_gt (dv 3) d_int) (dss_one (d_par2 2 3 P S.nd (ds_cons (d_sh (dv 3)) (ds_cons (d_sh (d_mod (d_int_ T.n_int (dv 2)) (dv 3))) ds_nil)))))
  (dss_one (d_ret (d_sh (dv 2))))))
theorem fd__law_gcd (T : Txt P K mg C base c__law_bad_bases P__law_bad_bases c_law P_law) : FD P w K mg base C 1 "_law_gcd" 2 m__law_gcd := (fx__law_gcd T).fd
def k1__law_odds : M W :=
  mBind (mCons (mSh (mC (.int 2))) (mCons (mSh (mC (.int 3))) (mCons (mSh (mC (.int 2))) (mCons (mSh (mC (.int 5))) (mCons (mSh (mC (.int 9))) (mCons (mSh (mC (.int 7))) (mCons (mSh (mC (.int 4))) (mCons (mSh (mC (.int 8))) (mCons (mSh (mC (.int 6))) (mNil)))))))))) fun ds => newL (okLen ds)
@[simp] theorem e_k1__law_odds (z : Z) : k1__law_odds z = .ok (.d (.lst [.int 2, .int 3, .int 2, .int 5, .int 9, .int 7, .int 4, .int 8, .int 6])) z := rfl
def q1__law_odds : M D :=
  mSh (mV 3)
def t1__law_odds : M Bool :=
  asB (m2 (mW (mCall 2 m__law_gcd (wCons (mV 3) (wCons (mV 1) (wNil))))) (mC (.int 1)) fEq)
def b__law_odds : MS :=
  sSeq (sAsg (mCall 2 m__law_of (wCons (mV 0) (wCons (k1__law_odds) (wNil)))) (gN 1))
  (sSeq (sAsg (cellD (mBind (mLc [3] (mBind (wCons (mC (.int 1)) (wCons (mV 1) wNil)) fRange2) (gN 3) (t1__law_odds) (q1__law_odds)) fun ys => frL (some ys))) (gN 2))
  (sRet (mSh (mBind (mCons (mCall 2 m__law_of (wCons (mV 0) (wCons (mV 2) (wNil)))) (mCons (mSh (mV 1)) (mNil))) fun ds => newT (okLen ds)))))
def m__law_odds : MF := fnM 4 b__law_odds
theorem fx__law_odds (T : Txt P K mg C base c__law_bad_bases P__law_bad_bases c_law P_law) : FX P w K mg base C 3 "_law_odds" s__law_odds p__law_odds m__law_odds :=
  have S := sc__law_odds
  fx_of T.f__law_odds S T.hC (k := 2) fun cdv A outer s H E f B hC hx hr P hp =>
  (dss_cons (d_set 1 S.nd (d_call P.toPl hC ((fd__law_of T).mono (by decide)) hr (dw_cons (dv 0) (dw_cons (d_lst (ds_cons (d_sh d_int) (ds_cons (d_sh d_int) (ds_cons (d_sh d_int) (ds_cons (d_sh d_int) (ds_cons (d_sh d_int) (ds_cons (d_sh d_int) (ds_cons (d_sh d_int) (ds_cons (d_sh d_int) (ds_cons (d_sh d_int) ds_nil)))))))))) dw_nil))))
  (dss_cons (d_setLc (own := [("k", 3)]) 2 P S.nd (blkOk_by (by kernel_rfl)) ⟨fun B1 hK1 hB1 hX1 _ _ _ _ _ => gc_name 3 S.nd, fun B1 hK1 hB1 hX1 _ _ _ _ _ => (dts_one (dt_eq (P.blk hx hK1 hB1 hX1 _ _ _ _ _).toPl (d_w (d_call (P.blk hx hK1 hB1 hX1 _ _ _ _ _).toPl (hB1.trans hC) ((fd__law_gcd T).mono (by decide)) hr (dw_cons (dv 3) (dw_cons (dv 1) dw_nil)))) d_int)), fun B1 hK1 hB1 hX1 _ _ _ _ _ => (d_sh (dv 3))⟩ (di_range2 T.n_range d_int (dv 1)))
  (dss_one (d_ret (d_sh (d_tup (ds_cons (d_call P.toPl hC ((fd__law_of T).mono (by decide)) hr (dw_cons (dv 0) (dw_cons (dv 2) dw_nil))) (ds_cons (d_sh (dv 1)) ds_nil))))))))
theorem fd__law_odds (T : Txt P K mg C base c__law_bad_bases P__law_bad_bases c_law P_law) : FD P w K mg base C 3 "_law_odds" 1 m__law_odds := (fx__law_odds T).fd
def l1__law_digits : MS :=
  sExpr (mBM .lst (mV 3) (wCons (mW (mCall 2 m__law_draw (wCons (mV 0) (wCons (mIf (asB (m2 (mW (mCall 2 m__law_draw (wCons (mV 0) (wCons (mC (.int 2)) (wNil))))) (mC (.int 0)) fEq)) (m2 (mV 1) (mC (.int 0)) fIx) (m2 (mV 1) (mC (.int 1)) fIx)) (wNil))))) wNil) fAppend)
def b__law_digits : MS :=
  sSeq (sAsg (mCell (mBind (mNil) fun ds => frL (okLen ds))) (gN 3))
  (sSeq (sFor (mBind (wCons (mV 2) wNil) fRange1) (gN 4) (l1__law_digits))
  (sRet (mSh (mV 3))))
def m__law_digits : MF := fnM 5 b__law_digits
theorem fx__law_digits (T : Txt P K mg C base c__law_bad_bases P__law_bad_bases c_law P_law) : FX P w K mg base C 2 "_law_digits" s__law_digits p__law_digits m__law_digits :=
  have S := sc__law_digits
  fx_of T.f__law_digits S T.hC (k := 1) fun cdv A outer s H E f B hC hx hr P hp =>
  (dss_cons (d_set 3 S.nd (d_cell (df_lst ds_nil)))
  (dss_cons (d_for P hp (di_range1 T.n_range (dv 2)) (dg_name 4 S.nd) (dss_one (d_expr (d_append P.toPl (dv 3) (d_w (d_call P.toPl hC ((fd__law_draw T).mono (by decide)) hr (dw_cons (dv 0) (dw_cons (d_ifExp (dt_eq P.toPl (d_w (d_call P.toPl hC ((fd__law_draw T).mono (by decide)) hr (dw_cons (dv 0) (dw_cons d_int dw_nil)))) d_int) (d_ix P.toPl (dv 1) d_int) (d_ix P.toPl (dv 1) d_int)) dw_nil))))))))
  (dss_one (d_ret (d_sh (dv 3))))))
theorem fd__law_digits (T : Txt P K mg C base c__law_bad_bases P__law_bad_bases c_law P_law) : FD P w K mg base C 2 "_law_digits" 3 m__law_digits := (fx__law_digits T).fd
def l1__law_noise : MS :=
  sSeq (sIf (asB (m2 (mV 2) (mBind (wCons (mV 1) wNil) fLen) fGe)) (sRet (mSh (mC .non))) (sNx))
  (sSeq (sAsg (mSh (m2 (mV 2) (mC (.int 1)) fAdd)) (gN 2))
  (sIf (asB (m2 (m2 (mV 1) (m2 (mV 2) (mC (.int 1)) fSub) fIx) (m2 (mV 0) (mC (.int 0)) fIx) fGe)) (sSeq (sAsg (mSh (mC (.bl false))) (gN 7))
  ((fun z => .bk z))) (sNx)))
def l2__law_noise : MS :=
  sSeq (sAsg (mSh (mC (.bl true))) (gN 7))
  (sSeq (sFor (mBind (wCons (m2 (mV 3) (mV 5) fIx) wNil) fRange1) (gN 8) (l1__law_noise))
  (sSeq (sIf (tyNot (mBind (mV 7) mTru)) ((fun z => .bk z)) (sNx))
  (sAsg (mSh (m2 (m2 (mV 4) (mC (.int 1)) fAdd) (m2 (mC (.int 2)) (mV 5) fMul) fSub)) (gN 4))))
def l3__law_noise : MS :=
  sFor (mBind (wCons (m2 (mBind (wCons (mV 1) wNil) fLen) (mC (.int 1)) fAdd) wNil) fRange1) (gN 6) (l2__law_noise)
def b__law_noise : MS :=
  sSeq (sAsg (mSh (mC (.int 0))) (gN 4))
  (sSeq (sFor (mBind (wCons (mC (.int 2)) wNil) fRange1) (gN 5) (l3__law_noise))
  (sRet (mSh (mBind (mCons (mSh (mV 4)) (mCons (mSh (mV 2)) (mNil))) fun ds => newT (okLen ds)))))
def m__law_noise : MF := fnM 9 b__law_noise
theorem fx__law_noise (T : Txt P K mg C base c__law_bad_bases P__law_bad_bases c_law P_law) : FX P w K mg base C 1 "_law_noise" s__law_noise p__law_noise m__law_noise :=
  have S := sc__law_noise
  fx_of T.f__law_noise S T.hC (k := 0) fun cdv A outer s H E f B hC hx hr P hp =>
  (dss_cons (d_set 4 S.nd (d_sh d_int))
  (dss_cons (d_for P hp (di_range1 T.n_range d_int) (dg_name 5 S.nd) (dss_one (d_for P hp (di_range1 T.n_range (d_add P.K (d_len P.toPl T.n_len (dv 1)) d_int)) (dg_name 6 S.nd) (dss_cons (d_set 7 S.nd (d_sh d_bl))
  (dss_cons (d_for P hp (di_range1 T.n_range (d_ix P.toPl (dv 3) (dv 5))) (dg_name 8 S.nd) (dss_cons (d_if (dt_ge (dv 2) (d_len P.toPl T.n_len (dv 1))) (dss_one (d_ret (d_sh d_non))) dss_nil)
  (dss_cons (d_set 2 S.nd (d_sh (d_add P.K (dv 2) d_int)))
  (dss_one (d_if (dt_ge (d_ix P.toPl (dv 1) (d_sub (dv 2) d_int)) (d_ix P.toPl (dv 0) d_int)) (dss_cons (d_set 7 S.nd (d_sh d_bl))
  (dss_one d_break)) dss_nil)))))
  (dss_cons (d_if (dt_not (dt_truth P.toPl (dv 7))) (dss_one d_break) dss_nil)
  (dss_one (d_set 4 S.nd (d_sh (d_sub (d_add P.K (dv 4) d_int) (d_mul d_int (dv 5))))))))))))
  (dss_one (d_ret (d_sh (d_tup (ds_cons (d_sh (dv 4)) (ds_cons (d_sh (dv 2)) ds_nil))))))))
theorem fd__law_noise (T : Txt P K mg C base c__law_bad_bases P__law_bad_bases c_law P_law) : FD P w K mg base C 1 "_law_noise" 4 m__law_noise := (fx__law_noise T).fd
def b__law_caught (u : V) (th : List Cell → RF) : MS :=
  sSeq (sTry (sRet (mSh (mBind (mCons (mAct 0 u th) (mCons (mSh (mC .non)) (mNil))) fun ds => newL (okLen ds)))) [⟨isx_GivenError, some 1, sSeq (sIf (tyAnd (mBind (mBind (mV 1) (fIsE isx_BadBase)) mTru) (tyAnd (mBind (mBind (mV 1) (fIsE isx_ValueError)) mTru) (tyNot (mBind (mBind (mV 1) (fIsE isx_BadNumber)) mTru)))) (sRet (mSh (mBind (mCons (mSh (mC .non)) (mCons (mSh (mBind (mCons (mSh (mC (.str "BadBase"))) (mCons (mSh (mBind (mV 1) (fExC xf_value "value"))) (mNil))) fun ds => newL (okLen ds))) (mNil))) fun ds => newL (okLen ds)))) (sNx))
  (sIf (tyAnd (mBind (mBind (mV 1) (fIsE isx_BadNumber)) mTru) (tyNot (mBind (mBind (mV 1) (fIsE isx_BadBase)) mTru))) (sRet (mSh (mBind (mCons (mSh (mC .non)) (mCons (mSh (mBind (mCons (mSh (mC (.str "BadNumber"))) (mCons (mSh (mBind (mV 1) (fExC xf_value "value"))) (mNil))) fun ds => newL (okLen ds))) (mNil))) fun ds => newL (okLen ds)))) (sNx))⟩, ⟨isx_Missing, some 1, sIf (tyAnd (mBind (mBind (mV 1) (fIsE isx_Thirsty)) mTru) (mBind (mBind (mV 1) (fIsE isx_LookupError)) mTru)) (sRet (mSh (mBind (mCons (mSh (mC .non)) (mCons (mSh (mBind (mCons (mSh (mC (.str "Thirsty"))) (mCons (mSh (mBind (mV 1) (fExC xf_many "many"))) (mNil))) fun ds => newL (okLen ds))) (mNil))) fun ds => newL (okLen ds)))) (sNx)⟩])
  (sRet (mSh (mBind (mCons (mSh (mC .non)) (mCons (mSh (mBind (mCons (mSh (mC (.str "another"))) (mNil)) fun ds => newL (okLen ds))) (mNil))) fun ds => newL (okLen ds))))
def mx__law_caught (th : List Cell → RF) : List Cell → RF := fun S => fnM 2 (b__law_caught .non th) [.val (.con .non)] S
theorem hg__law_caught (T : Txt P K mg C base c__law_bad_bases P__law_bad_bases c_law P_law) {cdv : Value} {A : Around} {outer : List Env} {s : Shared} {H : Hp} {E : XK} {f : Addr} {B : Bs} (PL : Plc (cxOf (L2N.CX P w) P w K mg base N__law_caught "_law_caught" (defScope s__law_caught) f cdv A outer s H E) B (fun cls d _ H => E cls d H)) (hC : B.C = C) (hx : B.xs = none) (hr : Room 0 (A.deeper (envOfC "_law_caught" (defScope s__law_caught) s.heap.objs.size f cdv))) (hp : PassesOwn (model P w) (A.deeper (envOfC "_law_caught" (defScope s__law_caught) s.heap.objs.size f cdv)) (envOfC "_law_caught" (defScope s__law_caught) s.heap.objs.size f cdv) (cxOf (L2N.CX P w) P w K mg base N__law_caught "_law_caught" (defScope s__law_caught) f cdv A outer s H E).xe) (u : V) (th : List Cell → RF) (act : ∀ (pn : List (Addr × Obj)) (xe : Value → Shared → Prop) (W : WX) (p1 p2 : Pos), L2N.Takes ((cxOf (L2N.CX P w) P w K mg base N__law_caught "_law_caught" (defScope s__law_caught) f cdv A outer s H E).tr pn xe) W → PXD ((cxOf (L2N.CX P w) P w K mg base N__law_caught "_law_caught" (defScope s__law_caught) f cdv A outer s H E).tr pn xe) B W (.Call (.Name "deed" p1) [] [] p2) (mAct 0 u th)) : PSsD (cxOf (L2N.CX P w) P w K mg base N__law_caught "_law_caught" (defScope s__law_caught) f cdv A outer s H E) B (fun cls d _ H => E cls d H) (defBody s__law_caught) (b__law_caught u th) :=
  have S := sc__law_caught
  have P := PL
  (dss_cons (d_try P rfl rfl hx (fun W pn xe P hp => (dss_one (d_ret (d_sh (d_lst (ds_cons (act pn xe W _ _ P.toPl.tk) (ds_cons (d_sh d_non) ds_nil))))))) (.cons (let ⟨_, h1, h2⟩ := T.a_GivenError; HdD.named 1 ⟨by rfl, by decide, .inl h1⟩ (fun c D b e f => (h2 c D b (cEq hC e) f).2.2) S.nd rfl rfl fun a A oe dd pn hz hf => (dss_cons (d_if (PWD.pt (dw_and (dt_truth (Pl.suite P hz hf) (let ⟨A0, h1, h2⟩ := T.a_BadBase; d_isE (cv := .ref A0) isx_BadBase (Pl.suite P hz hf) T.n_isinstance (pe_glob (v := .ref A0) (by rfl) h1 rfl) (fun _ h => h) (fun c D b e f => ⟨(h2 c D b (cEq hC e) f).1, (h2 c D b (cEq hC e) f).2.1⟩) (dv 1))) (dw_and (dt_truth (Pl.suite P hz hf) (d_isE (cv := .type "ValueError") isx_ValueError (Pl.suite P hz hf) T.n_isinstance (pe_bltn (v := .ty "ValueError") (by rfl) T.n_ValueError (by decide +kernel) rfl) (fun _ h => h) (fun c D b e f => ⟨(T.b_ValueError c D b (cEq hC e) f).1, (T.b_ValueError c D b (cEq hC e) f).2.1⟩) (dv 1))) (dw_and1 (dt_not (dt_truth (Pl.suite P hz hf) (let ⟨A0, h1, h2⟩ := T.a_BadNumber; d_isE (cv := .ref A0) isx_BadNumber (Pl.suite P hz hf) T.n_isinstance (pe_glob (v := .ref A0) (by rfl) h1 rfl) (fun _ h => h) (fun c D b e f => ⟨(h2 c D b (cEq hC e) f).1, (h2 c D b (cEq hC e) f).2.1⟩) (dv 1)))))))) (dss_one (d_ret (d_sh (d_lst (ds_cons (d_sh d_non) (ds_cons (d_sh (d_lst (ds_cons (d_sh d_str) (ds_cons (d_sh (d_excC (Pl.suite P hz hf) (fun c A e => T.xf_value c A (cEq hC e)) (dv 1))) ds_nil)))) ds_nil)))))) dss_nil)
  (dss_one (d_if (PWD.pt (dw_and (dt_truth (Pl.suite P hz hf) (let ⟨A0, h1, h2⟩ := T.a_BadNumber; d_isE (cv := .ref A0) isx_BadNumber (Pl.suite P hz hf) T.n_isinstance (pe_glob (v := .ref A0) (by rfl) h1 rfl) (fun _ h => h) (fun c D b e f => ⟨(h2 c D b (cEq hC e) f).1, (h2 c D b (cEq hC e) f).2.1⟩) (dv 1))) (dw_and1 (dt_not (dt_truth (Pl.suite P hz hf) (let ⟨A0, h1, h2⟩ := T.a_BadBase; d_isE (cv := .ref A0) isx_BadBase (Pl.suite P hz hf) T.n_isinstance (pe_glob (v := .ref A0) (by rfl) h1 rfl) (fun _ h => h) (fun c D b e f => ⟨(h2 c D b (cEq hC e) f).1, (h2 c D b (cEq hC e) f).2.1⟩) (dv 1))))))) (dss_one (d_ret (d_sh (d_lst (ds_cons (d_sh d_non) (ds_cons (d_sh (d_lst (ds_cons (d_sh d_str) (ds_cons (d_sh (d_excC (Pl.suite P hz hf) (fun c A e => T.xf_value c A (cEq hC e)) (dv 1))) ds_nil)))) ds_nil)))))) dss_nil)))) (.cons (let ⟨_, h1, h2⟩ := T.a_Missing; HdD.named 1 ⟨by rfl, by decide, .inl h1⟩ (fun c D b e f => (h2 c D b (cEq hC e) f).2.2) S.nd rfl rfl fun a A oe dd pn hz hf => (dss_one (d_if (PWD.pt (dw_and (dt_truth (Pl.suite P hz hf) (let ⟨A0, h1, h2⟩ := T.a_Thirsty; d_isE (cv := .ref A0) isx_Thirsty (Pl.suite P hz hf) T.n_isinstance (pe_glob (v := .ref A0) (by rfl) h1 rfl) (fun _ h => h) (fun c D b e f => ⟨(h2 c D b (cEq hC e) f).1, (h2 c D b (cEq hC e) f).2.1⟩) (dv 1))) (dw_and1 (dt_truth (Pl.suite P hz hf) (d_isE (cv := .type "LookupError") isx_LookupError (Pl.suite P hz hf) T.n_isinstance (pe_bltn (v := .ty "LookupError") (by rfl) T.n_LookupError (by decide +kernel) rfl) (fun _ h => h) (fun c D b e f => ⟨(T.b_LookupError c D b (cEq hC e) f).1, (T.b_LookupError c D b (cEq hC e) f).2.1⟩) (dv 1)))))) (dss_one (d_ret (d_sh (d_lst (ds_cons (d_sh d_non) (ds_cons (d_sh (d_lst (ds_cons (d_sh d_str) (ds_cons (d_sh (d_excC (Pl.suite P hz hf) (fun c A e => T.xf_many c A (cEq hC e)) (dv 1))) ds_nil)))) ds_nil)))))) dss_nil))) .nil)))
  (dss_one (d_ret (d_sh (d_lst (ds_cons (d_sh d_non) (ds_cons (d_sh (d_lst (ds_cons (d_sh d_str) ds_nil))) ds_nil)))))))
theorem uni__law_caught (u : V) (th : List Cell → RF) (S : List Cell) : fnM N__law_caught.length (b__law_caught u th) [.val (.con u)] S = mx__law_caught th S := by
  show fnM 2 _ _ _ = _
  unfold mx__law_caught b__law_caught
  cases h : th S with
  | ok d S' => simp [e_fn, h, okLen, sizeS]
  | bad => simp [e_fn, h]
  | err x S' =>
    obtain ⟨cls, fs⟩ := x
    by_cases h_BadBase : cls = "BadBase"
    · subst h_BadBase
      cases hf0 : fs.lookup (Str.ofString "value") <;> simp [e_fn, h, okLen, sizeS, hf0]
    ·
      by_cases h_BadNumber : cls = "BadNumber"
      · subst h_BadNumber
        cases hf0 : fs.lookup (Str.ofString "value") <;> simp [e_fn, h, okLen, sizeS, hf0]
      ·
        by_cases h_Thirsty : cls = "Thirsty"
        · subst h_Thirsty
          cases hf0 : fs.lookup (Str.ofString "many") <;> simp [e_fn, h, okLen, sizeS, hf0]
        ·
          have e : isx_GivenError cls = none := by unfold isx_GivenError; simp [h_BadBase, h_BadNumber, h_Thirsty]
          simp [e_fn, h, okLen, sizeS, e]
def b_Coins_used : MS :=
  sRet (mSh (mBind (mV 0) (fFld fl__at "_at")))
def m_Coins_used : MF := fnM 1 b_Coins_used
theorem pr_Coins_used (T : Txt P K mg C base c__law_bad_bases P__law_bad_bases c_law P_law) : PrD P w K mg base C 1 "used" (tb1 "Coins" m_Coins_used) :=
  have S := sc_Coins_used
  pr_of T.f_Coins_used S T.hC (k := 0) rfl fun cdv A outer s H E f B hC hx hr P hp =>
  (dss_one (d_ret (d_sh (d_fld P.toPl (fun c A e => T.fl__at c A (cEq hC e)) (dv 0)))))
def tp_used : Str → Option MF :=  tb1 "Coins" m_Coins_used
theorem pr_used (T : Txt P K mg C base c__law_bad_bases P__law_bad_bases c_law P_law) : PrD P w K mg base C 1 "used" tp_used := ((pr_Coins_used T).mono (by decide))
def b_Coins_left : MS :=
  sRet (mSh (m2 (mBind (wCons (mBind (mV 0) (fFld fl__digits "_digits")) wNil) fLen) (mBind (mV 0) (fFld fl__at "_at")) fSub))
def m_Coins_left : MF := fnM 1 b_Coins_left
theorem pr_Coins_left (T : Txt P K mg C base c__law_bad_bases P__law_bad_bases c_law P_law) : PrD P w K mg base C 1 "left" (tb1 "Coins" m_Coins_left) :=
  have S := sc_Coins_left
  pr_of T.f_Coins_left S T.hC (k := 0) rfl fun cdv A outer s H E f B hC hx hr P hp =>
  (dss_one (d_ret (d_sh (d_sub (d_len P.toPl T.n_len (d_fld P.toPl (fun c A e => T.fl__digits c A (cEq hC e)) (dv 0))) (d_fld P.toPl (fun c A e => T.fl__at c A (cEq hC e)) (dv 0))))))
def tp_left : Str → Option MF :=  tb1 "Coins" m_Coins_left
theorem pr_left (T : Txt P K mg C base c__law_bad_bases P__law_bad_bases c_law P_law) : PrD P w K mg base C 1 "left" tp_left := ((pr_Coins_left T).mono (by decide))
def b_Coins_U_reprU_ : MS :=
  sRet (mSh (mJs [mC (.str "Coins("), mBind (mBind (mV 0) (fFld fl__at "_at")) fFmt, mC (.str " used)")] Str.empty))
def m_Coins_U_reprU_ : MF := fnM 1 b_Coins_U_reprU_
theorem fm_Coins_U_reprU_ (T : Txt P K mg C base c__law_bad_bases P__law_bad_bases c_law P_law) : FM P w K mg base C 1 "Coins" "__repr__" "Coins.__repr__" s_Coins_U_reprU_ p_Coins_U_reprU_ m_Coins_U_reprU_ :=
  have S := sc_Coins_U_reprU_
  fm_of T.f_Coins_U_reprU_ S T.hC (k := 0) fun cdv A outer s H E f B hC hx hr P hp =>
  (dss_one (d_ret (d_sh (d_joined (pjd_cons d_str (pjd_cons (d_fmt (d_fld P.toPl (fun c A e => T.fl__at c A (cEq hC e)) (dv 0))) (pjd_cons d_str pjd_nil)))))))
def t_repr : Str → Option MF :=  tb1 "Coins" m_Coins_U_reprU_
theorem rep_all (T : Txt P K mg C base c__law_bad_bases P__law_bad_bases c_law P_law) : RepD P w K mg base C 1 t_repr := (((fm_Coins_U_reprU_ T).mono (by decide) : FM P w K mg base C 1 _ _ _ _ _ _)).rep
def b__law_stands : MS :=
  sSeq (sIf (tyOr (tyNot (mBind (mW (mCall 1 m__law_whole (wCons (mW ((fun z => ((mV 0) z).bind (fProp tp_used)))) (wNil)))) mTru)) (tyOr (tyNot (mBind (mW (mCall 1 m__law_whole (wCons (mW ((fun z => ((mV 0) z).bind (fProp tp_left)))) (wNil)))) mTru)) (tyOr (asB (m2 (mW ((fun z => ((mV 0) z).bind (fProp tp_used)))) (mV 1) fNe)) (asB (m2 (mW ((fun z => ((mV 0) z).bind (fProp tp_left)))) (m2 (mBind (wCons (mV 2) wNil) fLen) (mV 1) fSub) fNe))))) (sRet (mSh (mC (.bl false)))) (sNx))
  (sRet (mSh (m2 ((fun z => ((mV 0) z).bind (fReprO t_repr))) (m2 (m2 (mC (.str "Coins(")) (mBind (wCons (mV 1) wNil) fStr) fAdd) (mC (.str " used)")) fAdd) fEq)))
def m__law_stands : MF := fnM 3 b__law_stands
theorem fx__law_stands (T : Txt P K mg C base c__law_bad_bases P__law_bad_bases c_law P_law) : FX P w K mg base C 3 "_law_stands" s__law_stands p__law_stands m__law_stands :=
  have S := sc__law_stands
  fx_of T.f__law_stands S T.hC (k := 2) fun cdv A outer s H E f B hC hx hr P hp =>
  (dss_cons (d_if (PWD.pt (dw_or (dt_not (dt_truth P.toPl (d_w (d_call P.toPl hC ((fd__law_whole T).mono (by decide)) hr (dw_cons (d_w (d_prop P.toPl hC ((pr_used T).mono (by decide)) hr (dv 0))) dw_nil))))) (dw_or (dt_not (dt_truth P.toPl (d_w (d_call P.toPl hC ((fd__law_whole T).mono (by decide)) hr (dw_cons (d_w (d_prop P.toPl hC ((pr_left T).mono (by decide)) hr (dv 0))) dw_nil))))) (dw_or (dt_ne P.toPl (d_w (d_prop P.toPl hC ((pr_used T).mono (by decide)) hr (dv 0))) (dv 1)) (dw_or1 (dt_ne P.toPl (d_w (d_prop P.toPl hC ((pr_left T).mono (by decide)) hr (dv 0))) (d_sub (d_len P.toPl T.n_len (dv 2)) (dv 1)))))))) (dss_one (d_ret (d_sh d_bl))) dss_nil)
  (dss_one (d_ret (d_sh (d_eq P.toPl (d_reprO P.toPl hC ((rep_all T).mono (by decide)) hr T.n_repr (dv 0)) (d_add P.K (d_add P.K d_str (d_str_ T.n_str (dv 1))) d_str))))))
theorem fd__law_stands (T : Txt P K mg C base c__law_bad_bases P__law_bad_bases c_law P_law) : FD P w K mg base C 3 "_law_stands" 3 m__law_stands := (fx__law_stands T).fd
def b__law_refused : MS :=
  sSeq (sIf (tyOr (asB (m2 (m2 (mV 0) (mC (.int 0)) fIx) (mC .non) (fIs true))) (tyOr (asB (m2 (m2 (mV 0) (mC (.int 1)) fIx) (mC .non) (fIs false))) (tyOr (asB (m2 (mBind (wCons (m2 (mV 0) (mC (.int 1)) fIx) wNil) fLen) (mC (.int 2)) fNe)) (asB (m2 (m2 (m2 (mV 0) (mC (.int 1)) fIx) (mC (.int 0)) fIx) (mV 1) fNe))))) (sRet (mSh (mC (.bl false)))) (sNx))
  (sRet (mSh (mAnd (m2 (mBind (m2 (m2 (mV 0) (mC (.int 1)) fIx) (mC (.int 1)) fIx) (fIsi .bl)) (mBind (mV 2) (fIsi .bl)) fEq) (m2 (m2 (m2 (mV 0) (mC (.int 1)) fIx) (mC (.int 1)) fIx) (mV 2) fEq))))
def m__law_refused : MF := fnM 3 b__law_refused
theorem fx__law_refused (T : Txt P K mg C base c__law_bad_bases P__law_bad_bases c_law P_law) : FX P w K mg base C 1 "_law_refused" s__law_refused p__law_refused m__law_refused :=
  have S := sc__law_refused
  fx_of T.f__law_refused S T.hC (k := 0) fun cdv A outer s H E f B hC hx hr P hp =>
  (dss_cons (d_if (PWD.pt (dw_or (dt_isnot (d_ix P.toPl (dv 0) d_int) d_non) (dw_or (dt_is (d_ix P.toPl (dv 0) d_int) d_non) (dw_or (dt_ne P.toPl (d_len P.toPl T.n_len (d_ix P.toPl (dv 0) d_int)) d_int) (dw_or1 (dt_ne P.toPl (d_ix P.toPl (d_ix P.toPl (dv 0) d_int) d_int) (dv 1))))))) (dss_one (d_ret (d_sh d_bl))) dss_nil)
  (dss_one (d_ret (d_sh (d_and P.toPl (d_eq P.toPl (d_isi .bl P.toPl T.n_isinstance T.n_bool (by decide +kernel) (d_ix P.toPl (d_ix P.toPl (dv 0) d_int) d_int)) (d_isi .bl P.toPl T.n_isinstance T.n_bool (by decide +kernel) (dv 2))) (d_one (d_eq P.toPl (d_ix P.toPl (d_ix P.toPl (dv 0) d_int) d_int) (dv 2))))))))
theorem fd__law_refused (T : Txt P K mg C base c__law_bad_bases P__law_bad_bases c_law P_law) : FD P w K mg base C 1 "_law_refused" 3 m__law_refused := (fx__law_refused T).fd
def l1_wrong_digits : MS :=
  sIf (tyOr (tyNot (mBind (mBind (mV 3) (fIsi .int)) mTru)) (tyOr (mBind (mBind (mV 3) (fIsi .bl)) mTru) (tyOr (asB (m2 (mV 3) (mC (.int 0)) fLt)) (asB (m2 (mV 3) (mV 1) fGe))))) (sExpr (mBM .lst (mV 2) (wCons (mV 3) wNil) fAppend)) (sNx)
def b_wrong_digits : MS :=
  sSeq (sOwn 2 (mBind (mNil) fun ds => frL (okLen ds)))
  (sSeq (sForA (mSh (mV 0)) (gN 3) (l1_wrong_digits))
  (sRet (mSh (mV 2))))
def m_wrong_digits : MF := fnM 4 b_wrong_digits
theorem fx_wrong_digits (T : Txt P K mg C base c__law_bad_bases P__law_bad_bases c_law P_law) : FX P w K mg base C 1 "wrong_digits" s_wrong_digits p_wrong_digits m_wrong_digits :=
  have S := sc_wrong_digits
  fx_of T.f_wrong_digits S T.hC (k := 0) fun cdv A outer s H E f B hC hx hr P hp =>
  (dss_cons (d_setOwn 2 S.nd (df_lst ds_nil))
  (dss_cons (d_forA P hp (d_sh (dv 0)) (dg_name 3 S.nd) (dss_one (d_if (PWD.pt (dw_or (dt_not (dt_truth P.toPl (d_isi .int P.toPl T.n_isinstance T.n_int (by decide +kernel) (dv 3)))) (dw_or (dt_truth P.toPl (d_isi .bl P.toPl T.n_isinstance T.n_bool (by decide +kernel) (dv 3))) (dw_or (dt_lt (dv 3) d_int) (dw_or1 (dt_ge (dv 3) (dv 1))))))) (dss_one (d_expr (d_append P.toPl (dv 2) (dv 3)))) dss_nil)))
  (dss_one (d_ret (d_sh (dv 2))))))
theorem fd_wrong_digits (T : Txt P K mg C base c__law_bad_bases P__law_bad_bases c_law P_law) : FD P w K mg base C 1 "wrong_digits" 2 m_wrong_digits := (fx_wrong_digits T).fd
def b_is_integer_value : MS :=
  sRet (mSh (mAnd (mBind (mV 0) (fIsi .int)) (mNot (mBind (mV 0) (fIsi .bl)))))
def m_is_integer_value : MF := fnM 1 b_is_integer_value
theorem fx_is_integer_value (T : Txt P K mg C base c__law_bad_bases P__law_bad_bases c_law P_law) : FX P w K mg base C 1 "is_integer_value" s_is_integer_value p_is_integer_value m_is_integer_value :=
  have S := sc_is_integer_value
  fx_of T.f_is_integer_value S T.hC (k := 0) fun cdv A outer s H E f B hC hx hr P hp =>
  (dss_one (d_ret (d_sh (d_and P.toPl (d_isi .int P.toPl T.n_isinstance T.n_int (by decide +kernel) (dv 0)) (d_one (d_not P.toPl (d_isi .bl P.toPl T.n_isinstance T.n_bool (by decide +kernel) (dv 0))))))))
theorem fd_is_integer_value (T : Txt P K mg C base c__law_bad_bases P__law_bad_bases c_law P_law) : FD P w K mg base C 1 "is_integer_value" 1 m_is_integer_value := (fx_is_integer_value T).fd
def b_base_value : MS :=
  sSeq (sIf (tyOr (tyNot (mBind (mBind (mV 0) (fIsi .tup)) mTru)) (asB (m2 (mBind (wCons (mV 0) wNil) fLen) (mC (.int 2)) fNe))) (sRet (mSh (mC (.bl false)))) (sNx))
  (sSeq (sAsg (mSh (mV 0)) (gT 2 (gsN [1, 2])))
  (sSeq (sIf (tyOr (tyNot (mBind (mW (mCall 1 m_is_integer_value (wCons (mV 1) (wNil)))) mTru)) (tyNot (mBind (mW (mCall 1 m_is_integer_value (wCons (mV 2) (wNil)))) mTru))) (sRet (mSh (mC (.bl false)))) (sNx))
  (sSeq (sIf (tyOr (asB (m2 (mV 1) (mC (.int 1)) fLt)) (tyOr (asB (m2 (mV 2) (mV 1) fLe)) (asB (m2 (mV 2) (mC (.int 9)) fGt)))) (sRet (mSh (mC (.bl false)))) (sNx))
  (sRet (mSh (m2 (mBind (wCons (mV 1) (wCons (mV 2) (wNil))) fGcd) (mC (.int 1)) fEq))))))
def m_base_value : MF := fnM 3 b_base_value
theorem fx_base_value (T : Txt P K mg C base c__law_bad_bases P__law_bad_bases c_law P_law) : FX P w K mg base C 2 "base_value" s_base_value p_base_value m_base_value :=
  have S := sc_base_value
  fx_of T.f_base_value S T.hC (k := 1) fun cdv A outer s H E f B hC hx hr P hp =>
  (dss_cons (d_if (PWD.pt (dw_or (dt_not (dt_truth P.toPl (d_isi .tup P.toPl T.n_isinstance T.n_tuple (by decide +kernel) (dv 0)))) (dw_or1 (dt_ne P.toPl (d_len P.toPl T.n_len (dv 0)) d_int)))) (dss_one (d_ret (d_sh d_bl))) dss_nil)
  (dss_cons (d_asg (d_sh (dv 0)) (dg_tup P (dgs_cons 1 S.nd (dgs_cons 2 S.nd dgs_nil))))
  (dss_cons (d_if (PWD.pt (dw_or (dt_not (dt_truth P.toPl (d_w (d_call P.toPl hC ((fd_is_integer_value T).mono (by decide)) hr (dw_cons (dv 1) dw_nil))))) (dw_or1 (dt_not (dt_truth P.toPl (d_w (d_call P.toPl hC ((fd_is_integer_value T).mono (by decide)) hr (dw_cons (dv 2) dw_nil)))))))) (dss_one (d_ret (d_sh d_bl))) dss_nil)
  (dss_cons (d_if (PWD.pt (dw_or (dt_lt (dv 1) d_int) (dw_or (dt_le (dv 2) (dv 1)) (dw_or1 (dt_gt (dv 2) d_int))))) (dss_one (d_ret (d_sh d_bl))) dss_nil)
  (dss_one (d_ret (d_sh (d_eq P.toPl (d_gcd T.i_gcd (dw_cons (dv 1) (dw_cons (dv 2) dw_nil))) d_int))))))))
theorem fd_base_value (T : Txt P K mg C base c__law_bad_bases P__law_bad_bases c_law P_law) : FD P w K mg base C 2 "base_value" 1 m_base_value := (fx_base_value T).fd
def b_is_base : MS :=
  sRet (mCall 1 m_base_value (wCons (mV 0) (wNil)))
def m_is_base : MF := fnM 1 b_is_base
theorem fx_is_base (T : Txt P K mg C base c__law_bad_bases P__law_bad_bases c_law P_law) : FX P w K mg base C 3 "is_base" s_is_base p_is_base m_is_base :=
  have S := sc_is_base
  fx_of T.f_is_base S T.hC (k := 2) fun cdv A outer s H E f B hC hx hr P hp =>
  (dss_one (d_ret (d_call P.toPl hC ((fd_base_value T).mono (by decide)) hr (dw_cons (dv 0) dw_nil))))
theorem fd_is_base (T : Txt P K mg C base c__law_bad_bases P__law_bad_bases c_law P_law) : FD P w K mg base C 3 "is_base" 1 m_is_base := (fx_is_base T).fd
def b_Coins_U_initU_ : MS :=
  sSeq (sIf (tyNot (mBind (mW (mCall 1 m_is_base (wCons (mV 1) (wNil)))) mTru)) (sRaise "BadBase" ["value"] (mCons (mSh (mV 1)) (mNil))) (sNx))
  (sSeq (sAsg (mCall 2 m_wrong_digits (wCons (mV 2) (wCons (m2 (mV 1) (mC (.int 1)) fIx) (wNil)))) (gN 3))
  (sSeq (sIf (mBind (mV 3) mTru) (sRaise "BadNumber" ["value"] (mCons (mSh (m2 (mV 3) (mC (.int 0)) fIx)) (mNil))) (sNx))
  (sSeq (sFldD (mSh (mV 1)) (mV 0) fl__base "_base")
  (sSeq (sFldD (mCell (mBind (wCons (mV 2) wNil) fListF)) (mV 0) fl__digits "_digits")
  (sFldD (mSh (mC (.int 0))) (mV 0) fl__at "_at")))))
def m_Coins_U_initU_ : MF := fnM 4 b_Coins_U_initU_
theorem fm_Coins_U_initU_ (T : Txt P K mg C base c__law_bad_bases P__law_bad_bases c_law P_law) : FM P w K mg base C 4 "Coins" "__init__" "Coins.__init__" s_Coins_U_initU_ p_Coins_U_initU_ m_Coins_U_initU_ :=
  have S := sc_Coins_U_initU_
  fm_of T.f_Coins_U_initU_ S T.hC (k := 3) fun cdv A outer s H E f B hC hx hr P hp =>
  (dss_cons (d_if (dt_not (dt_truth P.toPl (d_w (d_call P.toPl hC ((fd_is_base T).mono (by decide)) hr (dw_cons (dv 1) dw_nil))))) (dss_one (d_raise P (by rw [hC]; exact (xd_BadBase T).mono (by decide)) hr (ds_cons (d_sh (dv 1)) ds_nil))) dss_nil)
  (dss_cons (d_set 3 S.nd (d_call P.toPl hC ((fd_wrong_digits T).mono (by decide)) hr (dw_cons (dv 2) (dw_cons (d_ix P.toPl (dv 1) d_int) dw_nil))))
  (dss_cons (d_if (dt_truth P.toPl (dv 3)) (dss_one (d_raise P (by rw [hC]; exact (xd_BadNumber T).mono (by decide)) hr (ds_cons (d_sh (d_ix P.toPl (dv 3) d_int)) ds_nil))) dss_nil)
  (dss_cons (dss_fld P.toPl (fun c A e => T.fl__base c A (cEq hC e)) (d_sh (dv 1)) (dv 0))
  (dss_cons (dss_fld P.toPl (fun c A e => T.fl__digits c A (cEq hC e)) (d_cell (df_list P.toPl T.n_list (dv 2))) (dv 0))
  (dss_one (dss_fld P.toPl (fun c A e => T.fl__at c A (cEq hC e)) (d_sh d_int) (dv 0))))))))
theorem mk_Coins (T : Txt P K mg C base c__law_bad_bases P__law_bad_bases c_law P_law) : MkD P w K mg base C 4 "Coins" 2 m_Coins_U_initU_ := (fm_Coins_U_initU_ T).mkD T.g_Coins
theorem mkk_Coins_0_digits_base (T : Txt P K mg C base c__law_bad_bases P__law_bad_bases c_law P_law) : MkK P w K mg base C 4 "Coins" 0 ["digits", "base"] [1, 0] m_Coins_U_initU_ := (fm_Coins_U_initU_ T).mkk T.g_Coins ["digits", "base"] [1, 0] 0 fun _ _ _ _ _ _ us ws h1 h2 => match us, ws, h1, h2 with | [_], [_, _], _, _ => rfl
def k1__law_bad_bases : M W :=
  mBind (mCons (mSh (mV 3)) (mCons (mSh (mBind (mCons (mSh (mC (.int 0))) (mCons (mSh (mC (.int 1))) (mNil))) fun ds => newT (okLen ds))) (mCons (mSh (mBind (mCons (mSh (mC (.int 1))) (mCons (mSh (mC (.int 1))) (mNil))) fun ds => newT (okLen ds))) (mCons (mSh (mBind (mCons (mSh (mC (.int 3))) (mCons (mSh (mC (.int 2))) (mNil))) fun ds => newT (okLen ds))) (mCons (mSh (mBind (mCons (mSh (mC (.int 2))) (mCons (mSh (mC (.int 4))) (mNil))) fun ds => newT (okLen ds))) (mCons (mSh (mBind (mCons (mSh (mBind (mC (.int 1)) fNeg)) (mCons (mSh (mC (.int 2))) (mNil))) fun ds => newT (okLen ds))) (mCons (mSh (mBind (mCons (mSh (mC (.int 1))) (mCons (mSh (mBind (mC (.int 2)) fNeg)) (mNil))) fun ds => newT (okLen ds))) (mCons (mSh (mBind (mCons (mSh (mC (.int 1))) (mCons (mSh (mC (.int 10))) (mNil))) fun ds => newT (okLen ds))) (mCons (mSh (mBind (mCons (mSh (mC (.bl true))) (mCons (mSh (mC (.int 2))) (mNil))) fun ds => newT (okLen ds))) (mCons (mSh (mBind (mCons (mSh (mC (.int 1))) (mCons (mSh (mC (.int 2))) (mCons (mSh (mC (.int 3))) (mNil)))) fun ds => newT (okLen ds))) (mCons (mSh (mBind (mCons (mSh (mC (.int 1))) (mNil)) fun ds => newT (okLen ds))) (mCons (mSh (mC (.str "1/2"))) (mCons (mSh (mC .non)) (mCons (mSh (mC (.int 1))) (mCons (mSh (mBind (mCons (mSh (mC (.str "1"))) (mCons (mSh (mC (.int 2))) (mNil))) fun ds => newT (okLen ds))) (mNil)))))))))))))))) fun ds => newL (okLen ds)
def th1__law_bad_bases : M D :=
  mMake "Coins" 2 m_Coins_U_initU_ (wCons (mV 5) (wCons (mBind (wCons (mV 4) wNil) fList) (wNil)))
def l1__law_bad_bases : MS :=
  sIf (tyNot (mBind (mW (mCall 3 m__law_refused (wCons (mW (mLam mx__law_caught th1__law_bad_bases)) (wCons (mC (.str "BadBase")) (wCons (mV 5) (wNil)))))) mTru)) (sRet (mSh (mC (.bl false)))) (sNx)
def th2__law_bad_bases : M D :=
  mMakeP "Coins" 0 2 [1, 0] m_Coins_U_initU_ (wNil) (wCons (mBind (wCons (mV 4) wNil) fList) (wCons (mV 1) (wNil)))
def b__law_bad_bases : MS :=
  sSeq (sAsg (mSh (mBind (mCons (mSh (mBind (wCons (mV 1) wNil) fList)) (mCons (mSh (mBind (mCons (mSh (mC (.int 0))) (mCons (mSh (mV 2)) (mNil))) fun ds => newL (okLen ds))) (mNil))) fun ds => newT (okLen ds))) (gT 2 (gsN [3, 4])))
  (sSeq (sFor (mBind (mSh (k1__law_bad_bases)) itemsOf) (gN 5) (l1__law_bad_bases))
  (sRet (mCall 3 m__law_refused (wCons (mW (mLam mx__law_caught th2__law_bad_bases)) (wCons (mC (.str "BadNumber")) (wCons (mV 2) (wNil)))))))
def m__law_bad_bases : MF := fnM 6 b__law_bad_bases
theorem fx__law_bad_bases (T : Txt P K mg C base c__law_bad_bases P__law_bad_bases c_law P_law) : FX P w K mg base C 8 "_law_bad_bases" s__law_bad_bases p__law_bad_bases m__law_bad_bases :=
  have S := sc__law_bad_bases
  fx_ofC false T.f__law_bad_bases S T.hC (k := 7) fun A outer s H E f B hC hx hr P hp =>
  (dss_cons (d_asg (d_sh (d_tup (ds_cons (d_sh (d_list P.toPl T.n_list (dv 1))) (ds_cons (d_sh (d_lst (ds_cons (d_sh d_int) (ds_cons (d_sh (dv 2)) ds_nil)))) ds_nil)))) (dg_tup P (dgs_cons 3 S.nd (dgs_cons 4 S.nd dgs_nil))))
  (dss_cons (d_for P hp (di_seq P.toPl (d_sh (d_lst (ds_cons (d_sh (dv 3)) (ds_cons (d_sh (d_tup (ds_cons (d_sh d_int) (ds_cons (d_sh d_int) ds_nil)))) (ds_cons (d_sh (d_tup (ds_cons (d_sh d_int) (ds_cons (d_sh d_int) ds_nil)))) (ds_cons (d_sh (d_tup (ds_cons (d_sh d_int) (ds_cons (d_sh d_int) ds_nil)))) (ds_cons (d_sh (d_tup (ds_cons (d_sh d_int) (ds_cons (d_sh d_int) ds_nil)))) (ds_cons (d_sh (d_tup (ds_cons (d_sh (d_neg d_int)) (ds_cons (d_sh d_int) ds_nil)))) (ds_cons (d_sh (d_tup (ds_cons (d_sh d_int) (ds_cons (d_sh (d_neg d_int)) ds_nil)))) (ds_cons (d_sh (d_tup (ds_cons (d_sh d_int) (ds_cons (d_sh d_int) ds_nil)))) (ds_cons (d_sh (d_tup (ds_cons (d_sh d_bl) (ds_cons (d_sh d_int) ds_nil)))) (ds_cons (d_sh (d_tup (ds_cons (d_sh d_int) (ds_cons (d_sh d_int) (ds_cons (d_sh d_int) ds_nil))))) (ds_cons (d_sh (d_tup (ds_cons (d_sh d_int) ds_nil))) (ds_cons (d_sh d_str) (ds_cons (d_sh d_non) (ds_cons (d_sh d_int) (ds_cons (d_sh (d_tup (ds_cons (d_sh d_str) (ds_cons (d_sh d_int) ds_nil)))) ds_nil)))))))))))))))))) (dg_name 5 S.nd) (dss_one (d_if (dt_not (dt_truth P.toPl (d_w (d_call P.toPl hC ((fd__law_refused T).mono (by decide)) hr (dw_cons (d_w (d_lam (k := 5) P.toPl hC T.f__law_caught sc__law_caught T.tb__law_bad_bases rfl T.tm__law_bad_bases T.tu__law_bad_bases hr (LamX.lamS_by (by show LamX.lamSB (defScope s__law_bad_bases) _ = true; decide +kernel)) uni__law_caught (fun u th cdv A outer s H E f B hC hx hr P hp act => hg__law_caught T P hC hx (hr.mono (by decide)) hp u th act) (fun A outer s1 H1 E1 f c1 B hC hx hr P => (d_make P.toPl hC ((mk_Coins T).mono (by decide)) hr (dw_cons (dv 5) (dw_cons (d_list P.toPl T.n_list (dv 4)) dw_nil)))))) (dw_cons d_str (dw_cons (dv 5) dw_nil))))))) (dss_one (d_ret (d_sh d_bl))) dss_nil)))
  (dss_one (d_ret (d_call P.toPl hC ((fd__law_refused T).mono (by decide)) hr (dw_cons (d_w (d_lam (k := 5) P.toPl hC T.f__law_caught sc__law_caught T.tb__law_bad_bases rfl T.tm__law_bad_bases T.tu__law_bad_bases hr (LamX.lamS_by (by show LamX.lamSB (defScope s__law_bad_bases) _ = true; decide +kernel)) uni__law_caught (fun u th cdv A outer s H E f B hC hx hr P hp act => hg__law_caught T P hC hx (hr.mono (by decide)) hp u th act) (fun A outer s1 H1 E1 f c1 B hC hx hr P => (d_makeP0 P.toPl hC ((mkk_Coins_0_digits_base T).mono (by decide)) hr (dk_cons (d_list P.toPl T.n_list (dv 4)) (dk_cons (dv 1) dk_nil)))))) (dw_cons d_str (dw_cons (dv 2) dw_nil))))))))
theorem fd__law_bad_bases (T : Txt P K mg C base c__law_bad_bases P__law_bad_bases c_law P_law) : FD P w K mg base C 8 "_law_bad_bases" 3 m__law_bad_bases := (fx__law_bad_bases T).fd
def c1_go_count : M Bool :=
  asB (m2 (mV 1) (mBind (wCons (mV 0) wNil) fLen) fLt)
def l1_go_count : MS :=
  sSeq (sAsg (mSh (m2 (mV 0) (mV 1) fIx)) (gN 6))
  (sSeq (sAug 1 (mSh (mC (.int 1))) fAddI)
  (sSeq (sIf (asB (m2 (mV 6) (mV 2) fGe)) (sRet (mSh (mBind (mCons (mSh (mV 4)) (mCons (mSh (mV 1)) (mNil))) fun ds => newT (okLen ds)))) (sNx))
  (sSeq (sAug 5 (mSh (mC (.int 1))) fAddI)
  (sIf (asB (m2 (mV 5) (mV 3) fEq)) (sSeq (sAug 4 (mSh (mC (.int 1))) fAddI)
  (sAsg (mSh (mC (.int 0))) (gN 5))) (sNx)))))
def b_go_count : MS :=
  sSeq (sAsg (mSh (mC (.int 0))) (gN 4))
  (sSeq (sAsg (mSh (mC (.int 0))) (gN 5))
  (sSeq (sWhile (c1_go_count) (l1_go_count))
  (sRet (mSh (mC .non)))))
def m_go_count : MF := fnM 7 b_go_count
theorem fx_go_count (T : Txt P K mg C base c__law_bad_bases P__law_bad_bases c_law P_law) : FX P w K mg base C 1 "go_count" s_go_count p_go_count m_go_count :=
  have S := sc_go_count
  fx_of T.f_go_count S T.hC (k := 0) fun cdv A outer s H E f B hC hx hr P hp =>
  (dss_cons (d_set 4 S.nd (d_sh d_int))
  (dss_cons (d_set 5 S.nd (d_sh d_int))
  (dss_cons (d_while hp (dt_lt (dv 1) (d_len P.toPl T.n_len (dv 0))) (dss_cons (d_set 6 S.nd (d_sh (d_ix P.toPl (dv 0) (dv 1))))
  (dss_cons (d_augAdd 1 S.nd (d_sh d_int))
  (dss_cons (d_if (dt_ge (dv 6) (dv 2)) (dss_one (d_ret (d_sh (d_tup (ds_cons (d_sh (dv 4)) (ds_cons (d_sh (dv 1)) ds_nil)))))) dss_nil)
  (dss_cons (d_augAdd 5 S.nd (d_sh d_int))
  (dss_one (d_if (dt_eq P.toPl (dv 5) (dv 3)) (dss_cons (d_augAdd 4 S.nd (d_sh d_int))
  (dss_one (d_set 5 S.nd (d_sh d_int)))) dss_nil)))))))
  (dss_one (d_ret (d_sh d_non))))))
theorem fd_go_count (T : Txt P K mg C base c__law_bad_bases P__law_bad_bases c_law P_law) : FD P w K mg base C 1 "go_count" 4 m_go_count := (fx_go_count T).fd
def b_noise_made : MS :=
  sSeq (sAsg (mCall 4 m_go_count (wCons (mV 0) (wCons (mV 1) (wCons (mV 2) (wCons (mV 3) (wNil)))))) (gN 5))
  (sSeq (sIf (asB (m2 (mV 5) (mC .non) (fIs false))) (sRet (mSh (mC .non))) (sNx))
  (sSeq (sAsg (mCall 4 m_go_count (wCons (mV 0) (wCons (m2 (mV 5) (mC (.int 1)) fIx) (wCons (mV 2) (wCons (mV 4) (wNil)))))) (gN 6))
  (sSeq (sIf (asB (m2 (mV 6) (mC .non) (fIs false))) (sRet (mSh (mC .non))) (sNx))
  (sRet (mSh (mBind (mCons (mSh (m2 (m2 (mV 5) (mC (.int 0)) fIx) (m2 (mV 6) (mC (.int 0)) fIx) fSub)) (mCons (mSh (m2 (mV 6) (mC (.int 1)) fIx)) (mNil))) fun ds => newT (okLen ds)))))))
def m_noise_made : MF := fnM 7 b_noise_made
theorem fx_noise_made (T : Txt P K mg C base c__law_bad_bases P__law_bad_bases c_law P_law) : FX P w K mg base C 2 "noise_made" s_noise_made p_noise_made m_noise_made :=
  have S := sc_noise_made
  fx_of T.f_noise_made S T.hC (k := 1) fun cdv A outer s H E f B hC hx hr P hp =>
  (dss_cons (d_set 5 S.nd (d_call P.toPl hC ((fd_go_count T).mono (by decide)) hr (dw_cons (dv 0) (dw_cons (dv 1) (dw_cons (dv 2) (dw_cons (dv 3) dw_nil))))))
  (dss_cons (d_if (dt_is (dv 5) d_non) (dss_one (d_ret (d_sh d_non))) dss_nil)
  (dss_cons (d_set 6 S.nd (d_call P.toPl hC ((fd_go_count T).mono (by decide)) hr (dw_cons (dv 0) (dw_cons (d_ix P.toPl (dv 5) d_int) (dw_cons (dv 2) (dw_cons (dv 4) dw_nil))))))
  (dss_cons (d_if (dt_is (dv 6) d_non) (dss_one (d_ret (d_sh d_non))) dss_nil)
  (dss_one (d_ret (d_sh (d_tup (ds_cons (d_sh (d_sub (d_ix P.toPl (dv 5) d_int) (d_ix P.toPl (dv 6) d_int))) (ds_cons (d_sh (d_ix P.toPl (dv 6) d_int)) ds_nil))))))))))
theorem fd_noise_made (T : Txt P K mg C base c__law_bad_bases P__law_bad_bases c_law P_law) : FD P w K mg base C 2 "noise_made" 5 m_noise_made := (fx_noise_made T).fd
def b_Coins_noise : MS :=
  sSeq (sAsg (mCall 5 m_noise_made (wCons (mBind (mV 0) (fFld fl__digits "_digits")) (wCons (mBind (mV 0) (fFld fl__at "_at")) (wCons (m2 (mBind (mV 0) (fFld fl__base "_base")) (mC (.int 0)) fIx) (wCons (mV 1) (wCons (mV 2) (wNil))))))) (gN 3))
  (sSeq (sIf (asB (m2 (mV 3) (mC .non) (fIs false))) (sRaise "Thirsty" ["many"] (mCons (mSh (m2 (mBind (wCons (mBind (mV 0) (fFld fl__digits "_digits")) wNil) fLen) (mBind (mV 0) (fFld fl__at "_at")) fSub)) (mNil))) (sNx))
  (sSeq (sFldD (mSh (m2 (mV 3) (mC (.int 1)) fIx)) (mV 0) fl__at "_at")
  (sRet (mSh (m2 (mV 3) (mC (.int 0)) fIx)))))
def m_Coins_noise : MF := fnM 4 b_Coins_noise
theorem fm_Coins_noise (T : Txt P K mg C base c__law_bad_bases P__law_bad_bases c_law P_law) : FM P w K mg base C 3 "Coins" "noise" "Coins.noise" s_Coins_noise p_Coins_noise m_Coins_noise :=
  have S := sc_Coins_noise
  fm_of T.f_Coins_noise S T.hC (k := 2) fun cdv A outer s H E f B hC hx hr P hp =>
  (dss_cons (d_set 3 S.nd (d_call P.toPl hC ((fd_noise_made T).mono (by decide)) hr (dw_cons (d_fld P.toPl (fun c A e => T.fl__digits c A (cEq hC e)) (dv 0)) (dw_cons (d_fld P.toPl (fun c A e => T.fl__at c A (cEq hC e)) (dv 0)) (dw_cons (d_ix P.toPl (d_fld P.toPl (fun c A e => T.fl__base c A (cEq hC e)) (dv 0)) d_int) (dw_cons (dv 1) (dw_cons (dv 2) dw_nil)))))))
  (dss_cons (d_if (dt_is (dv 3) d_non) (dss_one (d_raise P (by rw [hC]; exact (xd_Thirsty T).mono (by decide)) hr (ds_cons (d_sh (d_sub (d_len P.toPl T.n_len (d_fld P.toPl (fun c A e => T.fl__digits c A (cEq hC e)) (dv 0))) (d_fld P.toPl (fun c A e => T.fl__at c A (cEq hC e)) (dv 0)))) ds_nil))) dss_nil)
  (dss_cons (dss_fld P.toPl (fun c A e => T.fl__at c A (cEq hC e)) (d_sh (d_ix P.toPl (dv 3) d_int)) (dv 0))
  (dss_one (d_ret (d_sh (d_ix P.toPl (dv 3) d_int)))))))
def tm_noise : Str → Option MF :=  tb1 "Coins" m_Coins_noise
theorem mt_noise (T : Txt P K mg C base c__law_bad_bases P__law_bad_bases c_law P_law) : MtD P w K mg base C 3 "noise" 2 tm_noise := ((fm_Coins_noise T).mono (by decide) : FM P w K mg base C 3 _ _ _ _ _ _).mt
theorem mtk_noise_0_down_up (T : Txt P K mg C base c__law_bad_bases P__law_bad_bases c_law P_law) : MtK P w K mg base C 3 "noise" 0 ["down", "up"] [0, 2, 1] tm_noise := (fm_Coins_noise T).mtk ["down", "up"] [0, 2, 1] 0 fun _ _ _ _ _ _ us ws h1 h2 => match us, ws, h1, h2 with | [_], [_, _], _, _ => rfl
def b_Coins_pour : MS :=
  sSeq (sAsg (mCall 2 m_wrong_digits (wCons (mV 1) (wCons (m2 (mBind (mV 0) (fFld fl__base "_base")) (mC (.int 1)) fIx) (wNil)))) (gN 2))
  (sSeq (sIf (mBind (mV 2) mTru) (sRaise "BadNumber" ["value"] (mCons (mSh (m2 (mV 2) (mC (.int 0)) fIx)) (mNil))) (sNx))
  (sExpr (mExtF (mBind (mV 0) (fFld fl__digits "_digits")) (mBind (wCons (mV 1) wNil) fListF))))
def m_Coins_pour : MF := fnM 3 b_Coins_pour
theorem fm_Coins_pour (T : Txt P K mg C base c__law_bad_bases P__law_bad_bases c_law P_law) : FM P w K mg base C 3 "Coins" "pour" "Coins.pour" s_Coins_pour p_Coins_pour m_Coins_pour :=
  have S := sc_Coins_pour
  fm_of T.f_Coins_pour S T.hC (k := 2) fun cdv A outer s H E f B hC hx hr P hp =>
  (dss_cons (d_set 2 S.nd (d_call P.toPl hC ((fd_wrong_digits T).mono (by decide)) hr (dw_cons (dv 1) (dw_cons (d_ix P.toPl (d_fld P.toPl (fun c A e => T.fl__base c A (cEq hC e)) (dv 0)) d_int) dw_nil))))
  (dss_cons (d_if (dt_truth P.toPl (dv 2)) (dss_one (d_raise P (by rw [hC]; exact (xd_BadNumber T).mono (by decide)) hr (ds_cons (d_sh (d_ix P.toPl (dv 2) d_int)) ds_nil))) dss_nil)
  (dss_one (d_expr (d_extF P.toPl (d_fld P.toPl (fun c A e => T.fl__digits c A (cEq hC e)) (dv 0)) (df_list P.toPl T.n_list (dv 1)))))))
def tm_pour : Str → Option MF :=  tb1 "Coins" m_Coins_pour
theorem mt_pour (T : Txt P K mg C base c__law_bad_bases P__law_bad_bases c_law P_law) : MtD P w K mg base C 3 "pour" 1 tm_pour := ((fm_Coins_pour T).mono (by decide) : FM P w K mg base C 3 _ _ _ _ _ _).mt
theorem mtk_pour_0_digits (T : Txt P K mg C base c__law_bad_bases P__law_bad_bases c_law P_law) : MtK P w K mg base C 3 "pour" 0 ["digits"] [0, 1] tm_pour := (fm_Coins_pour T).mtk ["digits"] [0, 1] 0 fun _ _ _ _ _ _ us ws h1 h2 => match us, ws, h1, h2 with | [_], [_], _, _ => rfl
def k1_law : M W :=
  mBind (mCons (mSh (mC (.int 5))) (mCons (mSh (mC (.int 12))) (mCons (mSh (mC (.int 0))) (mCons (mSh (mC (.int 8))) (mCons (mSh (mC (.int 2))) (mNil)))))) fun ds => newL (okLen ds)
@[simp] theorem e_k1_law (z : Z) : k1_law z = .ok (.d (.lst [.int 5, .int 12, .int 0, .int 8, .int 2])) z := rfl
def k2_law : M W :=
  mBind (mCons (mSh (mC (.int 0))) (mCons (mSh (mC (.int 0))) (mCons (mSh (mC (.int 0))) (mCons (mSh (mC (.int 0))) (mCons (mSh (mC (.int 0))) (mCons (mSh (mC (.int 0))) (mCons (mSh (mC (.int 0))) (mCons (mSh (mC (.int 400))) (mNil))))))))) fun ds => newL (okLen ds)
@[simp] theorem e_k2_law (z : Z) : k2_law z = .ok (.d (.lst [.int 0, .int 0, .int 0, .int 0, .int 0, .int 0, .int 0, .int 400])) z := rfl
def s1_law : MS :=
  sAsg (mCell ((fun z => ((mW (mCall 3 m__law_digits (wCons (mV 1) (wCons (mV 4) (wCons (mW (mCall 2 m__law_of (wCons (mV 1) (wCons (k1_law) (wNil))))) (wNil)))))) z).bind fun x z1 => ((mRepF (mBind (mCons (mSh (mC (.int 0))) (mNil)) fun ds => frL (okLen ds)) (mW (mCall 2 m__law_of (wCons (mV 1) (wCons (k2_law) (wNil)))))) z1).bind fun y z2 => fAddF x y z2))) (gN 5)
def s2_law : MS :=
  sAsg (mSh (mIf (asB (m2 (mV 3) (mC (.int 0)) fEq)) (mW (mMake "Coins" 2 m_Coins_U_initU_ (wCons (mV 4) (wCons (mV 6) (wNil))))) (mW (mMakeP "Coins" 0 2 [1, 0] m_Coins_U_initU_ (wNil) (wCons (mV 6) (wCons (mV 4) (wNil))))))) (gN 13)
def s3_law : MS :=
  sIf (asB (m2 (mBind (mV 6) fReprL) (mBind (mV 5) fReprL) fNe)) (sRet (mSh (mC (.bl false)))) (sNx)
def s4_law : MS :=
  sExpr (mBM .lst (mV 2) (wCons (mW (mCell (mBind (mCons (mSh (mV 13)) (mCons (mSh (mV 4)) (mCons (mSh (mV 5)) (mCons (mSh (mC (.int 0))) (mNil))))) fun ds => frL (okLen ds)))) wNil) fAppend)
def l1_law : MS :=
  sSeq (sAsg (mCall 1 m__law_odds (wCons (mV 1) (wNil))) (gN 4))
  (sSeq (s1_law)
  (sSeq (sAsg (mCell (mBind (wCons (mV 5) wNil) fListF)) (gN 6))
  (sSeq (s2_law)
  (sSeq (s3_law)
  (sSeq (sExpr (mBM .lst (mV 6) wNil fClear))
  (s4_law))))))
def k3_law : M W :=
  mBind (mCons (mSh (mC (.int 1))) (mCons (mSh (mC (.int 1))) (mCons (mSh (mC (.int 2))) (mCons (mSh (mC (.int 4))) (mCons (mSh (mC (.int 1))) (mCons (mSh (mC (.int 3))) (mNil))))))) fun ds => newL (okLen ds)
@[simp] theorem e_k3_law (z : Z) : k3_law z = .ok (.d (.lst [.int 1, .int 1, .int 2, .int 4, .int 1, .int 3])) z := rfl
def k4_law : M W :=
  mBind (mCons (mSh (mC (.int 1))) (mCons (mSh (mC (.int 2))) (mCons (mSh (mC (.int 1))) (mCons (mSh (mC (.int 3))) (mCons (mSh (mC (.int 1))) (mCons (mSh (mC (.int 60))) (mCons (mSh (mC (.int 4))) (mNil)))))))) fun ds => newL (okLen ds)
@[simp] theorem e_k4_law (z : Z) : k4_law z = .ok (.d (.lst [.int 1, .int 2, .int 1, .int 3, .int 1, .int 60, .int 4])) z := rfl
def th1_law : M D :=
  mSh (mIf (asB (m2 (mV 14) (mC (.int 2)) fGt)) (mW (mMeth "noise" 2 tm_noise (mV 13) (wCons (m2 (mV 16) (mC (.int 0)) fIx) (wCons (m2 (mV 16) (mC (.int 1)) fIx) (wNil))))) (mW (mMethP "noise" 0 2 [0, 2, 1] tm_noise (mV 13) (wNil) (wCons (m2 (mV 16) (mC (.int 1)) fIx) (wCons (m2 (mV 16) (mC (.int 0)) fIx) (wNil))))))
def s5_law : MS :=
  sAsg (mSh (mBind (mCons (mCall 2 m__law_of (wCons (mV 1) (wCons (k4_law) (wNil)))) (mCons (mCall 2 m__law_of (wCons (mV 1) (wCons (k3_law) (wNil)))) (mNil))) fun ds => newT (okLen ds))) (gN 16)
def s6_law : MS :=
  sAsg (mCall 4 m__law_noise (wCons (mV 4) (wCons (mV 5) (wCons (mV 8) (wCons (mV 16) (wNil)))))) (gN 9)
def s7_law : MS :=
  sIf (tyAnd (asB (m2 (mV 9) (mC .non) (fIs false))) (asB (m2 (mV 10) (mBind (mCons (mSh (mC .non)) (mCons (mSh (mBind (mCons (mSh (mC (.str "Thirsty"))) (mCons (mSh (m2 (mBind (wCons (mV 5) wNil) fLen) (mV 8) fSub)) (mNil))) fun ds => newL (okLen ds))) (mNil))) fun ds => newL (okLen ds)) fNe))) (sRet (mSh (mC (.bl false)))) (sNx)
def s8_law : MS :=
  sIf (tyAnd (asB (m2 (mV 9) (mC .non) (fIs true))) (tyOr (asB (m2 (m2 (mV 10) (mC (.int 1)) fIx) (mC .non) (fIs true))) (tyOr (tyNot (mBind (mW (mCall 1 m__law_whole (wCons (m2 (mV 10) (mC (.int 0)) fIx) (wNil)))) mTru)) (asB (m2 (mV 10) (mBind (mCons (mSh (m2 (mV 9) (mC (.int 0)) fIx)) (mCons (mSh (mC .non)) (mNil))) fun ds => newL (okLen ds)) fNe))))) (sRet (mSh (mC (.bl false)))) (sNx)
def s9_law : MS :=
  sAsg (mSh (mIf (asB (m2 (mV 9) (mC .non) (fIs false))) (mV 8) (m2 (mV 9) (mC (.int 1)) fIx))) (gSubD (mV 7) (mC (.int 3)))
def k5_law : M W :=
  mBind (mCons (mSh (mC (.int 3))) (mCons (mSh (mC (.int 6))) (mCons (mSh (mC (.int 0))) (mCons (mSh (mC (.int 12))) (mCons (mSh (mC (.int 1))) (mNil)))))) fun ds => newL (okLen ds)
@[simp] theorem e_k5_law (z : Z) : k5_law z = .ok (.d (.lst [.int 3, .int 6, .int 0, .int 12, .int 1])) z := rfl
def k6_law : M W :=
  mBind (mCons (mSh (m2 (mV 4) (mC (.int 1)) fIx)) (mCons (mSh (mBind (mC (.int 1)) fNeg)) (mCons (mSh (mC (.bl true))) (mCons (mSh (mC (.str "0"))) (mCons (mSh (mC .non)) (mCons (mSh (mBind (mCons (mSh (mC (.int 0))) (mNil)) fun ds => newT (okLen ds))) (mCons (mSh (mC (.bl false))) (mNil)))))))) fun ds => newL (okLen ds)
def th2_law : M D :=
  mMeth "pour" 1 tm_pour (mV 13) (wCons (m2 (m2 (m2 (mSl (mV 15) (oNone) (oSome (mV 17))) (mBind (mCons (mSh (mV 12)) (mNil)) fun ds => newL (okLen ds)) fAdd) (mSl (mV 15) (oSome (mV 17)) (oNone)) fAdd) (mBind (mCons (mSh (mBind (mC (.int 7)) fNeg)) (mNil)) fun ds => newL (okLen ds)) fAdd) (wNil))
def th3_law : M D :=
  mMethP "pour" 0 1 [0, 1] tm_pour (mV 13) (wNil) (wCons (mV 15) (wNil))
def s10_law : MS :=
  sAsg (mCall 3 m__law_digits (wCons (mV 1) (wCons (mV 4) (wCons (mW (mCall 2 m__law_of (wCons (mV 1) (wCons (k5_law) (wNil))))) (wNil))))) (gN 15)
def s11_law : MS :=
  sAsg (mCall 2 m__law_of (wCons (mV 1) (wCons (k6_law) (wNil)))) (gN 12)
def s12_law : MS :=
  sAsg (mCall 2 m__law_draw (wCons (mV 1) (wCons (m2 (mBind (wCons (mV 15) wNil) fLen) (mC (.int 1)) fAdd) (wNil)))) (gN 17)
def s13_law : MS :=
  sIf (tyAnd (asB (m2 (mV 14) (mC (.int 1)) fEq)) (tyNot (mBind (mW (mCall 3 m__law_refused (wCons (mW (mLam mx__law_caught th2_law)) (wCons (mC (.str "BadNumber")) (wCons (mV 12) (wNil)))))) mTru))) (sRet (mSh (mC (.bl false)))) (sNx)
def s14_law : MS :=
  sIf (tyOr (tyNot (mBind (mW (mCall 3 m__law_stands (wCons (mV 13) (wCons (mV 8) (wCons (mV 5) (wNil)))))) mTru)) (asB (m2 (mW (mLam mx__law_caught th3_law)) (mBind (mCons (mSh (mC .non)) (mCons (mSh (mC .non)) (mNil))) fun ds => newL (okLen ds)) fNe))) (sRet (mSh (mC (.bl false)))) (sNx)
def l2_law : MS :=
  sIf (tyNot (mBind (mW (mCall 3 m__law_stands (wCons (m2 (mV 11) (mC (.int 0)) fIx) (wCons (m2 (mV 11) (mC (.int 3)) fIx) (wCons (m2 (mV 11) (mC (.int 2)) fIx) (wNil)))))) mTru)) (sRet (mSh (mC (.bl false)))) (sNx)
def s15_law : MS :=
  sAsg (mSh (m2 (mV 2) (mW (mCall 2 m__law_draw (wCons (mV 1) (wCons (mC (.int 2)) (wNil))))) fIx)) (gN 7)
def s16_law : MS :=
  sAsg (mCall 2 m__law_draw (wCons (mV 1) (wCons (mC (.int 8)) (wNil)))) (gN 14)
def s17_law : MS :=
  sIf (asB (m2 (mV 14) (mC (.int 1)) fGt)) (sSeq (s5_law)
  (sSeq (s6_law)
  (sSeq (sAsg (mLam mx__law_caught th1_law) (gN 10))
  (sSeq (s7_law)
  (sSeq (s8_law)
  (s9_law)))))) (sSeq (s10_law)
  (sSeq (s11_law)
  (sSeq (s12_law)
  (sSeq (s13_law)
  (sSeq (s14_law)
  (sSeq (sExpr (mBM .lst (mV 5) (wCons (mV 15) wNil) fExtend))
  (sExpr (mBM .lst (mV 15) wNil fClear))))))))
def l3_law : MS :=
  sSeq (s15_law)
  (sSeq (sAsg (mSh (mV 7)) (gTU 4 (gsN [13, 4, 5, 8])))
  (sSeq (s16_law)
  (sSeq (s17_law)
  (sForA (mSh (mV 2)) (gN 11) (l2_law)))))
def k7_law : M W :=
  mBind (mCons (mSh (m2 (m2 (m2 (mV 2) (mC (.int 0)) fIx) (mC (.int 1)) fIx) (mC (.int 1)) fIx)) (mCons (mSh (mBind (mC (.int 1)) fNeg)) (mCons (mSh (mC (.bl true))) (mCons (mSh (mC (.str "1"))) (mCons (mSh (mC .non)) (mCons (mSh (m2 (mC (.int 10)) (mC (.int 9)) fPow)) (mNil))))))) fun ds => newL (okLen ds)
def s18_law : MS :=
  sPar [1, 2] (mCons (mCall 1 m__law_bag (wCons (mV 0) (wNil))) (mCons (mCell (mBind (mNil) fun ds => frL (okLen ds))) (mNil)))
def s19_law : MS :=
  sFor (mBind (wCons (mC (.int 2)) wNil) fRange1) (gN 3) (l1_law)
def s20_law : MS :=
  sFor (mBind (wCons (mW (mCall 2 m__law_of (wCons (mV 1) (wCons (mBind (mCons (mSh (mC (.int 16))) (mCons (mSh (mC (.int 8))) (mCons (mSh (mC (.int 30))) (mNil)))) fun ds => newL (okLen ds)) (wNil))))) wNil) fRange1) (gN 3) (l3_law)
def s21_law : MS :=
  sRet (mCall 3 m__law_bad_bases (wCons (mV 1) (wCons (m2 (m2 (mV 2) (mC (.int 0)) fIx) (mC (.int 1)) fIx) (wCons (mW (mCall 2 m__law_of (wCons (mV 1) (wCons (k7_law) (wNil))))) (wNil)))))
def b_law : MS :=
  sSeq (s18_law)
  (sSeq (s19_law)
  (sSeq (s20_law)
  (s21_law)))
def m_law : MF := fnM 18 b_law
theorem run_law (T : Txt P K mg C base c__law_bad_bases P__law_bad_bases c_law P_law) : LawRun P w K mg base C "law" s_law p_law c_law m_law :=
  have S := sc_law
  ⟨fun f oc od kV doc pm an ct osl lk hcd => runL_of lk hcd S T.hC (k := 8) ⟨rfl, by decide, by decide⟩ fun s H E B hC hx hr P hp =>
  (dss_cons (d_par2 1 2 P S.nd (ds_cons (d_call P.toPl hC ((fd__law_bag T).mono (by decide)) hr (dw_cons (dv 0) dw_nil)) (ds_cons (d_cell (df_lst ds_nil)) ds_nil)))
  (dss_cons (d_for P hp (di_range1 T.n_range d_int) (dg_name 3 S.nd) (dss_cons (d_set 4 S.nd (d_call P.toPl hC ((fd__law_odds T).mono (by decide)) hr (dw_cons (dv 1) dw_nil)))
  (dss_cons (d_set 5 S.nd (d_cell (df_add P.toPl (d_w (d_call P.toPl hC ((fd__law_digits T).mono (by decide)) hr (dw_cons (dv 1) (dw_cons (dv 4) (dw_cons (d_w (d_call P.toPl hC ((fd__law_of T).mono (by decide)) hr (dw_cons (dv 1) (dw_cons (d_lst (ds_cons (d_sh d_int) (ds_cons (d_sh d_int) (ds_cons (d_sh d_int) (ds_cons (d_sh d_int) (ds_cons (d_sh d_int) ds_nil)))))) dw_nil)))) dw_nil))))) (d_repF (df_lst (ds_cons (d_sh d_int) ds_nil)) (d_w (d_call P.toPl hC ((fd__law_of T).mono (by decide)) hr (dw_cons (dv 1) (dw_cons (d_lst (ds_cons (d_sh d_int) (ds_cons (d_sh d_int) (ds_cons (d_sh d_int) (ds_cons (d_sh d_int) (ds_cons (d_sh d_int) (ds_cons (d_sh d_int) (ds_cons (d_sh d_int) (ds_cons (d_sh d_int) ds_nil))))))))) dw_nil))))))))
  (dss_cons (d_set 6 S.nd (d_cell (df_list P.toPl T.n_list (dv 5))))
  (dss_cons (d_set 13 S.nd (d_sh (d_ifExp (dt_eq P.toPl (dv 3) d_int) (d_w (d_make P.toPl hC ((mk_Coins T).mono (by decide)) hr (dw_cons (dv 4) (dw_cons (dv 6) dw_nil)))) (d_w (d_makeP0 P.toPl hC ((mkk_Coins_0_digits_base T).mono (by decide)) hr (dk_cons (dv 6) (dk_cons (dv 4) dk_nil)))))))
  (dss_cons (d_if (dt_ne P.toPl (d_reprL P.toPl (by rfl) T.n_repr (dv 6)) (d_reprL P.toPl (by rfl) T.n_repr (dv 5))) (dss_one (d_ret (d_sh d_bl))) dss_nil)
  (dss_cons (d_expr (d_clear P.toPl (dv 6)))
  (dss_one (d_expr (d_append P.toPl (dv 2) (d_w (d_cell (df_lst (ds_cons (d_sh (dv 13)) (ds_cons (d_sh (dv 4)) (ds_cons (d_sh (dv 5)) (ds_cons (d_sh d_int) ds_nil)))))))))))))))))
  (dss_cons (d_for P hp (di_range1 T.n_range (d_w (d_call P.toPl hC ((fd__law_of T).mono (by decide)) hr (dw_cons (dv 1) (dw_cons (d_lst (ds_cons (d_sh d_int) (ds_cons (d_sh d_int) (ds_cons (d_sh d_int) ds_nil)))) dw_nil))))) (dg_name 3 S.nd) (dss_cons (d_set 7 S.nd (d_sh (d_ix P.toPl (dv 2) (d_w (d_call P.toPl hC ((fd__law_draw T).mono (by decide)) hr (dw_cons (dv 1) (dw_cons d_int dw_nil)))))))
  (dss_cons (d_asg (d_sh (dv 7)) (dg_seq P (dgs_cons 13 S.nd (dgs_cons 4 S.nd (dgs_cons 5 S.nd (dgs_cons 8 S.nd dgs_nil))))))
  (dss_cons (d_set 14 S.nd (d_call P.toPl hC ((fd__law_draw T).mono (by decide)) hr (dw_cons (dv 1) (dw_cons d_int dw_nil))))
  (dss_cons (d_if (dt_gt (dv 14) d_int) (dss_cons (d_set 16 S.nd (d_sh (d_tup (ds_cons (d_call P.toPl hC ((fd__law_of T).mono (by decide)) hr (dw_cons (dv 1) (dw_cons (d_lst (ds_cons (d_sh d_int) (ds_cons (d_sh d_int) (ds_cons (d_sh d_int) (ds_cons (d_sh d_int) (ds_cons (d_sh d_int) (ds_cons (d_sh d_int) (ds_cons (d_sh d_int) ds_nil)))))))) dw_nil))) (ds_cons (d_call P.toPl hC ((fd__law_of T).mono (by decide)) hr (dw_cons (dv 1) (dw_cons (d_lst (ds_cons (d_sh d_int) (ds_cons (d_sh d_int) (ds_cons (d_sh d_int) (ds_cons (d_sh d_int) (ds_cons (d_sh d_int) (ds_cons (d_sh d_int) ds_nil))))))) dw_nil))) ds_nil)))))
  (dss_cons (d_set 9 S.nd (d_call P.toPl hC ((fd__law_noise T).mono (by decide)) hr (dw_cons (dv 4) (dw_cons (dv 5) (dw_cons (dv 8) (dw_cons (dv 16) dw_nil))))))
  (dss_cons (d_set 10 S.nd (d_lam (k := 6) P.toPl hC T.f__law_caught sc__law_caught T.tb_law rfl T.tm_law T.tu_law hr (LamX.lamS_by (by show LamX.lamSB (defScope s_law) _ = true; decide +kernel)) uni__law_caught (fun u th cdv A outer s H E f B hC hx hr P hp act => hg__law_caught T P hC hx (hr.mono (by decide)) hp u th act) (fun A outer s1 H1 E1 f c1 B hC hx hr P => (d_sh (d_ifExp (dt_gt (dv 14) d_int) (d_w (d_meth P.toPl hC ((mt_noise T).mono (by decide)) hr (dv 13) (dw_cons (d_ix P.toPl (dv 16) d_int) (dw_cons (d_ix P.toPl (dv 16) d_int) dw_nil)))) (d_w (d_methP0 P.toPl hC ((mtk_noise_0_down_up T).mono (by decide)) hr (dv 13) (dk_cons (d_ix P.toPl (dv 16) d_int) (dk_cons (d_ix P.toPl (dv 16) d_int) dk_nil)))))))))
  (dss_cons (d_if (PWD.pt (dw_and (dt_is (dv 9) d_non) (dw_and1 (dt_ne P.toPl (dv 10) (d_lst (ds_cons (d_sh d_non) (ds_cons (d_sh (d_lst (ds_cons (d_sh d_str) (ds_cons (d_sh (d_sub (d_len P.toPl T.n_len (dv 5)) (dv 8))) ds_nil)))) ds_nil))))))) (dss_one (d_ret (d_sh d_bl))) dss_nil)
  (dss_cons (d_if (PWD.pt (dw_and (dt_isnot (dv 9) d_non) (dw_and1 (PWD.pt (dw_or (dt_isnot (d_ix P.toPl (dv 10) d_int) d_non) (dw_or (dt_not (dt_truth P.toPl (d_w (d_call P.toPl hC ((fd__law_whole T).mono (by decide)) hr (dw_cons (d_ix P.toPl (dv 10) d_int) dw_nil))))) (dw_or1 (dt_ne P.toPl (dv 10) (d_lst (ds_cons (d_sh (d_ix P.toPl (dv 9) d_int)) (ds_cons (d_sh d_non) ds_nil))))))))))) (dss_one (d_ret (d_sh d_bl))) dss_nil)
  (dss_one (d_asg (d_sh (d_ifExp (dt_is (dv 9) d_non) (dv 8) (d_ix P.toPl (dv 9) d_int))) (dg_sub (E := (fun cls d _ H => E cls d H)) (dv 7) d_int)))))))) (dss_cons (d_set 15 S.nd (d_call P.toPl hC ((fd__law_digits T).mono (by decide)) hr (dw_cons (dv 1) (dw_cons (dv 4) (dw_cons (d_w (d_call P.toPl hC ((fd__law_of T).mono (by decide)) hr (dw_cons (dv 1) (dw_cons (d_lst (ds_cons (d_sh d_int) (ds_cons (d_sh d_int) (ds_cons (d_sh d_int) (ds_cons (d_sh d_int) (ds_cons (d_sh d_int) ds_nil)))))) dw_nil)))) dw_nil)))))
  (dss_cons (d_set 12 S.nd (d_call P.toPl hC ((fd__law_of T).mono (by decide)) hr (dw_cons (dv 1) (dw_cons (d_lst (ds_cons (d_sh (d_ix P.toPl (dv 4) d_int)) (ds_cons (d_sh (d_neg d_int)) (ds_cons (d_sh d_bl) (ds_cons (d_sh d_str) (ds_cons (d_sh d_non) (ds_cons (d_sh (d_tup (ds_cons (d_sh d_int) ds_nil))) (ds_cons (d_sh d_bl) ds_nil)))))))) dw_nil))))
  (dss_cons (d_set 17 S.nd (d_call P.toPl hC ((fd__law_draw T).mono (by decide)) hr (dw_cons (dv 1) (dw_cons (d_add P.K (d_len P.toPl T.n_len (dv 15)) d_int) dw_nil))))
  (dss_cons (d_if (PWD.pt (dw_and (dt_eq P.toPl (dv 14) d_int) (dw_and1 (dt_not (dt_truth P.toPl (d_w (d_call P.toPl hC ((fd__law_refused T).mono (by decide)) hr (dw_cons (d_w (d_lam (k := 6) P.toPl hC T.f__law_caught sc__law_caught T.tb_law rfl T.tm_law T.tu_law hr (LamX.lamS_by (by show LamX.lamSB (defScope s_law) _ = true; decide +kernel)) uni__law_caught (fun u th cdv A outer s H E f B hC hx hr P hp act => hg__law_caught T P hC hx (hr.mono (by decide)) hp u th act) (fun A outer s1 H1 E1 f c1 B hC hx hr P => (d_meth P.toPl hC ((mt_pour T).mono (by decide)) hr (dv 13) (dw_cons (d_add P.K (d_add P.K (d_add P.K (d_slice P.toPl (dv 15) do_none (do_some (dv 17))) (d_lst (ds_cons (d_sh (dv 12)) ds_nil))) (d_slice P.toPl (dv 15) (do_some (dv 17)) do_none)) (d_lst (ds_cons (d_sh (d_neg d_int)) ds_nil))) dw_nil))))) (dw_cons d_str (dw_cons (dv 12) dw_nil)))))))))) (dss_one (d_ret (d_sh d_bl))) dss_nil)
  (dss_cons (d_if (PWD.pt (dw_or (dt_not (dt_truth P.toPl (d_w (d_call P.toPl hC ((fd__law_stands T).mono (by decide)) hr (dw_cons (dv 13) (dw_cons (dv 8) (dw_cons (dv 5) dw_nil))))))) (dw_or1 (dt_ne P.toPl (d_w (d_lam (k := 6) P.toPl hC T.f__law_caught sc__law_caught T.tb_law rfl T.tm_law T.tu_law hr (LamX.lamS_by (by show LamX.lamSB (defScope s_law) _ = true; decide +kernel)) uni__law_caught (fun u th cdv A outer s H E f B hC hx hr P hp act => hg__law_caught T P hC hx (hr.mono (by decide)) hp u th act) (fun A outer s1 H1 E1 f c1 B hC hx hr P => (d_methP0 P.toPl hC ((mtk_pour_0_digits T).mono (by decide)) hr (dv 13) (dk_cons (dv 15) dk_nil))))) (d_lst (ds_cons (d_sh d_non) (ds_cons (d_sh d_non) ds_nil))))))) (dss_one (d_ret (d_sh d_bl))) dss_nil)
  (dss_cons (d_expr (d_extend P.toPl (dv 5) (dv 15)))
  (dss_one (d_expr (d_clear P.toPl (dv 15)))))))))))
  (dss_one (d_forA P hp (d_sh (dv 2)) (dg_name 11 S.nd) (dss_one (d_if (dt_not (dt_truth P.toPl (d_w (d_call P.toPl hC ((fd__law_stands T).mono (by decide)) hr (dw_cons (d_ix P.toPl (dv 11) d_int) (dw_cons (d_ix P.toPl (dv 11) d_int) (dw_cons (d_ix P.toPl (dv 11) d_int) dw_nil))))))) (dss_one (d_ret (d_sh d_bl))) dss_nil)))))))))
  (dss_one (d_ret (d_call P.toPl hC ((fd__law_bad_bases T).mono (by decide)) hr (dw_cons (dv 1) (dw_cons (d_ix P.toPl (d_ix P.toPl (dv 2) d_int) d_int) (dw_cons (d_w (d_call P.toPl hC ((fd__law_of T).mono (by decide)) hr (dw_cons (dv 1) (dw_cons (d_lst (ds_cons (d_sh (d_ix P.toPl (d_ix P.toPl (d_ix P.toPl (dv 2) d_int) d_int) d_int)) (ds_cons (d_sh (d_neg d_int)) (ds_cons (d_sh d_bl) (ds_cons (d_sh d_str) (ds_cons (d_sh d_non) (ds_cons (d_sh (d_pow d_int d_int)) ds_nil))))))) dw_nil)))) dw_nil)))))))))⟩
end
end Qk50
set_option Elab.async false
set_option linter.all false
set_option maxRecDepth 100000
set_option maxHeartbeats 4000000
namespace Qk50
open PySem L2 DL
/-! ### the bag -/
def bagC (xs : List Int) (a b c d : Int) : Cell := .lst [.lst (xs.map .int), .int a, .int b, .int c, .int d]
def BagC (c : Cell) : Prop := ∃ xs a b m k, c = bagC xs a b m k ∧ 0 ≤ a ∧ 0 ≤ b ∧ 0 ≤ m ∧ m < 2147483647
def Bag (S : List Cell) : Prop := ∃ c R, S = c :: R ∧ BagC c
@[simp] theorem okMulC1 (i : Int) : okMul i 52361 = true := okMul_r (by decide)
@[simp] theorem okMulC2 (i : Int) : okMul i 70237 = true := okMul_r (by decide)
@[simp] theorem okMulC3 (i : Int) : okMul i 15013 = true := okMul_r (by decide)
@[simp] theorem okMulC4 (i : Int) : okMul i 30089 = true := okMul_r (by decide)
@[simp] theorem okMulC5 (i : Int) : okMul i 1299709 = true := okMul_r (by decide)
@[simp] theorem okMulC6 (i : Int) : okMul i 61 = true := okMul_r (by decide)
@[simp] theorem okDiv89 (i : Int) : okDiv i 89 = true := by
  unfold okDiv
  have : Nat.log2 89 < 9000 := by decide
  simp [this]
@[simp] theorem pow1018 : okPow 10 18 = true := by decide
def mix1 (m item : Int) : Int := (m * 70237 + item.fmod 2147483543 * 15013 + 97).fmod 2147483587
def mix2 (m k : Int) : Int := (m ^ 3 + m * 30089 + k * 1299709 + 70001).fmod 2147483587
def res (m size : Int) : Int := (m.fdiv 89 + m.fmod 7907 * 61).fmod size
theorem draw_at (size : Int) (S : List Cell) (hB : Bag S) (h2 : 1 ≤ size) (h3 : size.natAbs < 2 ^ 200) : ∃ r c', BagC c' ∧ m__law_draw [.val (.obj 0), .val (.int size)] S = .ok (.int r) (S.set 0 c') ∧ 0 ≤ r ∧ r < size := by
  obtain ⟨c, R, rfl, xs, a, b, m, k, rfl, a0, b0, m0, m1⟩ := hB
  have hz : ¬ size = 0 := by omega
  have hd : okDiv b size = true ∧ ∀ i, okDiv i size = true := by
    have e : size.natAbs.log2 < 9000 := by
      have : size.natAbs.log2 < 200 := (Nat.log2_lt (by omega)).mpr h3
      omega
    constructor
    · unfold okDiv; simp [e, hz]
    · intro i; unfold okDiv; simp [e, hz]
  have hp : ∀ m : Int, 0 ≤ m → m < 2147483647 → okPow m 3 = true := fun m h0 h1 => by
    unfold okPow
    have : m.natAbs < 2 ^ 64 := by omega
    simp [this]
  unfold m__law_draw b__law_draw
  have e18 : (10 : Int) ^ (18 : Int).toNat = 1000000000000000000 := by decide
  by_cases hb0 : b = 0
  case neg =>
    have hb1 : 0 < b := by omega
    refine ⟨b.fmod size, bagC xs a (b.fdiv size) m (k + 1), ⟨xs, a, b.fdiv size, m, k + 1, rfl, a0, Int.fdiv_nonneg b0 (by omega), m0, m1⟩, ?_, fm (by omega)⟩
    simp [e_fn, hb0, hb1, hz, hd, bagC]
  subst hb0
  by_cases ha : a < (xs.length : Int)
  case neg =>
    refine ⟨res (mix2 m (k + 1)) size, bagC xs a 0 (mix2 m (k + 1)) (k + 1), ⟨xs, a, 0, _, k + 1, rfl, a0, by omega, (fm (by omega)).1, by have := (fm (i := m ^ 3 + m * 30089 + (k + 1) * 1299709 + 70001) (j := 2147483587) (by omega)).2; unfold mix2; omega⟩, ?_, fm (by omega)⟩
    simp [e_fn, hz, hd, bagC, ha, hp m m0 m1, mix2, res]
  obtain ⟨d, hd', hx⟩ := atI_nat (xs.map D.int) a a0 (by simpa using ha)
  obtain ⟨item, _, rfl⟩ := List.mem_map.mp hd'
  by_cases hi : 1000000000000000000 ≤ (if item < 0 then -item else item)
  · have hi0 : 0 < (if item < 0 then -item else item) := by omega
    refine ⟨(if item < 0 then -item else item).fmod size, bagC xs (a + 1) ((if item < 0 then -item else item).fdiv size) m (k + 1), ⟨xs, a + 1, _, m, k + 1, rfl, by omega, Int.fdiv_nonneg (by omega) (by omega), m0, m1⟩, ?_, fm (by omega)⟩
    simp [e_fn, hz, hd, bagC, ha, hx, e18, hi, hi0]
  · have fm1 := fm (i := m * 70237 + item.fmod 2147483543 * 15013 + 97) (j := 2147483587) (by omega)
    refine ⟨res (mix2 (mix1 m item) (k + 1)) size, bagC xs (a + 1) 0 (mix2 (mix1 m item) (k + 1)) (k + 1), ⟨xs, a + 1, 0, _, k + 1, rfl, by omega, by omega, (fm (by omega)).1, by have := (fm (i := (mix1 m item) ^ 3 + (mix1 m item) * 30089 + (k + 1) * 1299709 + 70001) (j := 2147483587) (by omega)).2; unfold mix2; omega⟩, ?_, fm (by omega)⟩
    simp [e_fn, hz, hd, bagC, ha, hx, e18, hi, hp _ fm1.1 (by omega : _ < (2147483647 : Int)), mix1, mix2, res]
theorem bag_set {S : List Cell} {c : Cell} (hB : Bag S) (hc : BagC c) : Bag (S.set 0 c) := by
  obtain ⟨c0, R, rfl, _⟩ := hB
  exact ⟨c, R, rfl, hc⟩
theorem of_at (ds : List D) (S : List Cell) (hB : Bag S) (h1 : ds ≠ []) (h2 : ds.length < 1000000000) : ∃ d c', BagC c' ∧ m__law_of [.val (.obj 0), .val (.lst ds)] S = .ok d (S.set 0 c') ∧ d ∈ ds := by
  have hp : 0 < ds.length := List.length_pos_iff.mpr h1
  obtain ⟨r, c', hc', e, r0, r1⟩ := draw_at ds.length S hB (by omega) (by omega)
  obtain ⟨d, hd, hx⟩ := atI_nat ds r r0 r1
  refine ⟨d, c', hc', ?_, hd⟩
  unfold m__law_of b__law_of
  simp [e_fn, e, hx]
/-! ### gcd -/
theorem gcd_loop : ∀ (f : Nat) (b a : Nat) (x y : Sl) (S : List Cell), b < f → whileGo c1__law_gcd l1__law_gcd f ⟨[x, y, .val (.int a), .val (.int b)], S⟩ = .nx ⟨[x, y, .val (.int (Nat.gcd a b)), .val (.int 0)], S⟩
  | 0, b, a, x, y, S, h => by omega
  | f + 1, b, a, x, y, S, h => by
    have e1 : c1__law_gcd ⟨[x, y, .val (.int a), .val (.int b)], S⟩ = .ok (decide (0 < b)) ⟨[x, y, .val (.int a), .val (.int b)], S⟩ := by
      unfold c1__law_gcd
      simp
    unfold whileGo
    rw [e1]
    by_cases hb : b = 0
    · subst hb
      simp
    · have h0 : 0 < b := by omega
      have e : l1__law_gcd ⟨[x, y, .val (.int a), .val (.int b)], S⟩ = .nx ⟨[x, y, .val (.int b), .val (.int ((a % b : Nat) : Int))], S⟩ := by
        unfold l1__law_gcd
        simp [hb]
        exact Int.fmod_eq_emod_of_nonneg _ (by omega)
      have ih := gcd_loop f (a % b) b x y S (by have := Nat.mod_lt a (show b > 0 by omega); omega)
      have eg : Nat.gcd a b = Nat.gcd b (a % b) := by rw [Nat.gcd_comm a b, Nat.gcd_rec b a, Nat.gcd_comm]
      simp only [R.bindS_ok, h0, decide_true, if_true, e, ih, eg]
theorem law_gcd_eq (a b : Nat) (S : List Cell) (h : b < 1000) : m__law_gcd [.val (.int a), .val (.int b)] S = .ok (.int (Nat.gcd a b)) S := by
  have e := gcd_loop Fuel b a (.val (.int a)) (.val (.int b)) S (by unfold Fuel; omega)
  have ha : ¬ (a : Int) < 0 := by omega
  have hb : ¬ (b : Int) < 0 := by omega
  unfold m__law_gcd b__law_gcd
  simp [e_fn, sWhile, ha, hb, e]
end Qk50
set_option Elab.async false
set_option linter.all false
set_option maxRecDepth 100000
set_option maxHeartbeats 4000000
namespace Qk50
open PySem L2 DL
/-- odds as the law draws them -/
structure Odd (t b : Int) : Prop where
  t1 : 1 ≤ t
  tb : t < b
  b9 : b ≤ 9
  co : Nat.gcd t.natAbs b.natAbs = 1
theorem mem_ints {d : D} {xs : List Int} (h : d ∈ xs.map D.int) : ∃ i ∈ xs, d = .int i := by
  obtain ⟨i, h1, h2⟩ := List.mem_map.mp h
  exact ⟨i, h1, h2.symm⟩
def copr (b : Nat) (d : D) : Bool := match d with
  | .int k => Nat.gcd k.natAbs b == 1
  | _ => false
theorem law_odds_y (S : List Cell) (hB : Bag S) : ∃ t b c', Odd t b ∧ BagC c' ∧ m__law_odds [.val (.obj 0)] S = .ok (.tup [.int t, .int b]) (S.set 0 c') := by
  obtain ⟨d, c1, hc1, e1, hd⟩ := of_at ([2, 3, 2, 5, 9, 7, 4, 8, 6].map D.int) S hB (by simp) (by decide)
  obtain ⟨b, hb, rfl⟩ := mem_ints hd
  have hb2 : 2 ≤ b ∧ b ≤ 9 := by
    simp at hb
    omega
  obtain ⟨n, rfl⟩ := Int.eq_ofNat_of_zero_le (show 0 ≤ b by omega)
  have hB1 := bag_set hB hc1
  have hr : okRg 1 = true ∧ okRg (n : Int) = true := ⟨okRg_of (by omega) (by omega), okRg_of (by omega) (by omega)⟩
  have ef := lcGo_filter (i := 3) (sl := [.val (.obj 0), .val (.int n), .un, .un]) (st := S.set 0 c1) (tt := t1__law_odds) (me := q1__law_odds) (copr n) id rfl (rangeD 1 (n - 1)) [] (fun d hd => by
      obtain ⟨k, hk, rfl⟩ := List.mem_map.mp hd
      have eg := law_gcd_eq (1 + k) n (S.set 0 c1) (by omega)
      have ek : ((1 + k : Nat) : Int) = 1 + (k : Int) := by omega
      have en : (1 + (k : Int)).natAbs = 1 + k := by omega
      rw [ek] at eg
      refine ⟨?_, fun _ => ?_⟩
      · unfold t1__law_odds
        simp [eg, copr, en]
        rw [Bool.eq_iff_iff]
        simp
        omega
      · unfold q1__law_odds
        simp) (by unfold rangeD; simp [sizeS]; omega)
  rw [List.nil_append, List.map_id] at ef
  have m1 : D.int 1 ∈ (rangeD 1 (n - 1)).filter (copr n) := by
    refine List.mem_filter.mpr ⟨List.mem_map.mpr ⟨0, List.mem_range.mpr (by omega), rfl⟩, ?_⟩
    unfold copr
    simp
  obtain ⟨d2, c2, hc2, e2, hd2⟩ := of_at ((rangeD 1 (n - 1)).filter (copr n)) (S.set 0 c1) hB1 (List.ne_nil_of_mem m1) (by
    refine Nat.lt_of_le_of_lt (List.length_filter_le ..) ?_
    unfold rangeD
    simp
    omega)
  obtain ⟨h3, h4⟩ := List.mem_filter.mp hd2
  obtain ⟨k, hk, rfl⟩ := List.mem_map.mp h3
  have hk := List.mem_range.mp hk
  refine ⟨1 + k, n, c2, ⟨by omega, by omega, by omega, ?_⟩, hc2, ?_⟩
  · unfold copr at h4
    simpa using h4
  · have es : (S.set 0 c1).set 0 c2 = S.set 0 c2 := by simp
    have e1' : m__law_of [.val (.obj 0), .val (.lst [.int 2, .int 3, .int 2, .int 5, .int 9, .int 7, .int 4, .int 8, .int 6])] S = .ok (.int n) (S.set 0 c1) := e1
    have et : ((n : Int) - 1).toNat = n - 1 := by omega
    unfold m__law_odds b__law_odds
    simp -implicitDefEqProofs [e_fn, okLen, sizeS, e1', hr, et, ef, e2, es]
/-- digits as the law draws them -/
def DigIn (b : Int) (ds : List Int) : Prop := ∀ d ∈ ds, 0 ≤ d ∧ d < b
theorem law_digits_y (S : List Cell) (hB : Bag S) {t b : Int} (hO : Odd t b) (many : Nat) (hm : many < 1000) : ∃ ds c', ds.length = many ∧ DigIn b ds ∧ BagC c' ∧
    m__law_digits [.val (.obj 0), .val (.tup [.int t, .int b]), .val (.int many)] S = .ok (.obj S.length) (S.set 0 c' ++ [.lst (ds.map .int)]) := by
  obtain ⟨t1, tb, b9, _⟩ := hO
  obtain ⟨c0, R, rfl, hc0⟩ := hB
  have hr : okRg (many : Int) = true := okRg_of (by omega) (by omega)
  obtain ⟨z', e, k', ds, c', rfl, hl, hd, hc'⟩ := forGo_cnt (g := gN 4) (b := l1__law_digits) (fun k z => ∃ (x : Sl) (ds : List Int) (c : Cell), z = ⟨[.val (.obj 0), .val (.tup [.int t, .int b]), .val (.int many), .val (.obj (R.length + 1)), x], c :: R ++ [.lst (ds.map .int)]⟩ ∧ ds.length = k ∧ DigIn b ds ∧ BagC c) 1000 (rangeD 0 many) 0
      ⟨[.val (.obj 0), .val (.tup [.int t, .int b]), .val (.int many), .val (.obj (R.length + 1)), .un], c0 :: R ++ [.lst []]⟩ (fun k d z hk hd hI => by
        obtain ⟨x, ds, c, rfl, hl, hd, hc⟩ := hI
        obtain ⟨r1, c1, hc1, e1, _, _⟩ := draw_at 2 (c :: R ++ [.lst (ds.map .int)]) ⟨c, R ++ [.lst (ds.map .int)], rfl, hc⟩ (by omega) (by decide)
        have es1 : (c :: R ++ [Cell.lst (ds.map D.int)]).set 0 c1 = c1 :: R ++ [.lst (ds.map .int)] := rfl
        rw [es1] at e1
        obtain ⟨r2, c2, hc2, e2, r20, r21⟩ := draw_at (if r1 = 0 then t else b) (c1 :: R ++ [.lst (ds.map .int)]) ⟨c1, R ++ [.lst (ds.map .int)], rfl, hc1⟩ (by split <;> omega) (by split <;> omega)
        have es2 : (c1 :: R ++ [Cell.lst (ds.map D.int)]).set 0 c2 = c2 :: R ++ [.lst (ds.map .int)] := rfl
        rw [es2] at e2
        have hg : (c2 :: R ++ [Cell.lst (ds.map D.int)])[R.length + 1]? = some (.lst (ds.map .int)) := by simp
        have ha := c_append (n := R.length + 1) (sl := [.val (.obj 0), .val (.tup [.int t, .int b]), .val (.int many), .val (.obj (R.length + 1)), .val d]) (d := .int r2) hg (by simp; omega)
        have hi := c_isL (n := R.length + 1) (sl := [.val (.obj 0), .val (.tup [.int t, .int b]), .val (.int many), .val (.obj (R.length + 1)), .val d]) (show (c :: R ++ [Cell.lst (ds.map D.int)])[R.length + 1]? = some (.lst (ds.map .int)) by simp)
        have hs : (c2 :: R ++ [Cell.lst (ds.map D.int)]).set (R.length + 1) (.lst (ds.map .int ++ [.int r2])) = c2 :: R ++ [.lst ((ds ++ [r2]).map .int)] := by simp
        rw [hs] at ha
        refine ⟨_, ⟨[.val (.obj 0), .val (.tup [.int t, .int b]), .val (.int many), .val (.obj (R.length + 1)), .val d], c2 :: R ++ [.lst ((ds ++ [r2]).map .int)]⟩, rfl, ?_, .val d, ds ++ [r2], c2, rfl, by simp [hl], ?_, hc2⟩
        · unfold l1__law_digits
          by_cases h0 : r1 = 0
          · subst h0
            simp only [if_true] at e2
            simp only [List.cons_append] at e1 e2 ha hi ⊢
            simp [e1, e2, ha, hi]
          · simp only [h0, if_false] at e2
            simp only [List.cons_append] at e1 e2 ha hi ⊢
            simp [e1, e2, ha, hi, h0]
        · intro y hy
          rcases List.mem_append.mp hy with hy | hy
          · exact hd y hy
          · simp at hy
            subst hy
            refine ⟨r20, ?_⟩
            split at r21 <;> omega) (by unfold rangeD; simp; omega) ⟨.un, [], c0, rfl, rfl, (by intro y hy; cases hy), hc0⟩
  refine ⟨ds, c', ?_, hd, hc', ?_⟩
  · rw [hl]
    unfold rangeD
    simp
  · unfold m__law_digits b__law_digits
    simp only [List.cons_append] at e
    simp -implicitDefEqProofs [e_fn, okLen, sizeS, hr, e]
end Qk50
set_option Elab.async false
set_option linter.all false
set_option maxRecDepth 100000
set_option maxHeartbeats 4000000
namespace Qk50
open PySem L2 DL
/-! ### one noise: how many runs of len low digits stand ahead of the first high one, and where that one stands -/
def goC (top : Int) (len : Nat) : Nat → Int → Nat → List Int → Option (Int × Nat)
  | _, _, _, [] => none
  | g, c, a, d :: ds => if top ≤ d then some (c, a + 1) else if g + 1 = len then goC top len 0 (c + 1) (a + 1) ds else goC top len (g + 1) c (a + 1) ds
def optD : Option (Int × Nat) → D
  | none => .non
  | some (c, a) => .tup [.int c, .int a]
theorem drop_next {all ds : List Int} {a : Nat} {d : Int} (h : all.drop a = d :: ds) : all.drop (a + 1) = ds ∧ atI (all.map D.int) (a : Int) = some (.int d) ∧ a < all.length := by
  have hl : a < all.length := by
    refine Classical.byContradiction fun hn => ?_
    rw [List.drop_eq_nil_of_le (by omega)] at h
    cases h
  rw [List.drop_eq_getElem_cons hl] at h
  injection h with h1 h2
  refine ⟨h2, ?_, hl⟩
  rw [atI_get _ a (by simpa using hl)]
  simp [h1]
theorem drop_end {all : List Int} {a : Nat} (h : all.drop a = []) : all.length ≤ a := List.drop_eq_nil_iff.mp h
abbrev gz (n : Nat) (a : Nat) (top : Int) (len : Nat) (c : Int) (g : Nat) (x : Sl) (st : List Cell) : Z := ⟨[.val (.obj n), .val (.int a), .val (.int top), .val (.int len), .val (.int c), .val (.int g), x], st⟩
theorem go_test (n a : Nat) (top : Int) (len : Nat) (c : Int) (g : Nat) (x : Sl) (st : List Cell) (all : List Int) (hs : st[n]? = some (.lst (all.map .int))) : c1_go_count (gz n a top len c g x st) = .ok (decide (a < all.length)) (gz n a top len c g x st) := by
  unfold c1_go_count
  simp -implicitDefEqProofs [c_len hs]
theorem go_turn (n a : Nat) (top : Int) (len : Nat) (c : Int) (g : Nat) (x : Sl) (st : List Cell) (all : List Int) (hs : st[n]? = some (.lst (all.map .int))) {d : Int} (hd : atI (all.map D.int) (a : Int) = some (.int d)) :
    l1_go_count (gz n a top len c g x st) = if top ≤ d then .rt (.tup [.int c, .int ((a + 1 : Nat) : Int)]) (gz n (a + 1) top len c g (.val (.int d)) st) else if g + 1 = len then .nx (gz n (a + 1) top len (c + 1) 0 (.val (.int d)) st) else .nx (gz n (a + 1) top len c (g + 1) (.val (.int d)) st) := by
  unfold l1_go_count
  by_cases h1 : top ≤ d
  · simp -implicitDefEqProofs [hs, hd, h1, sAug, okLen, sizeS]
  · by_cases h2 : g + 1 = len
    · have h3 : (g : Int) + 1 = (len : Int) := by omega
      simp -implicitDefEqProofs [hs, hd, h1, h2, h3, sAug, okLen, sizeS]
    · have h3 : ¬ (g : Int) + 1 = (len : Int) := by omega
      simp -implicitDefEqProofs [hs, hd, h1, h2, h3, sAug, okLen, sizeS]
theorem go_loop (n : Nat) (top : Int) (len : Nat) (st : List Cell) (all : List Int) (hs : st[n]? = some (.lst (all.map .int))) : ∀ (f : Nat) (ds : List Int) (g : Nat) (c : Int) (a : Nat) (x : Sl), ds.length < f → all.drop a = ds →
    ∃ z', z'.st = st ∧ whileGo c1_go_count l1_go_count f (gz n a top len c g x st) = match goC top len g c a ds with
      | none => .nx z'
      | some (c', a') => .rt (.tup [.int c', .int a']) z'
  | 0, _, _, _, _, _, h, _ => by omega
  | f + 1, [], g, c, a, x, h, hd => by
    refine ⟨gz n a top len c g x st, rfl, ?_⟩
    unfold whileGo
    have := drop_end hd
    rw [go_test n a top len c g x st all hs, decide_eq_false (by omega)]
    rfl
  | f + 1, d :: ds, g, c, a, x, h, hd => by
    obtain ⟨h1, h2, h3⟩ := drop_next hd
    unfold whileGo goC
    rw [go_test n a top len c g x st all hs, decide_eq_true h3]
    simp only [R.bindS_ok, if_true, go_turn n a top len c g x st all hs h2]
    simp only [List.length_cons] at h
    by_cases ht : top ≤ d
    · simp only [ht, if_true]
      exact ⟨_, rfl, rfl⟩
    · by_cases hg : g + 1 = len
      · simp only [ht, hg, if_true, if_false]
        exact go_loop n top len st all hs f ds 0 (c + 1) (a + 1) _ (by omega) h1
      · simp only [ht, hg, if_false]
        exact go_loop n top len st all hs f ds (g + 1) c (a + 1) _ (by omega) h1
theorem go_eq (n a : Nat) (top : Int) (len : Nat) (st : List Cell) (all : List Int) (hs : st[n]? = some (.lst (all.map .int))) (hl : all.length < 1000000) :
    m_go_count [.val (.obj n), .val (.int a), .val (.int top), .val (.int len)] st = .ok (optD (goC top len 0 0 a (all.drop a))) st := by
  obtain ⟨z', hz, e⟩ := go_loop n top len st all hs Fuel (all.drop a) 0 0 a .un (by
    rw [List.length_drop]
    unfold Fuel
    omega) rfl
  have e2 : sWhile c1_go_count l1_go_count ⟨[.val (.obj n), .val (.int a), .val (.int top), .val (.int len), .val (.int 0), .val (.int 0), .un], st⟩ = _ := e
  unfold m_go_count b_go_count
  rw [e_fn]
  simp -implicitDefEqProofs [e2]
  cases h : goC top len 0 0 a (all.drop a) with
  | none =>
    simp only [RS.bind_nx, fin_rt, hz, optD, e_ret, e_sh, e_C, R.bind_ok, R.bindS_ok, e_share]
  | some r => simp only [RS.bind_rt, fin_rt, hz, optD]
/-- a noise, by goes along the digits -/
def noiseO (top : Int) (up down : Nat) (at_ : Nat) (all : List Int) : Option (Int × Nat) := match goC top up 0 0 at_ (all.drop at_) with
  | none => none
  | some (c, a) => match goC top down 0 0 a (all.drop a) with
    | none => none
    | some (c2, a2) => some (c - c2, a2)
theorem made_eq (n a : Nat) (top : Int) (up down : Nat) (st : List Cell) (all : List Int) (hs : st[n]? = some (.lst (all.map .int))) (hl : all.length < 1000000) :
    m_noise_made [.val (.obj n), .val (.int a), .val (.int top), .val (.int up), .val (.int down)] st = .ok (optD (noiseO top up down a all)) st := by
  have e1 := go_eq n a top up st all hs hl
  unfold m_noise_made b_noise_made noiseO
  cases h : goC top up 0 0 a (all.drop a) with
  | none =>
    rw [h] at e1
    simp -implicitDefEqProofs [e_fn, e1, optD]
  | some r =>
    obtain ⟨c, a1⟩ := r
    rw [h] at e1
    simp only [optD] at e1
    have e2 := go_eq n a1 top down st all hs hl
    cases h2 : goC top down 0 0 a1 (all.drop a1) with
    | none =>
      rw [h2] at e2
      simp only [optD] at e2
      simp -implicitDefEqProofs [e_fn, e1, e2, optD, h2]
    | some r2 =>
      obtain ⟨c2, a2⟩ := r2
      rw [h2] at e2
      simp only [optD] at e2
      simp -implicitDefEqProofs [e_fn, e1, e2, optD, okLen, sizeS, h2]
end Qk50
set_option Elab.async false
set_option linter.all false
set_option maxRecDepth 100000
set_option maxHeartbeats 4000000
namespace Qk50
open PySem L2 DL
/-! ### the law's own noise -/
def inn (top : Int) : Nat → Nat → List Int → Option (Nat × Bool × List Int)
  | 0, a, ds => some (a, true, ds)
  | _ + 1, _, [] => none
  | r + 1, a, d :: ds => if top ≤ d then some (a + 1, false, ds) else inn top r (a + 1) ds
def goI (top : Int) (len : Nat) (c : Int) : Option (Nat × Bool × List Int) → Option (Int × Nat)
  | none => none
  | some (a, true, ds) => goC top len 0 (c + 1) a ds
  | some (a, false, _) => some (c, a)
theorem goC_inn (top : Int) (len : Nat) : ∀ (r g : Nat) (c : Int) (a : Nat) (ds : List Int), g + (r + 1) = len → goC top len g c a ds = goI top len c (inn top (r + 1) a ds)
  | r, g, c, a, [], h => by simp [goC, inn, goI]
  | 0, g, c, a, d :: ds, h => by
    have h' : g + 1 = len := by omega
    by_cases ht : top ≤ d <;> simp [goC, inn, ht, h', goI]
  | r + 1, g, c, a, d :: ds, h => by
    have h' : ¬ g + 1 = len := by omega
    have ih := goC_inn top len r (g + 1) c (a + 1) ds (by omega)
    by_cases ht : top ≤ d
    · simp [goC, inn, ht, goI]
    · rw [show inn top (r + 1 + 1) a (d :: ds) = inn top (r + 1) (a + 1) ds by simp [inn, ht], ← ih]
      simp [goC, ht, h']
abbrev nz (t b : Int) (n a : Nat) (sl : D) (f : Int) (side tx gx kx : Sl) (st : List Cell) : Z := ⟨[.val (.tup [.int t, .int b]), .val (.obj n), .val (.int a), .val sl, .val (.int f), side, tx, gx, kx], st⟩
section
variable (t b : Int) (n : Nat) (sl : D) (f : Int) (side tx : Sl) (st : List Cell) (all : List Int) (hs : st[n]? = some (.lst (all.map .int)))
include hs
theorem inn_end (a : Nat) (gx kx : Sl) (h : all.length ≤ a) : l1__law_noise (nz t b n a sl f side tx gx kx st) = .rt .non (nz t b n a sl f side tx gx kx st) := by
  unfold l1__law_noise
  simp -implicitDefEqProofs [c_len hs, h]
theorem inn_turn (a : Nat) (gx kx : Sl) (d : Int) (h : a < all.length) (hd : atI (all.map D.int) (a : Int) = some (.int d)) : l1__law_noise (nz t b n a sl f side tx gx kx st) =
    if t ≤ d then .bk (nz t b n (a + 1) sl f side tx (.val (.bl false)) kx st) else .nx (nz t b n (a + 1) sl f side tx gx kx st) := by
  have h' : ¬ (all.length : Int) ≤ (a : Int) := by omega
  have h2 : ¬ all.length ≤ a := by omega
  have e : (a : Int) + 1 - 1 = a := by omega
  unfold l1__law_noise
  by_cases ht : t ≤ d
  · simp -implicitDefEqProofs [c_len hs, hs, h', h2, e, hd, ht]
  · simp -implicitDefEqProofs [c_len hs, hs, h', h2, e, hd, ht]
theorem inn_loop : ∀ (ks : List D) (ds : List Int) (a : Nat) (kx : Sl), all.drop a = ds → ∃ kx' z', z'.st = st ∧ forGo (gN 8) l1__law_noise ks (nz t b n a sl f side tx (.val (.bl true)) kx st) = match inn t ks.length a ds with
      | none => .rt .non z'
      | some (a', g, _) => .nx (nz t b n a' sl f side tx (.val (.bl g)) kx' st)
  | [], ds, a, kx, h => ⟨kx, nz t b n a sl f side tx (.val (.bl true)) kx st, rfl, rfl⟩
  | k :: ks, [], a, kx, h => by
    refine ⟨kx, nz t b n a sl f side tx (.val (.bl true)) (.val k) st, rfl, ?_⟩
    unfold forGo
    have e := inn_end t b n sl f side tx st all hs a (.val (.bl true)) (.val k) (drop_end h)
    simp only [e_gN, e_set, List.set_cons_succ, List.set_cons_zero]
    rw [e]
    rfl
  | k :: ks, d :: ds, a, kx, h => by
    obtain ⟨h1, h2, h3⟩ := drop_next h
    have e := inn_turn t b n sl f side tx st all hs a (.val (.bl true)) (.val k) d h3 h2
    by_cases ht : t ≤ d
    · refine ⟨.val k, nz t b n a sl f side tx (.val (.bl true)) (.val k) st, rfl, ?_⟩
      rw [if_pos ht] at e
      unfold forGo
      simp only [e_gN, e_set, List.set_cons_succ, List.set_cons_zero]
      rw [e]
      simp [inn, ht]
    · obtain ⟨kx', z', hz, ih⟩ := inn_loop ks ds (a + 1) (.val k) h1
      refine ⟨kx', z', hz, ?_⟩
      rw [if_neg ht] at e
      unfold forGo
      simp only [e_gN, e_set, List.set_cons_succ, List.set_cons_zero]
      rw [e]
      simp only [ih, List.length_cons, inn, ht, if_false]
end
theorem inn_drop (top : Int) (all : List Int) : ∀ (r a : Nat) (ds : List Int), all.drop a = ds → ∀ a' g ds', inn top r a ds = some (a', g, ds') → all.drop a' = ds' ∧ ds'.length + (if g then r else 0) ≤ ds.length ∧ a' ≤ a + ds.length
  | 0, a, ds, h, a', g, ds', e => by
    simp only [inn, Option.some.injEq, Prod.mk.injEq] at e
    obtain ⟨rfl, rfl, rfl⟩ := e
    exact ⟨h, by simp, by omega⟩
  | r + 1, a, [], h, a', g, ds', e => by simp [inn] at e
  | r + 1, a, d :: ds, h, a', g, ds', e => by
    obtain ⟨h1, _, _⟩ := drop_next h
    by_cases ht : top ≤ d
    · simp only [inn, ht, if_true, Option.some.injEq, Prod.mk.injEq] at e
      obtain ⟨rfl, rfl, rfl⟩ := e
      exact ⟨h1, by simp, by simp⟩
    · simp only [inn, ht, if_false] at e
      obtain ⟨q1, q2, q3⟩ := inn_drop top all r (a + 1) ds h1 a' g ds' e
      refine ⟨q1, ?_, by simp only [List.length_cons]; omega⟩
      simp only [List.length_cons]
      split at q2 <;> rename_i hg
      · rw [if_pos hg]; omega
      · rw [if_neg hg]; omega
section
variable (t b : Int) (n : Nat) (up down : Nat) (k : Nat) (st : List Cell) (all : List Int) (hs : st[n]? = some (.lst (all.map .int)))
include hs
/-- a side's turns -/
theorem side_turns (side : Int) (len : Nat) (hsl : atI [D.int (up : Int), .int (down : Int)] side = some (.int (len : Int))) (hlen : 1 ≤ len) (hl2 : len < 1000) (hside : side = 0 ∨ side = 1) : ∀ (ts : List D) (ds : List Int) (a : Nat) (c f : Int) (tx gx kx : Sl), all.drop a = ds → ds.length < ts.length →
    ∃ tx' gx' kx' z', z'.st = st ∧ forGo (gN 6) l2__law_noise ts (nz t b n a (.tup [.int up, .int down]) f (.val (.int side)) tx gx kx st) = match goC t len 0 c a ds with
      | none => .rt .non z'
      | some (c', a') => .nx (nz t b n a' (.tup [.int up, .int down]) (f + (1 - 2 * side) * (c' - c)) (.val (.int side)) tx' gx' kx' st)
  | [], ds, a, c, f, tx, gx, kx, h, hl => by simp at hl
  | tt :: ts, ds, a, c, f, tx, gx, kx, h, hl => by
    obtain ⟨kx', z', hz, e⟩ := inn_loop t b n (.tup [.int up, .int down]) f (.val (.int side)) (.val tt) st all hs (rangeD 0 len) ds a kx h
    have el : (rangeD 0 len).length = len := by unfold rangeD; simp
    rw [el] at e
    obtain ⟨r, rfl⟩ : ∃ r, len = r + 1 := ⟨len - 1, by omega⟩
    have eg := goC_inn t (r + 1) r 0 c a ds (by omega)
    have hr : okRg ((r + 1 : Nat) : Int) = true := okRg_of (by omega) (by omega)
    have body : ∀ R : RS, forGo (gN 8) l1__law_noise (rangeD 0 (r + 1)) (nz t b n a (.tup [.int up, .int down]) f (.val (.int side)) (.val tt) (.val (.bl true)) kx st) = R →
        l2__law_noise (nz t b n a (.tup [.int up, .int down]) f (.val (.int side)) (.val tt) gx kx st) = R.bind (sSeq (sIf (tyNot (mBind (mV 7) mTru)) ((fun z => .bk z)) (sNx)) (sAsg (mSh (m2 (m2 (mV 4) (mC (.int 1)) fAdd) (m2 (mC (.int 2)) (mV 5) fMul) fSub)) (gN 4))) := fun R hR => by
      unfold l2__law_noise
      have hr' : okRg ((r : Int) + 1) = true := by simpa using hr
      have ht : ((r : Int) + 1).toNat = r + 1 := by omega
      have hsl' : atI [D.int (up : Int), .int (down : Int)] side = some (.int ((r : Int) + 1)) := by simpa using hsl
      rw [← hR]
      simp -implicitDefEqProofs [hsl', hr', ht]
    have hb := body _ e
    rw [eg]
    cases hi : inn t (r + 1) a ds with
    | none =>
      rw [hi] at hb
      refine ⟨tx, gx, kx, z', hz, ?_⟩
      unfold forGo
      simp only [e_gN, e_set, List.set_cons_succ, List.set_cons_zero]
      rw [hb]
      rfl
    | some q =>
      obtain ⟨a', g, ds'⟩ := q
      rw [hi] at hb
      obtain ⟨q1, q2, q3⟩ := inn_drop t all (r + 1) a ds h a' g ds' hi
      cases g with
      | false =>
        refine ⟨.val tt, .val (.bl false), kx', z', hz, ?_⟩
        unfold forGo
        simp only [e_gN, e_set, List.set_cons_succ, List.set_cons_zero]
        rw [hb]
        simp [goI]
      | true =>
        simp only [if_true] at q2
        have okm : okMul 2 side = true := okMul_l (by decide)
        have hb2 : l2__law_noise (nz t b n a (.tup [.int up, .int down]) f (.val (.int side)) (.val tt) gx kx st) = .nx (nz t b n a' (.tup [.int up, .int down]) (f + 1 - 2 * side) (.val (.int side)) (.val tt) (.val (.bl true)) kx' st) := by
          rw [hb]
          simp [okm]
        obtain ⟨tx2, gx2, kx2, z2, hz2, ih⟩ := side_turns side (r + 1) hsl hlen hl2 hside ts ds' a' (c + 1) (f + 1 - 2 * side) (.val tt) (.val (.bl true)) kx' q1 (by simp only [List.length_cons] at hl; omega)
        refine ⟨tx2, gx2, kx2, z2, hz2, ?_⟩
        unfold forGo
        simp only [e_gN, e_set, List.set_cons_succ, List.set_cons_zero]
        rw [hb2]
        simp only [ih, goI]
        cases hg : goC t (r + 1) 0 (c + 1) a' ds' with
        | none => rfl
        | some p =>
          obtain ⟨c', a2⟩ := p
          have ef : f + 1 - 2 * side + (1 - 2 * side) * (c' - (c + 1)) = f + (1 - 2 * side) * (c' - c) := by
            rcases hside with rfl | rfl <;> simp <;> omega
          simp only [ef]
end
end Qk50
set_option Elab.async false
set_option linter.all false
set_option maxRecDepth 100000
set_option maxHeartbeats 4000000
namespace Qk50
open PySem L2 DL
theorem rng2 : rangeD 0 2 = [.int 0, .int 1] := rfl
theorem l3_eq (t b : Int) (n : Nat) (up down : Nat) (st : List Cell) (all : List Int) (hs : st[n]? = some (.lst (all.map .int))) (hl : all.length < 100000) (a : Nat) (f : Int) (side tx gx kx : Sl) :
    l3__law_noise (nz t b n a (.tup [.int up, .int down]) f side tx gx kx st) = forGo (gN 6) l2__law_noise (rangeD 0 (all.length + 1)) (nz t b n a (.tup [.int up, .int down]) f side tx gx kx st) := by
  have hr : okRg ((all.length : Int) + 1) = true := okRg_of (by omega) (by omega)
  have ht : ((all.length : Int) + 1).toNat = all.length + 1 := by omega
  unfold l3__law_noise
  simp -implicitDefEqProofs [c_len hs, hr, ht]
theorem law_noise_eq (t b : Int) (n : Nat) (up down : Nat) (st : List Cell) (all : List Int) (hs : st[n]? = some (.lst (all.map .int))) (hl : all.length < 100000) (hu : 1 ≤ up ∧ up < 1000) (hd : 1 ≤ down ∧ down < 1000) (a : Nat) :
    m__law_noise [.val (.tup [.int t, .int b]), .val (.obj n), .val (.int a), .val (.tup [.int up, .int down])] st = .ok (optD (noiseO t up down a all)) st := by
  have rl : (rangeD 0 (all.length + 1)).length = all.length + 1 := by unfold rangeD; simp
  have dl : ∀ a, (all.drop a).length < (rangeD 0 (all.length + 1)).length := fun a => by rw [rl, List.length_drop]; omega
  obtain ⟨tx, gx, kx, z1, hz1, e1⟩ := side_turns t b n up down st all hs 0 up (by simp) hu.1 hu.2 (.inl rfl) _ _ a 0 0 .un .un .un rfl (dl a)
  have r2 : okRg 2 = true := okRg_of (by omega) (by omega)
  have start : m__law_noise [.val (.tup [.int t, .int b]), .val (.obj n), .val (.int a), .val (.tup [.int up, .int down])] st =
      ((forGo (gN 5) l3__law_noise [.int 0, .int 1] (nz t b n a (.tup [.int up, .int down]) 0 .un .un .un .un st)).bind (sRet (mSh (mBind (mCons (mSh (mV 4)) (mCons (mSh (mV 2)) (mNil))) fun ds => newT (okLen ds))))).fin := by
    unfold m__law_noise b__law_noise
    rw [e_fn]
    simp -implicitDefEqProofs [r2, rng2]
  rw [start]
  have step : ∀ (s : Int) (rest : List D) (z : Z), forGo (gN 5) l3__law_noise (.int s :: rest) z = sTurn (l3__law_noise (z.set 5 (.val (.int s)))) (forGo (gN 5) l3__law_noise rest) := fun s rest z => by
    rw [forGo]
    rfl
  rw [step]
  have s1 : (nz t b n a (.tup [.int up, .int down]) 0 .un .un .un .un st).set 5 (.val (.int 0)) = nz t b n a (.tup [.int up, .int down]) 0 (.val (.int 0)) .un .un .un st := rfl
  rw [s1, l3_eq t b n up down st all hs hl, e1]
  unfold noiseO
  cases h1 : goC t up 0 0 a (all.drop a) with
  | none => simp [sTurn, hz1, optD]
  | some p =>
    obtain ⟨c, a1⟩ := p
    simp only [sTurn]
    rw [step]
    have s2 : ∀ f, (nz t b n a1 (.tup [.int up, .int down]) f (.val (.int 0)) tx gx kx st).set 5 (.val (.int 1)) = nz t b n a1 (.tup [.int up, .int down]) f (.val (.int 1)) tx gx kx st := fun f => rfl
    obtain ⟨tx2, gx2, kx2, z2, hz2, e2⟩ := side_turns t b n up down st all hs 1 down (by simp) hd.1 hd.2 (.inr rfl) _ _ a1 0 (0 + (1 - 2 * 0) * (c - 0)) tx gx kx rfl (dl a1)
    rw [s2, l3_eq t b n up down st all hs hl, e2]
    cases h2 : goC t down 0 0 a1 (all.drop a1) with
    | none => simp [sTurn, hz2, optD]
    | some p2 =>
      obtain ⟨c2, a2⟩ := p2
      have e : (0 + (1 - 2 * 0) * (c - 0) + (1 - 2 * 1) * (c2 - 0) : Int) = c - c2 := by omega
      simp only [sTurn, e]
      have f0 : forGo (gN 5) l3__law_noise [] = fun z => RS.nx z := by funext z; rfl
      rw [f0]
      simp [optD, okLen, sizeS]
/-- where a noise ends -/
theorem goC_le (top : Int) (len : Nat) : ∀ (ds : List Int) (g : Nat) (c : Int) (a : Nat) (c' : Int) (a' : Nat), goC top len g c a ds = some (c', a') → a' ≤ a + ds.length
  | [], g, c, a, c', a', h => by simp [goC] at h
  | d :: ds, g, c, a, c', a', h => by
    unfold goC at h
    simp only [List.length_cons]
    split at h
    · simp only [Option.some.injEq, Prod.mk.injEq] at h
      omega
    · split at h
      · have := goC_le top len ds _ _ _ _ _ h
        omega
      · have := goC_le top len ds _ _ _ _ _ h
        omega
theorem noise_le {top : Int} {up down a : Nat} {all : List Int} (h : a ≤ all.length) {c : Int} {a' : Nat} (e : noiseO top up down a all = some (c, a')) : a' ≤ all.length := by
  unfold noiseO at e
  cases h1 : goC top up 0 0 a (all.drop a) with
  | none => rw [h1] at e; cases e
  | some p =>
    obtain ⟨c1, a1⟩ := p
    rw [h1] at e
    dsimp only at e
    have l1 := goC_le _ _ _ _ _ _ _ _ h1
    rw [List.length_drop] at l1
    cases h2 : goC top down 0 0 a1 (all.drop a1) with
    | none => rw [h2] at e; cases e
    | some p2 =>
      obtain ⟨c2, a2⟩ := p2
      rw [h2] at e
      have l2 := goC_le _ _ _ _ _ _ _ _ h2
      rw [List.length_drop] at l2
      simp only [Option.some.injEq, Prod.mk.injEq] at e
      omega
end Qk50
set_option Elab.async false
set_option linter.all false
set_option maxRecDepth 100000
set_option maxHeartbeats 4000000
namespace Qk50
open PySem L2 DL
/-! ### the coins -/
def coinC (t b : Int) (d : Nat) (a : Nat) : Cell := .ins "Coins" [("_base", .tup [.int t, .int b]), ("_digits", .obj d), ("_at", .int a)]
abbrev coinF (t b : Int) (d : Nat) (a : Nat) : List (Str × D) := [("_base", .tup [.int t, .int b]), ("_digits", .obj d), ("_at", .int a)]
@[simp] theorem lk_base (t b : Int) (d a : Nat) : (coinF t b d a).lookup (Str.ofString "_base") = some (.tup [.int t, .int b]) := rfl
@[simp] theorem lk_digits (t b : Int) (d a : Nat) : (coinF t b d a).lookup (Str.ofString "_digits") = some (.obj d) := rfl
@[simp] theorem lk_at (t b : Int) (d a : Nat) : (coinF t b d a).lookup (Str.ofString "_at") = some (.int a) := rfl
theorem in_at : fl__at.contains (Str.ofString "Coins") = true := by decide +kernel
theorem in_base : fl__base.contains (Str.ofString "Coins") = true := by decide +kernel
theorem in_digits : fl__digits.contains (Str.ofString "Coins") = true := by decide +kernel
section
variable {t b : Int} {d a n : Nat} {st : List Cell} {sl : List Sl} (hn : st[n]? = some (coinC t b d a))
include hn
theorem f_at : fFld fl__at (Str.ofString "_at") (.d (.obj n)) ⟨sl, st⟩ = .ok (.d (.int a)) ⟨sl, st⟩ := c_fld hn in_at (lk_at t b d a)
theorem f_base : fFld fl__base (Str.ofString "_base") (.d (.obj n)) ⟨sl, st⟩ = .ok (.d (.tup [.int t, .int b])) ⟨sl, st⟩ := c_fld hn in_base (lk_base t b d a)
theorem f_digits : fFld fl__digits (Str.ofString "_digits") (.d (.obj n)) ⟨sl, st⟩ = .ok (.d (.obj d)) ⟨sl, st⟩ := c_fld hn in_digits (lk_digits t b d a)
theorem s_at (x : Int) : setFld fl__at (Str.ofString "_at") ⟨sl, st⟩ (.d (.obj n)) (.int x) = some ⟨sl, st.set n (.ins "Coins" [("_base", .tup [.int t, .int b]), ("_digits", .obj d), ("_at", .int x)])⟩ := by
  rw [c_setF hn in_at (by simp)]
  rfl
theorem used_eq : m_Coins_used [.val (.obj n)] st = .ok (.int a) st := by
  unfold m_Coins_used b_Coins_used
  simp -implicitDefEqProofs [e_fn, f_at hn]
theorem left_eq {all : List Int} (hd : st[d]? = some (.lst (all.map .int))) : m_Coins_left [.val (.obj n)] st = .ok (.int (all.length - a)) st := by
  unfold m_Coins_left b_Coins_left
  simp -implicitDefEqProofs [e_fn, f_at hn, f_digits hn, c_len hd]
abbrev reprS (a : Nat) : Str := Str.ofString "Coins(" ++ Str.ofString (Int.repr (a : Int)) ++ Str.ofString " used)"
omit hn in
theorem slen (a b : Str) : (a ++ b).length = a.length + b.length := Str.length_append a b
omit hn in
theorem tx_le (a : Nat) (h : a < 100000) : (Str.ofString (Int.repr (a : Int))).length ≤ 6 ∧ a.log2 < 1920 := by
  constructor
  · have : (Int.repr (a : Int)).length ≤ 5 + 1 := int_text_length_le10 (a := (a : Int)) (k := 5) (by decide) (by simpa using h)
    rw [ofString_length]
    exact this
  · by_cases h0 : a = 0
    · subst h0; decide
    · have : a.log2 < 64 := (Nat.log2_lt (by omega)).mpr (by omega)
      omega
theorem repr_eq (ha : a < 100000) : m_Coins_U_reprU_ [.val (.obj n)] st = .ok (.str (reprS a)) st := by
  obtain ⟨l1, l2⟩ := tx_le a ha
  have l3 : (Str.ofString "Coins(").length = 6 := by decide +kernel
  have l4 : (Str.ofString " used)").length = 6 := by decide +kernel
  have l5 : (Str.empty ++ Str.ofString "Coins(") = Str.ofString "Coins(" := by decide +kernel
  have b1 : (Str.ofString "Coins(" ++ Str.ofString (Int.repr (a : Int))).length ≤ 16777216 := by rw [slen]; omega
  have b2 : (Str.ofString "Coins(" ++ Str.ofString (Int.repr (a : Int)) ++ Str.ofString " used)").length ≤ 16777216 := by rw [slen, slen]; omega
  unfold m_Coins_U_reprU_ b_Coins_U_reprU_
  simp -implicitDefEqProofs [e_fn, f_at hn, l2, l5, l3, sizeS, b1, b2, reprS]
end
theorem whole_int (i : Int) (st : List Cell) : m__law_whole [.val (.int i)] st = .ok (.bl true) st := by
  unfold m__law_whole b__law_whole
  simp -implicitDefEqProofs [e_fn, Z.ty]
/-- what the law asks of coins at any time -/
theorem stands_eq {t b : Int} {d a n s : Nat} {st : List Cell} {all : List Int} (hn : st[n]? = some (coinC t b d a)) (hd : st[d]? = some (.lst (all.map .int))) (hs : st[s]? = some (.lst (all.map .int))) (ha : a < 100000) :
    m__law_stands [.val (.obj n), .val (.int a), .val (.obj s)] st = .ok (.bl true) st := by
  obtain ⟨l1, l2⟩ := tx_le a ha
  have l3 : (Str.ofString "Coins(").length = 6 := by decide +kernel
  have l4 : (Str.ofString " used)").length = 6 := by decide +kernel
  have b1 : 6 + (Str.ofString (Int.repr (a : Int))).length ≤ 16777216 := by omega
  have b2 : (Str.ofString "Coins(" ++ Str.ofString (Int.repr (a : Int))).length + 6 ≤ 16777216 := by rw [slen]; omega
  have p1 := fun sl => c_prop (sl := sl) hn (show tp_used (Str.ofString "Coins") = some m_Coins_used by unfold tp_used; exact tb1_same ..) (used_eq hn)
  have p2 := fun sl => c_prop (sl := sl) hn (show tp_left (Str.ofString "Coins") = some m_Coins_left by unfold tp_left; exact tb1_same ..) (left_eq hn hd)
  have p3 := fun sl => c_repr (sl := sl) hn (show t_repr (Str.ofString "Coins") = some m_Coins_U_reprU_ by unfold t_repr; exact tb1_same ..) (repr_eq hn ha)
  unfold m__law_stands b__law_stands
  simp -implicitDefEqProofs [e_fn, p1, p2, p3, whole_int, c_len hs, sizeS, l2, l3, l4, b1, b2]
end Qk50
set_option Elab.async false
set_option linter.all false
set_option maxRecDepth 100000
set_option maxHeartbeats 4000000
namespace Qk50
open PySem L2 DL
/-! ### what is no digit -/
def badD (b : Int) : D → Bool
  | .int i => decide (i < 0) || decide (b ≤ i)
  | _ => true
/-- data that isinstance can tell -/
def plainD : D → Bool
  | .non => true | .bl _ => true | .int _ => true | .str _ => true | .tup _ => true | .lst _ => true
  | _ => false
theorem wrong_turn (x : Sl) (b : Int) (acc : List D) (d : D) (st : List Cell) (hp : plainD d = true) (hl : acc.length < 16777216) :
    l1_wrong_digits ⟨[x, .val (.int b), .own (.lst acc), .val d], st⟩ = .nx ⟨[x, .val (.int b), .own (.lst (if badD b d then acc ++ [d] else acc)), .val d], st⟩ := by
  unfold l1_wrong_digits
  cases d <;> first | (cases hp; done) | skip
  case int i =>
    by_cases h1 : i < 0
    · simp -implicitDefEqProofs [Z.ty, badD, h1, hl, sizeS]
    · by_cases h2 : b ≤ i <;> simp -implicitDefEqProofs [Z.ty, badD, h1, h2, hl, sizeS]
  all_goals simp -implicitDefEqProofs [Z.ty, Z.cont, badD, hl, sizeS]
theorem wrong_go (x : Sl) (b : Int) (st : List Cell) : ∀ (vs acc : List D) (y : Sl), vs.all plainD = true → acc.length + vs.length ≤ 16777216 → ∃ y', forGo (gN 3) l1_wrong_digits vs ⟨[x, .val (.int b), .own (.lst acc), y], st⟩ = .nx ⟨[x, .val (.int b), .own (.lst (acc ++ vs.filter (badD b))), y'], st⟩
  | [], acc, y, _, _ => ⟨y, by simp [forGo]⟩
  | d :: vs, acc, y, hp, hl => by
    simp only [List.all_cons, Bool.and_eq_true] at hp
    simp only [List.length_cons] at hl
    have e := wrong_turn x b acc d st hp.1 (by omega)
    obtain ⟨y', ih⟩ := wrong_go x b st vs (if badD b d then acc ++ [d] else acc) (.val d) hp.2 (by split <;> first | omega | (simp only [List.length_append, List.length_cons, List.length_nil]; omega))
    refine ⟨y', ?_⟩
    unfold forGo
    simp only [e_gN, e_set, List.set_cons_succ, List.set_cons_zero]
    rw [e]
    simp only [ih]
    cases h : badD b d <;> simp [h, List.filter_cons]
theorem wrong_L (vs : List D) (b : Int) (st : List Cell) (hp : vs.all plainD = true) (hl : vs.length < 1000000) : m_wrong_digits [.val (.lst vs), .val (.int b)] st = .ok (.lst (vs.filter (badD b))) st := by
  obtain ⟨y', e⟩ := wrong_go (.val (.lst vs)) b st vs [] .un hp (by simp; omega)
  have h : (mSh (mV 0)) ⟨[.val (.lst vs), .val (.int b), .own (.lst []), .un], st⟩ = .ok (.lst vs) ⟨[.val (.lst vs), .val (.int b), .own (.lst []), .un], st⟩ := rfl
  have e2 := e_forAL (gN 3) l1_wrong_digits _ _ _ h
  unfold m_wrong_digits b_wrong_digits
  simp -implicitDefEqProofs [e_fn, okLen, sizeS, e2, e]
theorem drop_nextD {vs ds : List D} {i : Nat} {d : D} (h : vs.drop i = d :: ds) : vs.drop (i + 1) = ds ∧ vs[i]? = some d := by
  have hl : i < vs.length := by
    refine Classical.byContradiction fun hn => ?_
    rw [List.drop_eq_nil_of_le (by omega)] at h
    cases h
  rw [List.drop_eq_getElem_cons hl] at h
  injection h with h1 h2
  exact ⟨h2, by rw [List.getElem?_eq_getElem hl, h1]⟩
theorem wrong_cell (m : Nat) (b : Int) (st : List Cell) (vs : List D) (hm : st[m]? = some (.lst vs)) : ∀ (ds : List D) (f i : Nat) (acc : List D) (y : Sl), vs.drop i = ds → ds.all plainD = true → acc.length + ds.length ≤ 16777216 → ds.length < f →
    ∃ y', forCell (gN 3) l1_wrong_digits m f i ⟨[.val (.obj m), .val (.int b), .own (.lst acc), y], st⟩ = .nx ⟨[.val (.obj m), .val (.int b), .own (.lst (acc ++ ds.filter (badD b))), y'], st⟩
  | _, 0, _, _, _, _, _, _, h => by omega
  | [], f + 1, i, acc, y, hd, _, _, _ => by
    refine ⟨y, ?_⟩
    have : vs[i]? = none := List.getElem?_eq_none_iff.mpr (List.drop_eq_nil_iff.mp hd)
    unfold forCell
    simp [hm, this]
  | d :: ds, f + 1, i, acc, y, hd, hp, hl, hf => by
    obtain ⟨h1, h2⟩ := drop_nextD hd
    simp only [List.all_cons, Bool.and_eq_true] at hp
    simp only [List.length_cons] at hl hf
    have e := wrong_turn (.val (.obj m)) b acc d st hp.1 (by omega)
    obtain ⟨y', ih⟩ := wrong_cell m b st vs hm ds f (i + 1) (if badD b d then acc ++ [d] else acc) (.val d) h1 hp.2 (by split <;> first | omega | (simp only [List.length_append, List.length_cons, List.length_nil]; omega)) (by omega)
    refine ⟨y', ?_⟩
    unfold forCell
    simp only [hm, h2, e_gN, e_set, List.set_cons_succ, List.set_cons_zero]
    rw [e]
    simp only [sTurn, ih]
    cases h : badD b d <;> simp [h, List.filter_cons]
theorem wrong_O (vs : List D) (m : Nat) (b : Int) (st : List Cell) (hm : st[m]? = some (.lst vs)) (hp : vs.all plainD = true) (hl : vs.length < 1000000) : m_wrong_digits [.val (.obj m), .val (.int b)] st = .ok (.lst (vs.filter (badD b))) st := by
  obtain ⟨y', e⟩ := wrong_cell m b st vs hm vs Fuel 0 [] .un rfl hp (by simp; omega) (by unfold Fuel; omega)
  have h : (mSh (mV 0)) ⟨[.val (.obj m), .val (.int b), .own (.lst []), .un], st⟩ = .ok (.obj m) ⟨[.val (.obj m), .val (.int b), .own (.lst []), .un], st⟩ := rfl
  have e2 := e_forAO (gN 3) l1_wrong_digits _ _ _ h
  unfold m_wrong_digits b_wrong_digits
  simp -implicitDefEqProofs [e_fn, okLen, sizeS, e2, e]
theorem good_filter {b : Int} {ds : List Int} (h : DigIn b ds) : (ds.map D.int).filter (badD b) = [] := by
  rw [List.filter_eq_nil_iff]
  intro d hd
  obtain ⟨i, hi, rfl⟩ := mem_ints hd
  have := h i hi
  simp [badD]
  omega
theorem plain_ints (ds : List Int) : (ds.map D.int).all plainD = true := by
  rw [List.all_eq_true]
  intro d hd
  obtain ⟨i, _, rfl⟩ := mem_ints hd
  rfl
/-! ### what coins do -/
section
variable {t b : Int} {d a n : Nat} {st : List Cell} {sl : List Sl} {all : List Int} (hn : st[n]? = some (coinC t b d a)) (hd : st[d]? = some (.lst (all.map .int)))
include hn hd
theorem noise_eq (up down : Nat) (hl : all.length < 1000000) : m_Coins_noise [.val (.obj n), .val (.int up), .val (.int down)] st = match noiseO t up down a all with
    | none => .err ⟨"Thirsty", [("many", .int (all.length - a))]⟩ st
    | some (c, a') => .ok (.int c) (st.set n (coinC t b d a')) := by
  have e := made_eq d a t up down st all hd hl
  unfold m_Coins_noise b_Coins_noise
  cases h : noiseO t up down a all with
  | none =>
    rw [h] at e
    simp only [optD] at e
    simp -implicitDefEqProofs [e_fn, f_at hn, f_digits hn, f_base hn, e, c_len hd, mkF]
  | some r =>
    obtain ⟨c, a'⟩ := r
    rw [h] at e
    simp only [optD] at e
    simp -implicitDefEqProofs [e_fn, f_at hn, f_digits hn, f_base hn, e, s_at hn, coinC]
theorem pour_L {more : List D} (hp : more.all plainD = true) (hl : more.length < 1000) {x : D} {xs : List D} (hx : more.filter (badD b) = x :: xs) : m_Coins_pour [.val (.obj n), .val (.lst more)] st = .err ⟨"BadNumber", [("value", x)]⟩ st := by
  have e := wrong_L more b st hp (by omega)
  rw [hx] at e
  unfold m_Coins_pour b_Coins_pour
  simp -implicitDefEqProofs [e_fn, f_base hn, e, mkF]
theorem pour_O {m : Nat} {ms : List Int} (hm : st[m]? = some (.lst (ms.map .int))) (hg : DigIn b ms) (hl : ms.length < 1000) (hl2 : all.length < 1000000) : m_Coins_pour [.val (.obj n), .val (.obj m)] st = .ok .non (st.set d (.lst ((all ++ ms).map .int))) := by
  have e := wrong_O (ms.map .int) m b st hm (plain_ints ms) (by simp; omega)
  rw [good_filter hg] at e
  have e2 := c_extF (m := mBind (mV 0) (fFld fl__digits (Str.ofString "_digits"))) (mc := mBind (wCons (mV 1) wNil) fListF) (z := ⟨[.val (.obj n), .val (.obj m), .val (.lst [])], st⟩) (n := d) (sl := [.val (.obj n), .val (.obj m), .val (.lst [])]) (st := st) (sl2 := [.val (.obj n), .val (.obj m), .val (.lst [])]) (st2 := st) (xs := all.map .int) (ys := ms.map .int)
    (by simp -implicitDefEqProofs [f_digits hn]) hd (by simp -implicitDefEqProofs [c_listF hm]) hd (by simp; omega)
  unfold m_Coins_pour b_Coins_pour
  simp -implicitDefEqProofs [e_fn, f_base hn, e, e2]
end
end Qk50
set_option Elab.async false
set_option linter.all false
set_option maxRecDepth 100000
set_option maxHeartbeats 4000000
namespace Qk50
open PySem L2 DL
/-! ### bases -/
theorem iv_int (i : Int) (st : List Cell) : m_is_integer_value [.val (.int i)] st = .ok (.bl true) st := by
  unfold m_is_integer_value b_is_integer_value
  simp -implicitDefEqProofs [e_fn, Z.ty]
theorem iv_bl (i : Bool) (st : List Cell) : m_is_integer_value [.val (.bl i)] st = .ok (.bl false) st := by
  unfold m_is_integer_value b_is_integer_value
  simp -implicitDefEqProofs [e_fn, Z.ty]
theorem iv_str (s : Str) (st : List Cell) : m_is_integer_value [.val (.str s)] st = .ok (.bl false) st := by
  unfold m_is_integer_value b_is_integer_value
  simp -implicitDefEqProofs [e_fn, Z.ty]
def baseB (x y : Int) : Bool := decide (1 ≤ x) && decide (x < y) && decide (y ≤ 9) && Nat.gcd x.natAbs y.natAbs == 1
theorem base_ints (x y : Int) (st : List Cell) : m_is_base [.val (.tup [.int x, .int y])] st = .ok (.bl (baseB x y)) st := by
  have e : m_base_value [.val (.tup [.int x, .int y])] st = .ok (.bl (baseB x y)) st := by
    unfold m_base_value b_base_value baseB
    by_cases h1 : x < 1
    · have h1' : ¬ 1 ≤ x := by omega
      simp -implicitDefEqProofs [e_fn, Z.ty, iv_int, h1, h1']
    · have h1' : 1 ≤ x := by omega
      by_cases h2 : y ≤ x
      · have h2' : ¬ x < y := by omega
        simp -implicitDefEqProofs [e_fn, Z.ty, iv_int, h1, h1', h2, h2']
      · have h2' : x < y := by omega
        by_cases h3 : 9 < y
        · have h3' : ¬ y ≤ 9 := by omega
          simp -implicitDefEqProofs [e_fn, Z.ty, iv_int, h1, h1', h2, h2', h3, h3']
        · have h3' : y ≤ 9 := by omega
          simp -implicitDefEqProofs [e_fn, Z.ty, iv_int, h1, h1', h2, h2', h3, h3']
          rw [Bool.eq_iff_iff]
          simp
          omega
  unfold m_is_base b_is_base
  simp -implicitDefEqProofs [e_fn, e]
theorem base_odd {t b : Int} (h : Odd t b) (st : List Cell) : m_is_base [.val (.tup [.int t, .int b])] st = .ok (.bl true) st := by
  obtain ⟨h1, h2, h3, h4⟩ := h
  rw [base_ints]
  unfold baseB
  simp [h1, h2, h3, h4]
/-- what is no base -/
inductive NoBase : D → Prop
  | lst (xs : List D) : NoBase (.lst xs)
  | pr (x y : Int) : baseB x y = false → NoBase (.tup [.int x, .int y])
  | tru (y : Int) : NoBase (.tup [.bl true, .int y])
  | three (x y z : Int) : NoBase (.tup [.int x, .int y, .int z])
  | one (x : Int) : NoBase (.tup [.int x])
  | str (s : Str) : NoBase (.str s)
  | non : NoBase .non
  | int (i : Int) : NoBase (.int i)
  | sstr (s : Str) (y : Int) : NoBase (.tup [.str s, .int y])
theorem base_no {d : D} (h : NoBase d) (st : List Cell) : m_is_base [.val d] st = .ok (.bl false) st := by
  have go : ∀ e : m_base_value [.val d] st = .ok (.bl false) st, m_is_base [.val d] st = .ok (.bl false) st := fun e => by
    unfold m_is_base b_is_base
    simp -implicitDefEqProofs [e_fn, e]
  cases h with
  | pr x y h => rw [base_ints, h]
  | lst xs => exact go (by unfold m_base_value b_base_value; simp -implicitDefEqProofs [e_fn, Z.ty, Z.cont])
  | tru y => exact go (by unfold m_base_value b_base_value; simp -implicitDefEqProofs [e_fn, Z.ty, iv_bl])
  | three x y z => exact go (by unfold m_base_value b_base_value; simp -implicitDefEqProofs [e_fn, Z.ty])
  | one x => exact go (by unfold m_base_value b_base_value; simp -implicitDefEqProofs [e_fn, Z.ty])
  | str s => exact go (by unfold m_base_value b_base_value; simp -implicitDefEqProofs [e_fn, Z.ty])
  | non => exact go (by unfold m_base_value b_base_value; simp -implicitDefEqProofs [e_fn, Z.ty])
  | int i => exact go (by unfold m_base_value b_base_value; simp -implicitDefEqProofs [e_fn, Z.ty])
  | sstr s y => exact go (by unfold m_base_value b_base_value; simp -implicitDefEqProofs [e_fn, Z.ty, iv_str])
/-! ### coins are made -/
section
variable {t b : Int} {n : Nat} {st : List Cell} {sl : List Sl}
theorem init_noBase {d e : D} (h : NoBase d) : m_Coins_U_initU_ [.val (.obj n), .val d, .val e] st = .err ⟨"BadBase", [("value", d)]⟩ st := by
  unfold m_Coins_U_initU_ b_Coins_U_initU_
  simp -implicitDefEqProofs [e_fn, base_no h, mkF]
theorem init_noDig (hO : Odd t b) {vs : List D} (hp : vs.all plainD = true) (hl : vs.length < 1000) {x : D} {xs : List D} (hx : vs.filter (badD b) = x :: xs) : m_Coins_U_initU_ [.val (.obj n), .val (.tup [.int t, .int b]), .val (.lst vs)] st = .err ⟨"BadNumber", [("value", x)]⟩ st := by
  have e := wrong_L vs b st hp (by omega)
  rw [hx] at e
  unfold m_Coins_U_initU_ b_Coins_U_initU_
  simp -implicitDefEqProofs [e_fn, base_odd hO, e, mkF]
theorem init_ok (hO : Odd t b) {m : Nat} {ds : List Int} (hn : st[n]? = some (.ins "Coins" [])) (hm : st[m]? = some (.lst (ds.map .int))) (hg : DigIn b ds) (hl : ds.length < 100000) :
    m_Coins_U_initU_ [.val (.obj n), .val (.tup [.int t, .int b]), .val (.obj m)] st = .ok .non ((st ++ [Cell.lst (ds.map .int)]).set n (coinC t b st.length 0)) := by
  have e := wrong_O (ds.map .int) m b st hm (plain_ints ds) (by simp; omega)
  rw [good_filter hg] at e
  have hnm : n ≠ m := by
    intro h
    rw [h, hm] at hn
    cases hn
  have hnl : n < st.length := (List.getElem?_eq_some_iff.mp hn).1
  have s1 : ∀ sl : List Sl, setFld fl__base (Str.ofString "_base") ⟨sl, st⟩ (.d (.obj n)) (.tup [.int t, .int b]) = some ⟨sl, st.set n (.ins "Coins" [("_base", .tup [.int t, .int b])])⟩ := fun sl => by
    rw [c_setF hn in_base (by simp)]
    rfl
  have hm2 : (st.set n (.ins "Coins" [("_base", .tup [.int t, .int b])]))[m]? = some (.lst (ds.map .int)) := by
    rw [List.getElem?_set_ne hnm]
    exact hm
  have hn3 : (st.set n (.ins "Coins" [("_base", .tup [.int t, .int b])]) ++ [Cell.lst (ds.map .int)])[n]? = some (.ins "Coins" [("_base", .tup [.int t, .int b])]) := by
    rw [List.getElem?_append_left (by simpa using hnl)]
    simp [hnl]
  have s2 : ∀ sl : List Sl, setFld fl__digits (Str.ofString "_digits") ⟨sl, st.set n (.ins "Coins" [("_base", .tup [.int t, .int b])]) ++ [Cell.lst (ds.map .int)]⟩ (.d (.obj n)) (.obj st.length) = some ⟨sl, (st ++ [Cell.lst (ds.map .int)]).set n (.ins "Coins" [("_base", .tup [.int t, .int b]), ("_digits", .obj st.length)])⟩ := fun sl => by
    rw [c_setF hn3 in_digits (by simp)]
    congr 2
    rw [← List.set_append_left _ _ hnl, List.set_set]
    rfl
  have hn4 : ((st ++ [Cell.lst (ds.map .int)]).set n (.ins "Coins" [("_base", .tup [.int t, .int b]), ("_digits", .obj st.length)]))[n]? = some (.ins "Coins" [("_base", .tup [.int t, .int b]), ("_digits", .obj st.length)]) := by
    rw [List.getElem?_set_self (by simp; omega)]
  have s3 : ∀ sl : List Sl, setFld fl__at (Str.ofString "_at") ⟨sl, (st ++ [Cell.lst (ds.map .int)]).set n (.ins "Coins" [("_base", .tup [.int t, .int b]), ("_digits", .obj st.length)])⟩ (.d (.obj n)) (.int 0) = some ⟨sl, (st ++ [Cell.lst (ds.map .int)]).set n (coinC t b st.length 0)⟩ := fun sl => by
    rw [c_setF hn4 in_at (by simp), List.set_set]
    rfl
  unfold m_Coins_U_initU_ b_Coins_U_initU_
  simp -implicitDefEqProofs [e_fn, base_odd hO, e, s1, c_listF hm2, s2, s3]
theorem make_ok (hO : Odd t b) {m : Nat} {ds : List Int} (hm : st[m]? = some (.lst (ds.map .int))) (hg : DigIn b ds) (hl : ds.length < 100000) :
    makeF "Coins" 2 m_Coins_U_initU_ [.d (.tup [.int t, .int b]), .d (.obj m)] ⟨sl, st⟩ = .ok (.obj st.length) ⟨sl, st ++ [coinC t b (st.length + 1) 0, .lst (ds.map .int)]⟩ := by
  have hml : m < st.length := (List.getElem?_eq_some_iff.mp hm).1
  have e := init_ok (n := st.length) (st := st ++ [.ins "Coins" []]) (m := m) (ds := ds) hO (by simp) (by rw [List.getElem?_append_left hml]; exact hm) hg hl
  have es : ((st ++ [Cell.ins "Coins" []]) ++ [Cell.lst (ds.map .int)]).set st.length (coinC t b (st ++ [Cell.ins "Coins" []]).length 0) = st ++ [coinC t b (st.length + 1) 0, .lst (ds.map .int)] := by
    rw [List.append_assoc, List.set_append_right _ _ (Nat.le_refl _)]
    simp
  rw [es] at e
  simp -implicitDefEqProofs [e]
theorem make_noBase {d e : D} (h : NoBase d) : makeF "Coins" 2 m_Coins_U_initU_ [.d d, .d e] ⟨sl, st⟩ = .err ⟨"BadBase", [("value", d)]⟩ ⟨sl, st ++ [.ins "Coins" []]⟩ := by
  simp -implicitDefEqProofs [init_noBase h]
theorem make_noDig (hO : Odd t b) {vs : List D} (hp : vs.all plainD = true) (hl : vs.length < 1000) {x : D} {xs : List D} (hx : vs.filter (badD b) = x :: xs) : makeF "Coins" 2 m_Coins_U_initU_ [.d (.tup [.int t, .int b]), .d (.lst vs)] ⟨sl, st⟩ = .err ⟨"BadNumber", [("value", x)]⟩ ⟨sl, st ++ [.ins "Coins" []]⟩ := by
  simp -implicitDefEqProofs [init_noDig hO hp hl hx]
end
end Qk50
set_option Elab.async false
set_option linter.all false
set_option maxRecDepth 100000
set_option maxHeartbeats 4000000
namespace Qk50
open PySem L2 DL
/-! ### what is caught -/
section
variable {th : List Cell → RF} {S S' : List Cell}
theorem caught_ok {d : D} (h : th S = .ok d S') : mx__law_caught th S = .ok (.lst [d, .non]) S' := by
  unfold mx__law_caught b__law_caught
  simp -implicitDefEqProofs [e_fn, h, okLen, sizeS]
theorem caught_B {d : D} (h : th S = .err ⟨"BadBase", [("value", d)]⟩ S') : mx__law_caught th S = .ok (.lst [.non, .lst [.str "BadBase", d]]) S' := by
  unfold mx__law_caught b__law_caught
  simp -implicitDefEqProofs [e_fn, h, okLen, sizeS]
theorem caught_N {d : D} (h : th S = .err ⟨"BadNumber", [("value", d)]⟩ S') : mx__law_caught th S = .ok (.lst [.non, .lst [.str "BadNumber", d]]) S' := by
  unfold mx__law_caught b__law_caught
  simp -implicitDefEqProofs [e_fn, h, okLen, sizeS]
theorem caught_T {d : D} (h : th S = .err ⟨"Thirsty", [("many", d)]⟩ S') : mx__law_caught th S = .ok (.lst [.non, .lst [.str "Thirsty", d]]) S' := by
  unfold mx__law_caught b__law_caught
  simp -implicitDefEqProofs [e_fn, h, okLen, sizeS]
end
@[simp] theorem e_eqB (a b : Bool) (z : Z) : fEq (.d (.bl a)) (.d (.bl b)) z = .ok (.d (.bl (a == b))) z := by
  cases a <;> cases b <;> rfl
/-- data that is equal to itself -/
def SelfEq (v : D) : Prop := (∀ z, fEq (.d v) (.d v) z = .ok (.d (.bl true)) z) ∧ ∃ T, ∀ z : Z, z.ty (.d v) = some T
theorem refused_y {v : D} (h : SelfEq v) (name : Str) (st : List Cell) : m__law_refused [.val (.lst [.non, .lst [.str name, v]]), .val (.str name), .val v] st = .ok (.bl true) st := by
  obtain ⟨h1, T, h2⟩ := h
  unfold m__law_refused b__law_refused
  simp -implicitDefEqProofs [e_fn, h1, h2]
theorem se_int (i : Int) : SelfEq (.int i) := ⟨fun z => by simp, .int, fun z => rfl⟩
theorem se_bl (i : Bool) : SelfEq (.bl i) := ⟨fun z => by cases i <;> rfl, .bl, fun z => rfl⟩
theorem se_str (i : Str) : SelfEq (.str i) := ⟨fun z => by simp, .str, fun z => rfl⟩
theorem se_non : SelfEq .non := ⟨fun z => by rfl, .non, fun z => rfl⟩
theorem eq_shaped {v w : D} {p q : PyData} (hv : toPy v = some p) (hw : toPy w = some q) (hs : SeqAt.shaped p = true) (hs2 : SeqAt.shaped q = true) (hn : scalD (.d v) (.d w) = false) (hv2 : ∀ z : Z, z.py (.d v) = toPy v) (hw2 : ∀ z : Z, z.py (.d w) = toPy w) (z : Z) :
    fEq (.d v) (.d w) z = .ok (.d (.bl (PyData.eqv p q))) z := by
  have e1 : eqS false (.d v) (.d w) z = .bad := by
    unfold eqS
    rw [hn]
    rfl
  have e2 : eqP false (.d v) (.d w) z = .ok (.d (.bl (PyData.eqv p q))) z := by
    unfold eqP
    rw [hv2, hw2, hv, hw]
    simp [hs, hs2]
  unfold fEq fOr
  rw [e1]
  exact e2
theorem se_tup {xs : List D} {p : PyData} (hp : toPy (.tup xs) = some p) (hs : SeqAt.shaped p = true) : SelfEq (.tup xs) := ⟨fun z => by
  rw [eq_shaped hp hp hs hs rfl (fun _ => rfl) (fun _ => rfl), SeqAt.eqv_refl p (Bool.and_eq_true_iff.mp hs).1], .tup, fun z => rfl⟩
theorem se_lst {xs : List D} {p : PyData} (hp : toPy (.lst xs) = some p) (hs : SeqAt.shaped p = true) : SelfEq (.lst xs) := ⟨fun z => by
  rw [eq_shaped hp hp hs hs rfl (fun _ => rfl) (fun _ => rfl), SeqAt.eqv_refl p (Bool.and_eq_true_iff.mp hs).1], .lst, fun z => rfl⟩
theorem sh_t1 (i : Int) : SelfEq (.tup [.int i]) := se_tup (p := .tuple [.int i]) rfl rfl
theorem sh_t2 (i j : Int) : SelfEq (.tup [.int i, .int j]) := se_tup (p := .tuple [.int i, .int j]) rfl rfl
theorem sh_l2 (i j : Int) : SelfEq (.lst [.int i, .int j]) := se_lst (p := .list [.int i, .int j]) rfl rfl
theorem sh_t3 (i j k : Int) : SelfEq (.tup [.int i, .int j, .int k]) := se_tup (p := .tuple [.int i, .int j, .int k]) rfl rfl
theorem sh_tb (b : Bool) (j : Int) : SelfEq (.tup [.bl b, .int j]) := se_tup (p := .tuple [.bool b, .int j]) rfl rfl
theorem sh_ts : SelfEq (.tup [.str "1", .int 2]) := se_tup (p := .tuple [.str "1", .int 2]) rfl (by decide +kernel)
end Qk50
set_option Elab.async false
set_option linter.all false
set_option maxRecDepth 100000
set_option maxHeartbeats 4000000
namespace Qk50
open PySem L2 DL
/-! ### the bag is made -/
theorem bag_turn (ns : D) (k : Nat) (d : D) (z : Z) (hd : ∃ i, d = .int i) (h : ∃ m j, z = ⟨[.val ns, .val (.int m), j], []⟩ ∧ 0 ≤ m ∧ m < 2147483647) : ∃ z1 z2, gN 2 d z = .ok () z1 ∧ l1__law_bag z1 = .nx z2 ∧ ∃ m j, z2 = ⟨[.val ns, .val (.int m), j], []⟩ ∧ 0 ≤ m ∧ m < 2147483647 := by
  obtain ⟨m, j, rfl, m0, m1⟩ := h
  obtain ⟨i, rfl⟩ := hd
  have f := fm (i := m * 52361 + i.fmod 2147483549 + 613) (j := 2147483587) (by omega)
  refine ⟨_, ⟨[.val ns, .val (.int ((m * 52361 + i.fmod 2147483549 + 613).fmod 2147483587)), .val (.int i)], []⟩, rfl, ?_, _, _, rfl, f.1, by omega⟩
  unfold l1__law_bag
  simp
theorem law_bag_y (ns : List Int) : ∃ c, m__law_bag [.val (.lst (ns.map .int))] [] = .ok (.obj 0) [c] ∧ BagC c := by
  have hc : cutD (ns.map D.int) none (some 63) = (ns.take 63).map .int := by
    rw [show (63 : Int) = ((63 : Nat) : Int) by rfl, cutD_to, List.map_take]
  obtain ⟨z', e, m, j, rfl, m0, m1⟩ := forGo_cnt (g := gN 2) (b := l1__law_bag) (fun _ z => ∃ m j, z = ⟨[.val (.lst (ns.map .int)), .val (.int m), j], []⟩ ∧ 0 ≤ m ∧ m < 2147483647) 1000 ((ns.take 63).map .int) 0 ⟨[.val (.lst (ns.map .int)), .val (.int 7368787), .un], []⟩ (fun k d z _ hd h => bag_turn _ k d z (by
    obtain ⟨i, _, rfl⟩ := List.mem_map.mp hd
    exact ⟨i, rfl⟩) h) (by simp; omega) ⟨7368787, .un, rfl, by omega, by omega⟩
  refine ⟨bagC (ns.take 63) 0 0 m 0, ?_, ns.take 63, 0, 0, m, 0, rfl, by omega, by omega, m0, m1⟩
  unfold m__law_bag b__law_bag bagC
  generalize (ns.take 63).map D.int = zs at *
  generalize ns.map D.int = ys at *
  simp -implicitDefEqProofs [e_fn, hc, e, sizeS, okLen]
/-! ### digits shown -/
def sh (ns : List Int) : Str := PyData.shown (.list (ns.map .int))
theorem shown_ints : ∀ (ns : List Int), (∀ n ∈ ns, 0 ≤ n ∧ n < 10) → PyData.showableAll (ns.map .int) = true ∧ ((PyData.shownAll (ns.map .int)).map (·.length)).sum ≤ 2 * ns.length ∧ (PyData.shownAll (ns.map .int)).length = ns.length
  | [], _ => ⟨by simp [PyData.showableAll], by simp [PyData.shownAll], by simp [PyData.shownAll]⟩
  | n :: ns, h => by
    obtain ⟨h1, h2, h3⟩ := shown_ints ns fun m hm => h m (List.mem_cons_of_mem _ hm)
    have hn := h n (List.mem_cons_self ..)
    have hl : n.natAbs.log2 < 1920 := by
      by_cases h0 : n.natAbs = 0
      · rw [h0]; decide
      · have : n.natAbs.log2 < 64 := (Nat.log2_lt h0).mpr (by omega)
        omega
    have ht : (Str.ofString (toString n)).length ≤ 2 := by
      have := int_text_length_le10 (a := n) (k := 1) (by decide) (by omega)
      rw [ofString_length]
      exact this
    refine ⟨?_, ?_, ?_⟩
    · simp only [List.map_cons, PyData.showableAll, PyData.showable, hl, decide_true, h1, Bool.and_self]
    · simp only [List.map_cons, PyData.shownAll, PyData.shown, List.sum_cons, List.length_cons]
      have := ht
      omega
    · simp only [List.map_cons, PyData.shownAll, List.length_cons, h3]
theorem reprL_y {x : W} {ns : List Int} {z : Z} (h : z.cont x = some (.lst (ns.map D.int))) (hn : ∀ n ∈ ns, 0 ≤ n ∧ n < 10) (hl : ns.length < 1000) : fReprL x z = .ok (.d (.str (sh ns))) z := by
  obtain ⟨h1, h2, h3⟩ := shown_ints ns hn
  refine c_reprL h (by simpa only [PyData.showable] using h1) ?_
  have := listText_len_le (PyData.shownAll (ns.map .int))
  simp only [PyData.shown]
  rw [sizeS]
  omega
end Qk50
set_option Elab.async false
set_option linter.all false
set_option maxRecDepth 100000
set_option maxHeartbeats 4000000
namespace Qk50
open PySem L2 DL
/-- only the bag has changed -/
structure Upd (S S' : List Cell) : Prop where
  bag : Bag S'
  len : S'.length = S.length
  same : ∀ i, 1 ≤ i → S'[i]? = S[i]?
theorem Upd.trans {S S' S'' : List Cell} (h : Upd S S') (h2 : Upd S' S'') : Upd S S'' := ⟨h2.bag, h2.len.trans h.len, fun i hi => (h2.same i hi).trans (h.same i hi)⟩
theorem upd_set {S : List Cell} {c : Cell} (hB : Bag S) (hc : BagC c) : Upd S (S.set 0 c) := ⟨bag_set hB hc, by simp, fun i hi => List.getElem?_set_ne (by omega)⟩
theorem Upd.app {S S' : List Cell} (h : Upd S S') (X : List Cell) : Upd (S ++ X) (S' ++ X) := by
  obtain ⟨⟨c, R, rfl, hc⟩, h2, h3⟩ := h
  refine ⟨⟨c, R ++ X, rfl, hc⟩, by simp at h2 ⊢; omega, fun i hi => ?_⟩
  by_cases hl : i < S.length
  · rw [List.getElem?_append_left (by omega), List.getElem?_append_left hl, h3 i hi]
  · rw [List.getElem?_append_right (by omega), List.getElem?_append_right (by omega), h2]
theorem bag_app {S : List Cell} (h : Bag S) (X : List Cell) : Bag (S ++ X) := by
  obtain ⟨c, R, rfl, hc⟩ := h
  exact ⟨c, R ++ X, rfl, hc⟩
theorem draw_u (size : Int) (S : List Cell) (hB : Bag S) (h1 : 1 ≤ size) (h2 : size < 1000000) : ∃ r S', Upd S S' ∧ m__law_draw [.val (.obj 0), .val (.int size)] S = .ok (.int r) S' ∧ 0 ≤ r ∧ r < size := by
  obtain ⟨r, c', hc', e, h3, h4⟩ := draw_at size S hB h1 (by
    have : size.natAbs < 1000000 := by omega
    exact Nat.lt_trans this (by decide))
  exact ⟨r, _, upd_set hB hc', e, h3, h4⟩
theorem of_u (ds : List D) (S : List Cell) (hB : Bag S) (h1 : ds ≠ []) (h2 : ds.length < 1000) : ∃ d S', Upd S S' ∧ m__law_of [.val (.obj 0), .val (.lst ds)] S = .ok d S' ∧ d ∈ ds := by
  obtain ⟨d, c', hc', e, hd⟩ := of_at ds S hB h1 (by omega)
  exact ⟨d, _, upd_set hB hc', e, hd⟩
theorem odds_u (S : List Cell) (hB : Bag S) : ∃ t b S', Odd t b ∧ Upd S S' ∧ m__law_odds [.val (.obj 0)] S = .ok (.tup [.int t, .int b]) S' := by
  obtain ⟨t, b, c', hO, hc', e⟩ := law_odds_y S hB
  exact ⟨t, b, _, hO, upd_set hB hc', e⟩
theorem digits_u (S : List Cell) (hB : Bag S) {t b : Int} (hO : Odd t b) (many : Nat) (hm : many < 1000) : ∃ ds S', ds.length = many ∧ DigIn b ds ∧ Upd S S' ∧
    m__law_digits [.val (.obj 0), .val (.tup [.int t, .int b]), .val (.int many)] S = .ok (.obj S.length) (S' ++ [.lst (ds.map .int)]) := by
  obtain ⟨ds, c', h1, h2, hc', e⟩ := law_digits_y S hB hO many hm
  exact ⟨ds, _, h1, h2, upd_set hB hc', e⟩
/-- a lot of the law's, its cells from the n-th on -/
def LotAt (S : List Cell) (n N : Nat) : Prop := ∃ (t b : Int) (ds : List Int) (a : Nat), Odd t b ∧ DigIn b ds ∧ a ≤ ds.length ∧ ds.length ≤ N ∧ S[n + 1]? = some (.lst (ds.map .int)) ∧ S[n + 3]? = some (coinC t b (n + 4) a) ∧ S[n + 4]? = some (.lst (ds.map .int)) ∧
  S[n + 5]? = some (.lst [.obj (n + 3), .tup [.int t, .int b], .obj (n + 1), .int a])
abbrev lz (ns : D) (k s4 s5 s6 s13 : Sl) (st : List Cell) : Z := ⟨[.val ns, .val (.obj 0), .val (.obj 1), k, s4, s5, s6, .un, .un, .un, .un, .un, .un, s13, .un, .un, .un, .un], st⟩
theorem app_at (S X : List Cell) (i k : Nat) (h : S.length + k = i) : (S ++ X)[i]? = X[k]? := by
  rw [List.getElem?_append_right (by omega)]
  congr 1
  omega
theorem app_left {S X : List Cell} {i : Nat} {c : Cell} (h : S[i]? = some c) : (S ++ X)[i]? = some c := by
  rw [List.getElem?_append_left (List.getElem?_eq_some_iff.mp h).1]
  exact h
/-- the store as drawn -/
theorem s1_y (ns : D) (k s5 s6 s13 : Sl) (S : List Cell) (hB : Bag S) {t b : Int} (hO : Odd t b) : ∃ (g ds : List Int) (S' : List Cell), Upd S S' ∧ DigIn b ds ∧ ds.length ≤ 412 ∧
    s1_law (lz ns k (.val (.tup [.int t, .int b])) s5 s6 s13 S) = .nx (lz ns k (.val (.tup [.int t, .int b])) (.val (.obj (S.length + 1))) s6 s13 (S' ++ [.lst (g.map .int), .lst (ds.map .int)])) := by
  obtain ⟨d1, S1, u1, e1, hd1⟩ := of_u [.int 5, .int 12, .int 0, .int 8, .int 2] S hB (by simp) (by simp)
  obtain ⟨m, hm, rfl⟩ : ∃ m : Nat, m ≤ 12 ∧ d1 = .int m := by
    simp at hd1
    rcases hd1 with rfl | rfl | rfl | rfl | rfl
    · exact ⟨5, by omega, rfl⟩
    · exact ⟨12, by omega, rfl⟩
    · exact ⟨0, by omega, rfl⟩
    · exact ⟨8, by omega, rfl⟩
    · exact ⟨2, by omega, rfl⟩
  obtain ⟨g, S2, hg1, hg2, u2, e2⟩ := digits_u S1 u1.bag hO m (by omega)
  have B2 : Bag (S2 ++ [.lst (g.map .int)]) := bag_app u2.bag _
  obtain ⟨d3, S3, u3, e3, hd3⟩ := of_u [.int 0, .int 0, .int 0, .int 0, .int 0, .int 0, .int 0, .int 400] (S2 ++ [.lst (g.map .int)]) B2 (by simp) (by simp)
  obtain ⟨q, hq, rfl⟩ : ∃ q : Nat, q ≤ 400 ∧ d3 = .int q := by
    simp at hd3
    rcases hd3 with rfl | rfl
    · exact ⟨0, by omega, rfl⟩
    · exact ⟨400, by omega, rfl⟩
  have hl2 : S2.length = S.length := u2.len.trans u1.len
  have hl3 : S3.length = S.length + 1 := by rw [u3.len]; simp [hl2]
  have h1s : 1 ≤ S.length := by obtain ⟨c, R, rfl, _⟩ := hB; simp
  have g3 : S3[S.length]? = some (.lst (g.map .int)) := by
    rw [u3.same _ h1s, app_at S2 _ _ 0 (by omega)]
    rfl
  -- the cells behind the bag
  obtain ⟨S', rfl⟩ : ∃ S', S3 = S' ++ [.lst (g.map .int)] := by
    refine ⟨S3.take S.length, ?_⟩
    have h : S.length < S3.length := by omega
    have e := List.take_append_drop S.length S3
    rw [List.drop_eq_getElem_cons h, List.drop_eq_nil_of_le (by omega)] at e
    rw [List.getElem?_eq_getElem h] at g3
    have g4 := Option.some.inj g3
    rw [g4] at e
    exact e.symm
  have hl' : S'.length = S.length := by simp at hl3; omega
  have u4 : Upd S S' := by
    refine ⟨?_, hl', fun i hi => ?_⟩
    · obtain ⟨c, R, hS, hc⟩ := u3.bag
      cases S' with
      | nil => simp at hl'; omega
      | cons x xs =>
        simp at hS
        exact ⟨x, xs, rfl, hS.1 ▸ hc⟩
    · by_cases h : i < S.length
      · have := u3.same i hi
        rw [List.getElem?_append_left (by omega), List.getElem?_append_left (by omega)] at this
        rw [this, u2.same i hi, u1.same i hi]
      · rw [List.getElem?_eq_none (by omega), List.getElem?_eq_none (by omega)]
  refine ⟨g, g ++ List.replicate q 0, S', u4, ?_, by simp; omega, ?_⟩
  · intro x hx
    rcases List.mem_append.mp hx with h | h
    · exact hg2 x h
    · obtain ⟨_, rfl⟩ := List.mem_replicate.mp h
      have := hO.t1
      have := hO.tb
      omega
  · have ea : fAddF (.d (.obj S.length)) (.d (.lst (List.replicate q (D.int 0)))) ⟨[.val ns, .val (.obj 0), .val (.obj 1), k, .val (.tup [.int t, .int b]), s5, s6, .un, .un, .un, .un, .un, .un, s13, .un, .un, .un, .un], S' ++ [.lst (g.map .int)]⟩ =
        .ok (.lst (g.map .int ++ List.replicate q (D.int 0))) ⟨[.val ns, .val (.obj 0), .val (.obj 1), k, .val (.tup [.int t, .int b]), s5, s6, .un, .un, .un, .un, .un, .un, s13, .un, .un, .un, .un], S' ++ [.lst (g.map .int)]⟩ :=
      c_addF (z := ⟨_, _⟩) (show (S' ++ [Cell.lst (g.map .int)])[S.length]? = _ by rw [app_at S' _ _ 0 (by omega)]; rfl) rfl (by simp; omega)
    have hq1 : (q : Int) < 9223372036854775808 := by omega
    have hq2 : q ≤ 16777216 := by omega
    have hq3 : -9223372036854775808 ≤ (q : Int) := by omega
    rw [u1.len] at e2
    unfold s1_law
    simp -implicitDefEqProofs [okLen, sizeS, e1, e2, e3, hq1, hq2, hq3, ea, hl']
end Qk50
set_option Elab.async false
set_option linter.all false
set_option maxRecDepth 100000
set_option maxHeartbeats 4000000
namespace Qk50
open PySem L2 DL
theorem dig10 {t b : Int} (hO : Odd t b) {ds : List Int} (h : DigIn b ds) : ∀ n ∈ ds, 0 ≤ n ∧ n < 10 := fun n hn => by
  have := h n hn
  have := hO.b9
  omega
theorem bag_setS {S : List Cell} (h : Bag S) {i : Nat} (hi : 1 ≤ i) (x : Cell) : Bag (S.set i x) := by
  obtain ⟨c, R, rfl, hc⟩ := h
  cases i with
  | zero => omega
  | succ i => exact ⟨c, R.set i x, rfl, hc⟩
theorem lot_turn (ns : D) (k : Int) (s4 s5 s6 s13 : Sl) (S : List Cell) (lots : List D) (hB : Bag S) (h1 : S[1]? = some (.lst lots)) (hl : lots.length < 10) : ∃ S' s4' s5' s6' s13', l1_law (lz ns (.val (.int k)) s4 s5 s6 s13 S) = .nx (lz ns (.val (.int k)) s4' s5' s6' s13' S') ∧ Bag S' ∧
    S'[1]? = some (.lst (lots ++ [.obj (S.length + 5)])) ∧ (∀ i, 2 ≤ i → i < S.length → S'[i]? = S[i]?) ∧ LotAt S' S.length 500 ∧ S'.length = S.length + 6 := by
  have hn2 : 2 ≤ S.length := by
    have := (List.getElem?_eq_some_iff.mp h1).1
    omega
  obtain ⟨t, b, S1, hO, u1, e1⟩ := odds_u S hB
  obtain ⟨g, ds, S2, u2, hg, hd, e2⟩ := s1_y ns (.val (.int k)) s5 s6 s13 S1 u1.bag hO
  have hl1 : S1.length = S.length := u1.len
  have hl2 : S2.length = S.length := u2.len.trans u1.len
  rw [hl1] at e2
  have q1 : sAsg (mCall 1 m__law_odds (wCons (mV 1) (wNil))) (gN 4) (lz ns (.val (.int k)) s4 s5 s6 s13 S) = .nx (lz ns (.val (.int k)) (.val (.tup [.int t, .int b])) s5 s6 s13 S1) := by
    simp -implicitDefEqProofs [e1]
  -- the digits that are handed in
  have g1 : (S2 ++ [Cell.lst (g.map .int), .lst (ds.map .int)])[S.length + 1]? = some (.lst (ds.map .int)) := app_at S2 _ _ 1 (by omega)
  have q3 : sAsg (mCell (mBind (wCons (mV 5) wNil) fListF)) (gN 6) (lz ns (.val (.int k)) (.val (.tup [.int t, .int b])) (.val (.obj (S.length + 1))) s6 s13 (S2 ++ [.lst (g.map .int), .lst (ds.map .int)])) =
      .nx (lz ns (.val (.int k)) (.val (.tup [.int t, .int b])) (.val (.obj (S.length + 1))) (.val (.obj (S.length + 2))) s13 (S2 ++ [.lst (g.map .int), .lst (ds.map .int), .lst (ds.map .int)])) := by
    simp -implicitDefEqProofs [c_listF g1, hl2]
  have g2 : (S2 ++ [Cell.lst (g.map .int), .lst (ds.map .int), .lst (ds.map .int)])[S.length + 2]? = some (.lst (ds.map .int)) := app_at S2 _ _ 2 (by omega)
  have g1' : (S2 ++ [Cell.lst (g.map .int), .lst (ds.map .int), .lst (ds.map .int)])[S.length + 1]? = some (.lst (ds.map .int)) := app_at S2 _ _ 1 (by omega)
  have mk := fun sl => make_ok (sl := sl) hO g2 hg (by omega)
  have hlen3 : (S2 ++ [Cell.lst (g.map .int), .lst (ds.map .int), .lst (ds.map .int)]).length = S.length + 3 := by simp [hl2]
  rw [hlen3] at mk
  have es : (S2 ++ [Cell.lst (g.map .int), .lst (ds.map .int), .lst (ds.map .int)]) ++ [coinC t b (S.length + 3 + 1) 0, .lst (ds.map .int)] = S2 ++ [.lst (g.map .int), .lst (ds.map .int), .lst (ds.map .int), coinC t b (S.length + 4) 0, .lst (ds.map .int)] := by simp
  rw [es] at mk
  have q4 : s2_law (lz ns (.val (.int k)) (.val (.tup [.int t, .int b])) (.val (.obj (S.length + 1))) (.val (.obj (S.length + 2))) s13 (S2 ++ [.lst (g.map .int), .lst (ds.map .int), .lst (ds.map .int)])) =
      .nx (lz ns (.val (.int k)) (.val (.tup [.int t, .int b])) (.val (.obj (S.length + 1))) (.val (.obj (S.length + 2))) (.val (.obj (S.length + 3))) (S2 ++ [.lst (g.map .int), .lst (ds.map .int), .lst (ds.map .int), coinC t b (S.length + 4) 0, .lst (ds.map .int)])) := by
    unfold s2_law
    by_cases hk : k = 0
    · simp -implicitDefEqProofs [hk, mk, -e_makeF]
    · simp -implicitDefEqProofs [hk, mk, -e_makeF]
  have g3 : (S2 ++ [Cell.lst (g.map .int), .lst (ds.map .int), .lst (ds.map .int), coinC t b (S.length + 4) 0, .lst (ds.map .int)])[S.length + 2]? = some (.lst (ds.map .int)) := app_at S2 _ _ 2 (by omega)
  have g4 : (S2 ++ [Cell.lst (g.map .int), .lst (ds.map .int), .lst (ds.map .int), coinC t b (S.length + 4) 0, .lst (ds.map .int)])[S.length + 1]? = some (.lst (ds.map .int)) := app_at S2 _ _ 1 (by omega)
  have r1 := fun sl => reprL_y (x := .d (.obj (S.length + 2))) (z := ⟨sl, S2 ++ [Cell.lst (g.map .int), .lst (ds.map .int), .lst (ds.map .int), coinC t b (S.length + 4) 0, .lst (ds.map .int)]⟩) g3 (dig10 hO hg) (by omega)
  have r2 := fun sl => reprL_y (x := .d (.obj (S.length + 1))) (z := ⟨sl, S2 ++ [Cell.lst (g.map .int), .lst (ds.map .int), .lst (ds.map .int), coinC t b (S.length + 4) 0, .lst (ds.map .int)]⟩) g4 (dig10 hO hg) (by omega)
  have q5 : s3_law (lz ns (.val (.int k)) (.val (.tup [.int t, .int b])) (.val (.obj (S.length + 1))) (.val (.obj (S.length + 2))) (.val (.obj (S.length + 3))) (S2 ++ [.lst (g.map .int), .lst (ds.map .int), .lst (ds.map .int), coinC t b (S.length + 4) 0, .lst (ds.map .int)])) =
      .nx (lz ns (.val (.int k)) (.val (.tup [.int t, .int b])) (.val (.obj (S.length + 1))) (.val (.obj (S.length + 2))) (.val (.obj (S.length + 3))) (S2 ++ [.lst (g.map .int), .lst (ds.map .int), .lst (ds.map .int), coinC t b (S.length + 4) 0, .lst (ds.map .int)])) := by
    unfold s3_law
    simp -implicitDefEqProofs [r1, r2]
  have c1 := fun sl => c_isL (sl := sl) g3
  have c2 := fun sl => c_clear (sl := sl) g3
  have eset : (S2 ++ [Cell.lst (g.map .int), .lst (ds.map .int), .lst (ds.map .int), coinC t b (S.length + 4) 0, .lst (ds.map .int)]).set (S.length + 2) (.lst []) = S2 ++ [.lst (g.map .int), .lst (ds.map .int), .lst [], coinC t b (S.length + 4) 0, .lst (ds.map .int)] := by
    rw [List.set_append_right _ _ (by omega), show S.length + 2 - S2.length = 2 by omega]
    rfl
  rw [eset] at c2
  have q6 : sExpr (mBM .lst (mV 6) wNil fClear) (lz ns (.val (.int k)) (.val (.tup [.int t, .int b])) (.val (.obj (S.length + 1))) (.val (.obj (S.length + 2))) (.val (.obj (S.length + 3))) (S2 ++ [.lst (g.map .int), .lst (ds.map .int), .lst (ds.map .int), coinC t b (S.length + 4) 0, .lst (ds.map .int)])) =
      .nx (lz ns (.val (.int k)) (.val (.tup [.int t, .int b])) (.val (.obj (S.length + 1))) (.val (.obj (S.length + 2))) (.val (.obj (S.length + 3))) (S2 ++ [.lst (g.map .int), .lst (ds.map .int), .lst [], coinC t b (S.length + 4) 0, .lst (ds.map .int)])) := by
    simp -implicitDefEqProofs [c1, c2]
  have hlot1 : S2[1]? = some (.lst lots) := by rw [u2.same 1 (by omega), u1.same 1 (by omega), h1]
  have g5 : (S2 ++ [Cell.lst (g.map .int), .lst (ds.map .int), .lst [], coinC t b (S.length + 4) 0, .lst (ds.map .int)])[1]? = some (.lst lots) := app_left hlot1
  have g6 : (S2 ++ [Cell.lst (g.map .int), .lst (ds.map .int), .lst [], coinC t b (S.length + 4) 0, .lst (ds.map .int), .lst [.obj (S.length + 3), .tup [.int t, .int b], .obj (S.length + 1), .int 0]])[1]? = some (.lst lots) := app_left hlot1
  have c3 := fun sl => c_isL (sl := sl) g5
  have c4 := fun sl => c_append (sl := sl) (d := .obj (S.length + 5)) g6 (by omega)
  have q7 : s4_law (lz ns (.val (.int k)) (.val (.tup [.int t, .int b])) (.val (.obj (S.length + 1))) (.val (.obj (S.length + 2))) (.val (.obj (S.length + 3))) (S2 ++ [.lst (g.map .int), .lst (ds.map .int), .lst [], coinC t b (S.length + 4) 0, .lst (ds.map .int)])) =
      .nx (lz ns (.val (.int k)) (.val (.tup [.int t, .int b])) (.val (.obj (S.length + 1))) (.val (.obj (S.length + 2))) (.val (.obj (S.length + 3))) ((S2 ++ [.lst (g.map .int), .lst (ds.map .int), .lst [], coinC t b (S.length + 4) 0, .lst (ds.map .int), .lst [.obj (S.length + 3), .tup [.int t, .int b], .obj (S.length + 1), .int 0]]).set 1 (.lst (lots ++ [.obj (S.length + 5)])))) := by
    unfold s4_law
    simp -implicitDefEqProofs [c3, c4, okLen, sizeS, hl2]
  have qq : l1_law (lz ns (.val (.int k)) s4 s5 s6 s13 S) = .nx (lz ns (.val (.int k)) (.val (.tup [.int t, .int b])) (.val (.obj (S.length + 1))) (.val (.obj (S.length + 2))) (.val (.obj (S.length + 3))) ((S2 ++ [.lst (g.map .int), .lst (ds.map .int), .lst [], coinC t b (S.length + 4) 0, .lst (ds.map .int), .lst [.obj (S.length + 3), .tup [.int t, .int b], .obj (S.length + 1), .int 0]]).set 1 (.lst (lots ++ [.obj (S.length + 5)])))) := by
    unfold l1_law
    rw [e_seq, q1, RS.bind_nx, e_seq, e2, RS.bind_nx, e_seq, q3, RS.bind_nx, e_seq, q4, RS.bind_nx, e_seq, q5, RS.bind_nx, e_seq, q6, RS.bind_nx, q7]
  generalize hX : [Cell.lst (g.map .int), .lst (ds.map .int), .lst [], coinC t b (S.length + 4) 0, .lst (ds.map .int), .lst [.obj (S.length + 3), .tup [.int t, .int b], .obj (S.length + 1), .int 0]] = X at qq
  have lX : X.length = 6 := by rw [← hX]; rfl
  have at_ : ∀ (i : Nat) (c : Cell), X[i]? = some c → ((S2 ++ X).set 1 (.lst (lots ++ [.obj (S.length + 5)])))[S.length + i]? = some c := fun i c h => by
    rw [List.getElem?_set_ne (by omega), app_at S2 X _ i (by omega), h]
  refine ⟨_, _, _, _, _, qq, bag_setS (bag_app u2.bag X) (by omega) _, ?_, fun i hi hi2 => ?_, ⟨t, b, ds, 0, hO, hg, by omega, by omega, at_ 1 _ (by rw [← hX]; rfl), at_ 3 _ (by rw [← hX]; rfl), at_ 4 _ (by rw [← hX]; rfl), at_ 5 _ (by rw [← hX]; rfl)⟩, ?_⟩
  · rw [List.getElem?_set_self (by simp; omega)]
  · rw [List.getElem?_set_ne (by omega), List.getElem?_append_left (by omega), u2.same i (by omega), u1.same i (by omega)]
  · simp [hl2, lX]
end Qk50
set_option Elab.async false
set_option linter.all false
set_option maxRecDepth 100000
set_option maxHeartbeats 4000000
namespace Qk50
open PySem L2 DL
abbrev mz (ns : D) (s3 s4 s5 s6 s7 s8 s9 s10 s11 s12 s13 s14 s15 s16 s17 : Sl) (st : List Cell) : Z := ⟨[.val ns, .val (.obj 0), .val (.obj 1), s3, s4, s5, s6, s7, s8, s9, s10, s11, s12, s13, s14, s15, s16, s17], st⟩
theorem ne_shaped {v w : D} {p q : PyData} (hv : toPy v = some p) (hw : toPy w = some q) (hs : SeqAt.shaped p = true) (hs2 : SeqAt.shaped q = true) (hn : scalD (.d v) (.d w) = false) (hv2 : ∀ z : Z, z.py (.d v) = toPy v) (hw2 : ∀ z : Z, z.py (.d w) = toPy w) (z : Z) :
    fNe (.d v) (.d w) z = .ok (.d (.bl (!PyData.eqv p q))) z := by
  have e1 : eqS true (.d v) (.d w) z = .bad := by
    unfold eqS
    rw [hn]
    rfl
  have e2 : eqP true (.d v) (.d w) z = .ok (.d (.bl (!PyData.eqv p q))) z := by
    unfold eqP
    rw [hv2, hw2, hv, hw]
    simp [hs, hs2]
  unfold fNe fOr
  rw [e1]
  exact e2
theorem ne_self {xs : List D} {p : PyData} (hp : toPy (.lst xs) = some p) (hs : SeqAt.shaped p = true) (z : Z) : fNe (.d (.lst xs)) (.d (.lst xs)) z = .ok (.d (.bl false)) z := by
  rw [ne_shaped hp hp hs hs rfl (fun _ => rfl) (fun _ => rfl), SeqAt.eqv_refl p (Bool.and_eq_true_iff.mp hs).1]
  rfl
theorem ne_T (i : Int) (z : Z) : fNe (.d (.lst [.non, .lst [.str "Thirsty", .int i]])) (.d (.lst [.non, .lst [.str "Thirsty", .int i]])) z = .ok (.d (.bl false)) z :=
  ne_self (p := .list [.none, .list [.str "Thirsty", .int i]]) rfl (by
    have h : SeqAt.shaped (.list [.none, .list [.str "Thirsty", .int 0]]) = true := by decide +kernel
    have e : SeqAt.shaped (.list [.none, .list [.str "Thirsty", .int i]]) = SeqAt.shaped (.list [.none, .list [.str "Thirsty", .int 0]]) := by first | rfl | (simp only [SeqAt.shaped, PyData.canLay0, PyData.canLayAll0, PyData.depth, PyData.depthAll]; rfl)
    rw [e, h]) z
theorem ne_C (i : Int) (z : Z) : fNe (.d (.lst [.int i, .non])) (.d (.lst [.int i, .non])) z = .ok (.d (.bl false)) z := ne_self (p := .list [.int i, .none]) rfl rfl z
theorem ne_N (z : Z) : fNe (.d (.lst [.non, .non])) (.d (.lst [.non, .non])) z = .ok (.d (.bl false)) z := ne_self (p := .list [.none, .none]) rfl rfl z
/-! ### a noise is asked -/
section
variable (ns : D) (s3 s6 s7 s9 s10 s11 s12 s15 s16 s17 : Sl) {n : Nat} {t b : Int} {ds : List Int} {a : Nat} {S : List Cell}
theorem s5_y (s4 s5 s8 s13 s14 : Sl) (hB : Bag S) : ∃ (up down : Nat) (S' : List Cell), Upd S S' ∧ (1 ≤ up ∧ up < 1000) ∧ (1 ≤ down ∧ down < 1000) ∧
    s5_law (mz ns s3 s4 s5 s6 s7 s8 s9 s10 s11 s12 s13 s14 s15 s16 s17 S) = .nx (mz ns s3 s4 s5 s6 s7 s8 s9 s10 s11 s12 s13 s14 s15 (.val (.tup [.int up, .int down])) s17 S') := by
  obtain ⟨d1, S1, u1, e1, hd1⟩ := of_u [.int 1, .int 2, .int 1, .int 3, .int 1, .int 60, .int 4] S hB (by simp) (by simp)
  obtain ⟨d2, S2, u2, e2, hd2⟩ := of_u [.int 1, .int 1, .int 2, .int 4, .int 1, .int 3] S1 u1.bag (by simp) (by simp)
  obtain ⟨up, hu, rfl⟩ : ∃ up : Nat, (1 ≤ up ∧ up < 1000) ∧ d1 = .int up := by
    simp at hd1
    rcases hd1 with rfl | rfl | rfl | rfl | rfl | rfl | rfl
    · exact ⟨1, by omega, rfl⟩
    · exact ⟨2, by omega, rfl⟩
    · exact ⟨1, by omega, rfl⟩
    · exact ⟨3, by omega, rfl⟩
    · exact ⟨1, by omega, rfl⟩
    · exact ⟨60, by omega, rfl⟩
    · exact ⟨4, by omega, rfl⟩
  obtain ⟨down, hdn, rfl⟩ : ∃ up : Nat, (1 ≤ up ∧ up < 1000) ∧ d2 = .int up := by
    simp at hd2
    rcases hd2 with rfl | rfl | rfl | rfl | rfl
    · exact ⟨1, by omega, rfl⟩
    · exact ⟨2, by omega, rfl⟩
    · exact ⟨4, by omega, rfl⟩
    · exact ⟨1, by omega, rfl⟩
    · exact ⟨3, by omega, rfl⟩
  refine ⟨up, down, S2, u1.trans u2, hu, hdn, ?_⟩
  unfold s5_law
  simp -implicitDefEqProofs [e1, e2, okLen, sizeS]
theorem th1_y (s3 s4 s5 s6 s7 s8 s9 s10 s11 s12 s15 s17 : Sl) (deed : Int) (up down : Nat) (hn : S[n + 3]? = some (coinC t b (n + 4) a)) (hd : S[n + 4]? = some (.lst (ds.map .int))) (hl : ds.length < 1000000) (st0 : List Cell) :
    thunk th1_law (mz ns s3 s4 s5 s6 s7 s8 s9 s10 s11 s12 (.val (.obj (n + 3))) (.val (.int deed)) s15 (.val (.tup [.int up, .int down])) s17 st0) S = match noiseO t up down a ds with
      | none => .err ⟨"Thirsty", [("many", .int (ds.length - a))]⟩ S
      | some (c, a') => .ok (.int c) (S.set (n + 3) (coinC t b (n + 4) a')) := by
  have e := noise_eq hn hd up down hl
  have tb : tm_noise (Str.ofString "Coins") = some m_Coins_noise := by unfold tm_noise; exact tb1_same ..
  have lk : (coinF t b (n + 4) a).lookup (Str.ofString "noise") = none := rfl
  have ev : ∀ sl : List Sl, sl[13]? = some (.val (.obj (n + 3))) → mV 13 ⟨sl, S⟩ = .ok (.d (.obj (n + 3))) ⟨sl, S⟩ := fun sl h => by simp [h]
  unfold th1_law
  by_cases h2 : 2 < deed
  · simp -implicitDefEqProofs only [e_thunk, e_sh, e_mIf, e_asB, e_m2, List.map_cons, List.map_nil, lamSl_val]
    simp -implicitDefEqProofs [h2]
    rw [c_meth (ev _ rfl) hn tb lk]
    cases hq : noiseO t up down a ds with
    | none =>
      rw [hq] at e
      simp -implicitDefEqProofs [e]
    | some r =>
      obtain ⟨c, a'⟩ := r
      rw [hq] at e
      simp -implicitDefEqProofs [e]
  · simp -implicitDefEqProofs only [e_thunk, e_sh, e_mIf, e_asB, e_m2, List.map_cons, List.map_nil, lamSl_val]
    simp -implicitDefEqProofs [h2]
    rw [c_methP (ev _ rfl) hn tb lk]
    cases hq : noiseO t up down a ds with
    | none =>
      rw [hq] at e
      simp -implicitDefEqProofs [e]
    | some r =>
      obtain ⟨c, a'⟩ := r
      rw [hq] at e
      simp -implicitDefEqProofs [e]
/-- the six statements of a noise -/
def noiseB : MS := sSeq (s5_law) (sSeq (s6_law) (sSeq (sAsg (mLam mx__law_caught th1_law) (gN 10)) (sSeq (s7_law) (sSeq (s8_law) (s9_law)))))
theorem noise_part (deed : Int) (hB : Bag S) (h1 : S[n + 1]? = some (.lst (ds.map .int))) (hn : S[n + 3]? = some (coinC t b (n + 4) a)) (hd : S[n + 4]? = some (.lst (ds.map .int))) (h5 : S[n + 5]? = some (.lst [.obj (n + 3), .tup [.int t, .int b], .obj (n + 1), .int a]))
    (ha : a ≤ ds.length) (hl : ds.length < 10000) : ∃ (S' : List Cell) (s9' s10' s16' : Sl) (a' : Nat), noiseB (mz ns s3 (.val (.tup [.int t, .int b])) (.val (.obj (n + 1))) s6 (.val (.obj (n + 5))) (.val (.int a)) s9 s10 s11 s12 (.val (.obj (n + 3))) (.val (.int deed)) s15 s16 s17 S) =
        .nx (mz ns s3 (.val (.tup [.int t, .int b])) (.val (.obj (n + 1))) s6 (.val (.obj (n + 5))) (.val (.int a)) s9' s10' s11 s12 (.val (.obj (n + 3))) (.val (.int deed)) s15 s16' s17 S') ∧ Bag S' ∧ S'.length = S.length ∧ a' ≤ ds.length ∧
      S'[n + 3]? = some (coinC t b (n + 4) a') ∧ S'[n + 5]? = some (.lst [.obj (n + 3), .tup [.int t, .int b], .obj (n + 1), .int a']) ∧ ∀ i, 1 ≤ i → i ≠ n + 3 → i ≠ n + 5 → S'[i]? = S[i]? := by
  obtain ⟨up, down, S1, u1, hu, hdn, e1⟩ := s5_y ns s3 s6 (.val (.obj (n + 5))) s9 s10 s11 s12 s15 s16 s17 (.val (.tup [.int t, .int b])) (.val (.obj (n + 1))) (.val (.int a)) (.val (.obj (n + 3))) (.val (.int deed)) hB
  have g1 : S1[n + 1]? = some (.lst (ds.map .int)) := by rw [u1.same _ (by omega), h1]
  have g3 : S1[n + 3]? = some (coinC t b (n + 4) a) := by rw [u1.same _ (by omega), hn]
  have g4 : S1[n + 4]? = some (.lst (ds.map .int)) := by rw [u1.same _ (by omega), hd]
  have g5 : S1[n + 5]? = some (.lst [.obj (n + 3), .tup [.int t, .int b], .obj (n + 1), .int a]) := by rw [u1.same _ (by omega), h5]
  have e2 := law_noise_eq t b (n + 1) up down S1 ds g1 (by omega) hu hdn a
  have q2 : s6_law (mz ns s3 (.val (.tup [.int t, .int b])) (.val (.obj (n + 1))) s6 (.val (.obj (n + 5))) (.val (.int a)) s9 s10 s11 s12 (.val (.obj (n + 3))) (.val (.int deed)) s15 (.val (.tup [.int up, .int down])) s17 S1) =
      .nx (mz ns s3 (.val (.tup [.int t, .int b])) (.val (.obj (n + 1))) s6 (.val (.obj (n + 5))) (.val (.int a)) (.val (optD (noiseO t up down a ds))) s10 s11 s12 (.val (.obj (n + 3))) (.val (.int deed)) s15 (.val (.tup [.int up, .int down])) s17 S1) := by
    unfold s6_law
    simp -implicitDefEqProofs [e2]
  have e3 := th1_y ns (n := n) (t := t) (b := b) (ds := ds) (a := a) (S := S1) s3 (.val (.tup [.int t, .int b])) (.val (.obj (n + 1))) s6 (.val (.obj (n + 5))) (.val (.int a)) (.val (optD (noiseO t up down a ds))) s10 s11 s12 s15 s17 deed up down g3 g4 (by omega) S1
  have base : ∀ R, (sSeq (s6_law) (sSeq (sAsg (mLam mx__law_caught th1_law) (gN 10)) (sSeq (s7_law) (sSeq (s8_law) (s9_law))))) (mz ns s3 (.val (.tup [.int t, .int b])) (.val (.obj (n + 1))) s6 (.val (.obj (n + 5))) (.val (.int a)) s9 s10 s11 s12 (.val (.obj (n + 3))) (.val (.int deed)) s15 (.val (.tup [.int up, .int down])) s17 S1) = R →
      noiseB (mz ns s3 (.val (.tup [.int t, .int b])) (.val (.obj (n + 1))) s6 (.val (.obj (n + 5))) (.val (.int a)) s9 s10 s11 s12 (.val (.obj (n + 3))) (.val (.int deed)) s15 s16 s17 S) = R := fun R h => by
    unfold noiseB
    rw [e_seq, e1, RS.bind_nx, h]
  have wh := whole_int
  cases hq : noiseO t up down a ds with
  | none =>
    rw [hq] at e3 q2
    simp only at e3
    have e4 := caught_T e3
    have q3 : sAsg (mLam mx__law_caught th1_law) (gN 10) (mz ns s3 (.val (.tup [.int t, .int b])) (.val (.obj (n + 1))) s6 (.val (.obj (n + 5))) (.val (.int a)) (.val (optD none)) s10 s11 s12 (.val (.obj (n + 3))) (.val (.int deed)) s15 (.val (.tup [.int up, .int down])) s17 S1) =
        .nx (mz ns s3 (.val (.tup [.int t, .int b])) (.val (.obj (n + 1))) s6 (.val (.obj (n + 5))) (.val (.int a)) (.val .non) (.val (.lst [.non, .lst [.str "Thirsty", .int (ds.length - a)]])) s11 s12 (.val (.obj (n + 3))) (.val (.int deed)) s15 (.val (.tup [.int up, .int down])) s17 S1) := by
      rw [e_asg, e_mLam, e4]
      rfl
    have q4 : s7_law (mz ns s3 (.val (.tup [.int t, .int b])) (.val (.obj (n + 1))) s6 (.val (.obj (n + 5))) (.val (.int a)) (.val .non) (.val (.lst [.non, .lst [.str "Thirsty", .int (ds.length - a)]])) s11 s12 (.val (.obj (n + 3))) (.val (.int deed)) s15 (.val (.tup [.int up, .int down])) s17 S1) =
        .nx (mz ns s3 (.val (.tup [.int t, .int b])) (.val (.obj (n + 1))) s6 (.val (.obj (n + 5))) (.val (.int a)) (.val .non) (.val (.lst [.non, .lst [.str "Thirsty", .int (ds.length - a)]])) s11 s12 (.val (.obj (n + 3))) (.val (.int deed)) s15 (.val (.tup [.int up, .int down])) s17 S1) := by
      unfold s7_law
      simp -implicitDefEqProofs [c_len g1, okLen, sizeS, ne_T]
    have q5 : s8_law (mz ns s3 (.val (.tup [.int t, .int b])) (.val (.obj (n + 1))) s6 (.val (.obj (n + 5))) (.val (.int a)) (.val .non) (.val (.lst [.non, .lst [.str "Thirsty", .int (ds.length - a)]])) s11 s12 (.val (.obj (n + 3))) (.val (.int deed)) s15 (.val (.tup [.int up, .int down])) s17 S1) =
        .nx (mz ns s3 (.val (.tup [.int t, .int b])) (.val (.obj (n + 1))) s6 (.val (.obj (n + 5))) (.val (.int a)) (.val .non) (.val (.lst [.non, .lst [.str "Thirsty", .int (ds.length - a)]])) s11 s12 (.val (.obj (n + 3))) (.val (.int deed)) s15 (.val (.tup [.int up, .int down])) s17 S1) := by
      unfold s8_law
      simp -implicitDefEqProofs
    have q6 : s9_law (mz ns s3 (.val (.tup [.int t, .int b])) (.val (.obj (n + 1))) s6 (.val (.obj (n + 5))) (.val (.int a)) (.val .non) (.val (.lst [.non, .lst [.str "Thirsty", .int (ds.length - a)]])) s11 s12 (.val (.obj (n + 3))) (.val (.int deed)) s15 (.val (.tup [.int up, .int down])) s17 S1) =
        .nx (mz ns s3 (.val (.tup [.int t, .int b])) (.val (.obj (n + 1))) s6 (.val (.obj (n + 5))) (.val (.int a)) (.val .non) (.val (.lst [.non, .lst [.str "Thirsty", .int (ds.length - a)]])) s11 s12 (.val (.obj (n + 3))) (.val (.int deed)) s15 (.val (.tup [.int up, .int down])) s17 (S1.set (n + 5) (.lst [.obj (n + 3), .tup [.int t, .int b], .obj (n + 1), .int a]))) := by
      unfold s9_law
      simp -implicitDefEqProofs [g5]
    refine ⟨_, _, _, _, a, base _ (by rw [e_seq, q2, RS.bind_nx, e_seq, q3, RS.bind_nx, e_seq, q4, RS.bind_nx, e_seq, q5, RS.bind_nx, q6]), bag_setS u1.bag (by omega) _, by simp [u1.len], ha, by rw [List.getElem?_set_ne (by omega), g3], get_set g5 _, fun i hi h3 h5 => by rw [List.getElem?_set_ne (by omega), u1.same i hi]⟩
  | some r =>
    obtain ⟨c, a'⟩ := r
    rw [hq] at e3 q2
    simp only at e3
    have e4 := caught_ok e3
    have g5' : (S1.set (n + 3) (coinC t b (n + 4) a'))[n + 5]? = some (.lst [.obj (n + 3), .tup [.int t, .int b], .obj (n + 1), .int a]) := by rw [List.getElem?_set_ne (by omega), g5]
    have q3 : sAsg (mLam mx__law_caught th1_law) (gN 10) (mz ns s3 (.val (.tup [.int t, .int b])) (.val (.obj (n + 1))) s6 (.val (.obj (n + 5))) (.val (.int a)) (.val (optD (some (c, a')))) s10 s11 s12 (.val (.obj (n + 3))) (.val (.int deed)) s15 (.val (.tup [.int up, .int down])) s17 S1) =
        .nx (mz ns s3 (.val (.tup [.int t, .int b])) (.val (.obj (n + 1))) s6 (.val (.obj (n + 5))) (.val (.int a)) (.val (.tup [.int c, .int a'])) (.val (.lst [.int c, .non])) s11 s12 (.val (.obj (n + 3))) (.val (.int deed)) s15 (.val (.tup [.int up, .int down])) s17 (S1.set (n + 3) (coinC t b (n + 4) a'))) := by
      rw [e_asg, e_mLam, e4]
      rfl
    have q4 : s7_law (mz ns s3 (.val (.tup [.int t, .int b])) (.val (.obj (n + 1))) s6 (.val (.obj (n + 5))) (.val (.int a)) (.val (.tup [.int c, .int a'])) (.val (.lst [.int c, .non])) s11 s12 (.val (.obj (n + 3))) (.val (.int deed)) s15 (.val (.tup [.int up, .int down])) s17 (S1.set (n + 3) (coinC t b (n + 4) a'))) =
        .nx (mz ns s3 (.val (.tup [.int t, .int b])) (.val (.obj (n + 1))) s6 (.val (.obj (n + 5))) (.val (.int a)) (.val (.tup [.int c, .int a'])) (.val (.lst [.int c, .non])) s11 s12 (.val (.obj (n + 3))) (.val (.int deed)) s15 (.val (.tup [.int up, .int down])) s17 (S1.set (n + 3) (coinC t b (n + 4) a'))) := by
      unfold s7_law
      simp -implicitDefEqProofs
    have q5 : s8_law (mz ns s3 (.val (.tup [.int t, .int b])) (.val (.obj (n + 1))) s6 (.val (.obj (n + 5))) (.val (.int a)) (.val (.tup [.int c, .int a'])) (.val (.lst [.int c, .non])) s11 s12 (.val (.obj (n + 3))) (.val (.int deed)) s15 (.val (.tup [.int up, .int down])) s17 (S1.set (n + 3) (coinC t b (n + 4) a'))) =
        .nx (mz ns s3 (.val (.tup [.int t, .int b])) (.val (.obj (n + 1))) s6 (.val (.obj (n + 5))) (.val (.int a)) (.val (.tup [.int c, .int a'])) (.val (.lst [.int c, .non])) s11 s12 (.val (.obj (n + 3))) (.val (.int deed)) s15 (.val (.tup [.int up, .int down])) s17 (S1.set (n + 3) (coinC t b (n + 4) a'))) := by
      unfold s8_law
      simp -implicitDefEqProofs [wh, ne_C, okLen, sizeS]
    have q6 : s9_law (mz ns s3 (.val (.tup [.int t, .int b])) (.val (.obj (n + 1))) s6 (.val (.obj (n + 5))) (.val (.int a)) (.val (.tup [.int c, .int a'])) (.val (.lst [.int c, .non])) s11 s12 (.val (.obj (n + 3))) (.val (.int deed)) s15 (.val (.tup [.int up, .int down])) s17 (S1.set (n + 3) (coinC t b (n + 4) a'))) =
        .nx (mz ns s3 (.val (.tup [.int t, .int b])) (.val (.obj (n + 1))) s6 (.val (.obj (n + 5))) (.val (.int a)) (.val (.tup [.int c, .int a'])) (.val (.lst [.int c, .non])) s11 s12 (.val (.obj (n + 3))) (.val (.int deed)) s15 (.val (.tup [.int up, .int down])) s17 ((S1.set (n + 3) (coinC t b (n + 4) a')).set (n + 5) (.lst [.obj (n + 3), .tup [.int t, .int b], .obj (n + 1), .int a']))) := by
      unfold s9_law
      simp -implicitDefEqProofs [g5']
    refine ⟨_, _, _, _, a', base _ (by rw [e_seq, q2, RS.bind_nx, e_seq, q3, RS.bind_nx, e_seq, q4, RS.bind_nx, e_seq, q5, RS.bind_nx, q6]), bag_setS (bag_setS u1.bag (by omega) _) (by omega) _, by simp [u1.len], noise_le ha hq, by rw [List.getElem?_set_ne (by omega)]; exact get_set g3 _, get_set g5' _, fun i hi h3 h5 => by rw [List.getElem?_set_ne (by omega), List.getElem?_set_ne (by omega), u1.same i hi]⟩
end
end Qk50
set_option Elab.async false
set_option linter.all false
set_option maxRecDepth 100000
set_option maxHeartbeats 4000000
namespace Qk50
open PySem L2 DL
theorem cutD_sub {xs : List D} {lo hi : Option Int} {d : D} (h : d ∈ cutD xs lo hi) : d ∈ xs := List.mem_of_mem_drop (List.mem_of_mem_take h)
theorem cutD_len {xs : List D} {lo hi : Option Int} : (cutD xs lo hi).length ≤ xs.length := by
  unfold cutD
  simp only [List.length_take, List.length_drop]
  omega
/-- no digit below b, but data -/
structure BadV (b : Int) (d : D) : Prop where
  bad : badD b d = true
  plain : plainD d = true
  se : SelfEq d
section
variable (ns : D) (s3 s6 s7 s8 s9 s10 s11 : Sl) {n : Nat} {t b : Int} {ds : List Int} {a : Nat} {S : List Cell}
theorem k6_y (s12 s13 s14 s15 s16 s17 s5 : Sl) (S : List Cell) : k6_law (mz ns s3 (.val (.tup [.int t, .int b])) s5 s6 s7 s8 s9 s10 s11 s12 s13 s14 s15 s16 s17 S) = .ok (.d (.lst [.int b, .int (-1), .bl true, .str "0", .non, .tup [.int 0], .bl false])) (mz ns s3 (.val (.tup [.int t, .int b])) s5 s6 s7 s8 s9 s10 s11 s12 s13 s14 s15 s16 s17 S) := rfl
theorem bads {d : D} (hO : Odd t b) (h : d ∈ [D.int b, .int (-1), .bl true, .str "0", .non, .tup [.int 0], .bl false]) : BadV b d := by
  simp at h
  have := hO.t1
  have := hO.tb
  rcases h with rfl | rfl | rfl | rfl | rfl | rfl | rfl
  · exact ⟨by simp [badD], rfl, se_int _⟩
  · exact ⟨by simp [badD], rfl, se_int _⟩
  · exact ⟨rfl, rfl, se_bl _⟩
  · exact ⟨rfl, rfl, se_str _⟩
  · exact ⟨rfl, rfl, se_non⟩
  · exact ⟨rfl, rfl, sh_t1 0⟩
  · exact ⟨rfl, rfl, se_bl _⟩
theorem good_sub {ms : List Int} (hg : DigIn b ms) {xs : List D} (h : ∀ d ∈ xs, d ∈ ms.map D.int) : xs.filter (badD b) = [] ∧ xs.all plainD = true := by
  constructor
  · rw [List.filter_eq_nil_iff]
    intro d hd
    obtain ⟨i, hi, rfl⟩ := mem_ints (h d hd)
    have := hg i hi
    simp [badD]
    omega
  · rw [List.all_eq_true]
    intro d hd
    obtain ⟨i, hi, rfl⟩ := mem_ints (h d hd)
    rfl
theorem th2_y (s3 s4 s5 s6 s7 s8 s9 s10 s11 s14 s16 : Sl) (m : Nat) {ms : List Int} {bad : D} (spot : Int) (hn : S[n + 3]? = some (coinC t b (n + 4) a)) (hd : S[n + 4]? = some (.lst (ds.map .int))) (hm : S[m]? = some (.lst (ms.map .int))) (hg : DigIn b ms) (hl : ms.length < 100) (hb : BadV b bad) (hO : Odd t b) (st0 : List Cell) :
    thunk th2_law (mz ns s3 s4 s5 s6 s7 s8 s9 s10 s11 (.val bad) (.val (.obj (n + 3))) s14 (.val (.obj m)) s16 (.val (.int spot)) st0) S = .err ⟨"BadNumber", [("value", bad)]⟩ S := by
  have tb : tm_pour (Str.ofString "Coins") = some m_Coins_pour := by unfold tm_pour; exact tb1_same ..
  have lk : (coinF t b (n + 4) a).lookup (Str.ofString "pour") = none := rfl
  have ev : ∀ sl : List Sl, sl[13]? = some (.val (.obj (n + 3))) → mV 13 ⟨sl, S⟩ = .ok (.d (.obj (n + 3))) ⟨sl, S⟩ := fun sl h => by simp [h]
  have l1 := cutD_len (xs := ms.map D.int) (lo := none) (hi := some spot)
  have l2 := cutD_len (xs := ms.map D.int) (lo := some spot) (hi := none)
  simp only [List.length_map] at l1 l2
  have c1 := good_sub hg (xs := cutD (ms.map D.int) none (some spot)) fun d h => cutD_sub h
  have c2 := good_sub hg (xs := cutD (ms.map D.int) (some spot) none) fun d h => cutD_sub h
  have ep := pour_L hn hd (more := cutD (ms.map D.int) none (some spot) ++ bad :: (cutD (ms.map D.int) (some spot) none ++ [.int (-7)])) (by simp only [List.all_append, List.all_cons, List.all_nil, c1.2, c2.2, hb.plain, Bool.and_true, Bool.true_and]; rfl) (by simp; omega) (x := bad) (xs := [.int (-7)]) (by
    simp only [List.filter_append, c1.1, c2.1, List.filter_cons, List.filter_nil, hb.bad]
    simp [badD])
  have s1 := fun sl => c_slice (sl := sl) (lo := none) (hi := some spot) hm
  have s2 := fun sl => c_slice (sl := sl) (lo := some spot) (hi := none) hm
  have b1 : (cutD (ms.map D.int) none (some spot)).length + 1 ≤ 16777216 := by omega
  have b2 : (cutD (ms.map D.int) none (some spot)).length + 1 + (cutD (ms.map D.int) (some spot) none).length ≤ 16777216 := by omega
  have b3 : (cutD (ms.map D.int) none (some spot)).length + 1 + (cutD (ms.map D.int) (some spot) none).length + 1 ≤ 16777216 := by omega
  have b4 : (cutD (ms.map D.int) none (some spot)).length + ((cutD (ms.map D.int) (some spot) none).length + 1) ≤ 16777215 := by omega
  unfold th2_law
  simp -implicitDefEqProofs only [e_thunk, List.map_cons, List.map_nil, lamSl_val]
  rw [c_meth (ev _ rfl) hn tb lk]
  simp -implicitDefEqProofs [s1, s2, okLen, sizeS, b1, b2, b3, b4, ep]
theorem th3_y (s3 s4 s5 s6 s7 s8 s9 s10 s11 s12 s14 s16 s17 : Sl) (m : Nat) {ms : List Int} (hn : S[n + 3]? = some (coinC t b (n + 4) a)) (hd : S[n + 4]? = some (.lst (ds.map .int))) (hm : S[m]? = some (.lst (ms.map .int))) (hg : DigIn b ms) (hl : ms.length < 100) (hl2 : ds.length < 10000) (st0 : List Cell) :
    thunk th3_law (mz ns s3 s4 s5 s6 s7 s8 s9 s10 s11 s12 (.val (.obj (n + 3))) s14 (.val (.obj m)) s16 s17 st0) S = .ok .non (S.set (n + 4) (.lst ((ds ++ ms).map .int))) := by
  have tb : tm_pour (Str.ofString "Coins") = some m_Coins_pour := by unfold tm_pour; exact tb1_same ..
  have lk : (coinF t b (n + 4) a).lookup (Str.ofString "pour") = none := rfl
  have ev : ∀ sl : List Sl, sl[13]? = some (.val (.obj (n + 3))) → mV 13 ⟨sl, S⟩ = .ok (.d (.obj (n + 3))) ⟨sl, S⟩ := fun sl h => by simp [h]
  have ep := pour_O hn hd hm hg (by omega) (by omega)
  unfold th3_law
  simp -implicitDefEqProofs only [e_thunk, List.map_cons, List.map_nil, lamSl_val]
  rw [c_methP (ev _ rfl) hn tb lk]
  simp -implicitDefEqProofs [ep]
/-- the statements of a pouring -/
def pourB : MS := sSeq (s10_law) (sSeq (s11_law) (sSeq (s12_law) (sSeq (s13_law) (sSeq (s14_law) (sSeq (sExpr (mBM .lst (mV 5) (wCons (mV 15) wNil) fExtend)) (sExpr (mBM .lst (mV 15) wNil fClear)))))))
theorem pour_part (s12 s15 s16 s17 : Sl) (deed : Int) (hO : Odd t b) (hgd : DigIn b ds) (hB : Bag S) (h1 : S[n + 1]? = some (.lst (ds.map .int))) (hn : S[n + 3]? = some (coinC t b (n + 4) a)) (hd : S[n + 4]? = some (.lst (ds.map .int)))
    (ha : a ≤ ds.length) (hl : ds.length < 9000) : ∃ (S' : List Cell) (s12' s15' s17' : Sl) (ms : List Int), pourB (mz ns s3 (.val (.tup [.int t, .int b])) (.val (.obj (n + 1))) s6 s7 (.val (.int a)) s9 s10 s11 s12 (.val (.obj (n + 3))) (.val (.int deed)) s15 s16 s17 S) =
        .nx (mz ns s3 (.val (.tup [.int t, .int b])) (.val (.obj (n + 1))) s6 s7 (.val (.int a)) s9 s10 s11 s12' (.val (.obj (n + 3))) (.val (.int deed)) s15' s16 s17' S') ∧ Bag S' ∧ S.length ≤ S'.length ∧ DigIn b ms ∧ ms.length ≤ 12 ∧
      S'[n + 1]? = some (.lst ((ds ++ ms).map .int)) ∧ S'[n + 4]? = some (.lst ((ds ++ ms).map .int)) ∧ ∀ i, 1 ≤ i → i < S.length → i ≠ n + 1 → i ≠ n + 4 → S'[i]? = S[i]? := by
  obtain ⟨d1, S1, u1, e1, hd1⟩ := of_u [.int 3, .int 6, .int 0, .int 12, .int 1] S hB (by simp) (by simp)
  obtain ⟨m, hm, rfl⟩ : ∃ m : Nat, m ≤ 12 ∧ d1 = .int m := by
    simp at hd1
    rcases hd1 with rfl | rfl | rfl | rfl | rfl
    · exact ⟨3, by omega, rfl⟩
    · exact ⟨6, by omega, rfl⟩
    · exact ⟨0, by omega, rfl⟩
    · exact ⟨12, by omega, rfl⟩
    · exact ⟨1, by omega, rfl⟩
  obtain ⟨ms, S2, hm1, hm2, u2, e2⟩ := digits_u S1 u1.bag hO m (by omega)
  rw [u1.len] at e2
  have hl2 : S2.length = S.length := u2.len.trans u1.len
  have B2 : Bag (S2 ++ [.lst (ms.map .int)]) := bag_app u2.bag _
  obtain ⟨bad, S3, u3, e3, hd3⟩ := of_u [.int b, .int (-1), .bl true, .str "0", .non, .tup [.int 0], .bl false] (S2 ++ [.lst (ms.map .int)]) B2 (by simp) (by simp)
  have hb := bads hO hd3
  have hl3 : S3.length = S.length + 1 := by rw [u3.len]; simp [hl2]
  have m3 : S3[S.length]? = some (.lst (ms.map .int)) := by
    have : 1 ≤ S.length := by obtain ⟨c, R, rfl, _⟩ := hB; simp
    rw [u3.same _ this]
    exact app_at S2 _ _ 0 (by omega)
  obtain ⟨spot, S4, u4, e4, sp0, sp1⟩ := draw_u (ms.length + 1) S3 u3.bag (by omega) (by omega)
  have keep : ∀ i, 1 ≤ i → i < S.length → S4[i]? = S[i]? := fun i h1 h2 => by
    rw [u4.same i h1, u3.same i h1, List.getElem?_append_left (by omega), u2.same i h1, u1.same i h1]
  have lt1 := (List.getElem?_eq_some_iff.mp h1).1
  have lt3 := (List.getElem?_eq_some_iff.mp hn).1
  have lt4 := (List.getElem?_eq_some_iff.mp hd).1
  have g1 : S4[n + 1]? = some (.lst (ds.map .int)) := by rw [keep _ (by omega) lt1, h1]
  have g3 : S4[n + 3]? = some (coinC t b (n + 4) a) := by rw [keep _ (by omega) lt3, hn]
  have g4 : S4[n + 4]? = some (.lst (ds.map .int)) := by rw [keep _ (by omega) lt4, hd]
  have m4 : S4[S.length]? = some (.lst (ms.map .int)) := by
    have : 1 ≤ S.length := by omega
    rw [u4.same _ this, m3]
  have hl4 : S4.length = S.length + 1 := u4.len.trans hl3
  have q1 : s10_law (mz ns s3 (.val (.tup [.int t, .int b])) (.val (.obj (n + 1))) s6 s7 (.val (.int a)) s9 s10 s11 s12 (.val (.obj (n + 3))) (.val (.int deed)) s15 s16 s17 S) = .nx (mz ns s3 (.val (.tup [.int t, .int b])) (.val (.obj (n + 1))) s6 s7 (.val (.int a)) s9 s10 s11 s12 (.val (.obj (n + 3))) (.val (.int deed)) (.val (.obj S.length)) s16 s17 (S2 ++ [.lst (ms.map .int)])) := by
    unfold s10_law
    simp -implicitDefEqProofs [e1, e2]
  have q2 : s11_law (mz ns s3 (.val (.tup [.int t, .int b])) (.val (.obj (n + 1))) s6 s7 (.val (.int a)) s9 s10 s11 s12 (.val (.obj (n + 3))) (.val (.int deed)) (.val (.obj S.length)) s16 s17 (S2 ++ [.lst (ms.map .int)])) = .nx (mz ns s3 (.val (.tup [.int t, .int b])) (.val (.obj (n + 1))) s6 s7 (.val (.int a)) s9 s10 s11 (.val bad) (.val (.obj (n + 3))) (.val (.int deed)) (.val (.obj S.length)) s16 s17 S3) := by
    unfold s11_law
    simp -implicitDefEqProofs [k6_y, e3]
  have q3 : s12_law (mz ns s3 (.val (.tup [.int t, .int b])) (.val (.obj (n + 1))) s6 s7 (.val (.int a)) s9 s10 s11 (.val bad) (.val (.obj (n + 3))) (.val (.int deed)) (.val (.obj S.length)) s16 s17 S3) = .nx (mz ns s3 (.val (.tup [.int t, .int b])) (.val (.obj (n + 1))) s6 s7 (.val (.int a)) s9 s10 s11 (.val bad) (.val (.obj (n + 3))) (.val (.int deed)) (.val (.obj S.length)) s16 (.val (.int spot)) S4) := by
    unfold s12_law
    simp -implicitDefEqProofs [c_len m3, e4]
  have et2 := th2_y ns (n := n) (t := t) (b := b) (ds := ds) (a := a) (S := S4) s3 (.val (.tup [.int t, .int b])) (.val (.obj (n + 1))) s6 s7 (.val (.int a)) s9 s10 s11 (.val (.int deed)) s16 S.length spot g3 g4 m4 hm2 (by omega) hb hO S4
  have ec2 := caught_N et2
  have er := refused_y hb.se "BadNumber" S4
  have q4 : s13_law (mz ns s3 (.val (.tup [.int t, .int b])) (.val (.obj (n + 1))) s6 s7 (.val (.int a)) s9 s10 s11 (.val bad) (.val (.obj (n + 3))) (.val (.int deed)) (.val (.obj S.length)) s16 (.val (.int spot)) S4) = .nx (mz ns s3 (.val (.tup [.int t, .int b])) (.val (.obj (n + 1))) s6 s7 (.val (.int a)) s9 s10 s11 (.val bad) (.val (.obj (n + 3))) (.val (.int deed)) (.val (.obj S.length)) s16 (.val (.int spot)) S4) := by
    unfold s13_law
    by_cases h : deed = 1
    · simp -implicitDefEqProofs [h] at ec2 ⊢
      simp -implicitDefEqProofs [h, ec2, er]
    · simp -implicitDefEqProofs [h]
  have est := stands_eq g3 g4 g1 (show a < 100000 by omega)
  have et3 := th3_y ns (n := n) (t := t) (b := b) (ds := ds) (a := a) (S := S4) s3 (.val (.tup [.int t, .int b])) (.val (.obj (n + 1))) s6 s7 (.val (.int a)) s9 s10 s11 (.val bad) (.val (.int deed)) s16 (.val (.int spot)) S.length g3 g4 m4 hm2 (by omega) (by omega) S4
  have ec3 := caught_ok et3
  have q5 : s14_law (mz ns s3 (.val (.tup [.int t, .int b])) (.val (.obj (n + 1))) s6 s7 (.val (.int a)) s9 s10 s11 (.val bad) (.val (.obj (n + 3))) (.val (.int deed)) (.val (.obj S.length)) s16 (.val (.int spot)) S4) = .nx (mz ns s3 (.val (.tup [.int t, .int b])) (.val (.obj (n + 1))) s6 s7 (.val (.int a)) s9 s10 s11 (.val bad) (.val (.obj (n + 3))) (.val (.int deed)) (.val (.obj S.length)) s16 (.val (.int spot)) (S4.set (n + 4) (.lst ((ds ++ ms).map .int)))) := by
    have em : mLam mx__law_caught th3_law (mz ns s3 (.val (.tup [.int t, .int b])) (.val (.obj (n + 1))) s6 s7 (.val (.int a)) s9 s10 s11 (.val bad) (.val (.obj (n + 3))) (.val (.int deed)) (.val (.obj S.length)) s16 (.val (.int spot)) S4) = .ok (.lst [.non, .non]) (mz ns s3 (.val (.tup [.int t, .int b])) (.val (.obj (n + 1))) s6 s7 (.val (.int a)) s9 s10 s11 (.val bad) (.val (.obj (n + 3))) (.val (.int deed)) (.val (.obj S.length)) s16 (.val (.int spot)) (S4.set (n + 4) (.lst ((ds ++ ms).map .int)))) := by
      rw [e_mLam, ec3]
      rfl
    unfold s14_law
    simp -implicitDefEqProofs [est, em, -e_mLam, okLen, sizeS, ne_N]
  have h1' : (S4.set (n + 4) (.lst ((ds ++ ms).map .int)))[n + 1]? = some (.lst (ds.map .int)) := by rw [List.getElem?_set_ne (by omega), g1]
  have hm' : (S4.set (n + 4) (.lst ((ds ++ ms).map .int)))[S.length]? = some (.lst (ms.map .int)) := by rw [List.getElem?_set_ne (by omega), m4]
  have i1 := fun sl => c_isL (sl := sl) h1'
  have x1 := fun sl => c_extend (sl := sl) h1' hm' (by simp; omega)
  have x2 : List.map D.int ds ++ List.map D.int ms = (ds ++ ms).map .int := by simp
  rw [x2] at x1
  have hm5 : ((S4.set (n + 4) (.lst ((ds ++ ms).map .int))).set (n + 1) (.lst ((ds ++ ms).map .int)))[S.length]? = some (.lst (ms.map .int)) := by rw [List.getElem?_set_ne (by omega), hm']
  have i2 := fun sl => c_isL (sl := sl) hm5
  have x3 := fun sl => c_clear (sl := sl) hm5
  generalize hS5 : S4.set (n + 4) (.lst ((ds ++ ms).map .int)) = S5 at *
  generalize hS6 : S5.set (n + 1) (.lst ((ds ++ ms).map .int)) = S6 at *
  have q6 : sExpr (mBM .lst (mV 5) (wCons (mV 15) wNil) fExtend) (mz ns s3 (.val (.tup [.int t, .int b])) (.val (.obj (n + 1))) s6 s7 (.val (.int a)) s9 s10 s11 (.val bad) (.val (.obj (n + 3))) (.val (.int deed)) (.val (.obj S.length)) s16 (.val (.int spot)) S5) = .nx (mz ns s3 (.val (.tup [.int t, .int b])) (.val (.obj (n + 1))) s6 s7 (.val (.int a)) s9 s10 s11 (.val bad) (.val (.obj (n + 3))) (.val (.int deed)) (.val (.obj S.length)) s16 (.val (.int spot)) S6) := by
    simp -implicitDefEqProofs [i1, x1]
  have q7 : sExpr (mBM .lst (mV 15) wNil fClear) (mz ns s3 (.val (.tup [.int t, .int b])) (.val (.obj (n + 1))) s6 s7 (.val (.int a)) s9 s10 s11 (.val bad) (.val (.obj (n + 3))) (.val (.int deed)) (.val (.obj S.length)) s16 (.val (.int spot)) S6) = .nx (mz ns s3 (.val (.tup [.int t, .int b])) (.val (.obj (n + 1))) s6 s7 (.val (.int a)) s9 s10 s11 (.val bad) (.val (.obj (n + 3))) (.val (.int deed)) (.val (.obj S.length)) s16 (.val (.int spot)) (S6.set S.length (.lst []))) := by
    simp -implicitDefEqProofs [i2, x3]
  have l5 : S5.length = S.length + 1 := by rw [← hS5]; simp [hl4]
  have l6 : S6.length = S.length + 1 := by rw [← hS6]; simp [l5]
  have n5 : 1 ≤ S.length := by omega
  refine ⟨S6.set S.length (.lst []), .val bad, .val (.obj S.length), .val (.int spot), ms, ?_, ?_, ?_, hm2, by omega, ?_, ?_, fun i hi hi2 hi3 hi4 => ?_⟩
  · unfold pourB
    rw [e_seq, q1, RS.bind_nx, e_seq, q2, RS.bind_nx, e_seq, q3, RS.bind_nx, e_seq, q4, RS.bind_nx, e_seq, q5, RS.bind_nx, e_seq, q6, RS.bind_nx, q7]
  · rw [← hS6, ← hS5]
    exact bag_setS (bag_setS (bag_setS u4.bag (by omega) _) (by omega) _) n5 _
  · simp [l6]
  · rw [List.getElem?_set_ne (by omega), ← hS6, List.getElem?_set_self (by omega)]
  · rw [List.getElem?_set_ne (by omega), ← hS6, List.getElem?_set_ne (by omega), ← hS5, List.getElem?_set_self (by omega)]
  · rw [List.getElem?_set_ne (by omega), ← hS6, List.getElem?_set_ne (by omega), ← hS5, List.getElem?_set_ne (by omega), keep i hi hi2]
end
end Qk50
set_option Elab.async false
set_option linter.all false
set_option maxRecDepth 100000
set_option maxHeartbeats 4000000
namespace Qk50
open PySem L2 DL
theorem LotAt.frame {S S' : List Cell} {n N N' : Nat} (h : LotAt S n N) (hN : N ≤ N') (hs : ∀ i, n + 1 ≤ i → i ≤ n + 5 → S'[i]? = S[i]?) : LotAt S' n N' := by
  obtain ⟨t, b, ds, a, h1, h2, h3, h4, h5, h6, h7, h8⟩ := h
  exact ⟨t, b, ds, a, h1, h2, h3, by omega, by rw [hs _ (by omega) (by omega), h5], by rw [hs _ (by omega) (by omega), h6], by rw [hs _ (by omega) (by omega), h7], by rw [hs _ (by omega) (by omega), h8]⟩
theorem s17_eq : s17_law = sIf (asB (m2 (mV 14) (mC (.int 1)) fGt)) noiseB pourB := rfl
theorem lot_step (ns : D) (s3 s4 s5 s6 s8 s9 s10 s11 s12 s13 s14 s15 s16 s17 : Sl) {S : List Cell} {n N : Nat} (hB : Bag S) (hL : LotAt S n N) (hN : N ≤ 900) : ∃ (s4' s5' s8' s9' s10' s12' s13' s14' s15' s16' s17' : Sl) (S' : List Cell),
    (∀ K : MS, (sSeq (sAsg (mSh (mV 7)) (gTU 4 (gsN [13, 4, 5, 8]))) (sSeq s16_law (sSeq s17_law K))) (mz ns s3 s4 s5 s6 (.val (.obj (n + 5))) s8 s9 s10 s11 s12 s13 s14 s15 s16 s17 S) = K (mz ns s3 s4' s5' s6 (.val (.obj (n + 5))) s8' s9' s10' s11 s12' s13' s14' s15' s16' s17' S')) ∧
      Bag S' ∧ S.length ≤ S'.length ∧ LotAt S' n (N + 12) ∧ ∀ i, 1 ≤ i → i < S.length → (i < n + 1 ∨ n + 6 ≤ i) → S'[i]? = S[i]? := by
  obtain ⟨t, b, ds, a, hO, hg, ha, hl, h1, h3, h4, h5⟩ := hL
  have gt := fun sl => c_gTU (sl := sl) (k := 4) (m := gsN [13, 4, 5, 8]) h5 rfl
  have q1 : sAsg (mSh (mV 7)) (gTU 4 (gsN [13, 4, 5, 8])) (mz ns s3 s4 s5 s6 (.val (.obj (n + 5))) s8 s9 s10 s11 s12 s13 s14 s15 s16 s17 S) = .nx (mz ns s3 (.val (.tup [.int t, .int b])) (.val (.obj (n + 1))) s6 (.val (.obj (n + 5))) (.val (.int a)) s9 s10 s11 s12 (.val (.obj (n + 3))) s14 s15 s16 s17 S) := by
    simp -implicitDefEqProofs [gt]
  obtain ⟨deed, S1, u1, e1, d0, d1⟩ := draw_u 8 S hB (by omega) (by omega)
  have q2 : s16_law (mz ns s3 (.val (.tup [.int t, .int b])) (.val (.obj (n + 1))) s6 (.val (.obj (n + 5))) (.val (.int a)) s9 s10 s11 s12 (.val (.obj (n + 3))) s14 s15 s16 s17 S) = .nx (mz ns s3 (.val (.tup [.int t, .int b])) (.val (.obj (n + 1))) s6 (.val (.obj (n + 5))) (.val (.int a)) s9 s10 s11 s12 (.val (.obj (n + 3))) (.val (.int deed)) s15 s16 s17 S1) := by
    unfold s16_law
    simp -implicitDefEqProofs [e1]
  have g1 : S1[n + 1]? = some (.lst (ds.map .int)) := by rw [u1.same _ (by omega), h1]
  have g3 : S1[n + 3]? = some (coinC t b (n + 4) a) := by rw [u1.same _ (by omega), h3]
  have g4 : S1[n + 4]? = some (.lst (ds.map .int)) := by rw [u1.same _ (by omega), h4]
  have g5 : S1[n + 5]? = some (.lst [.obj (n + 3), .tup [.int t, .int b], .obj (n + 1), .int a]) := by rw [u1.same _ (by omega), h5]
  have lt5 := (List.getElem?_eq_some_iff.mp h5).1
  by_cases hd : 1 < deed
  · obtain ⟨S', s9', s10', s16', a', e, B', l', ha', k3, k5, ks⟩ := noise_part ns s3 s6 s9 s10 s11 s12 s15 s16 s17 deed u1.bag g1 g3 g4 g5 ha (by omega)
    refine ⟨.val (.tup [.int t, .int b]), .val (.obj (n + 1)), .val (.int a), s9', s10', s12, .val (.obj (n + 3)), .val (.int deed), s15, s16', s17, S', fun K => ?_, B', by rw [l', u1.len]; exact Nat.le_refl _, ⟨t, b, ds, a', hO, hg, ha', by omega, by rw [ks _ (by omega) (by omega) (by omega), g1], k3, by rw [ks _ (by omega) (by omega) (by omega), g4], k5⟩, fun i hi hi2 hi3 => by rw [ks i hi (by omega) (by omega), u1.same i hi]⟩
    have q3 : s17_law (mz ns s3 (.val (.tup [.int t, .int b])) (.val (.obj (n + 1))) s6 (.val (.obj (n + 5))) (.val (.int a)) s9 s10 s11 s12 (.val (.obj (n + 3))) (.val (.int deed)) s15 s16 s17 S1) = noiseB (mz ns s3 (.val (.tup [.int t, .int b])) (.val (.obj (n + 1))) s6 (.val (.obj (n + 5))) (.val (.int a)) s9 s10 s11 s12 (.val (.obj (n + 3))) (.val (.int deed)) s15 s16 s17 S1) := by
      rw [s17_eq, e_if]
      simp -implicitDefEqProofs [hd]
    rw [e_seq, q1, RS.bind_nx, e_seq, q2, RS.bind_nx, e_seq, q3, e, RS.bind_nx]
  · obtain ⟨S', s12', s15', s17', ms, e, B', l', hms, hml, k1, k4, ks⟩ := pour_part ns s3 s6 (.val (.obj (n + 5))) s9 s10 s11 s12 s15 s16 s17 deed hO hg u1.bag g1 g3 g4 ha (by omega)
    have l1 : S1.length = S.length := u1.len
    refine ⟨.val (.tup [.int t, .int b]), .val (.obj (n + 1)), .val (.int a), s9, s10, s12', .val (.obj (n + 3)), .val (.int deed), s15', s16, s17', S', fun K => ?_, B', by omega, ⟨t, b, ds ++ ms, a, hO, ?_, by simp; omega, by simp; omega, k1, by rw [ks _ (by omega) (by omega) (by omega) (by omega), g3], k4, by rw [ks _ (by omega) (by omega) (by omega) (by omega), g5]⟩, fun i hi hi2 hi3 => by rw [ks i hi (by omega) (by omega) (by omega), u1.same i hi]⟩
    · have q3 : s17_law (mz ns s3 (.val (.tup [.int t, .int b])) (.val (.obj (n + 1))) s6 (.val (.obj (n + 5))) (.val (.int a)) s9 s10 s11 s12 (.val (.obj (n + 3))) (.val (.int deed)) s15 s16 s17 S1) = pourB (mz ns s3 (.val (.tup [.int t, .int b])) (.val (.obj (n + 1))) s6 (.val (.obj (n + 5))) (.val (.int a)) s9 s10 s11 s12 (.val (.obj (n + 3))) (.val (.int deed)) s15 s16 s17 S1) := by
        rw [s17_eq, e_if]
        simp -implicitDefEqProofs [hd]
      rw [e_seq, q1, RS.bind_nx, e_seq, q2, RS.bind_nx, e_seq, q3, e, RS.bind_nx]
    · intro x hx
      rcases List.mem_append.mp hx with h | h
      · exact hg x h
      · exact hms x h
/-- what stands throughout -/
structure Inv (S : List Cell) (N : Nat) : Prop where
  bag : Bag S
  lots : S[1]? = some (.lst [.obj 7, .obj 13])
  l0 : LotAt S 2 N
  l1 : LotAt S 8 N
  len : 14 ≤ S.length
theorem one_stands {S : List Cell} {n N : Nat} (hL : LotAt S n N) (hN : N ≤ 2000) (ns : D) (s3 s4 s5 s6 s7 s8 s9 s10 s12 s13 s14 s15 s16 s17 : Sl) : l2_law (mz ns s3 s4 s5 s6 s7 s8 s9 s10 (.val (.obj (n + 5))) s12 s13 s14 s15 s16 s17 S) = .nx (mz ns s3 s4 s5 s6 s7 s8 s9 s10 (.val (.obj (n + 5))) s12 s13 s14 s15 s16 s17 S) := by
  obtain ⟨t, b, ds, a, hO, hg, ha, hl, h1, h3, h4, h5⟩ := hL
  have est := stands_eq h3 h4 h1 (show a < 100000 by omega)
  unfold l2_law
  simp -implicitDefEqProofs [h5, est]
theorem all_stand {S : List Cell} {N : Nat} (I : Inv S N) (hN : N ≤ 2000) (ns : D) (s3 s4 s5 s6 s7 s8 s9 s10 s11 s12 s13 s14 s15 s16 s17 : Sl) : sForA (mSh (mV 2)) (gN 11) l2_law (mz ns s3 s4 s5 s6 s7 s8 s9 s10 s11 s12 s13 s14 s15 s16 s17 S) = .nx (mz ns s3 s4 s5 s6 s7 s8 s9 s10 (.val (.obj 13)) s12 s13 s14 s15 s16 s17 S) := by
  have e0 : (mSh (mV 2)) (mz ns s3 s4 s5 s6 s7 s8 s9 s10 s11 s12 s13 s14 s15 s16 s17 S) = .ok (.obj 1) (mz ns s3 s4 s5 s6 s7 s8 s9 s10 s11 s12 s13 s14 s15 s16 s17 S) := rfl
  rw [e_forAO (gN 11) l2_law _ _ 1 e0]
  have hf : Fuel = (Fuel - 3) + 1 + 1 + 1 := by unfold Fuel; omega
  rw [hf]
  have step : ∀ (f i : Nat) (x : Nat) (s11 : Sl), ([D.obj 7, .obj 13] : List D)[i]? = some (.obj x) → (l2_law (mz ns s3 s4 s5 s6 s7 s8 s9 s10 (.val (.obj x)) s12 s13 s14 s15 s16 s17 S) = .nx (mz ns s3 s4 s5 s6 s7 s8 s9 s10 (.val (.obj x)) s12 s13 s14 s15 s16 s17 S)) →
      forCell (gN 11) l2_law 1 (f + 1) i (mz ns s3 s4 s5 s6 s7 s8 s9 s10 s11 s12 s13 s14 s15 s16 s17 S) = forCell (gN 11) l2_law 1 f (i + 1) (mz ns s3 s4 s5 s6 s7 s8 s9 s10 (.val (.obj x)) s12 s13 s14 s15 s16 s17 S) := fun f i x s11 hx hl => by
    rw [forCell]
    simp only [I.lots, hx, e_gN, e_set, List.set_cons_succ, List.set_cons_zero]
    rw [hl]
    rfl
  rw [step _ 0 7 _ rfl (one_stands I.l0 hN ..), step _ 1 13 _ rfl (one_stands I.l1 hN ..)]
  rw [forCell]
  simp only [I.lots]
  rfl
theorem turn {S : List Cell} {N : Nat} (I : Inv S N) (hN : N ≤ 900) (ns : D) (s3 s4 s5 s6 s7 s8 s9 s10 s11 s12 s13 s14 s15 s16 s17 : Sl) : ∃ (s4' s5' s7' s8' s9' s10' s11' s12' s13' s14' s15' s16' s17' : Sl) (S' : List Cell),
    l3_law (mz ns s3 s4 s5 s6 s7 s8 s9 s10 s11 s12 s13 s14 s15 s16 s17 S) = .nx (mz ns s3 s4' s5' s6 s7' s8' s9' s10' s11' s12' s13' s14' s15' s16' s17' S') ∧ Inv S' (N + 12) := by
  obtain ⟨r, S1, u1, e1, r0, r1⟩ := draw_u 2 S I.bag (by omega) (by omega)
  have I1 : Inv S1 N := ⟨u1.bag, by rw [u1.same _ (by omega), I.lots], I.l0.frame (Nat.le_refl _) fun i h1 h2 => u1.same i (by omega), I.l1.frame (Nat.le_refl _) fun i h1 h2 => u1.same i (by omega), by rw [u1.len]; exact I.len⟩
  have q1 : ∀ x : Nat, atI [D.obj 7, .obj 13] r = some (.obj x) → s15_law (mz ns s3 s4 s5 s6 s7 s8 s9 s10 s11 s12 s13 s14 s15 s16 s17 S) = .nx (mz ns s3 s4 s5 s6 (.val (.obj x)) s8 s9 s10 s11 s12 s13 s14 s15 s16 s17 S1) := fun x hx => by
    unfold s15_law
    simp -implicitDefEqProofs [e1, I1.lots, hx]
  have hr : r = 0 ∨ r = 1 := by omega
  rcases hr with rfl | rfl
  · obtain ⟨s4', s5', s8', s9', s10', s12', s13', s14', s15', s16', s17', S', e, B', l', hL, ks⟩ := lot_step ns s3 s4 s5 s6 s8 s9 s10 s11 s12 s13 s14 s15 s16 s17 I1.bag I1.l0 hN
    have I' : Inv S' (N + 12) := ⟨B', by rw [ks 1 (by omega) (by have := I1.len; omega) (by omega), I1.lots], hL, I1.l1.frame (by omega) fun i h1 h2 => ks i (by omega) (by have := I1.len; omega) (by omega), Nat.le_trans I1.len l'⟩
    refine ⟨s4', s5', .val (.obj 7), s8', s9', s10', .val (.obj 13), s12', s13', s14', s15', s16', s17', S', ?_, I'⟩
    unfold l3_law
    rw [e_seq, q1 7 (by simp), RS.bind_nx, e, all_stand I' (by omega)]
  · obtain ⟨s4', s5', s8', s9', s10', s12', s13', s14', s15', s16', s17', S', e, B', l', hL, ks⟩ := lot_step ns s3 s4 s5 s6 s8 s9 s10 s11 s12 s13 s14 s15 s16 s17 I1.bag I1.l1 hN
    have I' : Inv S' (N + 12) := ⟨B', by rw [ks 1 (by omega) (by have := I1.len; omega) (by omega), I1.lots], I1.l0.frame (by omega) fun i h1 h2 => ks i (by omega) (by have := I1.len; omega) (by omega), hL, Nat.le_trans I1.len l'⟩
    refine ⟨s4', s5', .val (.obj 13), s8', s9', s10', .val (.obj 13), s12', s13', s14', s15', s16', s17', S', ?_, I'⟩
    unfold l3_law
    rw [e_seq, q1 13 (by simp), RS.bind_nx, e, all_stand I' (by omega)]
end Qk50
set_option Elab.async false
set_option linter.all false
set_option maxRecDepth 100000
set_option maxHeartbeats 4000000
namespace Qk50
open PySem L2 DL
/-! ### bad bases -/
structure BadB (d : D) : Prop where
  no : NoBase d
  se : SelfEq d
abbrev others (t b : Int) : List D := [.lst [.int t, .int b], .tup [.int 0, .int 1], .tup [.int 1, .int 1], .tup [.int 3, .int 2], .tup [.int 2, .int 4], .tup [.int (-1), .int 2], .tup [.int 1, .int (-2)], .tup [.int 1, .int 10], .tup [.bl true, .int 2], .tup [.int 1, .int 2, .int 3], .tup [.int 1], .str "1/2", .non, .int 1, .tup [.str "1", .int 2]]
theorem others_bad {t b : Int} {d : D} (h : d ∈ others t b) : BadB d := by
  simp only [others, List.mem_cons, List.not_mem_nil, or_false] at h
  rcases h with rfl | rfl | rfl | rfl | rfl | rfl | rfl | rfl | rfl | rfl | rfl | rfl | rfl | rfl | rfl
  · exact ⟨.lst _, sh_l2 _ _⟩
  · exact ⟨.pr _ _ (by decide), sh_t2 _ _⟩
  · exact ⟨.pr _ _ (by decide), sh_t2 _ _⟩
  · exact ⟨.pr _ _ (by decide), sh_t2 _ _⟩
  · exact ⟨.pr _ _ (by decide), sh_t2 _ _⟩
  · exact ⟨.pr _ _ (by decide), sh_t2 _ _⟩
  · exact ⟨.pr _ _ (by decide), sh_t2 _ _⟩
  · exact ⟨.pr _ _ (by decide), sh_t2 _ _⟩
  · exact ⟨.tru _, sh_tb _ _⟩
  · exact ⟨.three _ _ _, sh_t3 _ _ _⟩
  · exact ⟨.one _, sh_t1 _⟩
  · exact ⟨.str _, se_str _⟩
  · exact ⟨.non, se_non⟩
  · exact ⟨.int _, se_int _⟩
  · exact ⟨.sstr _ _, sh_ts⟩
abbrev bz (t b : Int) (bad : D) (x : Sl) (S : List Cell) : Z := ⟨[.val (.obj 0), .val (.tup [.int t, .int b]), .val bad, .val (.lst [.int t, .int b]), .val (.lst [.int 0, bad]), x], S⟩
theorem bad_turn (t b : Int) (bad : D) {d : D} (hd : BadB d) (S : List Cell) : l1__law_bad_bases (bz t b bad (.val d) S) = .nx (bz t b bad (.val d) (S ++ [.ins "Coins" []])) := by
  have e1 : thunk th1__law_bad_bases (bz t b bad (.val d) S) S = .err ⟨"BadBase", [("value", d)]⟩ (S ++ [.ins "Coins" []]) := by
    have mk := fun sl => make_noBase (sl := sl) (st := S) (e := .lst [.int 0, bad]) hd.no
    unfold th1__law_bad_bases
    simp -implicitDefEqProofs [mk, -e_makeF]
  have e2 := caught_B e1
  have em : mLam mx__law_caught th1__law_bad_bases (bz t b bad (.val d) S) = .ok (.lst [.non, .lst [.str "BadBase", d]]) (bz t b bad (.val d) (S ++ [.ins "Coins" []])) := by
    rw [e_mLam, e2]
    rfl
  have er := refused_y hd.se "BadBase" (S ++ [.ins "Coins" []])
  unfold l1__law_bad_bases
  simp -implicitDefEqProofs [em, -e_mLam, er]
theorem k1_y (t b : Int) (bad : D) (x : Sl) (S : List Cell) : k1__law_bad_bases (bz t b bad x S) = .ok (.d (.lst (others t b))) (bz t b bad x S) := rfl
theorem bad_bases_y {t b : Int} (hO : Odd t b) {bad : D} (hb : BadV b bad) (S : List Cell) : ∃ S', m__law_bad_bases [.val (.obj 0), .val (.tup [.int t, .int b]), .val bad] S = .ok (.bl true) S' := by
  have q1 : sAsg (mSh (mBind (mCons (mSh (mBind (wCons (mV 1) wNil) fList)) (mCons (mSh (mBind (mCons (mSh (mC (.int 0))) (mCons (mSh (mV 2)) (mNil))) fun ds => newL (okLen ds))) (mNil))) fun ds => newT (okLen ds))) (gT 2 (gsN [3, 4])) ⟨[.val (.obj 0), .val (.tup [.int t, .int b]), .val bad, .un, .un, .un], S⟩ = .nx (bz t b bad .un S) := by
    simp -implicitDefEqProofs [okLen, sizeS]
  obtain ⟨z', e, x, S1, rfl⟩ := forGo_inv (g := gN 5) (b := l1__law_bad_bases) (fun z => ∃ x S, z = bz t b bad x S) (others t b) (bz t b bad .un S) (fun d hd z ⟨x, S, hz⟩ => ⟨bz t b bad (.val d) S, _, by rw [hz]; rfl, bad_turn t b bad (others_bad hd) S, _, _, rfl⟩) ⟨_, _, rfl⟩
  have q2 : sFor (mBind (mSh (k1__law_bad_bases)) itemsOf) (gN 5) (l1__law_bad_bases) (bz t b bad .un S) = .nx (bz t b bad x S1) := by
    rw [← e, e_for, e_bind, e_sh, k1_y]
    rfl
  have fl : [D.int 0, bad].filter (badD b) = [bad] := by
    have h0 : badD b (.int 0) = false := by
      have := hO.t1
      have := hO.tb
      simp [badD]
      omega
    simp [h0, hb.bad, List.filter_cons]
  have e1 : thunk th2__law_bad_bases (bz t b bad x S1) S1 = .err ⟨"BadNumber", [("value", bad)]⟩ (S1 ++ [.ins "Coins" []]) := by
    have mk := fun sl => make_noDig (sl := sl) (st := S1) hO (vs := [.int 0, bad]) (by simp only [List.all_cons, List.all_nil, hb.plain]; rfl) (by simp) fl
    unfold th2__law_bad_bases
    simp -implicitDefEqProofs [mk, -e_makeF]
  have e2 := caught_N e1
  have em : mLam mx__law_caught th2__law_bad_bases (bz t b bad x S1) = .ok (.lst [.non, .lst [.str "BadNumber", bad]]) (bz t b bad x (S1 ++ [.ins "Coins" []])) := by
    rw [e_mLam, e2]
    rfl
  have er := refused_y hb.se "BadNumber" (S1 ++ [.ins "Coins" []])
  have q3 : sRet (mCall 3 m__law_refused (wCons (mW (mLam mx__law_caught th2__law_bad_bases)) (wCons (mC (.str "BadNumber")) (wCons (mV 2) (wNil))))) (bz t b bad x S1) = .rt (.bl true) (bz t b bad x (S1 ++ [.ins "Coins" []])) := by
    simp -implicitDefEqProofs [em, -e_mLam, er]
  refine ⟨S1 ++ [.ins "Coins" []], ?_⟩
  unfold m__law_bad_bases b__law_bad_bases
  rw [e_fn, e_seq]
  have z0 : (⟨[.val (.obj 0), .val (.tup [.int t, .int b]), .val bad] ++ List.replicate (6 - [Sl.val (.obj 0), .val (.tup [.int t, .int b]), .val bad].length) .un, S⟩ : Z) = ⟨[.val (.obj 0), .val (.tup [.int t, .int b]), .val bad, .un, .un, .un], S⟩ := rfl
  rw [z0, q1, RS.bind_nx, e_seq, q2, RS.bind_nx, q3]
  rfl
/-! ### the law -/
theorem two_lots (ns : D) (S : List Cell) (hB : Bag S) (h1 : S[1]? = some (.lst [])) (hl : S.length = 2) : ∃ (k4 k5 k6 k13 : Sl) (S' : List Cell), s19_law (lz ns .un .un .un .un .un S) = .nx (lz ns (.val (.int 1)) k4 k5 k6 k13 S') ∧ Inv S' 500 := by
  obtain ⟨S1, a4, a5, a6, a13, e1, B1, l1, k1, L1, n1⟩ := lot_turn ns 0 .un .un .un .un S [] hB h1 (by simp)
  rw [hl] at l1 L1 n1
  obtain ⟨S2, b4, b5, b6, b13, e2, B2, l2, k2, L2, n2⟩ := lot_turn ns 1 a4 a5 a6 a13 S1 _ B1 l1 (by simp)
  rw [n1] at l2 L2 n2 k2
  refine ⟨b4, b5, b6, b13, S2, ?_, ⟨B2, l2, L1.frame (Nat.le_refl _) fun i h1 h2 => k2 i (by omega) (by omega), L2, by omega⟩⟩
  have r2 : okRg 2 = true := okRg_of (by omega) (by omega)
  have step : ∀ (s : Int) (rest : List D) (k s4 s5 s6 s13 : Sl) (S : List Cell), forGo (gN 3) l1_law (.int s :: rest) (lz ns k s4 s5 s6 s13 S) = sTurn (l1_law (lz ns (.val (.int s)) s4 s5 s6 s13 S)) (forGo (gN 3) l1_law rest) := fun s rest k s4 s5 s6 s13 S => by
    rw [forGo]
    rfl
  have st : s19_law (lz ns .un .un .un .un .un S) = forGo (gN 3) l1_law [.int 0, .int 1] (lz ns .un .un .un .un .un S) := by
    unfold s19_law
    simp -implicitDefEqProofs [r2, rng2]
  rw [st, step, e1]
  simp only [sTurn]
  rw [step, e2]
  rfl
theorem turns_y (ns : D) (s3 s4 s5 s6 s7 s8 s9 s10 s11 s12 s13 s14 s15 s16 s17 : Sl) (S : List Cell) (I : Inv S 500) : ∃ (k3 k4 k5 k7 k8 k9 k10 k11 k12 k13 k14 k15 k16 k17 : Sl) (S' : List Cell), s20_law (mz ns s3 s4 s5 s6 s7 s8 s9 s10 s11 s12 s13 s14 s15 s16 s17 S) = .nx (mz ns k3 k4 k5 s6 k7 k8 k9 k10 k11 k12 k13 k14 k15 k16 k17 S') ∧ Inv S' 1000 := by
  obtain ⟨d1, S1, u1, e1, hd1⟩ := of_u [.int 16, .int 8, .int 30] S I.bag (by simp) (by simp)
  obtain ⟨q, hq, rfl⟩ : ∃ q : Nat, q ≤ 30 ∧ d1 = .int q := by
    simp at hd1
    rcases hd1 with rfl | rfl | rfl
    · exact ⟨16, by omega, rfl⟩
    · exact ⟨8, by omega, rfl⟩
    · exact ⟨30, by omega, rfl⟩
  have I1 : Inv S1 (500 + 12 * 0) := ⟨u1.bag, by rw [u1.same _ (by omega), I.lots], I.l0.frame (by omega) fun i h1 h2 => u1.same i (by omega), I.l1.frame (by omega) fun i h1 h2 => u1.same i (by omega), by rw [u1.len]; exact I.len⟩
  obtain ⟨z', e, k3, k4, k5, k7, k8, k9, k10, k11, k12, k13, k14, k15, k16, k17, S', rfl, I'⟩ := forGo_cnt (g := gN 3) (b := l3_law) (fun k z => ∃ (s3 s4 s5 s7 s8 s9 s10 s11 s12 s13 s14 s15 s16 s17 : Sl) (S : List Cell), z = mz ns s3 s4 s5 s6 s7 s8 s9 s10 s11 s12 s13 s14 s15 s16 s17 S ∧ Inv S (500 + 12 * k)) 30 (rangeD 0 q) 0
    (mz ns s3 s4 s5 s6 s7 s8 s9 s10 s11 s12 s13 s14 s15 s16 s17 S1) (fun k d z hk _ ⟨s3, s4, s5, s7, s8, s9, s10, s11, s12, s13, s14, s15, s16, s17, S, hz, I⟩ => by
      obtain ⟨s4', s5', s7', s8', s9', s10', s11', s12', s13', s14', s15', s16', s17', S', e, I'⟩ := turn I (by omega) ns (.val d) s4 s5 s6 s7 s8 s9 s10 s11 s12 s13 s14 s15 s16 s17
      exact ⟨_, _, by rw [hz]; rfl, e, _, _, _, _, _, _, _, _, _, _, _, _, _, _, _, rfl, by rw [show 500 + 12 * (k + 1) = 500 + 12 * k + 12 by omega]; exact I'⟩) (by unfold rangeD; simp; omega) ⟨_, _, _, _, _, _, _, _, _, _, _, _, _, _, _, rfl, I1⟩
  have hr : okRg (q : Int) = true := okRg_of (by omega) (by omega)
  have hql : (rangeD 0 q).length = q := by unfold rangeD; simp
  rw [hql] at I'
  refine ⟨k3, k4, k5, k7, k8, k9, k10, k11, k12, k13, k14, k15, k16, k17, S', ?_, ⟨I'.bag, I'.lots, I'.l0.frame (by omega) fun _ _ _ => rfl, I'.l1.frame (by omega) fun _ _ _ => rfl, I'.len⟩⟩
  unfold s20_law
  simp -implicitDefEqProofs [okLen, sizeS, e1, hr, e]
theorem bads7 {t b : Int} {d : D} (hO : Odd t b) (h : d ∈ [D.int b, .int (-1), .bl true, .str "1", .non, .int 1000000000]) : BadV b d := by
  simp at h
  have := hO.t1
  have := hO.tb
  have := hO.b9
  rcases h with rfl | rfl | rfl | rfl | rfl | rfl
  · exact ⟨by simp [badD], rfl, se_int _⟩
  · exact ⟨by simp [badD], rfl, se_int _⟩
  · exact ⟨rfl, rfl, se_bl _⟩
  · exact ⟨rfl, rfl, se_str _⟩
  · exact ⟨rfl, rfl, se_non⟩
  · exact ⟨by simp [badD]; omega, rfl, se_int _⟩
theorem law_true (ns : List Int) : ∃ S, m_law [.val (.lst (ns.map .int))] [] = .ok (.bl true) S := by
  obtain ⟨c, e0, hc⟩ := law_bag_y ns
  generalize D.lst (ns.map .int) = nd at *
  have q1 : s18_law ⟨[.val nd, .un, .un, .un, .un, .un, .un, .un, .un, .un, .un, .un, .un, .un, .un, .un, .un, .un], []⟩ = .nx (lz nd .un .un .un .un .un [c, .lst []]) := by
    unfold s18_law
    simp -implicitDefEqProofs [e0, okLen, sizeS]
  obtain ⟨k4, k5, k6, k13, S1, q2, I1⟩ := two_lots nd [c, .lst []] ⟨c, _, rfl, hc⟩ rfl rfl
  obtain ⟨j3, j4, j5, j7, j8, j9, j10, j11, j12, j13, j14, j15, j16, j17, S2, q3, I2⟩ := turns_y nd (.val (.int 1)) k4 k5 k6 .un .un .un .un .un .un k13 .un .un .un .un S1 I1
  obtain ⟨t, b, ds, a, hO, hg, ha, hl, h1, h3, h4, h5⟩ := I2.l0
  obtain ⟨bad, S3, u3, e3, hd3⟩ := of_u [.int b, .int (-1), .bl true, .str "1", .non, .int 1000000000] S2 I2.bag (by simp) (by simp)
  obtain ⟨S4, e4⟩ := bad_bases_y hO (bads7 hO hd3) S3
  have p9 : okPow 10 9 = true := by decide
  have e9 : (10 : Int) ^ (9 : Int).toNat = 1000000000 := by decide
  have k7 : k7_law (mz nd j3 j4 j5 k6 j7 j8 j9 j10 j11 j12 j13 j14 j15 j16 j17 S2) = .ok (.d (.lst [.int b, .int (-1), .bl true, .str "1", .non, .int 1000000000])) (mz nd j3 j4 j5 k6 j7 j8 j9 j10 j11 j12 j13 j14 j15 j16 j17 S2) := by
    unfold k7_law
    simp -implicitDefEqProofs [I2.lots, h5, p9, e9, okLen, sizeS]
  have q4 : s21_law (mz nd j3 j4 j5 k6 j7 j8 j9 j10 j11 j12 j13 j14 j15 j16 j17 S2) = .rt (.bl true) (mz nd j3 j4 j5 k6 j7 j8 j9 j10 j11 j12 j13 j14 j15 j16 j17 S4) := by
    unfold s21_law
    simp -implicitDefEqProofs [I2.lots, h5, k7, e3, e4]
  refine ⟨S4, ?_⟩
  unfold m_law b_law
  rw [e_fn, e_seq]
  have z0 : (⟨[.val nd] ++ List.replicate (18 - [Sl.val nd].length) .un, []⟩ : Z) = ⟨[.val nd, .un, .un, .un, .un, .un, .un, .un, .un, .un, .un, .un, .un, .un, .un, .un, .un, .un], []⟩ := rfl
  rw [z0, q1, RS.bind_nx, e_seq, q2, RS.bind_nx, e_seq, q3, RS.bind_nx, q4]
  rfl
end Qk50
set_option Elab.async false
set_option linter.all false
set_option maxRecDepth 100000
set_option maxHeartbeats 0
namespace Qk50
open PySem PySem.Spec PyProof.Rows L2 DL
def clsOf (A_BadBase A_BadNumber A_Thirsty A_Coins : Addr) (P__law_bad_bases P_law : Addr) : Cl := ⟨fun c => if c = "BadBase" then some A_BadBase else if c = "BadNumber" then some A_BadNumber else if c = "Thirsty" then some A_Thirsty else if c = "Coins" then some A_Coins else none, [(P__law_bad_bases, ((("_law_bad_bases" : Str) ++ ".<locals>.") ++ "<lambda>" : Str)), (P_law, ((("law" : Str) ++ ".<locals>.") ++ "<lambda>" : Str))]⟩
theorem cls_all {Q : Str → Addr → Prop} {A_BadBase A_BadNumber A_Thirsty A_Coins P__law_bad_bases P_law : Addr} (h_BadBase : Q "BadBase" A_BadBase) (h_BadNumber : Q "BadNumber" A_BadNumber) (h_Thirsty : Q "Thirsty" A_Thirsty) (h_Coins : Q "Coins" A_Coins) : ∀ c A, (clsOf A_BadBase A_BadNumber A_Thirsty A_Coins P__law_bad_bases P_law) c = some A → Q c A := by
  intro c A h
  unfold clsOf at h
  dsimp only at h
  split at h
  · rename_i e; subst e; cases h; exact h_BadBase
  split at h
  · rename_i e; subst e; cases h; exact h_BadNumber
  split at h
  · rename_i e; subst e; cases h; exact h_Thirsty
  split at h
  · rename_i e; subst e; cases h; exact h_Coins
  cases h
theorem isx_none {o : Option Bool} {Q : Bool → Prop} (e : o = none) : ∀ b, o = some b → Q b := fun b h => by rw [e] at h; cases h
theorem cls_BadBase {A_BadBase A_BadNumber A_Thirsty A_Coins P__law_bad_bases P_law : Addr} : (clsOf A_BadBase A_BadNumber A_Thirsty A_Coins P__law_bad_bases P_law) "BadBase" = some A_BadBase := by unfold clsOf; first | rfl | simp | decide
theorem cls_BadNumber {A_BadBase A_BadNumber A_Thirsty A_Coins P__law_bad_bases P_law : Addr} : (clsOf A_BadBase A_BadNumber A_Thirsty A_Coins P__law_bad_bases P_law) "BadNumber" = some A_BadNumber := by unfold clsOf; first | rfl | simp | decide
theorem cls_Thirsty {A_BadBase A_BadNumber A_Thirsty A_Coins P__law_bad_bases P_law : Addr} : (clsOf A_BadBase A_BadNumber A_Thirsty A_Coins P__law_bad_bases P_law) "Thirsty" = some A_Thirsty := by unfold clsOf; first | rfl | simp | decide
theorem cls_Coins {A_BadBase A_BadNumber A_Thirsty A_Coins P__law_bad_bases P_law : Addr} : (clsOf A_BadBase A_BadNumber A_Thirsty A_Coins P__law_bad_bases P_law) "Coins" = some A_Coins := by unfold clsOf; first | rfl | simp | decide
theorem code_hd {K : Fr} {h : Heap} {c P : Addr} {cd : Option Addr} {cs : Array (Option Value)} {vs : Array Value} {f : Str} {tf tg tt : Tok} {fl n : Int} {b : Bool} (X : K.In h) (l : K.lookup c = some ⟨.type "code", cd, .fields vs, cs⟩) (e11 : vs[11]? = some (.ref P)) (e18 : vs.getD 18 .none = .str f tf) (e7 : vs.getD 7 .none = .int fl tg) (e9 : vs.getD 9 .none = .bool b) (e10 : vs.getD 10 .none = .int n tt) (hne : c ≠ P) : PySem.W.CodeHd h c P :=
  ⟨_, vs, f, tf, fl, tg, b, n, tt, X _ _ l, rfl, rfl, e11, by rw [Array.getD_eq_getD_getElem?, e11]; rfl, e18, e7, e9, e10, hne⟩
theorem fin {K : Fr} {mg : Str → Option Value} {w : World} {h : Heap} {A_BadBase A_BadNumber A_Coins A_GivenError A_Missing A_Thirsty : Addr} {c__law_bad_bases P__law_bad_bases c_law P_law : Addr}
    (hc__law_bad_bases : PySem.W.CodeHd h c__law_bad_bases P__law_bad_bases ∧ h.get? P__law_bad_bases = some { cls := .none, data := .fields #[] })
    (lp__law_bad_bases : K.lookup P__law_bad_bases = none)
    (hc_law : PySem.W.CodeHd h c_law P_law ∧ h.get? P_law = some { cls := .none, data := .fields #[] })
    (lp_law : K.lookup P_law = none)
    (ne__law_bad_bases_law : P__law_bad_bases ≠ P_law)
    (m_BadBase : mg "BadBase" = some (.ref A_BadBase))
    (m_BadNumber : mg "BadNumber" = some (.ref A_BadNumber))
    (m_Coins : mg "Coins" = some (.ref A_Coins))
    (m_GivenError : mg "GivenError" = some (.ref A_GivenError))
    (m_Missing : mg "Missing" = some (.ref A_Missing))
    (m_Thirsty : mg "Thirsty" = some (.ref A_Thirsty))
    (n_abs : mg "abs" = none)
    (n_bool : mg "bool" = none)
    (n_int : mg "int" = none)
    (n_isinstance : mg "isinstance" = none)
    (n_len : mg "len" = none)
    (n_list : mg "list" = none)
    (n_range : mg "range" = none)
    (n_repr : mg "repr" = none)
    (n_str : mg "str" = none)
    (n_tuple : mg "tuple" = none)
    (i_gcd : mg "gcd" = some (.builtin "math.gcd"))
    (f__law_bag : Df K mg "_law_bag" s__law_bag p__law_bag)
    (f__law_draw : Df K mg "_law_draw" s__law_draw p__law_draw)
    (f__law_of : Df K mg "_law_of" s__law_of p__law_of)
    (f__law_whole : Df K mg "_law_whole" s__law_whole p__law_whole)
    (f__law_gcd : Df K mg "_law_gcd" s__law_gcd p__law_gcd)
    (f__law_odds : Df K mg "_law_odds" s__law_odds p__law_odds)
    (f__law_digits : Df K mg "_law_digits" s__law_digits p__law_digits)
    (f__law_noise : Df K mg "_law_noise" s__law_noise p__law_noise)
    (f__law_caught : Df K mg "_law_caught" s__law_caught p__law_caught)
    (f__law_stands : Df K mg "_law_stands" s__law_stands p__law_stands)
    (f__law_refused : Df K mg "_law_refused" s__law_refused p__law_refused)
    (f_wrong_digits : Df K mg "wrong_digits" s_wrong_digits p_wrong_digits)
    (f_is_integer_value : Df K mg "is_integer_value" s_is_integer_value p_is_integer_value)
    (f_base_value : Df K mg "base_value" s_base_value p_base_value)
    (f_is_base : Df K mg "is_base" s_is_base p_is_base)
    (f__law_bad_bases : DfC K mg "_law_bad_bases" s__law_bad_bases p__law_bad_bases c__law_bad_bases)
    (f_go_count : Df K mg "go_count" s_go_count p_go_count)
    (f_noise_made : Df K mg "noise_made" s_noise_made p_noise_made)
    (f_law : DfC K mg "law" s_law p_law c_law)
    (n_LookupError : mg "LookupError" = none)
    (n_ValueError : mg "ValueError" = none)
    (cl_Coins : L2.Cls K A_Coins)
    (mk_Coins : PySem.W.makesIn K A_Coins = true ∧ PySem.W.keepIn K (.ref A_Coins) = true)
    (na_Coins_fl__at : L2.NoAttr K A_Coins "_at")
    (na_Coins_fl__base : L2.NoAttr K A_Coins "_base")
    (na_Coins_fl__digits : L2.NoAttr K A_Coins "_digits")
    (f_Coins_used : DpA K A_Coins "used" "Coins.used" s_Coins_used p_Coins_used)
    (f_Coins_left : DpA K A_Coins "left" "Coins.left" s_Coins_left p_Coins_left)
    (f_Coins_U_reprU_ : DmA K A_Coins "__repr__" "Coins.__repr__" s_Coins_U_reprU_ p_Coins_U_reprU_)
    (f_Coins_U_initU_ : DmA K A_Coins "__init__" "Coins.__init__" s_Coins_U_initU_ p_Coins_U_initU_)
    (f_Coins_noise : DmA K A_Coins "noise" "Coins.noise" s_Coins_noise p_Coins_noise)
    (f_Coins_pour : DmA K A_Coins "pour" "Coins.pour" s_Coins_pour p_Coins_pour)
    (e_BadBase : ExM PySem.Challenge.rw_leastgiven_k50_noises_from_digits.prog K mg "BadBase" A_BadBase ["value"])
    (z_BadBase_value : PySem.W.findIn K (.ref A_BadBase) "value" = some none)
    (e_BadNumber : ExM PySem.Challenge.rw_leastgiven_k50_noises_from_digits.prog K mg "BadNumber" A_BadNumber ["value"])
    (z_BadNumber_value : PySem.W.findIn K (.ref A_BadNumber) "value" = some none)
    (e_Thirsty : ExM PySem.Challenge.rw_leastgiven_k50_noises_from_digits.prog K mg "Thirsty" A_Thirsty ["many"])
    (z_Thirsty_many : PySem.W.findIn K (.ref A_Thirsty) "many" = some none)
    (k_BadBase_BadBase : PySem.W.kitOne K (.ref A_BadBase) (.ref A_BadBase) = some true ∧ PySem.W.exmOne K (.ref A_BadBase) (.ref A_BadBase) = some true)
    (k_BadNumber_BadBase : PySem.W.kitOne K (.ref A_BadNumber) (.ref A_BadBase) = some false ∧ PySem.W.exmOne K (.ref A_BadNumber) (.ref A_BadBase) = some false)
    (k_Thirsty_BadBase : PySem.W.kitOne K (.ref A_Thirsty) (.ref A_BadBase) = some false ∧ PySem.W.exmOne K (.ref A_Thirsty) (.ref A_BadBase) = some false)
    (k_BadBase_BadNumber : PySem.W.kitOne K (.ref A_BadBase) (.ref A_BadNumber) = some false ∧ PySem.W.exmOne K (.ref A_BadBase) (.ref A_BadNumber) = some false)
    (k_BadNumber_BadNumber : PySem.W.kitOne K (.ref A_BadNumber) (.ref A_BadNumber) = some true ∧ PySem.W.exmOne K (.ref A_BadNumber) (.ref A_BadNumber) = some true)
    (k_Thirsty_BadNumber : PySem.W.kitOne K (.ref A_Thirsty) (.ref A_BadNumber) = some false ∧ PySem.W.exmOne K (.ref A_Thirsty) (.ref A_BadNumber) = some false)
    (k_BadBase_GivenError : PySem.W.kitOne K (.ref A_BadBase) (.ref A_GivenError) = some true ∧ PySem.W.exmOne K (.ref A_BadBase) (.ref A_GivenError) = some true)
    (k_BadNumber_GivenError : PySem.W.kitOne K (.ref A_BadNumber) (.ref A_GivenError) = some true ∧ PySem.W.exmOne K (.ref A_BadNumber) (.ref A_GivenError) = some true)
    (k_Thirsty_GivenError : PySem.W.kitOne K (.ref A_Thirsty) (.ref A_GivenError) = some false ∧ PySem.W.exmOne K (.ref A_Thirsty) (.ref A_GivenError) = some false)
    (k_BadBase_Missing : PySem.W.kitOne K (.ref A_BadBase) (.ref A_Missing) = some false ∧ PySem.W.exmOne K (.ref A_BadBase) (.ref A_Missing) = some false)
    (k_BadNumber_Missing : PySem.W.kitOne K (.ref A_BadNumber) (.ref A_Missing) = some false ∧ PySem.W.exmOne K (.ref A_BadNumber) (.ref A_Missing) = some false)
    (k_Thirsty_Missing : PySem.W.kitOne K (.ref A_Thirsty) (.ref A_Missing) = some true ∧ PySem.W.exmOne K (.ref A_Thirsty) (.ref A_Missing) = some true)
    (k_BadBase_Thirsty : PySem.W.kitOne K (.ref A_BadBase) (.ref A_Thirsty) = some false ∧ PySem.W.exmOne K (.ref A_BadBase) (.ref A_Thirsty) = some false)
    (k_BadNumber_Thirsty : PySem.W.kitOne K (.ref A_BadNumber) (.ref A_Thirsty) = some false ∧ PySem.W.exmOne K (.ref A_BadNumber) (.ref A_Thirsty) = some false)
    (k_Thirsty_Thirsty : PySem.W.kitOne K (.ref A_Thirsty) (.ref A_Thirsty) = some true ∧ PySem.W.exmOne K (.ref A_Thirsty) (.ref A_Thirsty) = some true)
    (k_BadBase_LookupError : PySem.W.kitOne K (.ref A_BadBase) (.type "LookupError") = some false ∧ PySem.W.exmOne K (.ref A_BadBase) (.type "LookupError") = some false)
    (k_BadNumber_LookupError : PySem.W.kitOne K (.ref A_BadNumber) (.type "LookupError") = some false ∧ PySem.W.exmOne K (.ref A_BadNumber) (.type "LookupError") = some false)
    (k_Thirsty_LookupError : PySem.W.kitOne K (.ref A_Thirsty) (.type "LookupError") = some true ∧ PySem.W.exmOne K (.ref A_Thirsty) (.type "LookupError") = some true)
    (k_BadBase_ValueError : PySem.W.kitOne K (.ref A_BadBase) (.type "ValueError") = some true ∧ PySem.W.exmOne K (.ref A_BadBase) (.type "ValueError") = some true)
    (k_BadNumber_ValueError : PySem.W.kitOne K (.ref A_BadNumber) (.type "ValueError") = some true ∧ PySem.W.exmOne K (.ref A_BadNumber) (.type "ValueError") = some true)
    (k_Thirsty_ValueError : PySem.W.kitOne K (.ref A_Thirsty) (.type "ValueError") = some false ∧ PySem.W.exmOne K (.ref A_Thirsty) (.type "ValueError") = some false)
    : ∃ (C : Cl) (m : MF) (c : Addr) (cs : List (Addr × Addr)), (∀ p ∈ cs, h.get? p.2 = some { cls := .none, data := .fields #[] }) ∧ (∀ p ∈ cs, K.lookup p.2 = none) ∧ (∀ p ∈ cs, PySem.W.CodeHd h p.1 p.2) ∧ (∀ p ∈ C.T, ∃ c, (c, p.1) ∈ cs) ∧ DfC K mg "law" s_law ["script"] c ∧ (∀ base : Heap, (∀ p ∈ cs, LamX.TabB base mg p.1 p.2) → LawRun PySem.Challenge.rw_leastgiven_k50_noises_from_digits.prog w K mg base C "law" s_law ["script"] c m) ∧ ∀ ns : List Int, ∃ S, m [.val (.lst (ns.map .int))] [] = .ok (.bl true) S := by
  have T : ∀ base : Heap, LamX.TabB base mg c__law_bad_bases P__law_bad_bases → LamX.TabB base mg c_law P_law → Txt PySem.Challenge.rw_leastgiven_k50_noises_from_digits.prog K mg (clsOf A_BadBase A_BadNumber A_Thirsty A_Coins P__law_bad_bases P_law) base c__law_bad_bases P__law_bad_bases c_law P_law := fun base tb__law_bad_bases tb_law =>
    { n_abs := n_abs,
      n_bool := n_bool,
      n_int := n_int,
      n_isinstance := n_isinstance,
      n_len := n_len,
      n_list := n_list,
      n_range := n_range,
      n_repr := n_repr,
      n_str := n_str,
      n_tuple := n_tuple,
      i_gcd := i_gcd,
      f__law_bag := f__law_bag,
      f__law_draw := f__law_draw,
      f__law_of := f__law_of,
      f__law_whole := f__law_whole,
      f__law_gcd := f__law_gcd,
      f__law_odds := f__law_odds,
      f__law_digits := f__law_digits,
      f__law_noise := f__law_noise,
      f__law_caught := f__law_caught,
      f__law_stands := f__law_stands,
      f__law_refused := f__law_refused,
      f_wrong_digits := f_wrong_digits,
      f_is_integer_value := f_is_integer_value,
      f_base_value := f_base_value,
      f_is_base := f_is_base,
      f__law_bad_bases := f__law_bad_bases,
      f_go_count := f_go_count,
      f_noise_made := f_noise_made,
      f_law := f_law,
      n_LookupError := n_LookupError,
      n_ValueError := n_ValueError,
      f_Coins_used := f_Coins_used.dp cls_Coins cl_Coins,
      f_Coins_left := f_Coins_left.dp cls_Coins cl_Coins,
      f_Coins_U_reprU_ := f_Coins_U_reprU_.dm cls_Coins cl_Coins,
      f_Coins_U_initU_ := f_Coins_U_initU_.dm cls_Coins cl_Coins,
      f_Coins_noise := f_Coins_noise.dm cls_Coins cl_Coins,
      f_Coins_pour := f_Coins_pour.dm cls_Coins cl_Coins,
      tb__law_bad_bases := tb__law_bad_bases,
      tm__law_bad_bases := by unfold clsOf; simp,
      tu__law_bad_bases := (by intro p hp e; unfold clsOf at hp; simp only [List.mem_cons, List.not_mem_nil, or_false] at hp; rcases hp with rfl | rfl <;> first | exact absurd e ne__law_bad_bases_law | exact absurd e.symm ne__law_bad_bases_law | rfl),
      tb_law := tb_law,
      tm_law := by unfold clsOf; simp,
      tu_law := (by intro p hp e; unfold clsOf at hp; simp only [List.mem_cons, List.not_mem_nil, or_false] at hp; rcases hp with rfl | rfl <;> first | exact absurd e ne__law_bad_bases_law | exact absurd e.symm ne__law_bad_bases_law | rfl),
      g_Coins := fun A h => by rw [cls_Coins] at h; cases h; exact ⟨m_Coins, mk_Coins.1, mk_Coins.2⟩,
      fl__at := cls_all (Q := fun c A => Qk50.fl__at.contains c = true → L2.Cls K A ∧ L2.NoAttr K A "_at") (fun h => absurd h (by decide +kernel)) (fun h => absurd h (by decide +kernel)) (fun h => absurd h (by decide +kernel)) (fun _ => ⟨cl_Coins, na_Coins_fl__at⟩),
      fl__base := cls_all (Q := fun c A => Qk50.fl__base.contains c = true → L2.Cls K A ∧ L2.NoAttr K A "_base") (fun h => absurd h (by decide +kernel)) (fun h => absurd h (by decide +kernel)) (fun h => absurd h (by decide +kernel)) (fun _ => ⟨cl_Coins, na_Coins_fl__base⟩),
      fl__digits := cls_all (Q := fun c A => Qk50.fl__digits.contains c = true → L2.Cls K A ∧ L2.NoAttr K A "_digits") (fun h => absurd h (by decide +kernel)) (fun h => absurd h (by decide +kernel)) (fun h => absurd h (by decide +kernel)) (fun _ => ⟨cl_Coins, na_Coins_fl__digits⟩),
      xf_many := cls_all (Q := fun c A => Qk50.xf_many.contains c = true → XcK K A ∧ PySem.W.findIn K (.ref A) "many" = some none) (fun h => absurd h (by decide +kernel)) (fun h => absurd h (by decide +kernel)) (fun _ => ⟨e_Thirsty.xc, z_Thirsty_many⟩) (fun h => absurd h (by decide +kernel)),
      xf_value := cls_all (Q := fun c A => Qk50.xf_value.contains c = true → XcK K A ∧ PySem.W.findIn K (.ref A) "value" = some none) (fun _ => ⟨e_BadBase.xc, z_BadBase_value⟩) (fun _ => ⟨e_BadNumber.xc, z_BadNumber_value⟩) (fun h => absurd h (by decide +kernel)) (fun h => absurd h (by decide +kernel)),
      a_BadBase := ⟨A_BadBase, m_BadBase, fun c D b h h2 => cls_all (Q := fun c A => ∀ b, isx_BadBase c = some b → XcK K A ∧ PySem.W.kitOne K (.ref A) (.ref A_BadBase) = some b ∧ PySem.W.exmOne K (.ref A) (.ref A_BadBase) = some b) (isx_of (by decide +kernel : isx_BadBase "BadBase" = some true) ⟨e_BadBase.xc, k_BadBase_BadBase.1, k_BadBase_BadBase.2⟩) (isx_of (by decide +kernel : isx_BadBase "BadNumber" = some false) ⟨e_BadNumber.xc, k_BadNumber_BadBase.1, k_BadNumber_BadBase.2⟩) (isx_of (by decide +kernel : isx_BadBase "Thirsty" = some false) ⟨e_Thirsty.xc, k_Thirsty_BadBase.1, k_Thirsty_BadBase.2⟩) (isx_none (by decide +kernel : isx_BadBase "Coins" = none)) c D h b h2⟩,
      a_BadNumber := ⟨A_BadNumber, m_BadNumber, fun c D b h h2 => cls_all (Q := fun c A => ∀ b, isx_BadNumber c = some b → XcK K A ∧ PySem.W.kitOne K (.ref A) (.ref A_BadNumber) = some b ∧ PySem.W.exmOne K (.ref A) (.ref A_BadNumber) = some b) (isx_of (by decide +kernel : isx_BadNumber "BadBase" = some false) ⟨e_BadBase.xc, k_BadBase_BadNumber.1, k_BadBase_BadNumber.2⟩) (isx_of (by decide +kernel : isx_BadNumber "BadNumber" = some true) ⟨e_BadNumber.xc, k_BadNumber_BadNumber.1, k_BadNumber_BadNumber.2⟩) (isx_of (by decide +kernel : isx_BadNumber "Thirsty" = some false) ⟨e_Thirsty.xc, k_Thirsty_BadNumber.1, k_Thirsty_BadNumber.2⟩) (isx_none (by decide +kernel : isx_BadNumber "Coins" = none)) c D h b h2⟩,
      a_GivenError := ⟨A_GivenError, m_GivenError, fun c D b h h2 => cls_all (Q := fun c A => ∀ b, isx_GivenError c = some b → XcK K A ∧ PySem.W.kitOne K (.ref A) (.ref A_GivenError) = some b ∧ PySem.W.exmOne K (.ref A) (.ref A_GivenError) = some b) (isx_of (by decide +kernel : isx_GivenError "BadBase" = some true) ⟨e_BadBase.xc, k_BadBase_GivenError.1, k_BadBase_GivenError.2⟩) (isx_of (by decide +kernel : isx_GivenError "BadNumber" = some true) ⟨e_BadNumber.xc, k_BadNumber_GivenError.1, k_BadNumber_GivenError.2⟩) (isx_of (by decide +kernel : isx_GivenError "Thirsty" = some false) ⟨e_Thirsty.xc, k_Thirsty_GivenError.1, k_Thirsty_GivenError.2⟩) (isx_none (by decide +kernel : isx_GivenError "Coins" = none)) c D h b h2⟩,
      a_Missing := ⟨A_Missing, m_Missing, fun c D b h h2 => cls_all (Q := fun c A => ∀ b, isx_Missing c = some b → XcK K A ∧ PySem.W.kitOne K (.ref A) (.ref A_Missing) = some b ∧ PySem.W.exmOne K (.ref A) (.ref A_Missing) = some b) (isx_of (by decide +kernel : isx_Missing "BadBase" = some false) ⟨e_BadBase.xc, k_BadBase_Missing.1, k_BadBase_Missing.2⟩) (isx_of (by decide +kernel : isx_Missing "BadNumber" = some false) ⟨e_BadNumber.xc, k_BadNumber_Missing.1, k_BadNumber_Missing.2⟩) (isx_of (by decide +kernel : isx_Missing "Thirsty" = some true) ⟨e_Thirsty.xc, k_Thirsty_Missing.1, k_Thirsty_Missing.2⟩) (isx_none (by decide +kernel : isx_Missing "Coins" = none)) c D h b h2⟩,
      a_Thirsty := ⟨A_Thirsty, m_Thirsty, fun c D b h h2 => cls_all (Q := fun c A => ∀ b, isx_Thirsty c = some b → XcK K A ∧ PySem.W.kitOne K (.ref A) (.ref A_Thirsty) = some b ∧ PySem.W.exmOne K (.ref A) (.ref A_Thirsty) = some b) (isx_of (by decide +kernel : isx_Thirsty "BadBase" = some false) ⟨e_BadBase.xc, k_BadBase_Thirsty.1, k_BadBase_Thirsty.2⟩) (isx_of (by decide +kernel : isx_Thirsty "BadNumber" = some false) ⟨e_BadNumber.xc, k_BadNumber_Thirsty.1, k_BadNumber_Thirsty.2⟩) (isx_of (by decide +kernel : isx_Thirsty "Thirsty" = some true) ⟨e_Thirsty.xc, k_Thirsty_Thirsty.1, k_Thirsty_Thirsty.2⟩) (isx_none (by decide +kernel : isx_Thirsty "Coins" = none)) c D h b h2⟩,
      b_LookupError := fun c D b h h2 => cls_all (Q := fun c A => ∀ b, isx_LookupError c = some b → XcK K A ∧ PySem.W.kitOne K (.ref A) (.type "LookupError") = some b ∧ PySem.W.exmOne K (.ref A) (.type "LookupError") = some b) (isx_of (by decide +kernel : isx_LookupError "BadBase" = some false) ⟨e_BadBase.xc, k_BadBase_LookupError.1, k_BadBase_LookupError.2⟩) (isx_of (by decide +kernel : isx_LookupError "BadNumber" = some false) ⟨e_BadNumber.xc, k_BadNumber_LookupError.1, k_BadNumber_LookupError.2⟩) (isx_of (by decide +kernel : isx_LookupError "Thirsty" = some true) ⟨e_Thirsty.xc, k_Thirsty_LookupError.1, k_Thirsty_LookupError.2⟩) (isx_none (by decide +kernel : isx_LookupError "Coins" = none)) c D h b h2,
      b_ValueError := fun c D b h h2 => cls_all (Q := fun c A => ∀ b, isx_ValueError c = some b → XcK K A ∧ PySem.W.kitOne K (.ref A) (.type "ValueError") = some b ∧ PySem.W.exmOne K (.ref A) (.type "ValueError") = some b) (isx_of (by decide +kernel : isx_ValueError "BadBase" = some true) ⟨e_BadBase.xc, k_BadBase_ValueError.1, k_BadBase_ValueError.2⟩) (isx_of (by decide +kernel : isx_ValueError "BadNumber" = some true) ⟨e_BadNumber.xc, k_BadNumber_ValueError.1, k_BadNumber_ValueError.2⟩) (isx_of (by decide +kernel : isx_ValueError "Thirsty" = some false) ⟨e_Thirsty.xc, k_Thirsty_ValueError.1, k_Thirsty_ValueError.2⟩) (isx_none (by decide +kernel : isx_ValueError "Coins" = none)) c D h b h2,
      x_BadBase := fun w base => e_BadBase.xd w base _ cls_BadBase,
      x_BadNumber := fun w base => e_BadNumber.xd w base _ cls_BadNumber,
      x_Thirsty := fun w base => e_Thirsty.xd w base _ cls_Thirsty,
      hC := cls_all (Q := fun c A => mg c = some (.ref A)) e_BadBase.mA e_BadNumber.mA e_Thirsty.mA m_Coins }
  refine ⟨_, m_law, c_law, [(c__law_bad_bases, P__law_bad_bases), (c_law, P_law)], (by intro p hp; simp only [List.mem_cons, List.not_mem_nil, or_false] at hp; rcases hp with rfl | rfl <;> first | exact hc__law_bad_bases.2 | exact hc_law.2),
    (by intro p hp; simp only [List.mem_cons, List.not_mem_nil, or_false] at hp; rcases hp with rfl | rfl <;> first | exact lp__law_bad_bases | exact lp_law),
    (by intro p hp; simp only [List.mem_cons, List.not_mem_nil, or_false] at hp; rcases hp with rfl | rfl <;> first | exact hc__law_bad_bases.1 | exact hc_law.1), ?_, f_law, fun base h => run_law (T base (h ((c__law_bad_bases, P__law_bad_bases)) (by simp)) (h ((c_law, P_law)) (by simp))), fun ns => law_true ns⟩
  intro p hp; unfold clsOf at hp; simp only [List.mem_cons, List.not_mem_nil, or_false] at hp; rcases hp with rfl | rfl <;> first | (refine ⟨c__law_bad_bases, ?_⟩; simp; done) | (refine ⟨c_law, ?_⟩; simp; done)
end Qk50
open PySem PySem.W PyProof.Rows DL in
theorem PySem.Challenge.cw_leastgiven_k50_noises_from_digits_holds : PySem.Challenge.rw_leastgiven_k50_noises_from_digits.Holds := by
  w_on; o_law; k_head; (case hw => w_witness2)
  k_fill
  refine DL.walk_DL (l := PySem.Challenge.rw_leastgiven_k50_noises_from_digits) (n := 63) (x := "script") (st := Qk50.s_law) rfl (by decide) rfl (fun w h Y => by first | exact PySem.W.kIn_of Y | exact PySem.W.km_in_of Y) (fun _ _ _ _ _ _ _ => rfl) ?F
  case F =>
    intro w mg h Y KX G XX hcode
    refine' Qk50.fin (h := h) ?hc__law_bad_bases ?lp__law_bad_bases ?hc_law ?lp_law ?ne__law_bad_bases_law ?m_BadBase ?m_BadNumber ?m_Coins ?m_GivenError ?m_Missing ?m_Thirsty ?n_abs ?n_bool ?n_int ?n_isinstance ?n_len ?n_list ?n_range ?n_repr ?n_str ?n_tuple ?i_gcd ?f__law_bag ?f__law_draw ?f__law_of ?f__law_whole ?f__law_gcd ?f__law_odds ?f__law_digits ?f__law_noise ?f__law_caught ?f__law_stands ?f__law_refused ?f_wrong_digits ?f_is_integer_value ?f_base_value ?f_is_base ?f__law_bad_bases ?f_go_count ?f_noise_made ?f_law ?n_LookupError ?n_ValueError ?cl_Coins ?mk_Coins ?na_Coins_fl__at ?na_Coins_fl__base ?na_Coins_fl__digits ?f_Coins_used ?f_Coins_left ?f_Coins_U_reprU_ ?f_Coins_U_initU_ ?f_Coins_noise ?f_Coins_pour ?e_BadBase ?z_BadBase_value ?e_BadNumber ?z_BadNumber_value ?e_Thirsty ?z_Thirsty_many ?k_BadBase_BadBase ?k_BadNumber_BadBase ?k_Thirsty_BadBase ?k_BadBase_BadNumber ?k_BadNumber_BadNumber ?k_Thirsty_BadNumber ?k_BadBase_GivenError ?k_BadNumber_GivenError ?k_Thirsty_GivenError ?k_BadBase_Missing ?k_BadNumber_Missing ?k_Thirsty_Missing ?k_BadBase_Thirsty ?k_BadNumber_Thirsty ?k_Thirsty_Thirsty ?k_BadBase_LookupError ?k_BadNumber_LookupError ?k_Thirsty_LookupError ?k_BadBase_ValueError ?k_BadNumber_ValueError ?k_Thirsty_ValueError
    (case f__law_bad_bases => refine' DL.dfc_mk KX G (fun _ _ _ _ _ _ us hl => match us, hl with | [_, _, _], _ => rfl) ?a ?l ?c ?k; (case a => k_is); (case l => k_is); (case c => k_is); (case k => k_is))
    (case f_law => refine' DL.dfc_mk KX G (fun _ _ _ _ _ _ us hl => match us, hl with | [_], _ => rfl) ?a ?l ?c ?k; (case a => k_is); (case l => k_is); (case c => k_is); (case k => k_is))
    (case hc__law_bad_bases => refine' ⟨Qk50.code_hd KX ?l ?a ?b ?c ?d ?e ?n, PySem.W.km_tabs_of Y _ ?m⟩; (case l => k_is); (case a => rfl); (case b => rfl); (case c => rfl); (case d => rfl); (case e => rfl); (case n => decide); (case m => first | decide | simp))
    (case hc_law => refine' ⟨Qk50.code_hd KX ?l ?a ?b ?c ?d ?e ?n, PySem.W.km_tabs_of Y _ ?m⟩; (case l => k_is); (case a => rfl); (case b => rfl); (case c => rfl); (case d => rfl); (case e => rfl); (case n => decide); (case m => first | decide | simp))
    (case lp__law_bad_bases => first | kernel_rfl | rfl | decide)
    (case lp_law => first | kernel_rfl | rfl | decide)
    (case ne__law_bad_bases_law => first | decide | simp | omega)
    (case m_BadBase => refine' PySem.W.mg_of KX G ?a; (case a => k_is))
    (case m_BadNumber => refine' PySem.W.mg_of KX G ?a; (case a => k_is))
    (case m_Coins => refine' PySem.W.mg_of KX G ?a; (case a => k_is))
    (case m_GivenError => refine' PySem.W.mg_of KX G ?a; (case a => k_is))
    (case m_Missing => refine' PySem.W.mg_of KX G ?a; (case a => k_is))
    (case m_Thirsty => refine' PySem.W.mg_of KX G ?a; (case a => k_is))
    (case n_abs => refine' PySem.W.mg_none_of KX G ?a; (case a => k_is))
    (case n_bool => refine' PySem.W.mg_none_of KX G ?a; (case a => k_is))
    (case n_int => refine' PySem.W.mg_none_of KX G ?a; (case a => k_is))
    (case n_isinstance => refine' PySem.W.mg_none_of KX G ?a; (case a => k_is))
    (case n_len => refine' PySem.W.mg_none_of KX G ?a; (case a => k_is))
    (case n_list => refine' PySem.W.mg_none_of KX G ?a; (case a => k_is))
    (case n_range => refine' PySem.W.mg_none_of KX G ?a; (case a => k_is))
    (case n_repr => refine' PySem.W.mg_none_of KX G ?a; (case a => k_is))
    (case n_str => refine' PySem.W.mg_none_of KX G ?a; (case a => k_is))
    (case n_tuple => refine' PySem.W.mg_none_of KX G ?a; (case a => k_is))
    (case i_gcd => refine' PySem.W.mg_of KX G ?a; (case a => k_is))
    (case f__law_bag => refine' DL.df_mk KX G (fun _ _ _ _ _ _ us hl => match us, hl with | [_], _ => rfl) ?a ?l ?c ?k; (case a => k_is); (case l => k_is); (case c => k_is); (case k => k_is))
    (case f__law_draw => refine' DL.df_mk KX G (fun _ _ _ _ _ _ us hl => match us, hl with | [_, _], _ => rfl) ?a ?l ?c ?k; (case a => k_is); (case l => k_is); (case c => k_is); (case k => k_is))
    (case f__law_of => refine' DL.df_mk KX G (fun _ _ _ _ _ _ us hl => match us, hl with | [_, _], _ => rfl) ?a ?l ?c ?k; (case a => k_is); (case l => k_is); (case c => k_is); (case k => k_is))
    (case f__law_whole => refine' DL.df_mk KX G (fun _ _ _ _ _ _ us hl => match us, hl with | [_], _ => rfl) ?a ?l ?c ?k; (case a => k_is); (case l => k_is); (case c => k_is); (case k => k_is))
    (case f__law_gcd => refine' DL.df_mk KX G (fun _ _ _ _ _ _ us hl => match us, hl with | [_, _], _ => rfl) ?a ?l ?c ?k; (case a => k_is); (case l => k_is); (case c => k_is); (case k => k_is))
    (case f__law_odds => refine' DL.df_mk KX G (fun _ _ _ _ _ _ us hl => match us, hl with | [_], _ => rfl) ?a ?l ?c ?k; (case a => k_is); (case l => k_is); (case c => k_is); (case k => k_is))
    (case f__law_digits => refine' DL.df_mk KX G (fun _ _ _ _ _ _ us hl => match us, hl with | [_, _, _], _ => rfl) ?a ?l ?c ?k; (case a => k_is); (case l => k_is); (case c => k_is); (case k => k_is))
    (case f__law_noise => refine' DL.df_mk KX G (fun _ _ _ _ _ _ us hl => match us, hl with | [_, _, _, _], _ => rfl) ?a ?l ?c ?k; (case a => k_is); (case l => k_is); (case c => k_is); (case k => k_is))
    (case f__law_caught => refine' DL.df_mk KX G (fun _ _ _ _ _ _ us hl => match us, hl with | [_], _ => rfl) ?a ?l ?c ?k; (case a => k_is); (case l => k_is); (case c => k_is); (case k => k_is))
    (case f__law_stands => refine' DL.df_mk KX G (fun _ _ _ _ _ _ us hl => match us, hl with | [_, _, _], _ => rfl) ?a ?l ?c ?k; (case a => k_is); (case l => k_is); (case c => k_is); (case k => k_is))
    (case f__law_refused => refine' DL.df_mk KX G (fun _ _ _ _ _ _ us hl => match us, hl with | [_, _, _], _ => rfl) ?a ?l ?c ?k; (case a => k_is); (case l => k_is); (case c => k_is); (case k => k_is))
    (case f_wrong_digits => refine' DL.df_mk KX G (fun _ _ _ _ _ _ us hl => match us, hl with | [_, _], _ => rfl) ?a ?l ?c ?k; (case a => k_is); (case l => k_is); (case c => k_is); (case k => k_is))
    (case f_is_integer_value => refine' DL.df_mk KX G (fun _ _ _ _ _ _ us hl => match us, hl with | [_], _ => rfl) ?a ?l ?c ?k; (case a => k_is); (case l => k_is); (case c => k_is); (case k => k_is))
    (case f_base_value => refine' DL.df_mk KX G (fun _ _ _ _ _ _ us hl => match us, hl with | [_], _ => rfl) ?a ?l ?c ?k; (case a => k_is); (case l => k_is); (case c => k_is); (case k => k_is))
    (case f_is_base => refine' DL.df_mk KX G (fun _ _ _ _ _ _ us hl => match us, hl with | [_], _ => rfl) ?a ?l ?c ?k; (case a => k_is); (case l => k_is); (case c => k_is); (case k => k_is))
    (case f_go_count => refine' DL.df_mk KX G (fun _ _ _ _ _ _ us hl => match us, hl with | [_, _, _, _], _ => rfl) ?a ?l ?c ?k; (case a => k_is); (case l => k_is); (case c => k_is); (case k => k_is))
    (case f_noise_made => refine' DL.df_mk KX G (fun _ _ _ _ _ _ us hl => match us, hl with | [_, _, _, _, _], _ => rfl) ?a ?l ?c ?k; (case a => k_is); (case l => k_is); (case c => k_is); (case k => k_is))
    (case n_LookupError => refine' PySem.W.mg_none_of KX G ?a; (case a => k_is))
    (case n_ValueError => refine' PySem.W.mg_none_of KX G ?a; (case a => k_is))
    (case cl_Coins => refine' ⟨?a, ?b, ?c, ?d⟩; (case a => k_is); (case b => k_is); (case c => k_is); (case d => k_is))
    (case mk_Coins => refine' ⟨?a, ?b⟩; (case a => k_is); (case b => k_is))
    (case na_Coins_fl__at => show PySem.W.findIn _ _ _ = _; k_is)
    (case na_Coins_fl__base => show PySem.W.findIn _ _ _ = _; k_is)
    (case na_Coins_fl__digits => show PySem.W.findIn _ _ _ = _; k_is)
    (case f_Coins_used => refine' DL.dpA_mk (fun _ _ _ _ _ _ us hl => match us, hl with | [_], _ => rfl) ?a ?g ?t ?r ?l ?c ?k; (case a => k_is); (case g => k_is); (case t => k_is); (case r => k_is); (case l => k_is); (case c => k_is); (case k => k_is))
    (case f_Coins_left => refine' DL.dpA_mk (fun _ _ _ _ _ _ us hl => match us, hl with | [_], _ => rfl) ?a ?g ?t ?r ?l ?c ?k; (case a => k_is); (case g => k_is); (case t => k_is); (case r => k_is); (case l => k_is); (case c => k_is); (case k => k_is))
    (case f_Coins_U_reprU_ => refine' DL.dmA_mk (fun _ _ _ _ _ _ us hl => match us, hl with | [_], _ => rfl) ?a ?n ?l ?c ?k; (case a => k_is); (case n => k_is); (case l => k_is); (case c => k_is); (case k => k_is))
    (case f_Coins_U_initU_ => refine' DL.dmA_mk (fun _ _ _ _ _ _ us hl => match us, hl with | [_, _, _], _ => rfl) ?a ?n ?l ?c ?k; (case a => k_is); (case n => k_is); (case l => k_is); (case c => k_is); (case k => k_is))
    (case f_Coins_noise => refine' DL.dmA_mk (fun _ _ _ _ _ _ us hl => match us, hl with | [_, _, _], _ => rfl) ?a ?n ?l ?c ?k; (case a => k_is); (case n => k_is); (case l => k_is); (case c => k_is); (case k => k_is))
    (case f_Coins_pour => refine' DL.dmA_mk (fun _ _ _ _ _ _ us hl => match us, hl with | [_, _], _ => rfl) ?a ?n ?l ?c ?k; (case a => k_is); (case n => k_is); (case l => k_is); (case c => k_is); (case k => k_is))
    (case e_BadBase => refine' DL.exm_mk1 bx_VE KX G ?aX ?xL ?iC ?lk ?lc ?lcc ?hbm ?sa ?exC ?tyC ?kC ?tI ?hcd ?v2 ?hfile ?top ?lcls ?mro ?sup ?isB ?opq ?sup0 ?n1 ?hcl ?ga ?gg ?hdC ?ha ?hn ?ht ?hm ?hev ?S ?hp ?hpar ?ks ?kc ?km ?hb ?hdb; (case aX => k_is); (case xL => k_is); (case iC => k_is); (case lk => k_is); (case lc => k_is); (case lcc => k_is); (case hbm => decide +kernel); (case sa => k_is); (case exC => k_is); (case tyC => k_is); (case kC => k_is); (case tI => k_is); (case hcd => k_is); (case v2 => rfl); (case hfile => decide +kernel); (case top => decide +kernel); (case lcls => k_is); (case mro => k_is); (case sup => ks_is); (case isB => k_is); (case opq => k_is); (case sup0 => k_is); (case n1 => k_is); (case hcl => k_is); (case ga => k_is); (case gg => k_is); (case hdC => k_is); (case ha => k_is); (case hn => k_is); (case ht => k_is); (case hm => k_is); (case hev => intro env; rfl); (case S => exact ⟨rfl, rfl, rfl, by decide +kernel, by decide +kernel, by decide +kernel, by decide +kernel⟩); (case hp => decide +kernel); (case hpar => exact ⟨_, rfl, rfl⟩); (case ks => decide +kernel); (case kc => decide +kernel); (case km => decide +kernel); (case hb => exact fun us hl => match us, hl with | [_, _], _ => rfl); (case hdb => decide +kernel))
    (case z_BadBase_value => k_is)
    (case e_BadNumber => refine' DL.exm_mk1 bx_VE KX G ?aX ?xL ?iC ?lk ?lc ?lcc ?hbm ?sa ?exC ?tyC ?kC ?tI ?hcd ?v2 ?hfile ?top ?lcls ?mro ?sup ?isB ?opq ?sup0 ?n1 ?hcl ?ga ?gg ?hdC ?ha ?hn ?ht ?hm ?hev ?S ?hp ?hpar ?ks ?kc ?km ?hb ?hdb; (case aX => k_is); (case xL => k_is); (case iC => k_is); (case lk => k_is); (case lc => k_is); (case lcc => k_is); (case hbm => decide +kernel); (case sa => k_is); (case exC => k_is); (case tyC => k_is); (case kC => k_is); (case tI => k_is); (case hcd => k_is); (case v2 => rfl); (case hfile => decide +kernel); (case top => decide +kernel); (case lcls => k_is); (case mro => k_is); (case sup => ks_is); (case isB => k_is); (case opq => k_is); (case sup0 => k_is); (case n1 => k_is); (case hcl => k_is); (case ga => k_is); (case gg => k_is); (case hdC => k_is); (case ha => k_is); (case hn => k_is); (case ht => k_is); (case hm => k_is); (case hev => intro env; rfl); (case S => exact ⟨rfl, rfl, rfl, by decide +kernel, by decide +kernel, by decide +kernel, by decide +kernel⟩); (case hp => decide +kernel); (case hpar => exact ⟨_, rfl, rfl⟩); (case ks => decide +kernel); (case kc => decide +kernel); (case km => decide +kernel); (case hb => exact fun us hl => match us, hl with | [_, _], _ => rfl); (case hdb => decide +kernel))
    (case z_BadNumber_value => k_is)
    (case e_Thirsty => refine' DL.exm_mk1 bx_LE KX G ?aX ?xL ?iC ?lk ?lc ?lcc ?hbm ?sa ?exC ?tyC ?kC ?tI ?hcd ?v2 ?hfile ?top ?lcls ?mro ?sup ?isB ?opq ?sup0 ?n1 ?hcl ?ga ?gg ?hdC ?ha ?hn ?ht ?hm ?hev ?S ?hp ?hpar ?ks ?kc ?km ?hb ?hdb; (case aX => k_is); (case xL => k_is); (case iC => k_is); (case lk => k_is); (case lc => k_is); (case lcc => k_is); (case hbm => decide +kernel); (case sa => k_is); (case exC => k_is); (case tyC => k_is); (case kC => k_is); (case tI => k_is); (case hcd => k_is); (case v2 => rfl); (case hfile => decide +kernel); (case top => decide +kernel); (case lcls => k_is); (case mro => k_is); (case sup => ks_is); (case isB => k_is); (case opq => k_is); (case sup0 => k_is); (case n1 => k_is); (case hcl => k_is); (case ga => k_is); (case gg => k_is); (case hdC => k_is); (case ha => k_is); (case hn => k_is); (case ht => k_is); (case hm => k_is); (case hev => intro env; rfl); (case S => exact ⟨rfl, rfl, rfl, by decide +kernel, by decide +kernel, by decide +kernel, by decide +kernel⟩); (case hp => decide +kernel); (case hpar => exact ⟨_, rfl, rfl⟩); (case ks => decide +kernel); (case kc => decide +kernel); (case km => decide +kernel); (case hb => exact fun us hl => match us, hl with | [_, _], _ => rfl); (case hdb => decide +kernel))
    (case z_Thirsty_many => k_is)
    (case k_BadBase_BadBase => refine' DL.kx_ref ?a ?b ?c ?d ?e; (case a => k_is); (case b => k_is); (case c => k_is); (case d => first | rfl | k_is); (case e => first | exact .inl rfl | exact .inr (by decide)))
    (case k_BadNumber_BadBase => refine' DL.kx_ref ?a ?b ?c ?d ?e; (case a => k_is); (case b => k_is); (case c => k_is); (case d => first | rfl | k_is); (case e => first | exact .inl rfl | exact .inr (by decide)))
    (case k_Thirsty_BadBase => refine' DL.kx_ref ?a ?b ?c ?d ?e; (case a => k_is); (case b => k_is); (case c => k_is); (case d => first | rfl | k_is); (case e => first | exact .inl rfl | exact .inr (by decide)))
    (case k_BadBase_BadNumber => refine' DL.kx_ref ?a ?b ?c ?d ?e; (case a => k_is); (case b => k_is); (case c => k_is); (case d => first | rfl | k_is); (case e => first | exact .inl rfl | exact .inr (by decide)))
    (case k_BadNumber_BadNumber => refine' DL.kx_ref ?a ?b ?c ?d ?e; (case a => k_is); (case b => k_is); (case c => k_is); (case d => first | rfl | k_is); (case e => first | exact .inl rfl | exact .inr (by decide)))
    (case k_Thirsty_BadNumber => refine' DL.kx_ref ?a ?b ?c ?d ?e; (case a => k_is); (case b => k_is); (case c => k_is); (case d => first | rfl | k_is); (case e => first | exact .inl rfl | exact .inr (by decide)))
    (case k_BadBase_GivenError => refine' DL.kx_ref ?a ?b ?c ?d ?e; (case a => k_is); (case b => k_is); (case c => k_is); (case d => first | rfl | k_is); (case e => first | exact .inl rfl | exact .inr (by decide)))
    (case k_BadNumber_GivenError => refine' DL.kx_ref ?a ?b ?c ?d ?e; (case a => k_is); (case b => k_is); (case c => k_is); (case d => first | rfl | k_is); (case e => first | exact .inl rfl | exact .inr (by decide)))
    (case k_Thirsty_GivenError => refine' DL.kx_ref ?a ?b ?c ?d ?e; (case a => k_is); (case b => k_is); (case c => k_is); (case d => first | rfl | k_is); (case e => first | exact .inl rfl | exact .inr (by decide)))
    (case k_BadBase_Missing => refine' DL.kx_ref ?a ?b ?c ?d ?e; (case a => k_is); (case b => k_is); (case c => k_is); (case d => first | rfl | k_is); (case e => first | exact .inl rfl | exact .inr (by decide)))
    (case k_BadNumber_Missing => refine' DL.kx_ref ?a ?b ?c ?d ?e; (case a => k_is); (case b => k_is); (case c => k_is); (case d => first | rfl | k_is); (case e => first | exact .inl rfl | exact .inr (by decide)))
    (case k_Thirsty_Missing => refine' DL.kx_ref ?a ?b ?c ?d ?e; (case a => k_is); (case b => k_is); (case c => k_is); (case d => first | rfl | k_is); (case e => first | exact .inl rfl | exact .inr (by decide)))
    (case k_BadBase_Thirsty => refine' DL.kx_ref ?a ?b ?c ?d ?e; (case a => k_is); (case b => k_is); (case c => k_is); (case d => first | rfl | k_is); (case e => first | exact .inl rfl | exact .inr (by decide)))
    (case k_BadNumber_Thirsty => refine' DL.kx_ref ?a ?b ?c ?d ?e; (case a => k_is); (case b => k_is); (case c => k_is); (case d => first | rfl | k_is); (case e => first | exact .inl rfl | exact .inr (by decide)))
    (case k_Thirsty_Thirsty => refine' DL.kx_ref ?a ?b ?c ?d ?e; (case a => k_is); (case b => k_is); (case c => k_is); (case d => first | rfl | k_is); (case e => first | exact .inl rfl | exact .inr (by decide)))
    (case k_BadBase_LookupError => refine' DL.kx_type ?a ?b ?c ?d; (case a => first | decide +kernel | rfl); (case b => k_is); (case c => k_is); (case d => first | decide | simp))
    (case k_BadNumber_LookupError => refine' DL.kx_type ?a ?b ?c ?d; (case a => first | decide +kernel | rfl); (case b => k_is); (case c => k_is); (case d => first | decide | simp))
    (case k_Thirsty_LookupError => refine' DL.kx_type ?a ?b ?c ?d; (case a => first | decide +kernel | rfl); (case b => k_is); (case c => k_is); (case d => first | decide | simp))
    (case k_BadBase_ValueError => refine' DL.kx_type ?a ?b ?c ?d; (case a => first | decide +kernel | rfl); (case b => k_is); (case c => k_is); (case d => first | decide | simp))
    (case k_BadNumber_ValueError => refine' DL.kx_type ?a ?b ?c ?d; (case a => first | decide +kernel | rfl); (case b => k_is); (case c => k_is); (case d => first | decide | simp))
    (case k_Thirsty_ValueError => refine' DL.kx_type ?a ?b ?c ?d; (case a => first | decide +kernel | rfl); (case b => k_is); (case c => k_is); (case d => first | decide | simp))
