import PyProof.Rows.All
import Wide.All
import OpenK.AllK
import Wide.FinOn
import HandS.ForExc
import HandS.Comp
import HandS.Text
import HandS.Dict
import HandS.Iter
import HandS.Deep
import HandS.AnyAll
import HandS.Lambda
import HandS.TryMany
import HandS.EndTab
import HandS.EndBits
import HandS.HeadWalk
import HandS.HeadHook4
import HandS.HeadHook3
import HandS.Head2
import HandS.GenOver
import HandS.TupAny
import HandS.TupMul
import HandS.RevTup
import HandS.Rev
import HandS.DictComp
import HandS.More
import HandS.Flow
import HandS.Style
import PyProof.GenCompD
import PyProof.SumAny
import HandS.Conv
import PyProof.ExcBaseAll.ValueError
import HandS.Head0
import HandS.Head1
import HandS.Words
import HandS.WordsExc
import Lean
import PySem.Challenge.RW_threadhall_k14_repeats
set_option Elab.async false
set_option linter.all false
set_option maxRecDepth 100000
set_option maxHeartbeats 4000000
/-! Layer A: data as trees, what a run gives, the world of a body, readings of codes. -/
namespace L2.Th
open PySem PySem.Spec PyProof.Rows

/-- data as trees; loc: a cell of the body's own store -/
inductive D where
  | non | bl (b : Bool) | int (i : Int) | str (x : Str)
  | tup (xs : List D) | lst (xs : List D) | dct (kvs : List (D × D)) | ins (c : Nat) (fs : List (Str × D))
  | dice | loc (n : Nat)

/-- an error: its class's number, its own field -/
structure Exn where
  c : Nat
  fld : Option (Str × Int) := none

/-- what a run gives -/
inductive Res (α : Type) where
  | ok (a : α) | exn (e : Exn) | stuck | roll (n : Int) (k : Int → Res α)
namespace Res
variable {α β : Type}
def bind : Res α → (α → Res β) → Res β
  | ok a, f => f a
  | exn e, _ => exn e
  | stuck, _ => stuck
  | roll n k, f => roll n fun r => (k r).bind f
instance : Monad Res where
  pure := ok
  bind := bind
@[simp] theorem ok_bind (a : α) (f : α → Res β) : (ok a >>= f) = f a := rfl
@[simp] theorem exn_bind (e : Exn) (f : α → Res β) : ((exn e : Res α) >>= f) = exn e := rfl
@[simp] theorem stuck_bind (f : α → Res β) : ((stuck : Res α) >>= f) = stuck := rfl
@[simp] theorem roll_bind (n : Int) (k : Int → Res α) (f : α → Res β) : (roll n k >>= f) = roll n fun r => k r >>= f := rfl
@[simp] theorem pure_eq (a : α) : (pure a : Res α) = ok a := rfl
/-- all that may come of it is as wished -/
def Sat (Q : α → Prop) (R : Exn → Prop) : Res α → Prop
  | ok a => Q a
  | exn e => R e
  | stuck => False
  | roll n k => 0 < n ∧ ∀ r, 0 ≤ r → r < n → (k r).Sat Q R
theorem Sat.mono {Q Q' : α → Prop} {R R' : Exn → Prop} (hQ : ∀ a, Q a → Q' a) (hR : ∀ e, R e → R' e) : ∀ {x : Res α}, x.Sat Q R → x.Sat Q' R'
  | ok _, h => hQ _ h
  | exn _, h => hR _ h
  | stuck, h => h
  | roll _ _, h => ⟨h.1, fun r h0 h1 => (h.2 r h0 h1).mono hQ hR⟩
theorem sat_bind {Q : β → Prop} {R : Exn → Prop} {f : α → Res β} : ∀ {x : Res α}, (x >>= f).Sat Q R → x.Sat (fun a => (f a).Sat Q R) R
  | ok _, h => h
  | exn _, h => h
  | stuck, h => h
  | roll _ _, h => ⟨h.1, fun r h0 h1 => sat_bind (h.2 r h0 h1)⟩
theorem sat_bind' {Q : β → Prop} {R : Exn → Prop} {f : α → Res β} : ∀ {x : Res α}, x.Sat (fun a => (f a).Sat Q R) R → (x >>= f).Sat Q R
  | ok _, h => h
  | exn _, h => h
  | stuck, h => h
  | roll _ _, h => ⟨h.1, fun r h0 h1 => sat_bind' (h.2 r h0 h1)⟩
theorem bind_assoc' {γ : Type} {f : α → Res β} {g : β → Res γ} : ∀ {x : Res α}, ((x >>= f) >>= g) = (x >>= fun a => f a >>= g)
  | ok _ => rfl
  | exn _ => rfl
  | stuck => rfl
  | roll n k => by
    show roll n _ = roll n _
    congr 1
    funext r
    exact bind_assoc'
end Res
/-- an option that must be there -/
def opt {α : Type} : Option α → Res α
  | some a => .ok a
  | none => .stuck
@[simp] theorem opt_some {α : Type} (a : α) : opt (some a) = .ok a := rfl
/-- a condition of the model (a size, a sign) -/
def need (b : Bool) : Res Unit := if b then .ok () else .stuck
@[simp] theorem need_true : need true = .ok () := rfl

/-- a die of the law: kept by what is true of its one list -/
def DiceOk (_ _ _ : Int) : Prop := True
def diceO (a : Addr) : HO := .ext fun h => ∃ (c n m : Int) (t1 t2 t3 : Tok) (k : Nat), DiceOk c n m ∧ h.get? a = some { cls := .type "list", data := .seq #[.int c t1, .int n t2, .int m t3] k }

/-- a key of a dict: an int, a text -/
def kD : Key → D
  | .inl i => .int i
  | .inr x => .str x

section
variable (K : PySem.W.Frag) (cl : Nat → Addr)
/-- the written part's own list, tuple -/
def KSqL (a : Addr) (xs : List V) : Prop := ∃ (o : Obj) (its : Array Value) (n : Nat), K.lookup a = some o ∧ o.cls = .type "list" ∧ o.dict = none ∧ o.data = .seq its n ∧ its.size ≤ sizeLine ∧ Vals xs its.toList
def KSqT (a : Addr) (xs : List V) : Prop := ∃ (o : Obj) (its : Array Value) (n : Nat), K.lookup a = some o ∧ o.cls = .type "tuple" ∧ o.data = .seq its n ∧ its.size ≤ sizeLine ∧ Vals xs its.toList
-- how a tree stands in the heap; M, ρ: what may still be written (the callers', the body's own cells)
mutual
inductive RelD (M : Addr → Prop) (ρ : List Addr) (H : Hp) : D → V → Prop where
  | non : RelD M ρ H .non .non
  | bl (b : Bool) : RelD M ρ H (.bl b) (.bl b)
  | int (i : Int) : RelD M ρ H (.int i) (.int i)
  | str (x : Str) : RelD M ρ H (.str x) (.str x)
  | tup {a : Addr} {xs : List D} {vs : List V} (hM : ¬ M a) (hρ : a ∉ ρ) (h : H a = some (.tup vs)) (r : RelDs M ρ H xs vs) : RelD M ρ H (.tup xs) (.ref a)
  | lst {a : Addr} {xs : List D} {vs : List V} (hM : ¬ M a) (hρ : a ∉ ρ) (h : H a = some (.lst vs)) (r : RelDs M ρ H xs vs) : RelD M ρ H (.lst xs) (.ref a)
  | tupK {a : Addr} {xs : List D} {vs : List V} (h : KSqT K a vs) (r : RelDs M ρ H xs vs) : RelD M ρ H (.tup xs) (.ref a)
  | dK {a : Addr} {xs : List (D × D)} {hs : List (Key × V)} (hM : ¬ M a) (hρ : a ∉ ρ) (h : H a = some (.dK hs)) (r : RelKs M ρ H xs hs) : RelD M ρ H (.dct xs) (.ref a)
  | ins {a dx : Addr} {c : Nat} {fs : List (Str × D)} {hs : List (Str × V)} (hM : ¬ M a) (hρ : a ∉ ρ) (h : H a = some (.ins (cl c) dx hs)) (r : RelFs M ρ H fs hs) : RelD M ρ H (.ins c fs) (.ref a)
  | dice {a : Addr} (h : H a = some (diceO a)) : RelD M ρ H .dice (.ref a)
  | loc {a : Addr} {n : Nat} (h : ρ[n]? = some a) : RelD M ρ H (.loc n) (.ref a)
inductive RelDs (M : Addr → Prop) (ρ : List Addr) (H : Hp) : List D → List V → Prop where
  | nil : RelDs M ρ H [] []
  | cons {d : D} {v : V} {ds : List D} {vs : List V} (h : RelD M ρ H d v) (r : RelDs M ρ H ds vs) : RelDs M ρ H (d :: ds) (v :: vs)
inductive RelKs (M : Addr → Prop) (ρ : List Addr) (H : Hp) : List (D × D) → List (Key × V) → Prop where
  | nil : RelKs M ρ H [] []
  | cons {k : Key} {d : D} {v : V} {ds : List (D × D)} {vs : List (Key × V)} (h : RelD M ρ H d v) (r : RelKs M ρ H ds vs) : RelKs M ρ H ((kD k, d) :: ds) ((k, v) :: vs)
inductive RelFs (M : Addr → Prop) (ρ : List Addr) (H : Hp) : List (Str × D) → List (Str × V) → Prop where
  | nil : RelFs M ρ H [] []
  | cons {k : Str} {d : D} {v : V} {ds : List (Str × D)} {vs : List (Str × V)} (h : RelD M ρ H d v) (r : RelFs M ρ H ds vs) : RelFs M ρ H ((k, d) :: ds) ((k, v) :: vs)
end
end

section
variable {K : PySem.W.Frag} {cl : Nat → Addr} {M M' : Addr → Prop} {ρ ρ' : List Addr} {H H' : Hp}
/-- what stays when the heap goes on -/
structure Keep (M M' : Addr → Prop) (ρ ρ' : List Addr) (H H' : Hp) : Prop where
  obj : ∀ b o, H b = some o → ¬ M b → b ∉ ρ → (∀ ps, o ≠ .tbl ps) → H' b = some o ∧ ¬ M' b ∧ b ∉ ρ'
  dice : ∀ b, H b = some (diceO b) → H' b = some (diceO b)
  loc : ∀ (n : Nat) a, ρ[n]? = some a → ρ'[n]? = some a
mutual
theorem RelD.keep (k : Keep M M' ρ ρ' H H') : ∀ {d : D} {v : V}, RelD K cl M ρ H d v → RelD K cl M' ρ' H' d v
  | _, _, .non => .non
  | _, _, .bl b => .bl b
  | _, _, .int i => .int i
  | _, _, .str x => .str x
  | _, _, .tup hM hρ h r => let ⟨a, b, c⟩ := k.obj _ _ h hM hρ (fun _ z => (nomatch z)); .tup b c a (RelDs.keep k r)
  | _, _, .lst hM hρ h r => let ⟨a, b, c⟩ := k.obj _ _ h hM hρ (fun _ z => (nomatch z)); .lst b c a (RelDs.keep k r)
  | _, _, .tupK h r => .tupK h (RelDs.keep k r)
  | _, _, .dK hM hρ h r => let ⟨a, b, c⟩ := k.obj _ _ h hM hρ (fun _ z => (nomatch z)); .dK b c a (RelKs.keep k r)
  | _, _, .ins hM hρ h r => let ⟨a, b, c⟩ := k.obj _ _ h hM hρ (fun _ z => (nomatch z)); .ins b c a (RelFs.keep k r)
  | _, _, .dice h => .dice (k.dice _ h)
  | _, _, .loc h => .loc (k.loc _ _ h)
theorem RelDs.keep (k : Keep M M' ρ ρ' H H') : ∀ {d : List D} {v : List V}, RelDs K cl M ρ H d v → RelDs K cl M' ρ' H' d v
  | _, _, .nil => .nil
  | _, _, .cons h r => .cons (RelD.keep k h) (RelDs.keep k r)
theorem RelKs.keep (k : Keep M M' ρ ρ' H H') : ∀ {d : List (D × D)} {v : List (Key × V)}, RelKs K cl M ρ H d v → RelKs K cl M' ρ' H' d v
  | _, _, .nil => .nil
  | _, _, .cons h r => .cons (RelD.keep k h) (RelKs.keep k r)
theorem RelFs.keep (k : Keep M M' ρ ρ' H H') : ∀ {d : List (Str × D)} {v : List (Str × V)}, RelFs K cl M ρ H d v → RelFs K cl M' ρ' H' d v
  | _, _, .nil => .nil
  | _, _, .cons h r => .cons (RelD.keep k h) (RelFs.keep k r)
end
end

/-! ### the world of a body -/
/-- a cell of a body's store -/
inductive Cell where
  | lst (xs : List D) | dct (kvs : List (D × D)) | ins (c : Nat) (fs : List (Str × D))
abbrev Store := List Cell
abbrev Env := List (Option D)
abbrev Code := Env → Store → Res D
/-- what of the text is told by numbers: the classes, the tables of lambdas, of generators -/
structure Gx where
  cl : Nat → Addr
  tl : List (Addr × Str)
  tg : List Addr
def TabsOk (Γ : Gx) (H : Hp) : Prop := LamX.Tabs Γ.tl H ∧ ∀ P ∈ Γ.tg, GxR.TabG H P
section
variable (K : PySem.W.Frag) (Γ : Gx)
def CellOk (M : Addr → Prop) (ρ : List Addr) (H : Hp) : Cell → Addr → Prop
  | .lst xs, a => ∃ vs, H a = some (.lst vs) ∧ RelDs K Γ.cl M ρ H xs vs
  | .dct kvs, a => ∃ hs, H a = some (.dK hs) ∧ RelKs K Γ.cl M ρ H kvs hs
  | .ins c fs, a => ∃ dx hs, H a = some (.ins (Γ.cl c) dx hs) ∧ RelFs K Γ.cl M ρ H fs hs
def IsCellO (o : HO) : Prop := (∃ vs, o = .lst vs) ∨ (∃ hs, o = .dK hs) ∨ ∃ C dx fs, o = .ins C dx fs
structure Wld (M : Addr → Prop) (ρ : List Addr) (S : Store) (H : Hp) : Prop where
  m : ∀ a, M a → ∃ o, H a = some o ∧ IsCellO o
  tabs : TabsOk Γ H
  nd : ρ.Nodup
  dj : ∀ a ∈ ρ, ¬ M a
  len : S.length = ρ.length
  cells : ∀ (n : Nat) c a, S[n]? = some c → ρ[n]? = some a → CellOk K Γ M ρ H c a
def RelE (M : Addr → Prop) (ρ : List Addr) (H : Hp) (env : Env) (σ : St) : Prop :=
  ∀ (i : Nat) d, env[i]? = some (some d) → ∃ v, σ[i]? = some (some v) ∧ RelD K Γ.cl M ρ H d v
structure At (M : Addr → Prop) (ρ : List Addr) (env : Env) (S : Store) (σ : St) (H : Hp) : Prop where
  w : Wld K Γ M ρ S H
  e : RelE K Γ M ρ H env σ
  l : env.length = σ.length
/-- an error's class, its own dict -/
def RelX (H : Hp) (e : Exn) (cls : Value) (dx : Option Addr) : Prop :=
  cls = .ref (Γ.cl e.c) ∧ match e.fld with
    | none => dx = none
    | some (f, n) => ∃ d, dx = some d ∧ H d = some (.xd [(f, .int n)])
def XW (W : WX) (σ : St) (H : Hp) (e : Exn) : Prop := ∀ cls dx H', LamX.ExtN H H' → TabsOk Γ H' → RelX Γ H' e cls dx → W cls dx σ H'
/-- the reading of a code -/
def tE (W : WX) (c : Code) : TE := fun σ H Q => ∃ M ρ env S, At K Γ M ρ env S σ H ∧
  (c env S).Sat (fun d => ∀ v H', LamX.ExtN H H' → TabsOk Γ H' → RelD K Γ.cl M ρ H' d v → Q v H') (XW Γ W σ H)
end
section
variable {K : PySem.W.Frag} {Γ : Gx} {M : Addr → Prop} {ρ : List Addr} {S : Store} {H H1 H' : Hp} {env : Env} {σ : St} {W : WX}
theorem nd_ext {a : Addr} {o : HO} (h : o = diceO a) (ho : (match o with | .ext _ => True | _ => False) → False := by exact fun z => z) : False := by
  subst h
  exact ho trivial
theorem cell_some {c : Cell} {a : Addr} (h : CellOk K Γ M ρ H c a) : ∃ o, H a = some o ∧ IsCellO o := by
  cases c with
  | lst xs => obtain ⟨vs, e, _⟩ := h; exact ⟨_, e, .inl ⟨_, rfl⟩⟩
  | dct xs => obtain ⟨vs, e, _⟩ := h; exact ⟨_, e, .inr (.inl ⟨_, rfl⟩)⟩
  | ins c xs => obtain ⟨dx, vs, e, _⟩ := h; exact ⟨_, e, .inr (.inr ⟨_, _, _, rfl⟩)⟩
theorem IsCellO.ntb {o : HO} (h : IsCellO o) : ∀ ps, o ≠ .tbl ps := fun ps z => by
  subst z
  rcases h with ⟨_, e⟩ | ⟨_, e⟩ | ⟨_, _, _, e⟩ <;> cases e
theorem IsCellO.nd {o : HO} {a : Addr} (h : IsCellO o) : o ≠ diceO a := fun z => by
  subst z
  rcases h with ⟨_, e⟩ | ⟨_, e⟩ | ⟨_, _, _, e⟩ <;> cases e
theorem IsCellO.ntup {o : HO} (h : IsCellO o) : ∀ vs, o ≠ .tup vs := fun vs z => by
  subst z
  rcases h with ⟨_, e⟩ | ⟨_, e⟩ | ⟨_, _, _, e⟩ <;> cases e
theorem Wld.at (w : Wld K Γ M ρ S H) {a : Addr} (h : a ∈ ρ) : ∃ o, H a = some o ∧ IsCellO o := by
  obtain ⟨n, hn, e⟩ := List.getElem_of_mem h
  have hs : n < S.length := by rw [w.len]; exact hn
  exact cell_some (w.cells n S[n] a (List.getElem?_eq_getElem hs) (by rw [List.getElem?_eq_getElem hn, e]))
theorem ext_keep (x : LamX.ExtN H H') : Keep M M ρ ρ H H' :=
  ⟨fun b o e hM hρ hn => ⟨x b o e hn, hM, hρ⟩, fun b e => x b _ e (fun _ z => (nomatch z)), fun _ _ e => e⟩
theorem Wld.ext (w : Wld K Γ M ρ S H) (x : LamX.ExtN H H') (t : TabsOk Γ H') : Wld K Γ M ρ S H' where
  m := fun a h => let ⟨o, e, n⟩ := w.m a h; ⟨o, x a o e n.ntb, n⟩
  tabs := t
  nd := w.nd
  dj := w.dj
  len := w.len
  cells := fun n c a e1 e2 => by
    have h := w.cells n c a e1 e2
    cases c with
    | lst xs => obtain ⟨vs, e, r⟩ := h; exact ⟨vs, x _ _ e (fun _ z => (nomatch z)), r.keep (ext_keep x)⟩
    | dct xs => obtain ⟨vs, e, r⟩ := h; exact ⟨vs, x _ _ e (fun _ z => (nomatch z)), r.keep (ext_keep x)⟩
    | ins c xs => obtain ⟨dx, vs, e, r⟩ := h; exact ⟨dx, vs, x _ _ e (fun _ z => (nomatch z)), r.keep (ext_keep x)⟩
theorem RelE.ext (h : RelE K Γ M ρ H env σ) (x : LamX.ExtN H H') : RelE K Γ M ρ H' env σ := fun i d e =>
  let ⟨v, a, b⟩ := h i d e; ⟨v, a, b.keep (ext_keep x)⟩
theorem At.ext (a : At K Γ M ρ env S σ H) (x : LamX.ExtN H H') (t : TabsOk Γ H') : At K Γ M ρ env S σ H' := ⟨a.w.ext x t, a.e.ext x, a.l⟩
theorem XW.ext {e : Exn} (h : XW Γ W σ H e) (x : LamX.ExtN H H') : XW Γ W σ H' e := fun cls dx H2 x2 t r => h cls dx H2 (x.trans x2) t r
theorem ext_new {o : HO} {p : Addr} (hp : H p = none) : LamX.ExtN H (upd H p o) := fun b u e _ => by
  rw [upd_ne (ne_of_none e hp)]; exact e
theorem tabs_new {o : HO} {p : Addr} (t : TabsOk Γ H) (hp : H p = none) : TabsOk Γ (upd H p o) := by
  have hx : ∀ b u, H b = some u → upd H p o b = some u := fun b u e => by rw [upd_ne (ne_of_none e hp)]; exact e
  refine ⟨t.1.ext hx, fun P hP => ?_⟩
  obtain ⟨ps, h1, h2⟩ := t.2 P hP
  exact ⟨ps, hx _ _ h1, h2⟩
/-- a new object is none of those that may be written -/
theorem Wld.new (w : Wld K Γ M ρ S H) {p : Addr} (hp : H p = none) : ¬ M p ∧ p ∉ ρ :=
  ⟨fun h => (by obtain ⟨o, e, _⟩ := w.m p h; rw [hp] at e; cases e), fun h => (by obtain ⟨o, e, _⟩ := w.at h; rw [hp] at e; cases e)⟩
/-- one code, then the rest -/
theorem tE_step {c : Code} {P : D → Prop} {Q : VK} (a : At K Γ M ρ env S σ H) (h : (c env S).Sat P (XW Γ W σ H))
    (hk : ∀ d v H', P d → LamX.ExtN H H' → TabsOk Γ H' → At K Γ M ρ env S σ H' → RelD K Γ.cl M ρ H' d v → Q v H') : tE K Γ W c σ H Q :=
  ⟨M, ρ, env, S, a, h.mono (fun d p v H' x t r => hk d v H' p x t (a.ext x t) r) fun _ z => z⟩
theorem sat_ext {α : Type} {x : Res α} {P : α → Prop} (h : x.Sat P (XW Γ W σ H)) (e : LamX.ExtN H H') : x.Sat P (XW Γ W σ H') := h.mono (fun _ z => z) fun _ z => z.ext e
end

/-! ### readings of expressions -/
abbrev PEc (X : Cx) (Γ : Gx) (W : WX) (e : Expr) (c : Code) : Prop := PE X e (tE X.K Γ W c)
theorem pe_of {X : Cx} {e : Expr} {t t' : TE} (h : PE X e t) (w : ∀ σ H Q, t' σ H Q → t σ H Q) : PE X e t' := ⟨fun pins s σ H Q I h' => h.run pins s σ H Q I (w _ _ _ h')⟩
theorem pt_of {X : Cx} {e : Expr} {t t' : TT} (h : PT X e t) (w : ∀ σ H Q, t' σ H Q → t σ H Q) : PT X e t' := ⟨fun pins s σ H Q I h' => h.run pins s σ H Q I (w _ _ _ h')⟩
section
variable {X : Cx} {Γ : Gx} {W : WX} {pos : Pos}
def cK (d : D) : Code := fun _ _ => .ok d
def cVar (i : Nat) : Code := fun env _ => match env[i]? with
  | some (some d) => .ok d
  | _ => .stuck
theorem pc_var {i : Nat} {x : Str} (hN : X.N[i]? = some x) (hv : Vis X.env.scope x) (hd : (x == ("__debug__" : Str)) = false := by decide) (hcd : (x == ("__classdict__" : Str)) = false := by decide) : PEc X Γ W (.Name x pos) (cVar i) :=
  pe_of (pe_var hN hv hd hcd) fun σ H Q ⟨M, ρ, env, S, a, h⟩ => by
    unfold cVar at h
    split at h
    · rename_i d e
      obtain ⟨v, e1, r⟩ := a.e i d e
      exact ⟨v, e1, h v H (LamX.ExtN.refl H) a.w.tabs r⟩
    · exact h.elim
theorem pc_int {i j} : PEc X Γ W (.Constant (.int i) j pos) (cK (.int i)) :=
  pe_of pe_int fun σ H Q ⟨M, ρ, env, S, a, h⟩ => h _ H (LamX.ExtN.refl H) a.w.tabs (.int i)
theorem pc_bl {b j} : PEc X Γ W (.Constant (.bool b) j pos) (cK (.bl b)) :=
  pe_of pe_bl fun σ H Q ⟨M, ρ, env, S, a, h⟩ => h _ H (LamX.ExtN.refl H) a.w.tabs (.bl b)
theorem pc_non {j} : PEc X Γ W (.Constant .none j pos) (cK .non) :=
  pe_of pe_non fun σ H Q ⟨M, ρ, env, S, a, h⟩ => h _ H (LamX.ExtN.refl H) a.w.tabs .non
theorem pc_str {x j} : PEc X Γ W (.Constant (.str x) j pos) (cK (.str x)) :=
  pe_of pe_str fun σ H Q ⟨M, ρ, env, S, a, h⟩ => h _ H (LamX.ExtN.refl H) a.w.tabs (.str x)

/-! operators by values -/
abbrev Op1 := Store → D → Res D
abbrev Op2 := Store → D → D → Res D
def rOp2 (K : PySem.W.Frag) (Γ : Gx) (op : Op2) : R2 := fun x y H Q => ∃ M ρ S dx dy, Wld K Γ M ρ S H ∧ RelD K Γ.cl M ρ H dx x ∧ RelD K Γ.cl M ρ H dy y ∧
  (op S dx dy).Sat (fun d => ∀ v H', LamX.ExtN H H' → TabsOk Γ H' → RelD K Γ.cl M ρ H' d v → Q v H') fun _ => False
def cOp2 (op : Op2) (a b : Code) : Code := fun env S => do
  let x ← a env S
  let y ← b env S
  op S x y
theorem tE_op2 {op : Op2} (hop : ∀ S x y (Q : D → Prop) (R : Exn → Prop), (op S x y).Sat Q R → (op S x y).Sat Q fun _ => False) {ca cb : Code} {K : PySem.W.Frag} {σ : St} {H : Hp} {Q : VK} (h : tE K Γ W (cOp2 op ca cb) σ H Q) :
    tOp (rOp2 K Γ op) (tE K Γ W ca) (tE K Γ W cb) σ H Q := by
  obtain ⟨M, ρ, env, S, a, h⟩ := h
  refine tE_step a (Res.sat_bind h) fun dx x H1 hx e1 t1 a1 rx => ?_
  refine tE_step a1 (sat_ext (Res.sat_bind hx) e1) fun dy y H2 hy e2 t2 a2 ry => ?_
  refine ⟨M, ρ, S, dx, dy, a2.w, rx.keep (ext_keep e2), ry, ?_⟩
  exact hop _ _ _ _ _ (hy.mono (fun d p v H' e t r => p v H' (e1.trans (e2.trans e)) t r) fun _ z => z)
end
end L2.Th

set_option Elab.async false
set_option linter.all false
set_option maxRecDepth 100000
set_option maxHeartbeats 4000000
/-! Layer B: operators, comparisons, sequences by values. -/
namespace L2.Th
open PySem PySem.Spec PyProof.Rows
/-- a cell of the store read as a tree -/
def deref (S : Store) : D → D
  | .loc n => match S[n]? with
    | some (.lst xs) => .lst xs
    | some (.dct xs) => .dct xs
    | some (.ins c fs) => .ins c fs
    | none => .loc n
  | d => d
def asLst (S : Store) (d : D) : Option (List D) := match deref S d with
  | .lst xs => some xs
  | _ => none
def asTup : D → Option (List D)
  | .tup xs => some xs
  | _ => none
def asSeq (S : Store) (d : D) : Option (List D) := match deref S d with
  | .lst xs => some xs
  | .tup xs => some xs
  | _ => none
section
variable {K : PySem.W.Frag} {Γ : Gx} {M : Addr → Prop} {ρ : List Addr} {S : Store} {H : Hp}
theorem RelDs.length {xs : List D} {vs : List V} (r : RelDs K Γ.cl M ρ H xs vs) : xs.length = vs.length := by
  induction xs generalizing vs with
  | nil => cases r; rfl
  | cons x xs ih => cases r with | cons h r => rw [List.length_cons, List.length_cons, ih r]
theorem RelDs.get : ∀ {xs : List D} {vs : List V} {i : Nat} {d : D}, RelDs K Γ.cl M ρ H xs vs → xs[i]? = some d → ∃ v, vs[i]? = some v ∧ RelD K Γ.cl M ρ H d v
  | _, _, _, _, .nil, e => by simp at e
  | _, _, 0, _, .cons h r, e => by simp at e; subst e; exact ⟨_, rfl, h⟩
  | _, _, i + 1, _, .cons h r, e => by
    obtain ⟨v, a, b⟩ := RelDs.get (i := i) r (by simpa using e)
    exact ⟨v, by simpa using a, b⟩
theorem RelDs.append {xs ys : List D} {vs us : List V} (r : RelDs K Γ.cl M ρ H xs vs) (q : RelDs K Γ.cl M ρ H ys us) : RelDs K Γ.cl M ρ H (xs ++ ys) (vs ++ us) := by
  induction xs generalizing vs with
  | nil => cases r; exact q
  | cons x xs ih => cases r with | cons h r => exact .cons h (ih r)
theorem RelDs.drop : ∀ (n : Nat) {xs : List D} {vs : List V}, RelDs K Γ.cl M ρ H xs vs → RelDs K Γ.cl M ρ H (xs.drop n) (vs.drop n)
  | 0, _, _, r => r
  | _ + 1, _, _, .nil => .nil
  | n + 1, _, _, .cons _ r => RelDs.drop n r
theorem RelDs.take : ∀ (n : Nat) {xs : List D} {vs : List V}, RelDs K Γ.cl M ρ H xs vs → RelDs K Γ.cl M ρ H (xs.take n) (vs.take n)
  | 0, _, _, _ => .nil
  | _ + 1, _, _, .nil => .nil
  | n + 1, _, _, .cons h r => .cons h (RelDs.take n r)
theorem RelDs.set {d : D} {v : V} (h : RelD K Γ.cl M ρ H d v) : ∀ (n : Nat) {xs : List D} {vs : List V}, RelDs K Γ.cl M ρ H xs vs → RelDs K Γ.cl M ρ H (xs.set n d) (vs.set n v)
  | _, _, _, .nil => .nil
  | 0, _, _, .cons _ r => .cons h r
  | n + 1, _, _, .cons h' r => .cons h' (RelDs.set h n r)
theorem RelDs.reverse {xs : List D} {vs : List V} (r : RelDs K Γ.cl M ρ H xs vs) : RelDs K Γ.cl M ρ H xs.reverse vs.reverse := by
  induction xs generalizing vs with
  | nil => cases r; exact .nil
  | cons x xs ih => cases r with | cons h r => rw [List.reverse_cons, List.reverse_cons]; exact (ih r).append (.cons h .nil)
theorem RelDs.rep {xs : List D} {vs : List V} (r : RelDs K Γ.cl M ρ H xs vs) : ∀ n : Nat, RelDs K Γ.cl M ρ H (List.replicate n xs).flatten (List.replicate n vs).flatten
  | 0 => .nil
  | n + 1 => by rw [List.replicate_succ, List.replicate_succ, List.flatten_cons, List.flatten_cons]; exact r.append (RelDs.rep r n)
/-- what a dereferenced tree is -/
theorem deref_lst (w : Wld K Γ M ρ S H) {d : D} {v : V} {xs : List D} (r : RelD K Γ.cl M ρ H d v) (e : deref S d = .lst xs) : ∃ a vs, v = .ref a ∧ H a = some (.lst vs) ∧ RelDs K Γ.cl M ρ H xs vs := by
  cases r <;> (try (simp [deref] at e; done))
  case lst hM hρ h r =>
    cases (show D.lst _ = D.lst _ from e)
    exact ⟨_, _, rfl, h, r⟩
  case loc a n h =>
    unfold deref at e
    cases q : S[n]? with
    | none => simp [q] at e
    | some c =>
      cases c with
      | lst ys =>
        simp [q] at e; subst e
        obtain ⟨vs, h1, h2⟩ := w.cells n _ a q h
        exact ⟨a, vs, rfl, h1, h2⟩
      | dct _ => simp [q] at e
      | ins _ _ => simp [q] at e
theorem deref_tup {d : D} {v : V} {xs : List D} (r : RelD K Γ.cl M ρ H d v) (e : deref S d = .tup xs) : ∃ a vs, v = .ref a ∧ SqT K H a vs ∧ RelDs K Γ.cl M ρ H xs vs := by
  cases r <;> (try (simp [deref] at e; done))
  case tup hM hρ h r =>
    cases (show D.tup _ = D.tup _ from e)
    exact ⟨_, _, rfl, .of h, r⟩
  case tupK h r =>
    cases (show D.tup _ = D.tup _ from e)
    exact ⟨_, _, rfl, .inr h, r⟩
  case loc a n h =>
    unfold deref at e
    cases q : S[n]? with
    | none => simp [q] at e
    | some c => cases c <;> simp [q] at e
theorem asLst_rel (w : Wld K Γ M ρ S H) {d : D} {v : V} {xs : List D} (r : RelD K Γ.cl M ρ H d v) (e : asLst S d = some xs) : ∃ a vs, v = .ref a ∧ H a = some (.lst vs) ∧ RelDs K Γ.cl M ρ H xs vs := by
  unfold asLst at e
  split at e
  · rename_i ys q
    cases e
    exact deref_lst w r q
  · cases e
theorem asTup_rel {d : D} {v : V} {xs : List D} (r : RelD K Γ.cl M ρ H d v) (e : asTup d = some xs) : ∃ a vs, v = .ref a ∧ SqT K H a vs ∧ RelDs K Γ.cl M ρ H xs vs := by
  cases d <;> (try (simp [asTup] at e; done))
  cases (show some _ = some _ from e)
  exact deref_tup (S := []) r rfl
theorem asSeq_rel (w : Wld K Γ M ρ S H) {d : D} {v : V} {xs : List D} (r : RelD K Γ.cl M ρ H d v) (e : asSeq S d = some xs) : ∃ a vs, v = .ref a ∧ (SqL K H a vs ∨ SqT K H a vs) ∧ RelDs K Γ.cl M ρ H xs vs := by
  unfold asSeq at e
  split at e
  · rename_i ys q
    cases e
    obtain ⟨a, vs, e1, h1, h2⟩ := deref_lst w r q
    exact ⟨a, vs, e1, .inl (.of h1), h2⟩
  · rename_i ys q
    cases e
    obtain ⟨a, vs, e1, h1, h2⟩ := deref_tup r q
    exact ⟨a, vs, e1, .inr h1, h2⟩
  · cases e
theorem Rd_lst_len {X : Cx} {pins : List (Addr × Obj)} {σ : L2.St} {s : Shared} {a : Addr} {vs : List V} (I : Inv X pins σ H s) (h : H a = some (.lst vs)) : vs.length ≤ sizeLine := (I.hok a _ h).1
end

/-! ### data that is compared -/
mutual
def pd : D → PyData
  | .non => .none
  | .bl b => .bool b
  | .int i => .int i
  | .str x => .str x
  | .tup xs => .tuple (pds xs)
  | .lst xs => .list (pds xs)
  | .dct _ => .none
  | .ins _ _ => .none
  | .dice => .none
  | .loc _ => .none
def pds : List D → List PyData
  | [] => []
  | d :: ds => pd d :: pds ds
end
/-- data of a depth below n that may be compared -/
def lay : Nat → D → Bool
  | 0, _ => false
  | _ + 1, .non => true
  | _ + 1, .bl _ => true
  | _ + 1, .int _ => true
  | _ + 1, .str x => PyData.strOk x
  | n + 1, .tup xs => xs.all (lay n)
  | n + 1, .lst xs => xs.all (lay n)
  | _, _ => false
mutual
def eqD : D → D → Bool
  | .non, .non => true
  | .bl a, .bl b => a == b
  | .bl a, .int j => (if a then 1 else 0) == j
  | .int i, .bl b => i == (if b then 1 else 0)
  | .int i, .int j => i == j
  | .str x, .str y => x == y
  | .lst xs, .lst ys => eqDs xs ys
  | .tup xs, .tup ys => eqDs xs ys
  | _, _ => false
def eqDs : List D → List D → Bool
  | [], [] => true
  | x :: xs, y :: ys => eqD x y && eqDs xs ys
  | _, _ => false
end
mutual
theorem eqD_pd : ∀ (n : Nat) (d e : D), lay n d = true → lay n e = true → PyData.eqv (pd d) (pd e) = eqD d e
  | 0, _, _, h, _ => by simp [lay] at h
  | n + 1, d, e, h, h' => by
    cases d <;> cases e <;> first
      | (exfalso; simp [lay] at h; done)
      | (exfalso; simp [lay] at h'; done)
      | (simp only [pd, PyData.eqv, eqD]; done)
      | (simp only [pd, PyData.eqv, eqD]; simp only [lay] at h h'; exact eqDs_pd n _ _ h h')
theorem eqDs_pd : ∀ (n : Nat) (d e : List D), d.all (lay n) = true → e.all (lay n) = true → PyData.eqvAll (pds d) (pds e) = eqDs d e
  | _, [], [], _, _ => by simp [pds, PyData.eqvAll, eqDs]
  | _, [], _ :: _, _, _ => by simp [pds, PyData.eqvAll, eqDs]
  | _, _ :: _, [], _, _ => by simp [pds, PyData.eqvAll, eqDs]
  | n, x :: xs, y :: ys, h, h' => by
    rw [List.all_cons, Bool.and_eq_true] at h h'
    simp only [pds, PyData.eqvAll, eqDs]
    rw [eqD_pd n x y h.1 h'.1, eqDs_pd n xs ys h.2 h'.2]
end
mutual
theorem lay_pd : ∀ (n : Nat) (d : D), lay n d = true → (pd d).canLay0 = true ∧ (pd d).depth ≤ n
  | 0, _, h => by simp [lay] at h
  | n + 1, d, h => by
    cases d <;> first
      | (exfalso; simp [lay] at h; done)
      | (simp only [lay] at h; have k := lay_pds n _ h; simp only [pd, PyData.canLay0, PyData.depth]; exact ⟨k.1, by omega⟩)
      | (simp only [lay] at h; simp only [pd, PyData.canLay0, PyData.depth]; exact ⟨h, Nat.zero_le _⟩)
      | (simp only [pd, PyData.canLay0, PyData.depth]; exact ⟨trivial, Nat.zero_le _⟩)
theorem lay_pds : ∀ (n : Nat) (d : List D), d.all (lay n) = true → PyData.canLayAll0 (pds d) = true ∧ PyData.depthAll (pds d) ≤ n
  | n, [], _ => ⟨by simp [pds, PyData.canLayAll0], by simp [pds, PyData.depthAll]⟩
  | n, x :: xs, h => by
    rw [List.all_cons, Bool.and_eq_true] at h
    have a := lay_pd n x h.1
    have b := lay_pds n xs h.2
    simp only [pds, PyData.canLayAll0, PyData.depthAll]
    exact ⟨by rw [a.1, b.1]; rfl, by omega⟩
end
theorem lay_shaped {d : D} (h : lay 60 d = true) : SeqAt.shaped (pd d) = true := by
  have k := lay_pd 60 d h
  show ((pd d).canLay0 && decide ((pd d).depth ≤ 64)) = true
  rw [Bool.and_eq_true]
  exact ⟨k.1, decide_eq_true (by omega)⟩
section
variable {K : PySem.W.Frag} {Γ : Gx} {M : Addr → Prop} {ρ : List Addr} {S : Store} {H : Hp}
mutual
theorem dp_of : ∀ (n : Nat) {d : D} {v : V}, lay n d = true → RelD K Γ.cl M ρ H d v → Dp K H v (pd d)
  | 0, _, _, h, _ => by simp [lay] at h
  | _ + 1, _, _, _, .non => by simp only [pd]; exact .non
  | _ + 1, _, _, _, .bl b => by simp only [pd]; exact .bl b
  | _ + 1, _, _, _, .int i => by simp only [pd]; exact .int i
  | _ + 1, _, _, _, .str x => by simp only [pd]; exact .str x
  | n + 1, _, _, h, .tup _ _ e r => by simp only [pd]; exact .tup (.of e) (dps_of n (by simpa only [lay] using h) r)
  | n + 1, _, _, h, .lst _ _ e r => by simp only [pd]; exact .lst (.of e) (dps_of n (by simpa only [lay] using h) r)
  | n + 1, _, _, h, .tupK e r => by simp only [pd]; exact .tup (.inr e) (dps_of n (by simpa only [lay] using h) r)
  | n + 1, _, _, h, .dK .. => by simp [lay] at h
  | n + 1, _, _, h, .ins .. => by simp [lay] at h
  | n + 1, _, _, h, .dice .. => by simp [lay] at h
  | n + 1, _, _, h, .loc .. => by simp [lay] at h
theorem dps_of : ∀ (n : Nat) {d : List D} {v : List V}, d.all (lay n) = true → RelDs K Γ.cl M ρ H d v → DpAll K H v (pds d)
  | _, _, _, _, .nil => by simp only [pds]; exact .nil
  | n, _, _, h, .cons a r => by
    rw [List.all_cons, Bool.and_eq_true] at h
    simp only [pds]
    exact .cons (dp_of n h.1 a) (dps_of n h.2 r)
end
theorem dp_deref (w : Wld K Γ M ρ S H) {d : D} {v : V} (h : lay 60 (deref S d) = true) (r : RelD K Γ.cl M ρ H d v) : Dp K H v (pd (deref S d)) := by
  cases d <;> try (exact dp_of 60 h r)
  case loc n =>
    cases q : S[n]? with
    | none =>
      have e : deref S (.loc n) = .loc n := by simp [deref, q]
      rw [e] at h
      simp [lay] at h
    | some c =>
      cases c with
      | lst xs =>
        have e : deref S (.loc n) = .lst xs := by simp [deref, q]
        obtain ⟨a, vs, rfl, h1, h2⟩ := deref_lst w r e
        rw [e] at h ⊢
        simp only [pd]
        exact .lst (.of h1) (dps_of 59 (by simpa only [lay] using h) h2)
      | dct xs =>
        have e : deref S (.loc n) = .dct xs := by simp [deref, q]
        rw [e] at h
        simp [lay] at h
      | ins c xs =>
        have e : deref S (.loc n) = .ins c xs := by simp [deref, q]
        rw [e] at h
        simp [lay] at h
end
end L2.Th

set_option Elab.async false
set_option linter.all false
set_option maxRecDepth 100000
set_option maxHeartbeats 4000000
/-! Layer C: operators by values. -/
namespace L2.Th
open PySem PySem.Spec PyProof.Rows
section
variable {X : Cx} {Γ : Gx} {W : WX} {pos : Pos} {M : Addr → Prop} {ρ : List Addr} {S : Store} {H : Hp}
theorem sat_need {α : Type} {b : Bool} {f : Unit → Res α} {Q : α → Prop} {R : Exn → Prop} (h : (need b >>= f).Sat Q R) : b = true ∧ (f ()).Sat Q R := by
  cases b with
  | true => exact ⟨rfl, h⟩
  | false => exact h.elim
theorem sat_opt {α β : Type} {o : Option α} {f : α → Res β} {Q : β → Prop} {R : Exn → Prop} (h : (opt o >>= f).Sat Q R) : ∃ a, o = some a ∧ (f a).Sat Q R := by
  cases o with
  | some a => exact ⟨a, rfl, h⟩
  | none => exact h.elim
/-- a new object as a value -/
theorem new_tup (w : Wld X.K Γ M ρ S H) {xs : List D} {vs : List V} (r : RelDs X.K Γ.cl M ρ H xs vs) {p : Addr} (hp : H p = none) : RelD X.K Γ.cl M ρ (upd H p (.tup vs)) (.tup xs) (.ref p) :=
  .tup (w.new hp).1 (w.new hp).2 upd_same (r.keep (ext_keep (ext_new hp)))
theorem new_lst (w : Wld X.K Γ M ρ S H) {xs : List D} {vs : List V} (r : RelDs X.K Γ.cl M ρ H xs vs) {p : Addr} (hp : H p = none) : RelD X.K Γ.cl M ρ (upd H p (.lst vs)) (.lst xs) (.ref p) :=
  .lst (w.new hp).1 (w.new hp).2 upd_same (r.keep (ext_keep (ext_new hp)))

/-! ### + -/
def opAdd : Op2 := fun S x y => match x, y with
  | .int i, .int j => .ok (.int (i + j))
  | .str i, .str j => do need (decide (i.length + j.length ≤ sizeLine)); .ok (.str (i ++ j))
  | .tup xs, .tup ys => do need (decide (xs.length + ys.length ≤ sizeLine)); .ok (.tup (xs ++ ys))
  | x, y => do
    let xs ← opt (asLst S x)
    let ys ← opt (asLst S y)
    need (decide (xs.length + ys.length ≤ sizeLine))
    .ok (.lst (xs ++ ys))
theorem op_addC : OpR X (binaryOp .Add) (rOp2 X.K Γ opAdd) := by
  intro pins s σ H x y v u Q I rx ry h
  obtain ⟨M, ρ, S, dx, dy, w, r1, r2, h⟩ := h
  unfold opAdd at h
  split at h
  · rename_i i j
    cases r1; cases r2
    exact op_add pins s σ H _ _ v u Q I rx ry ⟨i, j, rfl, rfl, h _ H (LamX.ExtN.refl H) w.tabs (.int _)⟩
  · rename_i i j
    cases r1; cases r2
    obtain ⟨hb, h⟩ := sat_need h
    exact op_add_str pins s σ H _ _ v u Q I rx ry ⟨i, j, rfl, rfl, of_decide_eq_true hb, h _ H (LamX.ExtN.refl H) w.tabs (.str _)⟩
  · rename_i xs ys
    obtain ⟨hb, h⟩ := sat_need h
    have hb := of_decide_eq_true hb
    obtain ⟨a, vs, rfl, h1, q1⟩ := asTup_rel (xs := xs) r1 rfl
    obtain ⟨b, us, rfl, h2, q2⟩ := asTup_rel (xs := ys) r2 rfl
    refine op_catA pins s σ H _ _ v u Q I rx ry ⟨a, b, vs, us, rfl, rfl, h1, h2, by rw [← q1.length, ← q2.length]; exact hb, fun e => ?_, fun e1 e => ?_, fun _ _ p hp => ?_⟩
    · have e' : xs = [] := by have := q1.length; rw [e] at this; exact List.length_eq_zero_iff.mp this
      subst e'
      exact h _ H (LamX.ExtN.refl H) w.tabs (by simpa using r2)
    · have e' : ys = [] := by have := q2.length; rw [e] at this; exact List.length_eq_zero_iff.mp this
      subst e'
      exact h _ H (LamX.ExtN.refl H) w.tabs (by simpa using r1)
    · exact h _ _ (ext_new hp) (tabs_new w.tabs hp) (new_tup w (q1.append q2) hp)
  · obtain ⟨xs, e1, h⟩ := sat_opt h
    obtain ⟨ys, e2, h⟩ := sat_opt h
    obtain ⟨hb, h⟩ := sat_need h
    obtain ⟨a, vs, rfl, h1, q1⟩ := asLst_rel w r1 e1
    obtain ⟨b, us, rfl, h2, q2⟩ := asLst_rel w r2 e2
    exact op_cat pins s σ H _ _ v u Q I rx ry ⟨a, b, vs, us, rfl, rfl, h1, h2, by rw [← q1.length, ← q2.length]; exact of_decide_eq_true hb, fun p hp => h _ _ (ext_new hp) (tabs_new w.tabs hp) (new_lst w (q1.append q2) hp)⟩
def opSub : Op2 := fun _ x y => match x, y with
  | .int i, .int j => .ok (.int (i - j))
  | _, _ => .stuck
theorem op_subC : OpR X (binaryOp .Sub) (rOp2 X.K Γ opSub) := by
  intro pins s σ H x y v u Q I rx ry h
  obtain ⟨M, ρ, S, dx, dy, w, r1, r2, h⟩ := h
  unfold opSub at h
  split at h
  · rename_i i j
    cases r1; cases r2
    exact op_sub pins s σ H _ _ v u Q I rx ry ⟨i, j, rfl, rfl, h _ H (LamX.ExtN.refl H) w.tabs (.int _)⟩
  · exact h.elim
def mulOk (i j : Int) : Bool := (decide (-(2 ^ 64) < i) && decide (i < 2 ^ 64)) || (decide (-(2 ^ 64) < j) && decide (j < 2 ^ 64))
theorem mulOk_C {i j : Int} (h : mulOk i j = true) : CMul i j := by
  unfold mulOk at h
  simp only [Bool.or_eq_true, Bool.and_eq_true, decide_eq_true_eq] at h
  exact h
/-- xs * k: of a list; of a tuple for 2 and more -/
def opMul : Op2 := fun S x y => match x, y with
  | .int i, .int j => do need (mulOk i j); .ok (.int (i * j))
  | .tup xs, .int k => do
    need (decide (xs ≠ []) && decide (2 ≤ k) && decide (k ≤ 1000) && decide (xs.length ≤ 1000))
    .ok (.tup (List.replicate k.toNat xs).flatten)
  | x, .int k => do
    let xs ← opt (asLst S x)
    need (decide (-(2 ^ 63) ≤ k) && decide (k < 2 ^ 63) && decide (xs.length * k.toNat ≤ sizeLine))
    .ok (.lst (List.replicate k.toNat xs).flatten)
  | _, _ => .stuck
theorem ne_nil_of {K : PySem.W.Frag} {xs : List D} {vs : List V} (r : RelDs K Γ.cl M ρ H xs vs) (h : xs ≠ []) : vs ≠ [] := fun e => by
  subst e
  have := r.length
  exact h (List.length_eq_zero_iff.mp this)
theorem op_mulC : OpR X (binaryOp .Mult) (rOp2 X.K Γ opMul) := by
  intro pins s σ H x y v u Q I rx ry h
  obtain ⟨M, ρ, S, dx, dy, w, r1, r2, h⟩ := h
  unfold opMul at h
  split at h
  · rename_i i j
    cases r1; cases r2
    obtain ⟨hb, h⟩ := sat_need h
    exact op_mul pins s σ H _ _ v u Q I rx ry ⟨i, j, rfl, rfl, mulOk_C hb, h _ H (LamX.ExtN.refl H) w.tabs (.int _)⟩
  · rename_i xs k
    obtain ⟨hb, h⟩ := sat_need h
    simp only [Bool.and_eq_true, decide_eq_true_eq] at hb
    obtain ⟨a, vs, rfl, h1, q1⟩ := asTup_rel (xs := xs) r1 rfl
    cases r2
    have hl := q1.length
    exact op_repT pins s σ H _ _ v u Q I rx ry ⟨a, k, vs, rfl, rfl, h1, ne_nil_of q1 hb.1.1.1, hb.1.1.2, hb.1.2, by omega, fun p hp => h _ _ (ext_new hp) (tabs_new w.tabs hp) (new_tup w (q1.rep _) hp)⟩
  · rename_i k _ _
    obtain ⟨xs, e1, h⟩ := sat_opt h
    obtain ⟨hb, h⟩ := sat_need h
    simp only [Bool.and_eq_true, decide_eq_true_eq] at hb
    obtain ⟨a, vs, rfl, h1, q1⟩ := asLst_rel w r1 e1
    cases r2
    exact op_rep pins s σ H _ _ v u Q I rx ry ⟨a, k, vs, rfl, rfl, h1, hb.1.1, hb.1.2, by rw [← q1.length]; exact hb.2, fun p hp => h _ _ (ext_new hp) (tabs_new w.tabs hp) (new_lst w (q1.rep _) hp)⟩
  · exact h.elim
def opDiv : Op2 := fun _ x y => match x, y with
  | .int i, .int j => do need (decide (0 < j) && decide (j < 1073741824)); .ok (.int (i / j))
  | _, _ => .stuck
theorem op_divC : OpR X (binaryOp .FloorDiv) (rOp2 X.K Γ opDiv) := by
  intro pins s σ H x y v u Q I rx ry h
  obtain ⟨M, ρ, S, dx, dy, w, r1, r2, h⟩ := h
  unfold opDiv at h
  split at h
  · rename_i i j
    cases r1; cases r2
    obtain ⟨hb, h⟩ := sat_need h
    simp only [Bool.and_eq_true, decide_eq_true_eq] at hb
    exact op_fdiv pins s σ H _ _ v u Q I rx ry ⟨i, j, rfl, rfl, hb, h _ H (LamX.ExtN.refl H) w.tabs (.int _)⟩
  · exact h.elim
def opMod : Op2 := fun _ x y => match x, y with
  | .int i, .int j => do need (decide (0 < j)); .ok (.int (i % j))
  | _, _ => .stuck
theorem op_modC : OpR X (binaryOp .Mod) (rOp2 X.K Γ opMod) := by
  intro pins s σ H x y v u Q I rx ry h
  obtain ⟨M, ρ, S, dx, dy, w, r1, r2, h⟩ := h
  unfold opMod at h
  split at h
  · rename_i i j
    cases r1; cases r2
    obtain ⟨hb, h⟩ := sat_need h
    exact op_mod pins s σ H _ _ v u Q I rx ry ⟨i, j, rfl, rfl, of_decide_eq_true hb, h _ H (LamX.ExtN.refl H) w.tabs (.int _)⟩
  · exact h.elim

/-! ### comparisons -/
def opCmpI (p : Int → Int → Bool) : Op2 := fun _ x y => match x, y with
  | .int i, .int j => .ok (.bl (p i j))
  | _, _ => .stuck
theorem op_cmpC {op : CmpOp} {p : Int → Int → Bool} (ho : OpR X (compareOp op) (rI0 fun i j => .bl (p i j))) : OpR X (compareOp op) (rOp2 X.K Γ (opCmpI p)) := by
  intro pins s σ H x y v u Q I rx ry h
  obtain ⟨M, ρ, S, dx, dy, w, r1, r2, h⟩ := h
  unfold opCmpI at h
  split at h
  · rename_i i j
    cases r1; cases r2
    exact ho pins s σ H _ _ v u Q I rx ry ⟨i, j, rfl, rfl, h _ H (LamX.ExtN.refl H) w.tabs (.bl _)⟩
  · exact h.elim
abbrev opLt : Op2 := opCmpI fun i j => decide (i < j)
abbrev opLe : Op2 := opCmpI fun i j => decide (i ≤ j)
abbrev opGt : Op2 := opCmpI fun i j => decide (j < i)
abbrev opGe : Op2 := opCmpI fun i j => decide (j ≤ i)
theorem op_ltC : OpR X (compareOp .Lt) (rOp2 X.K Γ opLt) := op_cmpC op_lt
theorem op_leC : OpR X (compareOp .LtE) (rOp2 X.K Γ opLe) := op_cmpC op_le
theorem op_gtC : OpR X (compareOp .Gt) (rOp2 X.K Γ opGt) := op_cmpC op_gt
theorem op_geC : OpR X (compareOp .GtE) (rOp2 X.K Γ opGe) := op_cmpC op_ge
/-- == of data; two dicts of int and text keys are compared by opEqK -/
def isDc : D → Bool
  | .dct _ => true
  | _ => false
theorem lay_nd : ∀ {n : Nat} {d : D}, lay n d = true → isDc d = false := fun {n d} h => by
  cases n with
  | zero => simp [lay] at h
  | succ n => cases d <;> simp [lay] at h <;> rfl
def flatEq : D → D → Bool
  | .non, .non => true
  | .bl a, .bl b => a == b
  | .int i, .int j => decide (i = j)
  | .str x, .str y => decide (x = y)
  | _, _ => false
def keyEq : D → D → Bool
  | .int i, .int j => decide (i = j)
  | .str x, .str y => decide (x = y)
  | _, _ => false
def valD : List (D × D) → D → Option D
  | [], _ => none
  | (k, d) :: r, k' => if keyEq k k' then some d else valD r k'
/-- two dicts that are alike, of plain values -/
def dctSame (xs ys : List (D × D)) : Bool := decide (xs.length = ys.length) && xs.all fun kv => match valD ys kv.1 with
  | some d => flatEq kv.2 d
  | none => false
def dctOf (S : Store) (d : D) : List (D × D) := match deref S d with
  | .dct xs => xs
  | _ => []
section
variable {K : PySem.W.Frag} {M : Addr → Prop} {ρ : List Addr} {S : Store} {H : Hp}
theorem dct_rel {d : D} {v : V} (w : Wld K Γ M ρ S H) (r : RelD K Γ.cl M ρ H d v) (e : isDc (deref S d) = true) : ∃ a hs, v = .ref a ∧ H a = some (.dK hs) ∧ RelKs K Γ.cl M ρ H (dctOf S d) hs := by
  unfold dctOf
  cases r with
  | loc hl =>
    rename_i a n
    cases q : S[n]? with
    | none => simp [deref, q, isDc] at e
    | some c =>
      have h := w.cells n c a q hl
      cases c with
      | lst xs => simp [deref, q, isDc] at e
      | ins c xs => simp [deref, q, isDc] at e
      | dct xs =>
        obtain ⟨hs, h1, h2⟩ := h
        exact ⟨a, hs, rfl, h1, by simpa [deref, q] using h2⟩
  | dK hM hρ h r => exact ⟨_, _, rfl, h, r⟩
  | _ => simp [deref, isDc] at e
theorem keyEq_kD {k k' : Key} : keyEq (kD k) (kD k') = decide (k = k') := by
  cases k <;> cases k' <;> simp [keyEq, kD]
theorem relK_len : ∀ {xs : List (D × D)} {hs : List (Key × V)}, RelKs K Γ.cl M ρ H xs hs → xs.length = hs.length
  | _, _, .nil => rfl
  | _, _, .cons _ r => congrArg Nat.succ (relK_len r)
theorem valD_rel {k : Key} : ∀ {xs : List (D × D)} {hs : List (Key × V)} {d : D}, RelKs K Γ.cl M ρ H xs hs → valD xs (kD k) = some d → ∃ v, valV hs k = some v ∧ RelD K Γ.cl M ρ H d v
  | _, _, _, .nil, e => by cases e
  | _, _, d, .cons (k := k2) (v := v2) h r, e => by
    unfold valD at e
    rw [keyEq_kD] at e
    unfold valV
    rw [List.find?_cons]
    by_cases q : k2 = k
    · rw [decide_eq_true q, if_pos rfl] at e
      cases e
      exact ⟨v2, by rw [decide_eq_true q]; rfl, h⟩
    · rw [decide_eq_false q, if_neg (by decide)] at e
      obtain ⟨v, e1, e2⟩ := valD_rel r e
      exact ⟨v, by rw [decide_eq_false q]; exact e1, e2⟩
theorem flatEq_rel {d e : D} {v u : V} (h : flatEq d e = true) (r : RelD K Γ.cl M ρ H d v) (q : RelD K Γ.cl M ρ H e u) : u = v ∧ flatB v = true := by
  cases d <;> cases e <;> simp [flatEq] at h <;> cases r <;> cases q
  · exact ⟨rfl, rfl⟩
  · subst h; exact ⟨rfl, rfl⟩
  · subst h; exact ⟨rfl, rfl⟩
  · subst h; exact ⟨rfl, rfl⟩
theorem same_all {ys : List (D × D)} {ls : List (Key × V)} (q : RelKs K Γ.cl M ρ H ys ls) : ∀ {xs : List (D × D)} {ks : List (Key × V)}, RelKs K Γ.cl M ρ H xs ks → (xs.all fun kv => match valD ys kv.1 with
    | some d => flatEq kv.2 d
    | none => false) = true → ∀ p ∈ ks, valV ls p.1 = some p.2 ∧ flatB p.2 = true
  | _, _, .nil, _, p, hp => by cases hp
  | _, _, .cons hd r, h2, p, hp => by
    rw [List.all_cons, Bool.and_eq_true] at h2
    rcases List.mem_cons.mp hp with rfl | hp
    · have z := h2.1
      split at z
      · rename_i d e
        obtain ⟨u, e1, e2⟩ := valD_rel q e
        obtain ⟨e3, e4⟩ := flatEq_rel z hd e2
        exact ⟨by rw [e1, e3], e4⟩
      · cases z
    · exact same_all q r h2.2 p hp
theorem same_rel {xs ys : List (D × D)} {ks ls : List (Key × V)} (h : dctSame xs ys = true) (r : RelKs K Γ.cl M ρ H xs ks) (q : RelKs K Γ.cl M ρ H ys ls) : ks.length = ls.length ∧ ∀ p ∈ ks, valV ls p.1 = some p.2 ∧ flatB p.2 = true := by
  unfold dctSame at h
  rw [Bool.and_eq_true, decide_eq_true_eq] at h
  obtain ⟨h1, h2⟩ := h
  exact ⟨by rw [← relK_len r, ← relK_len q, h1], same_all q r h2⟩
end
def opEq : Op2 := fun S x y => if isDc (deref S x) && isDc (deref S y) then do
    need (dctSame (dctOf S x) (dctOf S y))
    .ok (.bl true)
  else do
    need (lay 60 (deref S x) && lay 60 (deref S y))
    .ok (.bl (eqD (deref S x) (deref S y)))
def opNe : Op2 := fun S x y => if isDc (deref S x) && isDc (deref S y) then do
    need (dctSame (dctOf S x) (dctOf S y))
    .ok (.bl false)
  else do
    need (lay 60 (deref S x) && lay 60 (deref S y))
    .ok (.bl (!eqD (deref S x) (deref S y)))
theorem op_eqC (hu : X.A.units + 64 < cLine) : OpR X (compareOp .Eq) (rOp2 X.K Γ opEq) := by
  intro pins s σ H x y v u Q I rx ry h
  obtain ⟨M, ρ, S, dx, dy, w, r1, r2, h⟩ := h
  unfold opEq at h
  split at h
  · rename_i hd
    rw [Bool.and_eq_true] at hd
    obtain ⟨hb, h⟩ := sat_need h
    obtain ⟨a, ks, rfl, ha, qa⟩ := dct_rel w r1 hd.1
    obtain ⟨b, ls, rfl, hb', qb⟩ := dct_rel w r2 hd.2
    obtain ⟨z1, z2⟩ := same_rel hb qa qb
    exact op_eq_dictA (by omega) pins s σ H _ _ v u Q I rx ry ⟨a, b, ks, ls, rfl, rfl, ha, hb', z1, z2, h _ H (LamX.ExtN.refl H) w.tabs (.bl _)⟩
  · obtain ⟨hb, h⟩ := sat_need h
    rw [Bool.and_eq_true] at hb
    refine op_eqD hu pins s σ H _ _ v u Q I rx ry ⟨_, _, dp_deref w hb.1 r1, dp_deref w hb.2 r2, lay_shaped hb.1, lay_shaped hb.2, ?_⟩
    rw [eqD_pd 60 _ _ hb.1 hb.2]
    exact h _ H (LamX.ExtN.refl H) w.tabs (.bl _)
theorem op_neC (hu : X.A.units + 64 < cLine) : OpR X (compareOp .NotEq) (rOp2 X.K Γ opNe) := by
  intro pins s σ H x y v u Q I rx ry h
  obtain ⟨M, ρ, S, dx, dy, w, r1, r2, h⟩ := h
  unfold opNe at h
  split at h
  · rename_i hd
    rw [Bool.and_eq_true] at hd
    obtain ⟨hb, h⟩ := sat_need h
    obtain ⟨a, ks, rfl, ha, qa⟩ := dct_rel w r1 hd.1
    obtain ⟨b, ls, rfl, hb', qb⟩ := dct_rel w r2 hd.2
    obtain ⟨z1, z2⟩ := same_rel hb qa qb
    exact op_ne_dictA (by omega) pins s σ H _ _ v u Q I rx ry ⟨a, b, ks, ls, rfl, rfl, ha, hb', z1, z2, h _ H (LamX.ExtN.refl H) w.tabs (.bl _)⟩
  · obtain ⟨hb, h⟩ := sat_need h
    rw [Bool.and_eq_true] at hb
    refine op_neD hu pins s σ H _ _ v u Q I rx ry ⟨_, _, dp_deref w hb.1 r1, dp_deref w hb.2 r2, lay_shaped hb.1, lay_shaped hb.2, ?_⟩
    rw [eqD_pd 60 _ _ hb.1 hb.2]
    exact h _ H (LamX.ExtN.refl H) w.tabs (.bl _)
end
end L2.Th

set_option Elab.async false
set_option linter.all false
set_option maxRecDepth 100000
set_option maxHeartbeats 4000000
/-! Layer D: expressions. -/
namespace L2.Th
open PySem PySem.Spec PyProof.Rows
/-- nothing of it is an error -/
def NoX {α : Type} (x : Res α) : Prop := ∀ (Q : α → Prop) (R R' : Exn → Prop), x.Sat Q R → x.Sat Q R'
theorem NoX.ok {α : Type} {a : α} : NoX (Res.ok a) := fun _ _ _ h => h
theorem NoX.stuck {α : Type} : NoX (Res.stuck : Res α) := fun _ _ _ h => h
theorem NoX.bind {α β : Type} {x : Res α} {f : α → Res β} (hx : NoX x) (hf : ∀ a, NoX (f a)) : NoX (x >>= f) := fun Q R R' h =>
  Res.sat_bind' ((hx _ R R' (Res.sat_bind h)).mono (fun a z => hf a _ _ _ z) fun _ z => z)
theorem NoX.need {b : Bool} : NoX (need b) := by cases b; exact NoX.stuck; exact NoX.ok
theorem NoX.opt {α : Type} {o : Option α} : NoX (opt o) := by cases o; exact NoX.stuck; exact NoX.ok
abbrev NX2 (op : Op2) : Prop := ∀ S x y, NoX (op S x y)
theorem nx_add : NX2 opAdd := fun S x y => by
  unfold opAdd
  split
  · exact .ok
  · exact .bind .need fun _ => .ok
  · exact .bind .need fun _ => .ok
  · exact .bind .opt fun _ => .bind .opt fun _ => .bind .need fun _ => .ok
theorem nx_sub : NX2 opSub := fun S x y => by unfold opSub; split; exact .ok; exact .stuck
theorem nx_mul : NX2 opMul := fun S x y => by
  unfold opMul
  split
  · exact .bind .need fun _ => .ok
  · exact .bind .need fun _ => .ok
  · exact .bind .opt fun _ => .bind .need fun _ => .ok
  · exact .stuck
theorem nx_div : NX2 opDiv := fun S x y => by unfold opDiv; split; exact .bind .need fun _ => .ok; exact .stuck
theorem nx_mod : NX2 opMod := fun S x y => by unfold opMod; split; exact .bind .need fun _ => .ok; exact .stuck
theorem nx_cmp {p : Int → Int → Bool} : NX2 (opCmpI p) := fun S x y => by unfold opCmpI; split; exact .ok; exact .stuck
theorem nx_eq : NX2 opEq := fun S x y => by unfold opEq; split; exact .bind .need fun _ => .ok; exact .bind .need fun _ => .ok
theorem nx_ne : NX2 opNe := fun S x y => by unfold opNe; split; exact .bind .need fun _ => .ok; exact .bind .need fun _ => .ok
section
variable {X : Cx} {Γ : Gx} {W : WX} {pos : Pos} {a b : Expr} {ca cb : Code}
theorem pc_bin {o : Operator} {op : Op2} (ho : OpR X (binaryOp o) (rOp2 X.K Γ op)) (hn : NX2 op) (ha : PEc X Γ W a ca) (hb : PEc X Γ W b cb) : PEc X Γ W (.BinOp a o b pos) (cOp2 op ca cb) :=
  pe_of (pe_op ho ha hb) fun σ H Q h => tE_op2 (fun S x y Q R z => hn S x y Q R _ z) h
theorem pc_add (ha : PEc X Γ W a ca) (hb : PEc X Γ W b cb) : PEc X Γ W (.BinOp a .Add b pos) (cOp2 opAdd ca cb) := pc_bin op_addC nx_add ha hb
theorem pc_sub (ha : PEc X Γ W a ca) (hb : PEc X Γ W b cb) : PEc X Γ W (.BinOp a .Sub b pos) (cOp2 opSub ca cb) := pc_bin op_subC nx_sub ha hb
theorem pc_mul (ha : PEc X Γ W a ca) (hb : PEc X Γ W b cb) : PEc X Γ W (.BinOp a .Mult b pos) (cOp2 opMul ca cb) := pc_bin op_mulC nx_mul ha hb
theorem pc_div (ha : PEc X Γ W a ca) (hb : PEc X Γ W b cb) : PEc X Γ W (.BinOp a .FloorDiv b pos) (cOp2 opDiv ca cb) := pc_bin op_divC nx_div ha hb
theorem pc_mod (ha : PEc X Γ W a ca) (hb : PEc X Γ W b cb) : PEc X Γ W (.BinOp a .Mod b pos) (cOp2 opMod ca cb) := pc_bin op_modC nx_mod ha hb
/-! ### comparisons -/
/-- a comparison's rule: with its mark behind in -/
structure CmpC (X : Cx) (Γ : Gx) (o : CmpOp) (op : Op2) : Prop where
  r : OpR X (compareOp o) (rOp2 X.K Γ op)
  n : NX2 op
theorem c_lt : CmpC X Γ .Lt opLt := ⟨op_ltC, nx_cmp⟩
theorem c_le : CmpC X Γ .LtE opLe := ⟨op_leC, nx_cmp⟩
theorem c_gt : CmpC X Γ .Gt opGt := ⟨op_gtC, nx_cmp⟩
theorem c_ge : CmpC X Γ .GtE opGe := ⟨op_geC, nx_cmp⟩
theorem c_eq {k : Nat} (hr : Room k X.A) : CmpC X Γ .Eq opEq := ⟨op_eqC hr.units, nx_eq⟩
theorem c_ne {k : Nat} (hr : Room k X.A) : CmpC X Γ .NotEq opNe := ⟨op_neC hr.units, nx_ne⟩
theorem pc_cmp {o : CmpOp} {op : Op2} (hc : CmpC X Γ o op) (ha : PEc X Γ W a ca) (hb : PEc X Γ W b cb) (hm : behindInMarks o b = false := by rfl) : PEc X Γ W (.Compare a [o] [b] pos) (cOp2 op ca cb) :=
  pe_of (pe_cmpR hc.r ha hb hm) fun σ H Q h => tE_op2 (fun S x y Q R z => hc.n S x y Q R _ z) h
end

/-! ### tests -/
abbrev TCode := Env → Store → Res Bool
def tT (K : PySem.W.Frag) (Γ : Gx) (W : WX) (c : TCode) : TT := fun σ H Q => ∃ M ρ env S, At K Γ M ρ env S σ H ∧
  (c env S).Sat (fun b => ∀ H', LamX.ExtN H H' → TabsOk Γ H' → Q b H') (XW Γ W σ H)
abbrev PTc (X : Cx) (Γ : Gx) (W : WX) (e : Expr) (c : TCode) : Prop := PT X e (tT X.K Γ W c)
abbrev PWc (X : Cx) (Γ : Gx) (W : WX) (e : Expr) (c : TCode) : Prop := PW X e (tT X.K Γ W c)
/-- what is true -/
def truD (S : Store) (d : D) : Option Bool := match deref S d with
  | .non => some false
  | .bl b => some b
  | .int i => some (i != 0)
  | .str x => if x.length ≤ sizeLine then some ((x.length : Int) != 0) else none
  | .tup xs => some (!xs.isEmpty)
  | .lst xs => some (!xs.isEmpty)
  | .dct xs => some (!xs.isEmpty)
  | _ => none
section
variable {K : PySem.W.Frag} {Γ : Gx} {M : Addr → Prop} {ρ : List Addr} {S : Store} {H : Hp}
theorem emp_iff {xs : List D} {vs : List V} (r : RelDs K Γ.cl M ρ H xs vs) : (!xs.isEmpty) = !vs.isEmpty := by cases r <;> rfl
theorem RelKs.length {xs : List (D × D)} {vs : List (Key × V)} (r : RelKs K Γ.cl M ρ H xs vs) : xs.length = vs.length := by
  induction xs generalizing vs with
  | nil => cases r; rfl
  | cons x xs ih => cases r with | cons h r => rw [List.length_cons, List.length_cons, ih r]
theorem empK_iff {xs : List (D × D)} {vs : List (Key × V)} (r : RelKs K Γ.cl M ρ H xs vs) : (!xs.isEmpty) = !vs.isEmpty := by cases r <;> rfl
theorem deref_dct (w : Wld K Γ M ρ S H) {d : D} {v : V} {xs : List (D × D)} (r : RelD K Γ.cl M ρ H d v) (e : deref S d = .dct xs) : ∃ a hs, v = .ref a ∧ H a = some (.dK hs) ∧ RelKs K Γ.cl M ρ H xs hs := by
  cases r <;> (try (simp [deref] at e; done))
  case dK hM hρ h r =>
    cases (show D.dct _ = D.dct _ from e)
    exact ⟨_, _, rfl, h, r⟩
  case loc a n h =>
    unfold deref at e
    cases q : S[n]? with
    | none => simp [q] at e
    | some c =>
      cases c with
      | dct ys =>
        simp [q] at e; subst e
        obtain ⟨vs, h1, h2⟩ := w.cells n _ a q h
        exact ⟨a, vs, rfl, h1, h2⟩
      | lst _ => simp [q] at e
      | ins _ _ => simp [q] at e
theorem truD_rel (w : Wld K Γ M ρ S H) {d : D} {v : V} {k : Bool} (r : RelD K Γ.cl M ρ H d v) (e : truD S d = some k) : TruV K v H k := by
  unfold truD at e
  split at e
  · rename_i q
    cases d <;> (try (simp [deref] at q; done))
    · cases r; cases e; rfl
    · rename_i n; unfold deref at q; cases z : S[n]? with
      | none => simp [z] at q
      | some c => cases c <;> simp [z] at q
  · rename_i b q
    cases d <;> (try (simp [deref] at q; done))
    · simp [deref] at q; subst q; cases r; cases e; rfl
    · rename_i n; unfold deref at q; cases z : S[n]? with
      | none => simp [z] at q
      | some c => cases c <;> simp [z] at q
  · rename_i b q
    cases d <;> (try (simp [deref] at q; done))
    · simp [deref] at q; subst q; cases r; cases e; rfl
    · rename_i n; unfold deref at q; cases z : S[n]? with
      | none => simp [z] at q
      | some c => cases c <;> simp [z] at q
  · rename_i b q
    split at e
    · rename_i hl
      cases d <;> (try (simp [deref] at q; done))
      · simp [deref] at q; subst q; cases r; cases e; exact ⟨hl, rfl⟩
      · rename_i n; unfold deref at q; cases z : S[n]? with
        | none => simp [z] at q
        | some c => cases c <;> simp [z] at q
    · cases e
  · rename_i xs q
    cases e
    obtain ⟨a, vs, rfl, h1, h2⟩ := deref_tup r q
    exact .inr (.inl ⟨vs, h1, emp_iff h2⟩)
  · rename_i xs q
    cases e
    obtain ⟨a, vs, rfl, h1, h2⟩ := deref_lst w r q
    exact .inl ⟨vs, .of h1, emp_iff h2⟩
  · rename_i xs q
    cases e
    obtain ⟨a, vs, rfl, h1, h2⟩ := deref_dct w r q
    exact .inr (.inr ⟨vs, h1, empK_iff h2⟩)
  · cases e
end
section
variable {X : Cx} {Γ : Gx} {W : WX} {pos : Pos} {a b c : Expr} {ca cb cc : Code} {ta tb : TCode} {rest : List Expr}
theorem tT_step {K : PySem.W.Frag} {M : Addr → Prop} {ρ : List Addr} {S : Store} {H : Hp} {env : Env} {σ : St} {c : TCode} {P : Bool → Prop} {Q : Bool → Hp → Prop} (a : At K Γ M ρ env S σ H) (h : (c env S).Sat P (XW Γ W σ H))
    (hk : ∀ b H', P b → LamX.ExtN H H' → TabsOk Γ H' → At K Γ M ρ env S σ H' → Q b H') : tT K Γ W c σ H Q :=
  ⟨M, ρ, env, S, a, h.mono (fun b p H' x t => hk b H' p x t (a.ext x t)) fun _ z => z⟩
def asB : D → Option Bool
  | .bl b => some b
  | _ => none
def tVal (c : Code) : TCode := fun env S => do
  let x ← c env S
  opt (asB x)
/-- a value that is a bool, as a test (a comparison) -/
theorem tE_tB {K : PySem.W.Frag} {σ : St} {H : Hp} {Q : Bool → Hp → Prop} (h : tT K Γ W (tVal ca) σ H Q) : tE K Γ W ca σ H (fun x H' => ∃ k, x = .bl k ∧ Q k H') := by
  obtain ⟨M, ρ, env, S, a, h⟩ := h
  refine tE_step a (Res.sat_bind h) fun d v H' hd x t a' r => ?_
  cases d with
  | bl b =>
    cases r
    exact ⟨b, rfl, hd H' x t⟩
  | _ => exact hd.elim
theorem pt_cmpC {o : CmpOp} {op : Op2} (hc : CmpC X Γ o op) (ha : PEc X Γ W a ca) (hb : PEc X Γ W b cb) (hm : behindInMarks o b = false := by rfl) : PTc X Γ W (.Compare a [o] [b] pos) (tVal (cOp2 op ca cb)) :=
  pt_of (pt_cmpR hc.r ha hb hm) fun σ H Q h => tE_op2 (fun S x y Q R z => hc.n S x y Q R _ z) (tE_tB h)
def tTru (c : Code) : TCode := fun env S => do
  let x ← c env S
  opt (truD S x)
theorem tE_tru {K : PySem.W.Frag} {σ : St} {H : Hp} {Q : Bool → Hp → Prop} (h : tT K Γ W (tTru ca) σ H Q) : tE K Γ W ca σ H (fun x H' => ∃ k, TruV K x H' k ∧ Q k H') := by
  obtain ⟨M, ρ, env, S, a, h⟩ := h
  refine tE_step a (Res.sat_bind h) fun d v H' hd x t a' r => ?_
  cases q : truD S d with
  | none => rw [q] at hd; exact hd.elim
  | some k =>
    rw [q] at hd
    exact ⟨k, truD_rel a'.w r q, hd H' x t⟩
theorem pt_tru (ha : PEc X Γ W a ca) (he : ∀ whole, isTrue a X.env whole = (do let v ← whole; standAt a.pos; holding [v] (truthy v)) := by intro _; rfl) : PTc X Γ W a (tTru ca) :=
  pt_of (pt_truth ha he) fun σ H Q h => tE_tru h
def tAndC (s t : TCode) : TCode := fun env S => do
  let b ← s env S
  if b then t env S else .ok false
def tOrC (s t : TCode) : TCode := fun env S => do
  let b ← s env S
  if b then .ok true else t env S
def tNotC (s : TCode) : TCode := fun env S => do
  let b ← s env S
  .ok (!b)
theorem pw_of {X : Cx} {e : Expr} {t t' : TT} (h : PW X e t) (w : ∀ σ H Q, t' σ H Q → t σ H Q) : PW X e t' := ⟨fun wh pins s σ H Q I h' => h.run wh pins s σ H Q I (w _ _ _ h')⟩
theorem pw_and1C (ha : PTc X Γ W a ta) : PWc X Γ W (.BoolOp .And [a] pos) ta := pw_and1 ha
theorem pw_or1C (ha : PTc X Γ W a ta) : PWc X Γ W (.BoolOp .Or [a] pos) ta := pw_or1 ha
theorem pw_andC (ha : PTc X Γ W a ta) (hb : PWc X Γ W (.BoolOp .And (b :: rest) pos) tb) : PWc X Γ W (.BoolOp .And (a :: b :: rest) pos) (tAndC ta tb) :=
  pw_of (pw_and ha hb) fun σ H Q ⟨M, ρ, env, S, a, h⟩ => by
    refine tT_step a (Res.sat_bind h) fun b H' hb x t a' => ?_
    cases b with
    | true => exact ⟨M, ρ, env, S, a', (sat_ext hb x).mono (fun b p H2 x2 t2 => p H2 (x.trans x2) t2) fun _ z => z⟩
    | false => exact hb H' x t
theorem pw_orC (ha : PTc X Γ W a ta) (hb : PWc X Γ W (.BoolOp .Or (b :: rest) pos) tb) : PWc X Γ W (.BoolOp .Or (a :: b :: rest) pos) (tOrC ta tb) :=
  pw_of (pw_or ha hb) fun σ H Q ⟨M, ρ, env, S, a, h⟩ => by
    refine tT_step a (Res.sat_bind h) fun b H' hb x t a' => ?_
    cases b with
    | false => exact ⟨M, ρ, env, S, a', (sat_ext hb x).mono (fun b p H2 x2 t2 => p H2 (x.trans x2) t2) fun _ z => z⟩
    | true => exact hb H' x t
theorem pt_notC (ha : PTc X Γ W a ta) : PTc X Γ W (.UnaryOp .Not a pos) (tNotC ta) :=
  pt_of (pt_not ha) fun σ H Q ⟨M, ρ, env, S, a, h⟩ => tT_step a (Res.sat_bind h) fun b H' hb x t a' => hb H' x t
/-! ### and, or, not as values -/
def cAnd (s t : Code) : Code := fun env S => do
  let x ← s env S
  let k ← opt (truD S x)
  if k then t env S else .ok x
def cOr (s t : Code) : Code := fun env S => do
  let x ← s env S
  let k ← opt (truD S x)
  if k then .ok x else t env S
def cNot (s : Code) : Code := fun env S => do
  let x ← s env S
  let k ← opt (truD S x)
  .ok (.bl (!k))
theorem pc_one {op} (ha : PEc X Γ W a ca) : PEc X Γ W (.BoolOp op [a] pos) ca := pe_one ha
theorem pc_and (ha : PEc X Γ W a ca) (hb : PEc X Γ W (.BoolOp .And (b :: rest) pos) cb) : PEc X Γ W (.BoolOp .And (a :: b :: rest) pos) (cAnd ca cb) :=
  pe_of (pe_andT ha hb) fun σ H Q ⟨M, ρ, env, S, a, h⟩ => by
    refine tE_step a (Res.sat_bind h) fun d v H' hd x t a' r => ?_
    obtain ⟨k, q, hd⟩ := sat_opt hd
    refine ⟨k, truD_rel a'.w r q, ?_⟩
    cases k with
    | true => exact ⟨M, ρ, env, S, a', (sat_ext hd x).mono (fun d p v H2 x2 t2 r2 => p v H2 (x.trans x2) t2 r2) fun _ z => z⟩
    | false => exact hd v H' x t r
theorem pc_or (ha : PEc X Γ W a ca) (hb : PEc X Γ W (.BoolOp .Or (b :: rest) pos) cb) : PEc X Γ W (.BoolOp .Or (a :: b :: rest) pos) (cOr ca cb) :=
  pe_of (pe_orT ha hb) fun σ H Q ⟨M, ρ, env, S, a, h⟩ => by
    refine tE_step a (Res.sat_bind h) fun d v H' hd x t a' r => ?_
    obtain ⟨k, q, hd⟩ := sat_opt hd
    refine ⟨k, truD_rel a'.w r q, ?_⟩
    cases k with
    | false => exact ⟨M, ρ, env, S, a', (sat_ext hd x).mono (fun d p v H2 x2 t2 r2 => p v H2 (x.trans x2) t2 r2) fun _ z => z⟩
    | true => exact hd v H' x t r
theorem pc_not (ha : PEc X Γ W a ca) : PEc X Γ W (.UnaryOp .Not a pos) (cNot ca) :=
  pe_of (pe_notT ha) fun σ H Q ⟨M, ρ, env, S, a, h⟩ => by
    refine tE_step a (Res.sat_bind h) fun d v H' hd x t a' r => ?_
    obtain ⟨k, q, hd⟩ := sat_opt hd
    exact ⟨k, truD_rel a'.w r q, hd _ H' x t (.bl _)⟩
def cIf (t : TCode) (s u : Code) : Code := fun env S => do
  let b ← t env S
  if b then s env S else u env S
theorem pc_ifExp (ht : PTc X Γ W c ta) (ha : PEc X Γ W a ca) (hb : PEc X Γ W b cb) : PEc X Γ W (.IfExp c a b pos) (cIf ta ca cb) :=
  pe_of (pe_ifExp ht ha hb) fun σ H Q ⟨M, ρ, env, S, a, h⟩ => by
    refine tT_step a (Res.sat_bind h) fun b H' hb x t a' => ?_
    cases b with
    | true => exact ⟨M, ρ, env, S, a', (sat_ext hb x).mono (fun d p v H2 x2 t2 r2 => p v H2 (x.trans x2) t2 r2) fun _ z => z⟩
    | false => exact ⟨M, ρ, env, S, a', (sat_ext hb x).mono (fun d p v H2 x2 t2 r2 => p v H2 (x.trans x2) t2 r2) fun _ z => z⟩
end
end L2.Th

set_option Elab.async false
set_option linter.all false
set_option maxRecDepth 100000
set_option maxHeartbeats 4000000
/-! Layer E: keys, in, items, slices; argument lists, displays, calls of built-ins. -/
namespace L2.Th
open PySem PySem.Spec PyProof.Rows
def keyOf : D → Option Key
  | .int i => some (.inl i)
  | .str x => some (.inr x)
  | _ => none
def lookK (k : Key) : List (D × D) → Option D
  | [] => none
  | (d, x) :: r => if keyOf d = some k then some x else lookK k r
theorem keyOf_kD (k : Key) : keyOf (kD k) = some k := by cases k <;> rfl
section
variable {K : PySem.W.Frag} {Γ : Gx} {M : Addr → Prop} {ρ : List Addr} {S : Store} {H : Hp}
theorem keyOf_rel {d : D} {v : V} {k : Key} (r : RelD K Γ.cl M ρ H d v) (e : keyOf d = some k) : v = kV k := by
  cases d <;> simp [keyOf] at e
  · subst e; cases r; rfl
  · subst e; cases r; rfl
theorem lookK_rel {k : Key} : ∀ {xs : List (D × D)} {hs : List (Key × V)}, RelKs K Γ.cl M ρ H xs hs → match lookK k xs with
    | some d => ∃ v, valV hs k = some v ∧ RelD K Γ.cl M ρ H d v
    | none => valV hs k = none
  | _, _, .nil => rfl
  | _, _, .cons (k := k2) (d := d) (v := v) h r => by
    unfold lookK
    rw [keyOf_kD]
    by_cases e : k2 = k
    · subst e
      rw [if_pos rfl]
      exact ⟨v, valV_pos rfl, h⟩
    · rw [if_neg (fun z => e (Option.some.inj z)), valV_neg e]
      exact lookK_rel r
def flatD : D → Bool
  | .non => true
  | .bl _ => true
  | .int _ => true
  | .str _ => true
  | _ => false
theorem flatD_rel {d : D} {v : V} (r : RelD K Γ.cl M ρ H d v) (f : flatD d = true) : flatV v = true := by
  cases d <;> simp [flatD] at f <;> cases r <;> rfl
theorem flatDs_rel {d : List D} {v : List V} (r : RelDs K Γ.cl M ρ H d v) (f : d.all flatD = true) : v.all flatV = true := by
  induction d generalizing v with
  | nil => cases r; rfl
  | cons x xs ih =>
    cases r with
    | cons h r =>
      rw [List.all_cons, Bool.and_eq_true] at f ⊢
      exact ⟨flatD_rel h f.1, ih r f.2⟩
theorem eqV_rel {d e : D} {v u : V} (r : RelD K Γ.cl M ρ H d v) (q : RelD K Γ.cl M ρ H e u) (f : flatD d = true) (g : flatD e = true) : eqV v u = eqD d e := by
  cases d <;> simp [flatD] at f <;> cases e <;> simp [flatD] at g <;> cases r <;> cases q <;> simp [eqV, eqD]
theorem anyV_rel {e : D} {u : V} (q : RelD K Γ.cl M ρ H e u) (g : flatD e = true) {d : List D} {v : List V} (r : RelDs K Γ.cl M ρ H d v) (f : d.all flatD = true) : inV u v = d.any fun z => eqD z e := by
  unfold inV
  induction d generalizing v with
  | nil => cases r; rfl
  | cons x xs ih =>
    cases r with
    | cons h r =>
      rw [List.all_cons, Bool.and_eq_true] at f
      rw [List.any_cons, List.any_cons, eqV_rel h q f.1 g, ih r f.2]
theorem any_pd {e : D} (g : lay 60 e = true) : ∀ {d : List D}, d.all (lay 59) = true → ((pds d).any fun z => PyData.eqv z (pd e)) = d.any fun z => eqD z e
  | [], _ => by simp [pds]
  | x :: xs, f => by
    rw [List.all_cons, Bool.and_eq_true] at f
    simp only [pds, List.any_cons]
    rw [any_pd g f.2, eqD_pd 60 x e (lay_mono f.1) g]
where
  lay_mono : ∀ {x : D}, lay 59 x = true → lay 60 x = true := fun {x} h => lay_le 59 60 (by decide) x h
  lay_le : ∀ (n m : Nat), n ≤ m → ∀ x : D, lay n x = true → lay m x = true
    | 0, _, _, _, h => by simp [lay] at h
    | n + 1, 0, hl, _, _ => absurd hl (by omega)
    | n + 1, m + 1, hl, x, h => by
      cases x <;> first
        | (exfalso; simp [lay] at h; done)
        | (simp only [lay]; done)
        | (simp only [lay] at h ⊢; exact h)
        | (simp only [lay] at h ⊢; rw [List.all_eq_true] at h ⊢; exact fun y hy => lay_le n m (by omega) y (h y hy))
end
/-- x in y -/
def inD (S : Store) (x y : D) : Res Bool := match deref S y with
  | .dct kvs => do let k ← opt (keyOf x); .ok (lookK k kvs).isSome
  | .lst ys => do need (lay 60 (deref S x) && ys.all (lay 59)); .ok (ys.any fun z => eqD z (deref S x))
  | .tup ys => do need (flatD x && ys.all flatD); .ok (ys.any fun z => eqD z x)
  | _ => .stuck
def opIn : Op2 := fun S x y => do let b ← inD S x y; .ok (.bl b)
def opNotIn : Op2 := fun S x y => do let b ← inD S x y; .ok (.bl (!b))
theorem nx_inD {S : Store} {x y : D} : NoX (inD S x y) := by
  unfold inD
  split
  · exact .bind .opt fun _ => .ok
  · exact .bind .need fun _ => .ok
  · exact .bind .need fun _ => .ok
  · exact .stuck
section
variable {X : Cx} {Γ : Gx}
theorem op_inC (hu : X.A.units + 65 < cLine) : OpR X (compareOp .In) (rOp2 X.K Γ opIn) := by
  intro pins s σ H x y v u Q I rx ry h
  obtain ⟨M, ρ, S, dx, dy, w, r1, r2, h⟩ := h
  unfold opIn inD at h
  split at h
  · rename_i kvs e
    obtain ⟨k, ek, h⟩ := sat_opt (Res.sat_bind h)
    obtain ⟨a, hs, rfl, h1, q⟩ := deref_dct w r2 e
    have rk := keyOf_rel r1 ek
    subst rk
    have lk := lookK_rel (k := k) q
    have hb : (lookK k kvs).isSome = (valV hs k).isSome := by
      cases z : lookK k kvs with
      | none => rw [z] at lk; rw [show valV hs k = none from lk]; rfl
      | some d => rw [z] at lk; obtain ⟨v', e', _⟩ := lk; rw [e']; rfl
    obtain rfl : u = Value.ref a := ry
    refine d_in (by omega) I (DGet.k h1) rx fun s3 I3 => ⟨.bl (valV hs k).isSome, H, I3, rfl, ?_⟩
    rw [← hb]
    exact h _ H (LamX.ExtN.refl H) w.tabs (.bl _)
  · rename_i ys e
    obtain ⟨hb, h⟩ := sat_need (Res.sat_bind h)
    rw [Bool.and_eq_true] at hb
    have hl : lay 60 (deref S dy) = true := by rw [e]; simp only [lay]; exact hb.2
    have q := dp_deref w hl r2
    rw [e] at q hl
    refine op_inD hu pins s σ H _ _ v u Q I rx ry ⟨_, _, dp_deref w hb.1 r1, q, lay_shaped hb.1, lay_shaped hl, ?_⟩
    rw [any_pd hb.1 hb.2]
    exact h _ H (LamX.ExtN.refl H) w.tabs (.bl _)
  · rename_i ys e
    obtain ⟨hb, h⟩ := sat_need (Res.sat_bind h)
    rw [Bool.and_eq_true] at hb
    obtain ⟨a, vs, rfl, h1, q⟩ := deref_tup r2 e
    refine op_in_seq pins s σ H _ _ v u Q I rx ry ⟨a, vs, rfl, .inr h1, flatD_rel r1 hb.1, flatDs_rel q hb.2, ?_⟩
    rw [if_neg (by decide), anyV_rel r1 hb.1 q hb.2]
    exact h _ H (LamX.ExtN.refl H) w.tabs (.bl _)
  · exact h.elim
theorem op_notInC (hu : X.A.units + 65 < cLine) : OpR X (compareOp .NotIn) (rOp2 X.K Γ opNotIn) := by
  intro pins s σ H x y v u Q I rx ry h
  obtain ⟨M, ρ, S, dx, dy, w, r1, r2, h⟩ := h
  unfold opNotIn inD at h
  split at h
  · rename_i kvs e
    obtain ⟨k, ek, h⟩ := sat_opt (Res.sat_bind h)
    obtain ⟨a, hs, rfl, h1, q⟩ := deref_dct w r2 e
    have rk := keyOf_rel r1 ek
    subst rk
    have lk := lookK_rel (k := k) q
    have hb : (lookK k kvs).isSome = (valV hs k).isSome := by
      cases z : lookK k kvs with
      | none => rw [z] at lk; rw [show valV hs k = none from lk]; rfl
      | some d => rw [z] at lk; obtain ⟨v', e', _⟩ := lk; rw [e']; rfl
    obtain rfl : u = Value.ref a := ry
    refine d_notIn (by omega) I (DGet.k h1) rx fun s3 I3 => ⟨.bl (!(valV hs k).isSome), H, I3, rfl, ?_⟩
    rw [← hb]
    exact h _ H (LamX.ExtN.refl H) w.tabs (.bl _)
  · rename_i ys e
    obtain ⟨hb, h⟩ := sat_need (Res.sat_bind h)
    rw [Bool.and_eq_true] at hb
    have hl : lay 60 (deref S dy) = true := by rw [e]; simp only [lay]; exact hb.2
    have q := dp_deref w hl r2
    rw [e] at q hl
    refine op_notInD hu pins s σ H _ _ v u Q I rx ry ⟨_, _, dp_deref w hb.1 r1, q, lay_shaped hb.1, lay_shaped hl, ?_⟩
    rw [any_pd hb.1 hb.2]
    exact h _ H (LamX.ExtN.refl H) w.tabs (.bl _)
  · rename_i ys e
    obtain ⟨hb, h⟩ := sat_need (Res.sat_bind h)
    rw [Bool.and_eq_true] at hb
    obtain ⟨a, vs, rfl, h1, q⟩ := deref_tup r2 e
    refine op_notIn_seq pins s σ H _ _ v u Q I rx ry ⟨a, vs, rfl, .inr h1, flatD_rel r1 hb.1, flatDs_rel q hb.2, ?_⟩
    rw [if_pos rfl, anyV_rel r1 hb.1 q hb.2]
    exact h _ H (LamX.ExtN.refl H) w.tabs (.bl _)
  · exact h.elim
theorem c_in {k : Nat} (hr : Room k X.A) : CmpC X Γ .In opIn := ⟨op_inC (by have := hr.units; have := hr.un; omega), fun S x y => .bind nx_inD fun _ => .ok⟩
theorem c_notIn {k : Nat} (hr : Room k X.A) : CmpC X Γ .NotIn opNotIn := ⟨op_notInC (by have := hr.units; have := hr.un; omega), fun S x y => .bind nx_inD fun _ => .ok⟩
end

/-! ### items and slices -/
/-- o[i] -/
def opIx : Op2 := fun S x y => match deref S x with
  | .tup xs => match y with
    | .int i => opt (atI xs i)
    | _ => .stuck
  | .lst xs => match y with
    | .int i => opt (atI xs i)
    | _ => .stuck
  | .str z => match y with
    | .int i => do need (decide (z.length ≤ sizeLine)); let c ← opt (atI z.cps.toList i); .ok (.str ⟨#[c]⟩)
    | _ => .stuck
  | .dct kvs => do let k ← opt (keyOf y); opt (lookK k kvs)
  | _ => .stuck
theorem nx_ix : NX2 opIx := fun S x y => by
  unfold opIx
  split
  · split; exact .opt; exact .stuck
  · split; exact .opt; exact .stuck
  · split; exact .bind .need fun _ => .bind .opt fun _ => .ok; exact .stuck
  · exact .bind .opt fun _ => .opt
  · exact .stuck
theorem opt_sat {α : Type} {o : Option α} {Q : α → Prop} {R : Exn → Prop} (h : (opt o).Sat Q R) : ∃ a, o = some a ∧ Q a := by
  cases o with
  | some a => exact ⟨a, rfl, h⟩
  | none => exact h.elim
section
variable {K : PySem.W.Frag} {Γ : Gx} {M : Addr → Prop} {ρ : List Addr} {S : Store} {H : Hp}
theorem atI_rel {xs : List D} {vs : List V} {i : Int} {d : D} (r : RelDs K Γ.cl M ρ H xs vs) (e : atI xs i = some d) : ∃ v, atI vs i = some v ∧ RelD K Γ.cl M ρ H d v := by
  unfold atI at e ⊢
  rw [← r.length]
  cases q : ixN xs.length i with
  | none => rw [q] at e; cases e
  | some j =>
    rw [q] at e
    exact r.get e
end
section
variable {X : Cx} {Γ : Gx} {W : WX} {pos : Pos} {a b : Expr} {ca cb : Code}
theorem ix_C (hu : X.A.units + 1 < cLine) : IxR X (rOp2 X.K Γ opIx) := by
  intro value slice pins s σ H x y v u Q I rx ry h hs
  obtain ⟨M, ρ, S, dx, dy, w, r1, r2, h⟩ := h
  unfold opIx at h
  split at h
  · rename_i xs e
    split at h
    · rename_i i
      obtain ⟨d, ed, h⟩ := opt_sat h
      obtain ⟨p, vs, rfl, h1, q⟩ := deref_tup r1 e
      obtain ⟨v', ev, rv⟩ := atI_rel q ed
      cases r2
      exact ix_tup value slice pins s σ H _ _ v u Q I rx ry ⟨p, vs, i, v', rfl, rfl, h1, ev, h v' H (LamX.ExtN.refl H) w.tabs rv⟩ hs
    · exact h.elim
  · rename_i xs e
    split at h
    · rename_i i
      obtain ⟨d, ed, h⟩ := opt_sat h
      obtain ⟨p, vs, rfl, h1, q⟩ := deref_lst w r1 e
      obtain ⟨v', ev, rv⟩ := atI_rel q ed
      cases r2
      exact ix_list value slice pins s σ H _ _ v u Q I rx ry ⟨p, vs, i, v', rfl, rfl, .of h1, ev, h v' H (LamX.ExtN.refl H) w.tabs rv⟩ hs
    · exact h.elim
  · rename_i z e
    split at h
    · rename_i i
      obtain ⟨hb, h⟩ := sat_need h
      obtain ⟨c, ec, h⟩ := sat_opt h
      have ez : dx = .str z := by
        cases dx <;> (try (simp [deref] at e; done))
        · simp [deref] at e; subst e; rfl
        · rename_i n; unfold deref at e; cases q : S[n]? with
          | none => simp [q] at e
          | some c => cases c <;> simp [q] at e
      subst ez
      cases r1; cases r2
      exact ix_str value slice pins s σ H _ _ v u Q I rx ry ⟨z, i, c, rfl, rfl, of_decide_eq_true hb, ec, h _ H (LamX.ExtN.refl H) w.tabs (.str _)⟩ hs
    · exact h.elim
  · rename_i kvs e
    obtain ⟨k, ek, h⟩ := sat_opt h
    obtain ⟨d, ed, h⟩ := opt_sat h
    obtain ⟨p, hs', rfl, h1, q⟩ := deref_dct w r1 e
    have rk := keyOf_rel r2 ek
    subst rk
    have lk := lookK_rel (k := k) q
    rw [ed] at lk
    obtain ⟨v', e', r'⟩ := lk
    obtain rfl : v = Value.ref p := rx
    have g : DGet H p (kV k) (some v') := by rw [← e']; exact DGet.k h1
    exact tail_any (dict_typeIs I g) PySem.F.slot_dict_getitem.lookup (d_getItem hu I g ry fun w' s3 I3 rw' => ⟨v', H, I3, rw', h v' H (LamX.ExtN.refl H) w.tabs r'⟩) hs
  · exact h.elim
theorem pc_ix {k : Nat} (hr : Room k X.A) (ha : PEc X Γ W a ca) (hb : PEc X Γ W b cb) (hs : PlainIx b := by intro _ _; with_unfolding_all rfl) : PEc X Γ W (.Subscript a b pos) (cOp2 opIx ca cb) :=
  pe_of (pe_ix (ix_C (hu_of hr)) ha hb hs) fun σ H Q h => tE_op2 (fun S x y Q R z => nx_ix S x y Q R _ z) h
/-! ### slices -/
abbrev OCode := Env → Store → Res (Option Int)
def tO (K : PySem.W.Frag) (Γ : Gx) (W : WX) (c : OCode) : TO := fun σ H Q => ∃ M ρ env S, At K Γ M ρ env S σ H ∧
  (c env S).Sat (fun b => ∀ H', LamX.ExtN H H' → TabsOk Γ H' → Q b H') (XW Γ W σ H)
abbrev POc (X : Cx) (Γ : Gx) (W : WX) (e : Option Expr) (c : OCode) : Prop := PO X e (tO X.K Γ W c)
def oNone : OCode := fun _ _ => .ok none
def asI : D → Option Int
  | .int i => some i
  | _ => none
def oSome (c : Code) : OCode := fun env S => do
  let x ← c env S
  let i ← opt (asI x)
  .ok (some i)
theorem po_noneC : POc X Γ W none oNone := ⟨fun pins s σ H Q I ⟨M, ρ, env, S, a, h⟩ => po_none.run pins s σ H Q I (h H (LamX.ExtN.refl H) a.w.tabs)⟩
theorem po_someC {e : Expr} (he : PEc X Γ W e ca) : POc X Γ W (some e) (oSome ca) := ⟨fun pins s σ H Q I ⟨M, ρ, env, S, a, h⟩ => (po_some he).run pins s σ H Q I (by
  refine tE_step a (Res.sat_bind h) fun d v H' hd x t a' r => ?_
  obtain ⟨i, ei, hd⟩ := sat_opt hd
  cases d <;> simp [asI] at ei
  subst ei
  cases r
  exact ⟨_, rfl, hd H' x t⟩)⟩
def cutD {α : Type} (xs : List α) (lo hi : Option Int) : List α := (xs.drop (HT.sIx xs.length 0 lo)).take (HT.sIx xs.length xs.length hi - HT.sIx xs.length 0 lo)
theorem cutD_rel {K : PySem.W.Frag} {M : Addr → Prop} {ρ : List Addr} {H : Hp} {xs : List D} {vs : List V} (lo hi : Option Int) (r : RelDs K Γ.cl M ρ H xs vs) : RelDs K Γ.cl M ρ H (cutD xs lo hi) (cutV vs lo hi) := by
  unfold cutD cutV
  rw [r.length]
  exact (r.drop _).take _
theorem cutD_whole {α : Type} {xs : List α} {lo hi : Option Int} (h : HT.sIx xs.length 0 lo = 0 ∧ HT.sIx xs.length xs.length hi = xs.length) : cutD xs lo hi = xs := by
  unfold cutD
  rw [h.1, h.2]
  simp
/-- x[lo:hi], of a tuple or a list -/
def opSl (S : Store) (x : D) (lo hi : Option Int) : Res D := match deref S x with
  | .tup xs => .ok (.tup (cutD xs lo hi))
  | .lst xs => .ok (.lst (cutD xs lo hi))
  | _ => .stuck
def rSlC (K : PySem.W.Frag) (Γ : Gx) : V → Option Int → Option Int → Hp → VK → Prop := fun x lo hi H Q => ∃ M ρ S dx, Wld K Γ M ρ S H ∧ RelD K Γ.cl M ρ H dx x ∧
  (opSl S dx lo hi).Sat (fun d => ∀ v H', LamX.ExtN H H' → TabsOk Γ H' → RelD K Γ.cl M ρ H' d v → Q v H') fun _ => False
theorem sl_C : SlR X (rSlC X.K Γ) := by
  intro pins s σ H x v vl vu lo hi sl Q I rx hs pl pu h
  obtain ⟨M, ρ, S, dx, w, r1, h⟩ := h
  unfold opSl at h
  split at h
  · rename_i xs e
    obtain ⟨p, vs, rfl, h1, q⟩ := deref_tup r1 e
    refine sl_tupA pins s σ H _ v vl vu lo hi sl Q I rx hs pl pu ⟨p, vs, rfl, h1, fun z => ?_, fun z n hn => ?_⟩
    · have ew : cutD xs lo hi = xs := cutD_whole (by rw [q.length]; exact z)
      refine h _ H (LamX.ExtN.refl H) w.tabs ?_
      rw [ew]
      rcases h1 with (h1 | ⟨o, h1⟩) | h1
      · cases dx <;> simp [deref] at e
        · subst e; exact r1
        · rename_i n; cases q : S[n]? with
          | none => simp [q] at e
          | some c => cases c <;> simp [q] at e
      · cases dx <;> simp [deref] at e
        · subst e; exact r1
        · rename_i n; cases q : S[n]? with
          | none => simp [q] at e
          | some c => cases c <;> simp [q] at e
      · exact .tupK h1 q
    · exact h _ _ (ext_new hn) (tabs_new w.tabs hn) (new_tup w (cutD_rel lo hi q) hn)
  · rename_i xs e
    obtain ⟨p, vs, rfl, h1, q⟩ := deref_lst w r1 e
    exact sl_list pins s σ H _ v vl vu lo hi sl Q I rx hs pl pu ⟨p, vs, rfl, .of h1, fun n hn => h _ _ (ext_new hn) (tabs_new w.tabs hn) (new_lst w (cutD_rel lo hi q) hn)⟩
  · exact h.elim
def cSl (c : Code) (lo hi : OCode) : Code := fun env S => do
  let x ← c env S
  let l ← lo env S
  let u ← hi env S
  opSl S x l u
theorem nx_sl {S : Store} {x : D} {lo hi : Option Int} : NoX (opSl S x lo hi) := by unfold opSl; split; exact .ok; exact .ok; exact .stuck
theorem pc_slice {p2 : Pos} {lo hi : Option Expr} {cl ch : OCode} (ha : PEc X Γ W a ca) (hl : POc X Γ W lo cl) (hh : POc X Γ W hi ch) : PEc X Γ W (.Subscript a (.Slice lo hi none p2) pos) (cSl ca cl ch) :=
  pe_of (pe_slice sl_C ha hl hh) fun σ H Q ⟨M, ρ, env, S, a, h⟩ => by
    refine tE_step a (Res.sat_bind h) fun d v H1 hd e1 t1 a1 r => ?_
    refine ⟨M, ρ, env, S, a1, (Res.sat_bind (sat_ext hd e1)).mono (fun l hl H2 e2 t2 => ?_) fun _ z => z⟩
    have a2 := a1.ext e2 t2
    refine ⟨M, ρ, env, S, a2, (Res.sat_bind (sat_ext hl e2)).mono (fun u hu H3 e3 t3 => ?_) fun _ z => z⟩
    have a3 := a2.ext e3 t3
    refine ⟨M, ρ, S, d, a3.w, (r.keep (ext_keep e2)).keep (ext_keep e3), nx_sl _ _ _ (hu.mono (fun d p v H' e t r => p v H' (e1.trans (e2.trans (e3.trans e))) t r) fun _ z => z)⟩
end
end L2.Th

set_option Elab.async false
set_option linter.all false
set_option maxRecDepth 100000
set_option maxHeartbeats 4000000
/-! Layer F: argument lists, displays, calls of built-ins and of defs; what a def promises. -/
namespace L2.Th
open PySem PySem.Spec PyProof.Rows
abbrev ACode := Env → Store → Res (List D)
def tA (K : PySem.W.Frag) (Γ : Gx) (W : WX) (c : ACode) : TA := fun σ H Q => ∃ M ρ env S, At K Γ M ρ env S σ H ∧
  (c env S).Sat (fun ds => ∀ vs H', LamX.ExtN H H' → TabsOk Γ H' → RelDs K Γ.cl M ρ H' ds vs → Q vs H') (XW Γ W σ H)
abbrev PAc (X : Cx) (Γ : Gx) (W : WX) (es : List Expr) (c : ACode) : Prop := PA X es (tA X.K Γ W c)
theorem pa_of {X : Cx} {e : List Expr} {t t' : TA} (h : PA X e t) (w : ∀ σ H Q, t' σ H Q → t σ H Q) : PA X e t' := ⟨fun pos pins s σ H Q I h' => h.run pos pins s σ H Q I (w _ _ _ h')⟩
def aNil : ACode := fun _ _ => .ok []
def aCons (c : Code) (r : ACode) : ACode := fun env S => do
  let x ← c env S
  let xs ← r env S
  .ok (x :: xs)
section
variable {X : Cx} {Γ : Gx} {W : WX} {pos : Pos} {e : Expr} {es : List Expr} {c : Code} {ac : ACode}
theorem tA_step {K : PySem.W.Frag} {M : Addr → Prop} {ρ : List Addr} {S : Store} {H : Hp} {env : Env} {σ : St} {c : ACode} {P : List D → Prop} {Q : List V → Hp → Prop} (a : At K Γ M ρ env S σ H) (h : (c env S).Sat P (XW Γ W σ H))
    (hk : ∀ ds vs H', P ds → LamX.ExtN H H' → TabsOk Γ H' → At K Γ M ρ env S σ H' → RelDs K Γ.cl M ρ H' ds vs → Q vs H') : tA K Γ W c σ H Q :=
  ⟨M, ρ, env, S, a, h.mono (fun ds p vs H' x t r => hk ds vs H' p x t (a.ext x t) r) fun _ z => z⟩
theorem pa_nilC : PAc X Γ W [] aNil := pa_of pa_nil fun σ H Q ⟨M, ρ, env, S, a, h⟩ => h [] H (LamX.ExtN.refl H) a.w.tabs .nil
theorem pa_consC (ha : PEc X Γ W e c) (hr : PAc X Γ W es ac) (hs : starEach (e :: es) X.env = (false, eval e X.env) :: starEach es X.env := by rfl) : PAc X Γ W (e :: es) (aCons c ac) :=
  pa_of (pa_cons ha hr hs) fun σ H Q ⟨M, ρ, env, S, a, h⟩ => by
    refine tE_step a (Res.sat_bind h) fun d v H1 hd e1 t1 a1 r1 => ?_
    refine tA_step a1 (Res.sat_bind (sat_ext hd e1)) fun ds vs H2 hd2 e2 t2 a2 r2 => ?_
    exact hd2 _ H2 (e1.trans e2) t2 (.cons (r1.keep (ext_keep e2)) r2)
/-! ### displays -/
def cTup (ac : ACode) : Code := fun env S => do
  let xs ← ac env S
  need (decide (xs.length ≤ sizeLine))
  .ok (.tup xs)
def cLst (ac : ACode) : Code := fun env S => do
  let xs ← ac env S
  need (decide (xs.length ≤ sizeLine))
  .ok (.lst xs)
theorem pc_tup {k} (h : PAc X Γ W es ac) : PEc X Γ W (.Tuple es k pos) (cTup ac) :=
  pe_of (pe_tup h) fun σ H Q ⟨M, ρ, env, S, a, h⟩ => by
    refine tA_step a (Res.sat_bind h) fun ds vs H1 hd e1 t1 a1 r1 => ?_
    obtain ⟨hl, hd⟩ := sat_need hd
    exact ⟨by rw [← r1.length]; exact of_decide_eq_true hl, fun p hp => hd _ _ (e1.trans (ext_new hp)) (tabs_new t1 hp) (new_tup a1.w r1 hp)⟩
theorem pc_lst (h : PAc X Γ W es ac) : PEc X Γ W (.List es pos) (cLst ac) :=
  pe_of (pe_lst h) fun σ H Q ⟨M, ρ, env, S, a, h⟩ => by
    refine tA_step a (Res.sat_bind h) fun ds vs H1 hd e1 t1 a1 r1 => ?_
    obtain ⟨hl, hd⟩ := sat_need hd
    exact ⟨by rw [← r1.length]; exact of_decide_eq_true hl, fun p hp => hd _ _ (e1.trans (ext_new hp)) (tabs_new t1 hp) (new_lst a1.w r1 hp)⟩
/-! ### built-ins -/
abbrev OpN := Store → List D → Res D
def rOpN (K : PySem.W.Frag) (Γ : Gx) (op : OpN) : List V → Hp → VK → Prop := fun vs H Q => ∃ M ρ S ds, Wld K Γ M ρ S H ∧ RelDs K Γ.cl M ρ H ds vs ∧
  (op S ds).Sat (fun d => ∀ v H', LamX.ExtN H H' → TabsOk Γ H' → RelD K Γ.cl M ρ H' d v → Q v H') fun _ => False
def cOpN (op : OpN) (ac : ACode) : Code := fun env S => do
  let xs ← ac env S
  op S xs
abbrev NXN (op : OpN) : Prop := ∀ S xs, NoX (op S xs)
theorem tA_opN {op : OpN} (hop : NXN op) {K : PySem.W.Frag} {σ : St} {H : Hp} {Q : VK} (h : tE K Γ W (cOpN op ac) σ H Q) : tCB (rOpN K Γ op) (tA K Γ W ac) σ H Q := by
  obtain ⟨M, ρ, env, S, a, h⟩ := h
  refine tA_step a (Res.sat_bind h) fun ds vs H1 hd e1 t1 a1 r1 => ?_
  exact ⟨M, ρ, S, ds, a1.w, r1, hop _ _ _ _ _ (hd.mono (fun d p v H' e t r => p v H' (e1.trans e) t r) fun _ z => z)⟩
theorem pc_callB {op : OpN} {x : Str} {p : Pos} {id : String} (hc : CallR X (.builtin id) (rOpN X.K Γ op)) (hn : NXN op) (hg : Gl X x) (hm : X.mg x = none) (hv : bootBuiltins x = some (.builtin id)) (ha : PAc X Γ W (e :: es) ac) (hnm : x ≠ "__name__" := by decide) (hdb : (x == ("__debug__" : Str)) = false := by decide)
    (he : starEach (e :: es) X.env = (false, eval e X.env) :: starEach es X.env := by rfl) (hpl : (backTo pos (starEach es X.env)).any (·.1) = false := by rfl) : PEc X Γ W (.Call (.Name x p) (e :: es) [] pos) (cOpN op ac) :=
  pe_of (pe_callB hc hg hm hv ha hnm hdb he hpl) fun σ H Q h => tA_opN hn h
theorem pc_callTy {op : OpN} {x : Str} {p : Pos} {T : String} (hc : CallR X (.type T) (rOpN X.K Γ op)) (hn : NXN op) (hg : Gl X x) (hm : X.mg x = none) (hv : bootBuiltins x = some (.type T)) (ha : PAc X Γ W (e :: es) ac) (hnm : x ≠ "__name__" := by decide) (hdb : (x == ("__debug__" : Str)) = false := by decide)
    (he : starEach (e :: es) X.env = (false, eval e X.env) :: starEach es X.env := by rfl) (hpl : (backTo pos (starEach es X.env)).any (·.1) = false := by rfl) : PEc X Γ W (.Call (.Name x p) (e :: es) [] pos) (cOpN op ac) :=
  pe_of (pe_callTy hc hg hm hv ha hnm hdb he hpl) fun σ H Q h => tA_opN hn h
end
/-- one argument -/
def op1 (f : Store → D → Res D) : OpN := fun S xs => match xs with
  | [x] => f S x
  | _ => .stuck
theorem nx_op1 {f : Store → D → Res D} (h : ∀ S x, NoX (f S x)) : NXN (op1 f) := fun S xs => by unfold op1; split; exact h _ _; exact .stuck
theorem sat_op1 {K : PySem.W.Frag} {Γ : Gx} {op : Store → D → Res D} {vs : List V} {H : Hp} {Q : VK} (h : rOpN K Γ (op1 op) vs H Q) : ∃ M ρ S d v, vs = [v] ∧ Wld K Γ M ρ S H ∧ RelD K Γ.cl M ρ H d v ∧
    (op S d).Sat (fun d => ∀ v H', LamX.ExtN H H' → TabsOk Γ H' → RelD K Γ.cl M ρ H' d v → Q v H') fun _ => False := by
  obtain ⟨M, ρ, S, ds, w, r, h⟩ := h
  unfold op1 at h
  split at h
  · cases r with
    | cons r1 r2 => cases r2; exact ⟨M, ρ, S, _, _, rfl, w, r1, h⟩
  · exact h.elim
/-- len -/
def fLen (S : Store) (x : D) : Res D := match deref S x with
  | .tup xs => .ok (.int xs.length)
  | .lst xs => .ok (.int xs.length)
  | .dct xs => .ok (.int xs.length)
  | .str z => do need (decide (z.length ≤ sizeLine)); .ok (.int z.length)
  | _ => .stuck
theorem deref_str {S : Store} {d : D} {x : Str} (e : deref S d = .str x) : d = .str x := by
  cases d <;> simp [deref] at e
  · subst e; rfl
  · rename_i n; cases q : S[n]? with
    | none => simp [q] at e
    | some c => cases c <;> simp [q] at e
theorem deref_int {S : Store} {d : D} {x : Int} (e : deref S d = .int x) : d = .int x := by
  cases d <;> simp [deref] at e
  · subst e; rfl
  · rename_i n; cases q : S[n]? with
    | none => simp [q] at e
    | some c => cases c <;> simp [q] at e
theorem deref_tup_eq {S : Store} {d : D} {x : List D} (e : deref S d = .tup x) : d = .tup x := by
  cases d <;> simp [deref] at e
  · subst e; rfl
  · rename_i n; cases q : S[n]? with
    | none => simp [q] at e
    | some c => cases c <;> simp [q] at e
theorem nx_len : NXN (op1 fLen) := nx_op1 fun S x => by
  unfold fLen
  split
  · exact .ok
  · exact .ok
  · exact .ok
  · exact .bind .need fun _ => .ok
  · exact .stuck
/-- tuple(x), list(x) -/
def fTuple (S : Store) (x : D) : Res D := match deref S x with
  | .tup xs => .ok (.tup xs)
  | .lst xs => .ok (.tup xs)
  | _ => .stuck
def fList (S : Store) (x : D) : Res D := match deref S x with
  | .tup xs => .ok (.lst xs)
  | .lst xs => .ok (.lst xs)
  | _ => .stuck
theorem nx_tuple : NXN (op1 fTuple) := nx_op1 fun S x => by unfold fTuple; split; exact .ok; exact .ok; exact .stuck
theorem nx_list : NXN (op1 fList) := nx_op1 fun S x => by unfold fList; split; exact .ok; exact .ok; exact .stuck
/-- the ints of a list -/
def intsOf : List D → Option (List Int)
  | [] => some []
  | .int i :: r => (intsOf r).map (i :: ·)
  | _ => none
theorem intsOf_rel {K : PySem.W.Frag} {cl : Nat → Addr} {M : Addr → Prop} {ρ : List Addr} {H : Hp} : ∀ {xs : List D} {vs : List V} {ns : List Int}, RelDs K cl M ρ H xs vs → intsOf xs = some ns → vs = ns.map V.int
  | [], _, _, r, e => by cases r; cases e; rfl
  | d :: xs, _, ns, r, e => by
    cases r with
    | cons h r =>
      cases d <;> simp [intsOf] at e
      obtain ⟨ms, e1, rfl⟩ := e
      cases h
      rw [List.map_cons, intsOf_rel r e1]
@[simp] theorem intsOf_map (ns : List Int) : intsOf (ns.map D.int) = some ns := by
  induction ns with
  | nil => rfl
  | cons n ns ih => simp [intsOf, ih]
def minI : List Int → Option Int
  | [] => none
  | x :: xs => some (xs.foldl min x)
def maxI : List Int → Option Int
  | [] => none
  | x :: xs => some (xs.foldl max x)
theorem foldl_min (x : Int) (xs : List Int) : xs.foldl min x ∈ x :: xs ∧ ∀ y ∈ x :: xs, xs.foldl min x ≤ y := by
  induction xs generalizing x with
  | nil => simp
  | cons z zs ih =>
    have h := ih (min x z)
    simp only [List.foldl_cons]
    refine ⟨?_, fun y hy => ?_⟩
    · rcases List.mem_cons.mp h.1 with e | e
      · rw [e]
        rcases Int.le_total x z with q | q
        · rw [Int.min_eq_left q]; exact List.mem_cons_self
        · rw [Int.min_eq_right q]; exact List.mem_cons_of_mem _ List.mem_cons_self
      · exact List.mem_cons_of_mem _ (List.mem_cons_of_mem _ e)
    · have hm := h.2 (min x z) List.mem_cons_self
      rcases List.mem_cons.mp hy with e | hy
      · subst e; exact Int.le_trans hm (Int.min_le_left _ _)
      · rcases List.mem_cons.mp hy with e | hy
        · subst e; exact Int.le_trans hm (Int.min_le_right _ _)
        · exact h.2 y (List.mem_cons_of_mem _ hy)
theorem foldl_max (x : Int) (xs : List Int) : xs.foldl max x ∈ x :: xs ∧ ∀ y ∈ x :: xs, y ≤ xs.foldl max x := by
  induction xs generalizing x with
  | nil => simp
  | cons z zs ih =>
    have h := ih (max x z)
    simp only [List.foldl_cons]
    refine ⟨?_, fun y hy => ?_⟩
    · rcases List.mem_cons.mp h.1 with e | e
      · rw [e]
        rcases Int.le_total x z with q | q
        · rw [Int.max_eq_right q]; exact List.mem_cons_of_mem _ List.mem_cons_self
        · rw [Int.max_eq_left q]; exact List.mem_cons_self
      · exact List.mem_cons_of_mem _ (List.mem_cons_of_mem _ e)
    · have hm := h.2 (max x z) List.mem_cons_self
      rcases List.mem_cons.mp hy with e | hy
      · subst e; exact Int.le_trans (Int.le_max_left _ _) hm
      · rcases List.mem_cons.mp hy with e | hy
        · subst e; exact Int.le_trans (Int.le_max_right _ _) hm
        · exact h.2 y (List.mem_cons_of_mem _ hy)
def fMin (S : Store) (x : D) : Res D := do
  let xs ← opt (asLst S x)
  let ns ← opt (intsOf xs)
  let m ← opt (minI ns)
  .ok (.int m)
def fMax (S : Store) (x : D) : Res D := do
  let xs ← opt (asLst S x)
  let ns ← opt (intsOf xs)
  let m ← opt (maxI ns)
  .ok (.int m)
def fSum (S : Store) (x : D) : Res D := do
  let xs ← opt (asLst S x)
  let ns ← opt (intsOf xs)
  .ok (.int ns.sum)
theorem nx_min : NXN (op1 fMin) := nx_op1 fun S x => .bind .opt fun _ => .bind .opt fun _ => .bind .opt fun _ => .ok
theorem nx_max : NXN (op1 fMax) := nx_op1 fun S x => .bind .opt fun _ => .bind .opt fun _ => .bind .opt fun _ => .ok
theorem nx_sum : NXN (op1 fSum) := nx_op1 fun S x => .bind .opt fun _ => .bind .opt fun _ => .ok
/-- two arguments: min, max -/
def op2N (f : Store → D → D → Res D) : OpN := fun S xs => match xs with
  | [x, y] => f S x y
  | _ => .stuck
def fMax2 (_ : Store) (x y : D) : Res D := match x, y with
  | .int i, .int j => .ok (.int (if j > i then j else i))
  | _, _ => .stuck
def fMin2 (_ : Store) (x y : D) : Res D := match x, y with
  | .int i, .int j => .ok (.int (if j < i then j else i))
  | _, _ => .stuck
theorem nx_max2 : NXN (op2N fMax2) := fun S xs => by unfold op2N; split; (unfold fMax2; split; exact .ok; exact .stuck); exact .stuck
theorem nx_min2 : NXN (op2N fMin2) := fun S xs => by unfold op2N; split; (unfold fMin2; split; exact .ok; exact .stuck); exact .stuck
def fAbs (_ : Store) (x : D) : Res D := match x with
  | .int i => .ok (.int (if i < 0 then -i else i))
  | _ => .stuck
theorem nx_abs : NXN (op1 fAbs) := nx_op1 fun S x => by unfold fAbs; split; exact .ok; exact .stuck
def fInt (_ : Store) (x : D) : Res D := match x with
  | .int i => .ok (.int i)
  | .bl b => .ok (.int (if b then 1 else 0))
  | _ => .stuck
theorem nx_int : NXN (op1 fInt) := nx_op1 fun S x => by unfold fInt; split; exact .ok; exact .ok; exact .stuck
section
variable {X : Cx} {Γ : Gx}
theorem call_lenC : CallR X (.builtin "len") (rOpN X.K Γ (op1 fLen)) := by
  intro pins s σ H vs us Q I r h
  replace h := sat_op1 h
  obtain ⟨M, ρ, S, d, v, rfl, w, r1, h⟩ := h
  unfold fLen at h
  split at h
  · rename_i xs e
    obtain ⟨a, vs, rfl, h1, q⟩ := deref_tup r1 e
    exact call_len_seq pins s σ H _ us Q I r ⟨a, vs, rfl, .inr h1, by rw [← q.length]; exact h _ H (LamX.ExtN.refl H) w.tabs (.int _)⟩
  · rename_i xs e
    obtain ⟨a, vs, rfl, h1, q⟩ := deref_lst w r1 e
    exact call_len_seq pins s σ H _ us Q I r ⟨a, vs, rfl, .inl (.of h1), by rw [← q.length]; exact h _ H (LamX.ExtN.refl H) w.tabs (.int _)⟩
  · rename_i xs e
    obtain ⟨a, hs, rfl, h1, q⟩ := deref_dct w r1 e
    cases r with
    | cons ra rn =>
      cases rn
      obtain rfl := (show _ = Value.ref a from ra)
      exact d_len I (.inl h1) fun t s' I' => ⟨.int _, H, I', ⟨_, rfl⟩, by rw [← q.length]; exact h _ H (LamX.ExtN.refl H) w.tabs (.int _)⟩
  · rename_i z e
    obtain ⟨hb, h⟩ := sat_need h
    cases deref_str e
    cases r1
    exact call_len_str pins s σ H _ us Q I r ⟨z, rfl, of_decide_eq_true hb, h _ H (LamX.ExtN.refl H) w.tabs (.int _)⟩
  · exact h.elim
theorem call_tupleC : CallR X (.type "tuple") (rOpN X.K Γ (op1 fTuple)) := by
  intro pins s σ H vs us Q I r h
  replace h := sat_op1 h
  obtain ⟨M, ρ, S, d, v, rfl, w, r1, h⟩ := h
  unfold fTuple at h
  split at h
  · rename_i xs e
    cases deref_tup_eq e
    obtain ⟨a, vs, rfl, h1, q⟩ := deref_tup r1 e
    exact call_tuple_of pins s σ H _ us Q I r ⟨a, vs, rfl, .inr ⟨h1, h _ H (LamX.ExtN.refl H) w.tabs r1⟩⟩
  · rename_i xs e
    obtain ⟨a, vs, rfl, h1, q⟩ := deref_lst w r1 e
    exact call_tuple_of pins s σ H _ us Q I r ⟨a, vs, rfl, .inl ⟨.of h1, fun l hl => h _ _ (ext_new hl) (tabs_new w.tabs hl) (new_tup w q hl)⟩⟩
  · exact h.elim
theorem call_listC : CallR X (.type "list") (rOpN X.K Γ (op1 fList)) := by
  intro pins s σ H vs us Q I r h
  replace h := sat_op1 h
  obtain ⟨M, ρ, S, d, v, rfl, w, r1, h⟩ := h
  unfold fList at h
  split at h
  · rename_i xs e
    obtain ⟨a, vs, rfl, h1, q⟩ := deref_tup r1 e
    exact call_list_of pins s σ H _ us Q I r ⟨a, vs, rfl, .inr h1, fun l hl => h _ _ (ext_new hl) (tabs_new w.tabs hl) (new_lst w q hl)⟩
  · rename_i xs e
    obtain ⟨a, vs, rfl, h1, q⟩ := deref_lst w r1 e
    exact call_list_of pins s σ H _ us Q I r ⟨a, vs, rfl, .inl (.of h1), fun l hl => h _ _ (ext_new hl) (tabs_new w.tabs hl) (new_lst w q hl)⟩
  · exact h.elim
theorem call_minC (hc : X.calm = true) : CallR X (.builtin "min") (rOpN X.K Γ (op1 fMin)) := by
  intro pins s σ H vs us Q I r h
  replace h := sat_op1 h
  obtain ⟨M, ρ, S, d, v, rfl, w, r1, h⟩ := h
  obtain ⟨xs, e1, h⟩ := sat_opt h
  obtain ⟨ns, e2, h⟩ := sat_opt h
  obtain ⟨m, e3, h⟩ := sat_opt h
  obtain ⟨a, vs, rfl, h1, q⟩ := asLst_rel w r1 e1
  have e := intsOf_rel q e2
  subst e
  cases ns with
  | nil => cases e3
  | cons n ns =>
    obtain rfl := Option.some.inj e3
    have hm := foldl_min n ns
    refine cr_min hc pins s σ H _ us Q I r ⟨a, n :: ns, rfl, .of h1, Nat.zero_lt_succ _, fun m hm1 hm2 => ?_⟩
    have em : m = ns.foldl min n := Int.le_antisymm (hm2 _ hm.1) (hm.2 _ hm1)
    rw [em]
    exact h _ H (LamX.ExtN.refl H) w.tabs (.int _)
theorem call_maxC (hc : X.calm = true) : CallR X (.builtin "max") (rOpN X.K Γ (op1 fMax)) := by
  intro pins s σ H vs us Q I r h
  replace h := sat_op1 h
  obtain ⟨M, ρ, S, d, v, rfl, w, r1, h⟩ := h
  obtain ⟨xs, e1, h⟩ := sat_opt h
  obtain ⟨ns, e2, h⟩ := sat_opt h
  obtain ⟨m, e3, h⟩ := sat_opt h
  obtain ⟨a, vs, rfl, h1, q⟩ := asLst_rel w r1 e1
  have e := intsOf_rel q e2
  subst e
  cases ns with
  | nil => cases e3
  | cons n ns =>
    obtain rfl := Option.some.inj e3
    have hm := foldl_max n ns
    refine cr_max hc pins s σ H _ us Q I r ⟨a, n :: ns, rfl, .of h1, Nat.zero_lt_succ _, fun m hm1 hm2 => ?_⟩
    have em : m = ns.foldl max n := Int.le_antisymm (hm.2 _ hm1) (hm2 _ hm.1)
    rw [em]
    exact h _ H (LamX.ExtN.refl H) w.tabs (.int _)
theorem call_sumC (hc : X.calm = true) : CallR X (.builtin "sum") (rOpN X.K Γ (op1 fSum)) := by
  intro pins s σ H vs us Q I r h
  replace h := sat_op1 h
  obtain ⟨M, ρ, S, d, v, rfl, w, r1, h⟩ := h
  obtain ⟨xs, e1, h⟩ := sat_opt h
  obtain ⟨ns, e2, h⟩ := sat_opt h
  obtain ⟨a, vs, rfl, h1, q⟩ := asLst_rel w r1 e1
  have e := intsOf_rel q e2
  subst e
  exact cr_sum hc pins s σ H _ us Q I r ⟨a, ns, rfl, .of h1, h _ H (LamX.ExtN.refl H) w.tabs (.int _)⟩
theorem call_absC : CallR X (.builtin "abs") (rOpN X.K Γ (op1 fAbs)) := by
  intro pins s σ H vs us Q I r h
  replace h := sat_op1 h
  obtain ⟨M, ρ, S, d, v, rfl, w, r1, h⟩ := h
  unfold fAbs at h
  split at h
  · cases r1
    exact call_abs pins s σ H _ us Q I r ⟨_, rfl, h _ H (LamX.ExtN.refl H) w.tabs (.int _)⟩
  · exact h.elim
theorem call_intC : CallR X (.type "int") (rOpN X.K Γ (op1 fInt)) := by
  intro pins s σ H vs us Q I r h
  replace h := sat_op1 h
  obtain ⟨M, ρ, S, d, v, rfl, w, r1, h⟩ := h
  unfold fInt at h
  split at h
  · cases r1
    exact call_int1 pins s σ H _ us Q I r (.inl ⟨_, rfl, h _ H (LamX.ExtN.refl H) w.tabs (.int _)⟩)
  · cases r1
    exact call_int1 pins s σ H _ us Q I r (.inr ⟨_, rfl, h _ H (LamX.ExtN.refl H) w.tabs (.int _)⟩)
  · exact h.elim
theorem call_max2C (hc : X.calm = true) : CallR X (.builtin "max") (rOpN X.K Γ (op2N fMax2)) := by
  intro pins s σ H vs us Q I r h
  obtain ⟨M, ρ, S, ds, w, rr, h⟩ := h
  unfold op2N at h
  split at h
  · cases rr with
    | cons r1 rr => cases rr with
      | cons r2 rr =>
        cases rr
        unfold fMax2 at h
        split at h
        · cases r1; cases r2
          exact call_max2 hc pins s σ H _ us Q I r ⟨_, _, rfl, h _ H (LamX.ExtN.refl H) w.tabs (.int _)⟩
        · exact h.elim
  · exact h.elim
theorem call_min2C (hc : X.calm = true) : CallR X (.builtin "min") (rOpN X.K Γ (op2N fMin2)) := by
  intro pins s σ H vs us Q I r h
  obtain ⟨M, ρ, S, ds, w, rr, h⟩ := h
  unfold op2N at h
  split at h
  · cases rr with
    | cons r1 rr => cases rr with
      | cons r2 rr =>
        cases rr
        unfold fMin2 at h
        split at h
        · cases r1; cases r2
          exact call_min2 hc pins s σ H _ us Q I r ⟨_, _, rfl, h _ H (LamX.ExtN.refl H) w.tabs (.int _)⟩
        · exact h.elim
  · exact h.elim
end
end L2.Th

set_option Elab.async false
set_option linter.all false
set_option maxRecDepth 100000
set_option maxHeartbeats 4000000
/-! Layer G: what a def promises, and its call. -/
namespace L2.Th
open PySem PySem.Spec PyProof.Rows
mutual
/-- no cell of the store in it -/
def noL : D → Bool
  | .loc _ => false
  | .tup xs => noLs xs
  | .lst xs => noLs xs
  | .dct xs => noLk xs
  | .ins _ xs => noLf xs
  | _ => true
def noLs : List D → Bool
  | [] => true
  | x :: xs => noL x && noLs xs
def noLk : List (D × D) → Bool
  | [] => true
  | (_, x) :: xs => noL x && noLk xs
def noLf : List (Str × D) → Bool
  | [] => true
  | (_, x) :: xs => noL x && noLf xs
end
mutual
/-- scalars and tuples of them alone -/
def lf : D → Bool
  | .non => true
  | .bl _ => true
  | .int _ => true
  | .str _ => true
  | .tup xs => lfs xs
  | _ => false
def lfs : List D → Bool
  | [] => true
  | x :: xs => lf x && lfs xs
end
section
variable {K : PySem.W.Frag} {cl : Nat → Addr} {M M' : Addr → Prop} {ρ ρ' : List Addr} {H H' : Hp}
structure KeepN (M M' : Addr → Prop) (ρ ρ' : List Addr) (H H' : Hp) : Prop where
  obj : ∀ b o, H b = some o → ¬ M b → b ∉ ρ → (∀ ps, o ≠ .tbl ps) → H' b = some o ∧ ¬ M' b ∧ b ∉ ρ'
  dice : ∀ b, H b = some (diceO b) → H' b = some (diceO b)
theorem b2 {a b : Bool} (h : (a && b) = true) : a = true ∧ b = true := Bool.and_eq_true_iff.mp h
mutual
theorem RelD.keepN (k : KeepN M M' ρ ρ' H H') : ∀ {d : D} {v : V}, noL d = true → RelD K cl M ρ H d v → RelD K cl M' ρ' H' d v
  | _, _, _, .non => .non
  | _, _, _, .bl b => .bl b
  | _, _, _, .int i => .int i
  | _, _, _, .str x => .str x
  | _, _, n, .tup hM hρ h r => let ⟨a, b, c⟩ := k.obj _ _ h hM hρ (fun _ z => (nomatch z)); .tup b c a (RelDs.keepN k (by simpa only [noL] using n) r)
  | _, _, n, .lst hM hρ h r => let ⟨a, b, c⟩ := k.obj _ _ h hM hρ (fun _ z => (nomatch z)); .lst b c a (RelDs.keepN k (by simpa only [noL] using n) r)
  | _, _, n, .tupK h r => .tupK h (RelDs.keepN k (by simpa only [noL] using n) r)
  | _, _, n, .dK hM hρ h r => let ⟨a, b, c⟩ := k.obj _ _ h hM hρ (fun _ z => (nomatch z)); .dK b c a (RelKs.keepN k (by simpa only [noL] using n) r)
  | _, _, n, .ins hM hρ h r => let ⟨a, b, c⟩ := k.obj _ _ h hM hρ (fun _ z => (nomatch z)); .ins b c a (RelFs.keepN k (by simpa only [noL] using n) r)
  | _, _, _, .dice h => .dice (k.dice _ h)
  | _, _, n, .loc h => by simp [noL] at n
theorem RelDs.keepN (k : KeepN M M' ρ ρ' H H') : ∀ {d : List D} {v : List V}, noLs d = true → RelDs K cl M ρ H d v → RelDs K cl M' ρ' H' d v
  | _, _, _, .nil => .nil
  | _, _, n, .cons h r => .cons (RelD.keepN k (b2 (by simpa only [noLs] using n)).1 h) (RelDs.keepN k (b2 (by simpa only [noLs] using n)).2 r)
theorem RelKs.keepN (k : KeepN M M' ρ ρ' H H') : ∀ {d : List (D × D)} {v : List (Key × V)}, noLk d = true → RelKs K cl M ρ H d v → RelKs K cl M' ρ' H' d v
  | _, _, _, .nil => .nil
  | _, _, n, .cons h r => .cons (RelD.keepN k (b2 (by simpa only [noLk] using n)).1 h) (RelKs.keepN k (b2 (by simpa only [noLk] using n)).2 r)
theorem RelFs.keepN (k : KeepN M M' ρ ρ' H H') : ∀ {d : List (Str × D)} {v : List (Str × V)}, noLf d = true → RelFs K cl M ρ H d v → RelFs K cl M' ρ' H' d v
  | _, _, _, .nil => .nil
  | _, _, n, .cons h r => .cons (RelD.keepN k (b2 (by simpa only [noLf] using n)).1 h) (RelFs.keepN k (b2 (by simpa only [noLf] using n)).2 r)
end
mutual
theorem RelD.lf (hM : ∀ a vs, M a → H a ≠ some (.tup vs)) (hρ : ∀ a vs, a ∈ ρ → H a ≠ some (.tup vs)) : ∀ {d : D} {v : V}, lf d = true → RelD K cl M' ρ' H d v → RelD K cl M ρ H d v
  | _, _, _, .non => .non
  | _, _, _, .bl b => .bl b
  | _, _, _, .int i => .int i
  | _, _, _, .str x => .str x
  | _, _, n, .tup _ _ h r => .tup (fun z => hM _ _ z h) (fun z => hρ _ _ z h) h (RelDs.lf hM hρ (by simpa only [Th.lf] using n) r)
  | _, _, n, .lst _ _ h r => by simp [Th.lf] at n
  | _, _, n, .tupK h r => .tupK h (RelDs.lf hM hρ (by simpa only [Th.lf] using n) r)
  | _, _, n, .dK .. => by simp [Th.lf] at n
  | _, _, n, .ins .. => by simp [Th.lf] at n
  | _, _, n, .dice h => by simp [Th.lf] at n
  | _, _, n, .loc h => by simp [Th.lf] at n
theorem RelDs.lf (hM : ∀ a vs, M a → H a ≠ some (.tup vs)) (hρ : ∀ a vs, a ∈ ρ → H a ≠ some (.tup vs)) : ∀ {d : List D} {v : List V}, lfs d = true → RelDs K cl M' ρ' H d v → RelDs K cl M ρ H d v
  | _, _, _, .nil => .nil
  | _, _, n, .cons h r => .cons (RelD.lf hM hρ (b2 (by simpa only [Th.lfs] using n)).1 h) (RelDs.lf hM hρ (b2 (by simpa only [Th.lfs] using n)).2 r)
end
end
/-! ### the promise -/
abbrev Fn := List D → Res D
def spOf (K : PySem.W.Frag) (Γ : Gx) (n : Nat) (F : Fn) : Sp := fun vs H Q E => vs.length = n ∧ ∃ (M : Addr → Prop) (ds : List D), (∀ a, M a → ∃ o, H a = some o ∧ IsCellO o) ∧ TabsOk Γ H ∧ RelDs K Γ.cl M [] H ds vs ∧
  (F ds).Sat (fun d => ∀ v H', LamX.ExtN H H' → TabsOk Γ H' → RelD K Γ.cl M [] H' d v → Q v H') (fun e => ∀ cls dx H', LamX.ExtN H H' → TabsOk Γ H' → RelX Γ H' e cls dx → E cls dx H')
/-- a def of the text that keeps it, by its name -/
structure Cal (P : Program) (w : World) (K : PySem.W.Frag) (mg : Str → Option Value) (base : Heap) (Γ : Gx) (x : Str) (k n : Nat) (F : Fn) : Prop where
  ex : ∃ f fd ps, ps.length = n ∧ mg x = some (.ref f) ∧ PySem.W.keepIn K (.ref f) = true ∧ Binds K fd ps [] ∧ FnOk P w K mg base (L2.CX P w) k f fd ps (spOf K Γ n F)
abbrev CalX (X : Cx) (Γ : Gx) (x : Str) (k n : Nat) (F : Fn) : Prop := Cal X.prog X.w X.K X.mg X.base Γ x k n F
theorem Cal.mono {P : Program} {w : World} {K : PySem.W.Frag} {mg : Str → Option Value} {base : Heap} {Γ : Gx} {x : Str} {j k n : Nat} {F : Fn} (c : Cal P w K mg base Γ x j n F) (h : j ≤ k) : Cal P w K mg base Γ x k n F := by
  obtain ⟨f, fd, ps, h1, h2, h3, h4, h5⟩ := c.ex
  exact ⟨f, fd, ps, h1, h2, h3, h4, h5.mono h⟩
/-- arguments for a call: cells are read -/
def frzD (S : Store) : D → Option D
  | .loc n => match S[n]? with
    | some (.lst xs) => if noLs xs then some (.lst xs) else none
    | some (.dct xs) => if noLk xs then some (.dct xs) else none
    | _ => none
  | d => if noL d then some d else none
def frzs (S : Store) : List D → Option (List D)
  | [] => some []
  | d :: ds => match frzD S d, frzs S ds with
    | some x, some xs => some (x :: xs)
    | _, _ => none
/-- F's result behind a call: where cells went in, scalars and tuples alone come out -/
def callF (F : Fn) (S : Store) (ds : List D) : Res D :=
  if noLs ds then F ds else do
    let xs ← opt (frzs S ds)
    let d ← F xs
    need (lf d)
    .ok d
def cCall (n : Nat) (F : Fn) (ac : ACode) : Code := fun env S => do
  let ds ← ac env S
  need (decide (ds.length = n))
  callF F S ds
section
variable {K : PySem.W.Frag} {Γ : Gx} {M : Addr → Prop} {ρ : List Addr} {S : Store} {H H' : Hp}
theorem dice_cell (w : Wld K Γ M ρ S H) : ∀ b, H b = some (diceO b) → ¬ M b ∧ b ∉ ρ := fun b e =>
  ⟨fun h => (by obtain ⟨o, e1, c⟩ := w.m b h; rw [e] at e1; exact c.nd (Option.some.inj e1).symm), fun h => (by obtain ⟨o, e1, c⟩ := w.at h; rw [e] at e1; exact c.nd (Option.some.inj e1).symm)⟩
/-- into a callee: the caller's cells are not to be written -/
theorem keep_in : KeepN M (fun a => M a ∨ a ∈ ρ) ρ [] H H :=
  ⟨fun b o e hM hρ _ => ⟨e, fun z => z.elim hM hρ, by simp⟩, fun b e => e⟩
theorem keep_any : KeepN M (fun _ => False) ρ [] H H := ⟨fun b o e hM hρ _ => ⟨e, fun z => z, by simp⟩, fun b e => e⟩
theorem RelD.out {cl : Nat → Addr} {d : D} {v : V} (hM : ∀ a, M a ∨ a ∈ ρ → M' a) (r : RelD K cl M' [] H d v) : RelD K cl M ρ H d v :=
  r.keep ⟨fun b o e h1 _ _ => ⟨e, fun z => h1 (hM b (.inl z)), fun z => h1 (hM b (.inr z))⟩, fun b e => e, fun n a z => by simp at z⟩
theorem frzD_rel {d x : D} {v : V} (w : Wld K Γ M ρ S H) (e : frzD S d = some x) (r : RelD K Γ.cl M ρ H d v) : RelD K Γ.cl (fun _ => False) [] H x v := by
  unfold frzD at e
  split at e
  · rename_i n
    split at e
    · rename_i xs q
      split at e
      · rename_i hn
        cases e
        obtain ⟨a, vs, rfl, h1, h2⟩ := deref_lst w r (xs := xs) (by simp [deref, q])
        exact .lst (fun z => z) (by simp) h1 (h2.keepN keep_any hn)
      · cases e
    · rename_i xs q
      split at e
      · rename_i hn
        cases e
        obtain ⟨a, vs, rfl, h1, h2⟩ := deref_dct w r (xs := xs) (by simp [deref, q])
        exact .dK (fun z => z) (by simp) h1 (h2.keepN keep_any hn)
      · cases e
    · cases e
  · split at e
    · rename_i hn
      cases e
      exact r.keepN keep_any hn
    · cases e
theorem frzs_rel (w : Wld K Γ M ρ S H) : ∀ {ds xs : List D} {vs : List V}, frzs S ds = some xs → RelDs K Γ.cl M ρ H ds vs → RelDs K Γ.cl (fun _ => False) [] H xs vs
  | _, _, _, e, .nil => by cases e; exact .nil
  | _, _, _, e, .cons h r => by
    unfold frzs at e
    split at e
    · rename_i x xs e1 e2
      cases e
      exact .cons (frzD_rel w e1 h) (frzs_rel w e2 r)
    · cases e
/-- the caller's part of a call -/
theorem call_sat {n : Nat} {F : Fn} {ds : List D} {vs : List V} {Q : VK} {E : XK} (w : Wld K Γ M ρ S H) (hl : vs.length = n) (r : RelDs K Γ.cl M ρ H ds vs)
    (h : (callF F S ds).Sat (fun d => ∀ v H', LamX.ExtN H H' → TabsOk Γ H' → RelD K Γ.cl M ρ H' d v → Q v H') (fun e => ∀ cls dx H', LamX.ExtN H H' → TabsOk Γ H' → RelX Γ H' e cls dx → E cls dx H')) : spOf K Γ n F vs H Q E := by
  refine ⟨hl, ?_⟩
  unfold callF at h
  split at h
  · rename_i hn
    refine ⟨fun a => M a ∨ a ∈ ρ, ds, fun a z => z.elim (w.m a) w.at, w.tabs, r.keepN keep_in hn, h.mono (fun d p v H' x t rd => p v H' x t (rd.out fun a z => z)) fun e p => p⟩
  · obtain ⟨xs, e, h⟩ := sat_opt h
    refine ⟨fun _ => False, xs, fun _ z => z.elim, w.tabs, frzs_rel w e r, (Res.sat_bind h).mono (fun d p v H' x t rd => ?_) fun e p => p⟩
    obtain ⟨hlf, p⟩ := sat_need p
    refine p v H' x t (RelD.lf (fun a vs hm z => ?_) (fun a vs hm z => ?_) hlf rd)
    · obtain ⟨o, e1, c⟩ := w.m a hm
      have := x a o e1 c.ntb
      rw [z] at this
      exact c.ntup _ (Option.some.inj this).symm
    · obtain ⟨o, e1, c⟩ := w.at hm
      have := x a o e1 c.ntb
      rw [z] at this
      exact c.ntup _ (Option.some.inj this).symm
end
section
variable {X : Cx} {Γ : Gx} {W : WX} {pos : Pos} {e : Expr} {es : List Expr} {ac : ACode}
theorem pc_call {n k : Nat} {F : Fn} {x : Str} {p : Pos} (C : CalX X Γ x k n F) (hr : Room k X.A) (hg : Gl X x) (tk : Takes X W) (ha : PAc X Γ W (e :: es) ac) (hdb : (x == ("__debug__" : Str)) = false := by decide)
    (he : starEach (e :: es) X.env = (false, eval e X.env) :: starEach es X.env := by rfl) (hpl : (backTo pos (starEach es X.env)).any (·.1) = false := by rfl) : PEc X Γ W (.Call (.Name x p) (e :: es) [] pos) (cCall n F ac) := by
  obtain ⟨f, fd, ps, h1, h2, h3, h4, h5⟩ := C.ex
  refine pe_of (pe_callS h5 hr hg h2 h3 h4 (fun σ => passAt tk σ) ha hdb he hpl) fun σ H Q ⟨M, ρ, env, S, a, h⟩ => ?_
  refine tA_step a (Res.sat_bind h) fun ds vs H1 hd e1 t1 a1 r1 => ?_
  obtain ⟨hlen, hd⟩ := sat_need hd
  refine call_sat a1.w (by rw [← r1.length]; exact of_decide_eq_true hlen) r1 (hd.mono (fun d p v H' x t r => p v H' (e1.trans x) t r) fun ex p cls dx H' x t r => p cls dx H' (e1.trans x) t r)
end
end L2.Th

set_option Elab.async false
set_option linter.all false
set_option maxRecDepth 100000
set_option maxHeartbeats 4000000
/-! Layer H: statements. -/
namespace L2.Th
open PySem PySem.Spec PyProof.Rows
inductive Fl where
  | nx | bk | ct | rt (d : D)
abbrev SRes := Fl × Env × Store
abbrev SCode := Env → Store → Res SRes
structure Ext (ρ ρ' : List Addr) (H H' : Hp) : Prop where
  obj : ∀ b o, H b = some o → b ∉ ρ → (∀ ps, o ≠ .tbl ps) → H' b = some o
  new : ∀ a o, a ∈ ρ' → H a = some o → (∀ ps, o ≠ .tbl ps) → a ∈ ρ
  loc : ∀ (n : Nat) a, ρ[n]? = some a → ρ'[n]? = some a
theorem mem_of_loc {ρ : List Addr} {n : Nat} {a : Addr} (h : ρ[n]? = some a) : a ∈ ρ := List.mem_of_getElem? h
/-- the outcome of a statement, as it is wished -/
def Outc (K : PySem.W.Frag) (Γ : Gx) (M : Addr → Prop) (D : Ends) (ρ : List Addr) (σ : St) (H : Hp) : Fl → Prop
  | .nx => D.nx σ H
  | .bk => D.bk σ H
  | .ct => D.ct σ H
  | .rt d => ∀ v, RelD K Γ.cl M ρ H d v → D.rt v H
def XS (Γ : Gx) (W : WX) (ρ : List Addr) (H : Hp) (e : Exn) : Prop := ∀ cls dx σ' H', (∀ b o, H b = some o → b ∉ ρ → (∀ ps, o ≠ .tbl ps) → H' b = some o) → TabsOk Γ H' → RelX Γ H' e cls dx → W cls dx σ' H'
def tS (K : PySem.W.Frag) (Γ : Gx) (W : WX) (c : SCode) : TS := fun D σ H => ∃ M ρ env S, At K Γ M ρ env S σ H ∧
  (c env S).Sat (fun r => ∀ ρ' σ' H', Ext ρ ρ' H H' → At K Γ M ρ' r.2.1 r.2.2 σ' H' → Outc K Γ M D ρ' σ' H' r.1) (XS Γ W ρ H)
abbrev PSc (X : Cx) (Γ : Gx) (W : WX) (st : Stmt) (c : SCode) : Prop := PS X st (tS X.K Γ W c)
abbrev PSsc (X : Cx) (Γ : Gx) (W : WX) (st : List Stmt) (c : SCode) : Prop := PSs X st (tS X.K Γ W c)
section
variable {K : PySem.W.Frag} {Γ : Gx} {M : Addr → Prop} {ρ ρ1 ρ2 ρ' : List Addr} {S : Store} {H H1 H2 H' : Hp} {W : WX} {env : Env} {σ : St}
theorem Ext.refl : Ext ρ ρ H H := ⟨fun _ _ e _ _ => e, fun _ _ h _ _ => h, fun _ _ e => e⟩
theorem Ext.of (x : LamX.ExtN H H') : Ext ρ ρ H H' := ⟨fun b o e _ n => x b o e n, fun _ _ h _ _ => h, fun _ _ e => e⟩
theorem Ext.trans (a : Ext ρ ρ1 H H1) (b : Ext ρ1 ρ2 H1 H2) : Ext ρ ρ2 H H2 where
  obj := fun c o e n t => b.obj c o (a.obj c o e n t) (fun z => n (a.new c o z e t)) t
  new := fun c o z e t => by
    by_cases h : c ∈ ρ
    · exact h
    · exact a.new c o (b.new c o z (a.obj c o e h t) t) e t
  loc := fun n c e => b.loc n c (a.loc n c e)
theorem Ext.keep (w : Wld K Γ M ρ S H) (x : Ext ρ ρ' H H') (hM : ∀ a ∈ ρ', ¬ M a) : Keep M M ρ ρ' H H' :=
  ⟨fun b o e hM hρ hn => ⟨x.obj b o e hρ hn, hM, fun z => hρ (x.new b o z e hn)⟩, fun b e => x.obj b _ e (dice_cell w b e).2 (fun _ z => (nomatch z)), x.loc⟩
theorem XS.ext {e : Exn} (h : XS Γ W ρ H e) (x : Ext ρ ρ1 H H1) : XS Γ W ρ1 H1 e := fun cls dx σ' H' y t r => h cls dx σ' H' (fun b o e n nt => y b o (x.obj b o e n nt) (fun z => n (x.new b o z e nt)) nt) t r
theorem XS.xw {e : Exn} (h : XS Γ W ρ H e) (σ : St) : XW Γ W σ H e := fun cls dx H' x t r => h cls dx σ H' (fun b o e _ nt => x b o e nt) t r
theorem sat_xs {α : Type} {x : Res α} {P : α → Prop} (h : x.Sat P (XS Γ W ρ H)) (e : Ext ρ ρ1 H H1) : x.Sat P (XS Γ W ρ1 H1) := h.mono (fun _ z => z) fun _ z => z.ext e
theorem sat_xw {α : Type} {x : Res α} {P : α → Prop} (h : x.Sat P (XS Γ W ρ H)) : x.Sat P (XW Γ W σ H) := h.mono (fun _ z => z) fun _ z => z.xw σ
/-- an expression, then the rest of its statement -/
theorem tE_st {c : Code} {P : D → Prop} {Q : VK} (a : At K Γ M ρ env S σ H) (h : (c env S).Sat P (XS Γ W ρ H))
    (hk : ∀ d v H', P d → LamX.ExtN H H' → TabsOk Γ H' → At K Γ M ρ env S σ H' → RelD K Γ.cl M ρ H' d v → Q v H') : tE K Γ W c σ H Q := tE_step a (sat_xw h) hk
theorem tT_st {c : TCode} {P : Bool → Prop} {Q : Bool → Hp → Prop} (a : At K Γ M ρ env S σ H) (h : (c env S).Sat P (XS Γ W ρ H))
    (hk : ∀ b H', P b → LamX.ExtN H H' → TabsOk Γ H' → At K Γ M ρ env S σ H' → Q b H') : tT K Γ W c σ H Q := tT_step a (sat_xw h) hk
/-- a statement, then the rest -/
theorem tS_step {c : SCode} {P : SRes → Prop} {D : Ends} (a : At K Γ M ρ env S σ H) (h : (c env S).Sat P (XS Γ W ρ H))
    (hk : ∀ r ρ' σ' H', P r → Ext ρ ρ' H H' → At K Γ M ρ' r.2.1 r.2.2 σ' H' → Outc K Γ M D ρ' σ' H' r.1) : tS K Γ W c D σ H :=
  ⟨M, ρ, env, S, a, h.mono (fun r p ρ' σ' H' x a' => hk r ρ' σ' H' p x a') fun _ z => z⟩
theorem RelE.set (h : RelE K Γ M ρ H env σ) (hl : env.length = σ.length) {i : Nat} {d : D} {v : V} (r : RelD K Γ.cl M ρ H d v) : RelE K Γ M ρ H (env.set i (some d)) (σ.set i (some v)) := fun j e hj => by
  by_cases hi : i = j
  · subst hi
    by_cases hlt : i < env.length
    · rw [List.getElem?_set_self hlt] at hj
      cases hj
      exact ⟨v, List.getElem?_set_self (hl ▸ hlt), r⟩
    · rw [List.getElem?_eq_none (by simpa using hlt)] at hj
      cases hj
  · rw [List.getElem?_set_ne hi] at hj
    obtain ⟨u, e1, r1⟩ := h j e hj
    exact ⟨u, by rw [List.getElem?_set_ne hi]; exact e1, r1⟩
theorem At.set (a : At K Γ M ρ env S σ H) {i : Nat} {d : D} {v : V} (r : RelD K Γ.cl M ρ H d v) : At K Γ M ρ (env.set i (some d)) S (σ.set i (some v)) H :=
  ⟨a.w, a.e.set a.l r, by simpa using a.l⟩
end
theorem ps_of {X : Cx} {st : Stmt} {t t' : TS} (h : PS X st t) (w : ∀ D σ H, t' D σ H → t D σ H) : PS X st t' := ⟨fun pins s σ H D I h' => h.run pins s σ H D I (w _ _ _ h')⟩
theorem pss_of {X : Cx} {st : List Stmt} {t t' : TS} (h : PSs X st t) (w : ∀ D σ H, t' D σ H → t D σ H) : PSs X st t' := ⟨fun pins s σ H D I h' => h.run pins s σ H D I (w _ _ _ h')⟩
section
variable {X : Cx} {Γ : Gx} {W : WX} {pos : Pos} {st : Stmt} {rest : List Stmt} {c d : SCode} {e : Expr} {ce : Code}
def sNext : SCode := fun env S => .ok (.nx, env, S)
def sSeq (a b : SCode) : SCode := fun env S => do
  let r ← a env S
  match r.1 with
  | .nx => b r.2.1 r.2.2
  | _ => .ok r
theorem pss_nilC : PSsc X Γ W [] sNext := pss_of pss_nil fun D σ H ⟨M, ρ, env, S, a, h⟩ => h ρ σ H .refl a
theorem pss_oneC (h : PSc X Γ W st c) : PSsc X Γ W [st] c := pss_one h
theorem pss_consC (h1 : PSc X Γ W st c) (h2 : PSsc X Γ W rest d) : PSsc X Γ W (st :: rest) (sSeq c d) :=
  pss_of (pss_cons h1 h2) fun D σ H ⟨M, ρ, env, S, a, h⟩ => by
    refine tS_step a (Res.sat_bind h) fun r ρ1 σ1 H1 p x a1 => ?_
    obtain ⟨fl, env1, S1⟩ := r
    cases fl with
    | nx => exact ⟨M, ρ1, env1, S1, a1, (sat_xs p x).mono (fun r q ρ' σ' H' x' a' => q ρ' σ' H' (x.trans x') a') fun _ z => z⟩
    | bk => exact p ρ1 σ1 H1 x a1
    | ct => exact p ρ1 σ1 H1 x a1
    | rt v => exact p ρ1 σ1 H1 x a1
theorem ps_passC : PSc X Γ W (.Pass pos) sNext := ps_of ps_pass fun D σ H ⟨M, ρ, env, S, a, h⟩ => h ρ σ H .refl a
def sBreak : SCode := fun env S => .ok (.bk, env, S)
def sCont : SCode := fun env S => .ok (.ct, env, S)
theorem ps_breakC : PSc X Γ W (.Break pos) sBreak := ps_of ps_break fun D σ H ⟨M, ρ, env, S, a, h⟩ => h ρ σ H .refl a
theorem ps_contC : PSc X Γ W (.Continue pos) sCont := ps_of ps_continue fun D σ H ⟨M, ρ, env, S, a, h⟩ => h ρ σ H .refl a
def sExpr (c : Code) : SCode := fun env S => do
  let _ ← c env S
  .ok (.nx, env, S)
theorem ps_exprC (he : PEc X Γ W e ce) (hs : swapsWith e none pos.line X.env = pure false := by rfl) : PSc X Γ W (.Expr e pos) (sExpr ce) :=
  ps_of (ps_expr he hs) fun D σ H ⟨M, ρ, env, S, a, h⟩ => tE_st a (Res.sat_bind h) fun d v H1 p x t a1 r => p ρ σ H1 (.of x) a1
def sRet (c : Code) : SCode := fun env S => do
  let d ← c env S
  .ok (.rt d, env, S)
theorem ps_retC (he : PEc X Γ W e ce) : PSc X Γ W (.Return (some e) pos) (sRet ce) :=
  ps_of (ps_ret he) fun D σ H ⟨M, ρ, env, S, a, h⟩ => tE_st a (Res.sat_bind h) fun d v H1 p x t a1 r => p ρ σ H1 (.of x) a1 v r
def sRetN : SCode := fun env S => .ok (.rt .non, env, S)
theorem ps_retNC : PSc X Γ W (.Return none pos) sRetN := ps_of ps_retN fun D σ H ⟨M, ρ, env, S, a, h⟩ => h ρ σ H .refl a .non .non
def sIf (t : TCode) (a b : SCode) : SCode := fun env S => do
  let k ← t env S
  if k then a env S else b env S
theorem ps_ifC {t : Expr} {p q : List Stmt} {ct : TCode} {cp cq : SCode} (ht : PTc X Γ W t ct) (hp : PSsc X Γ W p cp) (hq : PSsc X Γ W q cq) : PSc X Γ W (.If t p q pos) (sIf ct cp cq) :=
  ps_of (ps_if ht hp hq) fun D σ H ⟨M, ρ, env, S, a, h⟩ => by
    refine tT_st a (Res.sat_bind h) fun b H1 p x t a1 => ?_
    cases b with
    | true => exact ⟨M, ρ, env, S, a1, (sat_xs p (.of x)).mono (fun r q ρ' σ' H' x' a' => q ρ' σ' H' ((Ext.of x).trans x') a') fun _ z => z⟩
    | false => exact ⟨M, ρ, env, S, a1, (sat_xs p (.of x)).mono (fun r q ρ' σ' H' x' a' => q ρ' σ' H' ((Ext.of x).trans x') a') fun _ z => z⟩
/-! ### targets -/
abbrev GCode := D → Env → Res Env
/-- other slots than those at is stay -/
def Dif (is : List Nat) (σ σ' : St) : Prop := σ'.length = σ.length ∧ ∀ j, j ∉ is → σ'[j]? = σ[j]?
theorem Dif.refl {is : List Nat} {σ : St} : Dif is σ σ := ⟨rfl, fun _ _ => rfl⟩
theorem Dif.trans {is js : List Nat} {σ σ1 σ2 : St} (a : Dif is σ σ1) (b : Dif js σ1 σ2) : Dif (is ++ js) σ σ2 :=
  ⟨b.1.trans a.1, fun j h => (b.2 j fun z => h (List.mem_append_right _ z)).trans (a.2 j fun z => h (List.mem_append_left _ z))⟩
def tG (K : PySem.W.Frag) (Γ : Gx) (is : List Nat) (g : GCode) : TG := fun v σ H Q => ∃ M ρ env S d, At K Γ M ρ env S σ H ∧ RelD K Γ.cl M ρ H d v ∧
  (g d env).Sat (fun env' => ∀ σ', At K Γ M ρ env' S σ' H → Dif is σ σ' → Q σ' H) fun _ => False
def tGs (K : PySem.W.Frag) (Γ : Gx) (is : List Nat) (g : List D → Env → Res Env) : TGs := fun vs σ H Q => ∃ M ρ env S ds, At K Γ M ρ env S σ H ∧ RelDs K Γ.cl M ρ H ds vs ∧
  (g ds env).Sat (fun env' => ∀ σ', At K Γ M ρ env' S σ' H → Dif is σ σ' → Q σ' H) fun _ => False
abbrev PGc (X : Cx) (Γ : Gx) (tg : Expr) (is : List Nat) (g : GCode) : Prop := PG X tg (tG X.K Γ is g)
abbrev PGsc (X : Cx) (Γ : Gx) (tg : List Expr) (is : List Nat) (g : List D → Env → Res Env) : Prop := PGs X tg (tGs X.K Γ is g)
theorem pg_of {tg : Expr} {t t' : TG} (h : PG X tg t) (w : ∀ v σ H Q, t' v σ H Q → t v σ H Q) : PG X tg t' := ⟨fun pins s σ H v u Q I r h' => h.run pins s σ H v u Q I r (w _ _ _ _ h')⟩
theorem pgs_of {tg : List Expr} {t t' : TGs} (h : PGs X tg t) (w : ∀ v σ H Q, t' v σ H Q → t v σ H Q) : PGs X tg t' := ⟨fun pins s σ H v u Q I r h' => h.run pins s σ H v u Q I r (w _ _ _ _ h')⟩
def gNm (i : Nat) : GCode := fun d env => .ok (env.set i (some d))
theorem pg_nameC {i : Nat} {x : Str} (hN : X.N.Nodup) (hi : X.N[i]? = some x) (hx : Loc X.env.scope x) (hf : X.fn x = true ∨ X.env.scope.names.lookup x = some .local := by first | exact .inl rfl | exact .inr rfl) : PGc X Γ (.Name x pos) [i] (gNm i) :=
  pg_of (pg_name hN hi hx hf) fun v σ H Q ⟨M, ρ, env, S, d, a, r, h⟩ => h _ (a.set r) ⟨List.length_set .., fun j hj => List.getElem?_set_ne (fun z => hj (by rw [z]; exact List.mem_singleton.mpr rfl))⟩
def gNone : List D → Env → Res Env := fun ds env => match ds with
  | [] => .ok env
  | _ => .stuck
def gMore (g : GCode) (gs : List D → Env → Res Env) : List D → Env → Res Env := fun ds env => match ds with
  | d :: ds => do let env' ← g d env; gs ds env'
  | [] => .stuck
theorem pgs_nilC : PGsc X Γ [] [] gNone := pgs_of pgs_nil fun vs σ H Q ⟨M, ρ, env, S, ds, a, r, h⟩ => by
  cases r with
  | nil => exact ⟨rfl, h σ a .refl⟩
  | cons _ _ => exact h.elim
theorem pgs_consC {es : List Expr} {is js : List Nat} {g : GCode} {gs : List D → Env → Res Env} (h1 : PGc X Γ e is g) (h2 : PGsc X Γ es js gs)
    (hs : (assignEach (e :: es) X.env).map (·.2) = assign e X.env :: (assignEach es X.env).map (·.2) := by rfl) : PGsc X Γ (e :: es) (is ++ js) (gMore g gs) :=
  pgs_of (pgs_cons h1 h2 hs) fun vs σ H Q ⟨M, ρ, env, S, ds, a, r, h⟩ => by
    cases r with
    | nil => exact h.elim
    | cons r1 r2 =>
      exact ⟨_, _, rfl, M, ρ, env, S, _, a, r1, (Res.sat_bind h).mono (fun env' q σ' a' x' => ⟨M, ρ, env', S, _, a', r2, q.mono (fun env2 q2 σ2 a2 x2 => q2 σ2 a2 (x'.trans x2)) fun _ z => z⟩) fun _ z => z⟩
def gTupC (n : Nat) (gs : List D → Env → Res Env) : GCode := fun d env => do
  let ds ← opt (asTup d)
  need (decide (ds.length = n))
  gs ds env
theorem pg_tupC {es : List Expr} {is : List Nat} {k n : Nat} {gs : List D → Env → Res Env} (hc : X.calm = true) (h : PGsc X Γ es is gs) (hn : (assignEach es X.env).length = n := by rfl) (hst : (assignEach es X.env).findIdx? (·.1) = none := by rfl) : PGc X Γ (.Tuple es k pos) is (gTupC n gs) :=
  pg_of (pg_tup hc h hn hst) fun v σ H Q ⟨M, ρ, env, S, d, a, r, h⟩ => by
    obtain ⟨ds, e1, h⟩ := sat_opt h
    obtain ⟨hl, h⟩ := sat_need h
    obtain ⟨p, vs, rfl, h1, q⟩ := asTup_rel r e1
    exact ⟨p, vs, rfl, h1, by rw [← q.length]; exact of_decide_eq_true hl, M, ρ, env, S, ds, a, q, h⟩
/-! ### assignments -/
def sAsg (c : Code) (g : GCode) : SCode := fun env S => do
  let d ← c env S
  let env' ← g d env
  .ok (.nx, env', S)
theorem tAsg_C {is : List Nat} {g : GCode} {K : PySem.W.Frag} {D : Ends} {σ : St} {H : Hp} (hg : ∀ d env, NoX (g d env)) (h : tS K Γ W (sAsg ce g) D σ H) : tAsg (tE K Γ W ce) (tG K Γ is g) D σ H := by
  obtain ⟨M, ρ, env, S, a, h⟩ := h
  refine tE_st a (Res.sat_bind h) fun d v H1 p x t a1 r => ?_
  exact ⟨M, ρ, env, S, d, a1, r, hg _ _ _ _ _ ((Res.sat_bind p).mono (fun env' q σ' a' _ => q ρ σ' H1 (.of x) a') fun _ z => z)⟩
theorem nx_nm {i : Nat} : ∀ d env, NoX (gNm i d env) := fun _ _ => .ok
theorem nx_gnone : ∀ d env, NoX (gNone d env) := fun d _ => by unfold gNone; split; exact .ok; exact .stuck
theorem nx_gmore {g : GCode} {gs : List D → Env → Res Env} (h : ∀ d env, NoX (g d env)) (k : ∀ d env, NoX (gs d env)) : ∀ d env, NoX (gMore g gs d env) := fun d env => by
  unfold gMore
  split
  · exact .bind (h _ _) fun _ => k _ _
  · exact .stuck
theorem nx_gtup {n : Nat} {gs : List D → Env → Res Env} (k : ∀ d env, NoX (gs d env)) : ∀ d env, NoX (gTupC n gs d env) := fun d env => .bind .opt fun _ => .bind .need fun _ => k _ _
theorem ps_setC {i : Nat} {x : Str} {pos' : Pos} (hN : X.N.Nodup) (hi : X.N[i]? = some x) (hx : Loc X.env.scope x) (he : PEc X Γ W e ce) (hs : swapsWith e (some (.Name x pos')) pos.line X.env = pure false := by rfl)
    (hf : X.fn x = true ∨ X.env.scope.names.lookup x = some .local := by first | exact .inl rfl | exact .inr rfl) : PSc X Γ W (.Assign [.Name x pos'] e pos) (sAsg ce (gNm i)) :=
  ps_of (ps_set hN hi hx he hs hf) fun D σ H h => by
    obtain ⟨M, ρ, env, S, a, h⟩ := h
    exact tE_st a (Res.sat_bind h) fun d v H1 p x t a1 r => p ρ _ H1 (.of x) (a1.set r)
theorem ps_asgC {tg : Expr} {is : List Nat} {g : GCode} (he : PEc X Γ W e ce) (hg : PGc X Γ tg is g) (hn : ∀ d env, NoX (g d env)) (hs : swapsWithSole [tg] e pos.line X.env = pure false := by rfl) (hw : swappedStores [tg] e X.env = pure none := by rfl)
    (h1 : (assignEach [tg] X.env).map (·.2) = [assign tg X.env] := by rfl) : PSc X Γ W (.Assign [tg] e pos) (sAsg ce g) :=
  ps_of (ps_asg he hg hs hw h1) fun D σ H h => tAsg_C hn h
/-- a, b = x, y with plain local names -/
def sPar (i j : Nat) (ac : ACode) : SCode := fun env S => do
  let ds ← ac env S
  match ds with
  | [x, y] => .ok (.nx, (env.set i (some x)).set j (some y), S)
  | _ => .stuck
theorem tA_st {K : PySem.W.Frag} {M : Addr → Prop} {ρ : List Addr} {S : Store} {H : Hp} {env : Env} {σ : St} {c : ACode} {P : List D → Prop} {Q : List V → Hp → Prop} (a : At K Γ M ρ env S σ H) (h : (c env S).Sat P (XS Γ W ρ H))
    (hk : ∀ ds vs H', P ds → LamX.ExtN H H' → TabsOk Γ H' → At K Γ M ρ env S σ H' → RelDs K Γ.cl M ρ H' ds vs → Q vs H') : tA K Γ W c σ H Q := tA_step a (sat_xw h) hk
theorem ps_parC {i j : Nat} {x y : Str} {a b : Expr} {ac : ACode} {px py pt : Pos} {kt k2 pt2} (hc : X.calm = true) (hN : X.N.Nodup) (hi : X.N[i]? = some x) (hj : X.N[j]? = some y) (hij : i ≠ j)
    (hx : X.env.scope.names.lookup x = some .local) (hy : X.env.scope.names.lookup y = some .local) (ha : PAc X Γ W [a, b] ac)
    (hw : swappedStores [.Tuple [.Name x px, .Name y py] kt pt] (.Tuple [a, b] k2 pt2) X.env = pure (some [x, y]) := by rfl)
    (hs : swapsWithSole [.Tuple [.Name x px, .Name y py] kt pt] (.Tuple [a, b] k2 pt2) pos.line X.env = pure false := by rfl) :
    PSc X Γ W (.Assign [.Tuple [.Name x px, .Name y py] kt pt] (.Tuple [a, b] k2 pt2) pos) (sPar i j ac) :=
  ps_of (ps_par hc hN hi hj hij hx hy ha hw hs) fun D σ H ⟨M, ρ, env, S, a, h⟩ => by
    refine tA_st a (Res.sat_bind h) fun ds vs H1 p x t a1 r => ?_
    split at p
    · cases r with
      | cons r1 r => cases r with
        | cons r2 r =>
          cases r
          exact ⟨_, _, rfl, p ρ _ H1 (.of x) ((a1.set r1).set r2)⟩
    · exact p.elim
/-- a, b, c = x, y, z with plain local names -/
def sPar3 (i j l : Nat) (ac : ACode) : SCode := fun env S => do
  let ds ← ac env S
  match ds with
  | [x, y, z] => .ok (.nx, ((env.set i (some x)).set j (some y)).set l (some z), S)
  | _ => .stuck
theorem ps_par3C {i j l : Nat} {x y z : Str} {a b c : Expr} {ac : ACode} {px py pz pt : Pos} {kt k2 pt2} (h : ∀ ta : TA, PA X [a, b, c] ta → PS X (.Assign [.Tuple [.Name x px, .Name y py, .Name z pz] kt pt] (.Tuple [a, b, c] k2 pt2) pos) (tPar3 i j l ta)) (ha : PAc X Γ W [a, b, c] ac) :
    PSc X Γ W (.Assign [.Tuple [.Name x px, .Name y py, .Name z pz] kt pt] (.Tuple [a, b, c] k2 pt2) pos) (sPar3 i j l ac) :=
  ps_of (h _ ha) fun D σ H ⟨M, ρ, env, S, a, h⟩ => by
    refine tA_st a (Res.sat_bind h) fun ds vs H1 p x t a1 r => ?_
    split at p
    · cases r with
      | cons r1 r => cases r with
        | cons r2 r => cases r with
          | cons r3 r =>
            cases r
            exact ⟨_, _, _, rfl, p ρ _ H1 (.of x) (((a1.set r1).set r2).set r3)⟩
    · exact p.elim
/-! ### name op= e -/
def tIpC (K : PySem.W.Frag) (Γ : Gx) (op : Op2) : TIp := rOp2 K Γ op
def sAug (i : Nat) (op : Op2) (c : Code) : SCode := fun env S => do
  let x ← cVar i env S
  let y ← c env S
  let z ← op S x y
  .ok (.nx, env.set i (some z), S)
theorem ps_augC {i : Nat} {x : Str} {o : Operator} {op : Op2} {pos' : Pos} (hN : X.N.Nodup) (hi : X.N[i]? = some x) (hx : Loc X.env.scope x) (he : PEc X Γ W e ce) (ho : OpR X (inplaceOp o) (rOp2 X.K Γ op)) (hn : NX2 op)
    (hf : X.fn x = true ∨ X.env.scope.names.lookup x = some .local := by first | exact .inl rfl | exact .inr rfl) : PSc X Γ W (.AugAssign (.Name x pos') o e pos) (sAug i op ce) :=
  ps_of (ps_aug hN hi hx he ho hf) fun D σ H ⟨M, ρ, env, S, a, h⟩ => by
    replace h := Res.sat_bind h
    unfold cVar at h
    split at h
    · rename_i d e1
      obtain ⟨v, e2, r⟩ := a.e i d e1
      refine ⟨v, e2, tE_st a (Res.sat_bind h) fun y u H1 p x t a1 r1 => ?_⟩
      refine ⟨M, ρ, S, d, y, a1.w, r.keep (ext_keep x), r1, hn _ _ _ _ _ _ ((Res.sat_bind p).mono (fun z q => by
        intro w H2 x2 t2 r2
        exact q ρ _ H2 ((Ext.of x).trans (.of x2)) ((a1.ext x2 t2).set r2)) fun _ z => z)⟩
    · exact h.elim
end
/-- inplace + - * of ints (and texts) -/
def opAddI : Op2 := fun _ x y => match x, y with
  | .int i, .int j => .ok (.int (i + j))
  | .str i, .str j => do need (decide (i.length + j.length ≤ sizeLine)); .ok (.str (i ++ j))
  | _, _ => .stuck
theorem nx_addI : NX2 opAddI := fun S x y => by unfold opAddI; split; exact .ok; exact .bind .need fun _ => .ok; exact .stuck
def opMulI : Op2 := fun _ x y => match x, y with
  | .int i, .int j => do need (mulOk i j); .ok (.int (i * j))
  | _, _ => .stuck
theorem nx_mulI : NX2 opMulI := fun S x y => by unfold opMulI; split; exact .bind .need fun _ => .ok; exact .stuck
section
variable {X : Cx} {Γ : Gx}
theorem iop_addC : OpR X (inplaceOp .Add) (rOp2 X.K Γ opAddI) := by
  intro pins s σ H x y v u Q I rx ry h
  obtain ⟨M, ρ, S, dx, dy, w, r1, r2, h⟩ := h
  unfold opAddI at h
  split at h
  · rename_i i j
    cases r1; cases r2
    exact iop_add pins s σ H _ _ v u Q I rx ry ⟨i, j, rfl, rfl, h _ H (LamX.ExtN.refl H) w.tabs (.int _)⟩
  · rename_i i j
    cases r1; cases r2
    obtain ⟨hb, h⟩ := sat_need h
    exact iop_add_str pins s σ H _ _ v u Q I rx ry ⟨i, j, rfl, rfl, of_decide_eq_true hb, h _ H (LamX.ExtN.refl H) w.tabs (.str _)⟩
  · exact h.elim
theorem iop_subC : OpR X (inplaceOp .Sub) (rOp2 X.K Γ opSub) := by
  intro pins s σ H x y v u Q I rx ry h
  obtain ⟨M, ρ, S, dx, dy, w, r1, r2, h⟩ := h
  unfold opSub at h
  split at h
  · rename_i i j
    cases r1; cases r2
    exact iop_sub pins s σ H _ _ v u Q I rx ry ⟨i, j, rfl, rfl, h _ H (LamX.ExtN.refl H) w.tabs (.int _)⟩
  · exact h.elim
theorem iop_mulC : OpR X (inplaceOp .Mult) (rOp2 X.K Γ opMulI) := by
  intro pins s σ H x y v u Q I rx ry h
  obtain ⟨M, ρ, S, dx, dy, w, r1, r2, h⟩ := h
  unfold opMulI at h
  split at h
  · rename_i i j
    cases r1; cases r2
    obtain ⟨hb, h⟩ := sat_need h
    exact iop_mul pins s σ H _ _ v u Q I rx ry ⟨i, j, rfl, rfl, mulOk_C hb, h _ H (LamX.ExtN.refl H) w.tabs (.int _)⟩
  · exact h.elim
end
end L2.Th

set_option Elab.async false
set_option linter.all false
set_option maxRecDepth 100000
set_option maxHeartbeats 4000000
/-! Layer I: what is walked; for; comprehensions. -/
namespace L2.Th
open PySem PySem.Spec PyProof.Rows
/-- what is walked: data known at the start, a cell as it stands at each turn -/
inductive ItD where
  | seq (ds : List D) | cell (n : Nat)
abbrev ICode := Env → Store → Res ItD
/-- the iterator gives the data -/
def ItOk (K : PySem.W.Frag) (Γ : Gx) (M : Addr → Prop) (ρ : List Addr) (H : Hp) (J : It) : ItD → Prop
  | .seq ds => ∀ M1 ρ1 S1 H1, Keep M M1 ρ ρ1 H H1 → Wld K Γ M1 ρ1 S1 H1 → ∀ i : Nat,
      (∀ d, ds[i]? = some d → J.go i H1 ∧ ∀ x H2, J.yld i H1 x H2 → LamX.ExtN H1 H2 ∧ TabsOk Γ H2 ∧ RelD K Γ.cl M1 ρ1 H2 d x) ∧ (ds.length ≤ i → J.stop i H1)
  | .cell n => ∃ a, ρ[n]? = some a ∧ J = Itl K a
def tI (K : PySem.W.Frag) (Γ : Gx) (W : WX) (c : ICode) : TI := fun σ H R => ∃ M ρ env S, At K Γ M ρ env S σ H ∧
  (c env S).Sat (fun it => ∀ J H', LamX.ExtN H H' → TabsOk Γ H' → ItOk K Γ M ρ H' J it → R J H') (XW Γ W σ H)
abbrev PIc (X : Cx) (Γ : Gx) (W : WX) (tg iter : Expr) (c : ICode) : Prop := PI X tg iter (tI X.K Γ W c)
theorem pi_of {X : Cx} {tg e : Expr} {t t' : TI} (h : PI X tg e t) (w : ∀ σ H Q, t' σ H Q → t σ H Q) : PI X tg e t' := ⟨fun pins s σ H R I h' => h.run pins s σ H R I (w _ _ _ h')⟩
section
variable {X : Cx} {Γ : Gx} {W : WX} {tg : Expr} {M : Addr → Prop} {ρ ρ' : List Addr} {H : Hp}
/-- a list or a tuple -/
def iSeqA (K : PySem.W.Frag) (tl : TE) : TI := fun σ H R => tl σ H fun x H1 => ∃ a, x = .ref a ∧ ((∃ xs, SqL K H1 a xs ∧ R (Itl K a) H1) ∨ ∃ xs, SqT K H1 a xs ∧ R (Itt K a) H1)
theorem pi_seqA {l : Expr} {tl : TE} (hl : PE X l tl) : PI X tg l (iSeqA X.K tl) := by
  refine ⟨fun pins s σ H R I h => ?_⟩
  refine thn (hl.run pins s σ H _ I h) fun v s1 ⟨x, H1, I1, r1, a, e, q⟩ => ?_
  subst e
  cases r1
  rcases q with ⟨xs, hq, q⟩ | ⟨xs, hq, q⟩
  · obtain ⟨its, rv, p, hz⟩ := I1.list hq
    refine wpAny_pyIter_list p.isList ?_
    refine ⟨s1.heap.objs.size, [s1.heap.objs.size], _, _, H1, rfl, I1.kept (t' := s1.toks) fun b o e => Heap.get?_push_of_some _ e, turn_list a _, ⟨_, Heap.get?_push_size _ rfl, rfl, rfl⟩, fun b hb => ?_, q⟩
    have e : b = s1.heap.objs.size := by simpa using hb
    subst e
    exact I1.fpOk (Nat.le_refl _) (I1.hok.fresh (Nat.le_refl _))
  · obtain ⟨its, rv, p, hz⟩ := I1.tuple hq
    refine wpAny_pyIter_tuple (show s1.heap.IsTuple a its.toArray from p) ?_
    refine ⟨s1.heap.objs.size, [s1.heap.objs.size], _, _, H1, rfl, I1.kept (t' := s1.toks) fun b o e => Heap.get?_push_of_some _ e, turn_tuple a _, ⟨_, Heap.get?_push_size _ rfl, rfl, rfl⟩, fun b hb => ?_, q⟩
    have e : b = s1.heap.objs.size := by simpa using hb
    subst e
    exact I1.fpOk (Nat.le_refl _) (I1.hok.fresh (Nat.le_refl _))
theorem SqT.inj {K : PySem.W.Frag} {H : Hp} {a : Addr} {vs us : List V} (h : H a = some (.tup vs)) (h' : Rd H a (.tup us)) : vs = us := by
  rcases h' with h' | ⟨o, h'⟩
  · rw [h] at h'; cases h'; rfl
  · rw [h] at h'; cases h'
/-- a list or a tuple, walked -/
def iSeq (c : Code) : ICode := fun env S => do
  let d ← c env S
  match d with
  | .lst xs => .ok (.seq xs)
  | .tup xs => .ok (.seq xs)
  | .loc n => do let _ ← opt (asLst S (.loc n)); .ok (.cell n)
  | _ => .stuck
theorem keepOf {K : PySem.W.Frag} {ρ1 : List Addr} {S S1 : Store} {H1 : Hp} (w0 : Wld K Γ M ρ S H) (x : Ext ρ ρ1 H H1) (w : Wld K Γ M ρ1 S1 H1) : Keep M M ρ ρ1 H H1 := x.keep w0 w.dj
theorem RelDs.at {K : PySem.W.Frag} {xs : List D} {vs : List V} (r : RelDs K Γ.cl M ρ H xs vs) {i : Nat} {d : D} {v : V} (e : xs[i]? = some d) (e' : vs[i]? = some v) : RelD K Γ.cl M ρ H d v := by
  obtain ⟨u, e2, r2⟩ := r.get e
  rw [e'] at e2; cases e2
  exact r2
theorem okSeqL {K : PySem.W.Frag} {S : Store} {a : Addr} {xs : List D} {vs : List V} (w0 : Wld K Γ M ρ S H) (hM : ¬ M a) (hn : a ∉ ρ) (h : H a = some (.lst vs)) (r : RelDs K Γ.cl M ρ H xs vs) : ItOk K Γ M ρ H (Itl K a) (.seq xs) := by
  intro M1 ρ1 S1 H1 x w i
  have h1 : H1 a = some (.lst vs) := (x.obj a _ h hM hn (fun _ z => (nomatch z))).1
  have r1 := r.keep x
  refine ⟨fun d e => ?_, fun hl => ⟨vs, .of h1, by rw [← r.length]; exact hl⟩⟩
  obtain ⟨v, e1, rv⟩ := r1.get e
  refine ⟨⟨vs, v, .of h1, e1⟩, fun y H2 hy => ?_⟩
  obtain ⟨rfl, hy⟩ := hy
  refine ⟨LamX.ExtN.refl _, w.tabs, ?_⟩
  have e2 := hy vs (.of h1)
  exact r1.at e e2
theorem okSeqT {K : PySem.W.Frag} {S : Store} {a : Addr} {xs : List D} {vs : List V} (w0 : Wld K Γ M ρ S H) (hM : ¬ M a) (hn : a ∉ ρ) (h : SqT K H a vs) (hf : ∀ o, H a ≠ some (.frz o (.tup vs))) (r : RelDs K Γ.cl M ρ H xs vs) : ItOk K Γ M ρ H (Itt K a) (.seq xs) := by
  intro M1 ρ1 S1 H1 x w i
  have h1 : SqT K H1 a vs := by
    rcases h with (h | ⟨o, h⟩) | h
    · exact .of (x.obj a _ h hM hn (fun _ z => (nomatch z))).1
    · exact absurd h (hf o)
    · exact .inr h
  have r1 := r.keep x
  refine ⟨fun d e => ?_, fun hl => ⟨vs, h1, by rw [← r.length]; exact hl⟩⟩
  obtain ⟨v, e1, rv⟩ := r1.get e
  refine ⟨⟨vs, v, h1, e1⟩, fun y H2 hy => ?_⟩
  obtain ⟨rfl, hy⟩ := hy
  exact ⟨LamX.ExtN.refl _, w.tabs, r1.at e (hy vs h1)⟩
theorem okRng {K : PySem.W.Frag} {lo : Int} {n : Nat} : ItOk K Γ M ρ H (Itr lo n) (.seq ((List.range n).map fun (i : Nat) => D.int (lo + i))) := by
  intro M1 ρ1 S1 H1 x w i
  refine ⟨fun d e => ?_, fun hl => (show n ≤ i by simpa using hl)⟩
  have hi : i < n := by
    rcases Nat.lt_or_ge i n with h | h
    · exact h
    · rw [List.getElem?_eq_none (by simpa using h)] at e; cases e
  refine ⟨hi, fun y H2 hy => ?_⟩
  obtain ⟨rfl, rfl⟩ := hy
  rw [List.getElem?_map, List.getElem?_range hi] at e
  cases e
  exact ⟨LamX.ExtN.refl _, w.tabs, .int _⟩
theorem pi_seqC {e : Expr} {c : Code} (he : PEc X Γ W e c) : PIc X Γ W tg e (iSeq c) :=
  pi_of (pi_seqA he) fun σ H R ⟨M, ρ, env, S, a, h⟩ => by
    refine tE_step a (Res.sat_bind h) fun d v H1 p x t a1 r => ?_
    split at p
    · cases r with
      | lst hM hρ h1 q => exact ⟨_, rfl, .inl ⟨_, .of h1, p _ H1 x t (okSeqL a1.w hM hρ h1 q)⟩⟩
    · cases r with
      | tup hM hρ h1 q => exact ⟨_, rfl, .inr ⟨_, .of h1, p _ H1 x t (okSeqT a1.w hM hρ (.of h1) (fun o z => by rw [h1] at z; cases z) q)⟩⟩
      | tupK h1 q =>
        refine ⟨_, rfl, .inr ⟨_, .inr h1, p _ H1 x t ?_⟩⟩
        intro M2 ρ1 S1 H2 x2 w2 i
        have r1 := q.keep x2
        refine ⟨fun d e => ?_, fun hl => ⟨_, .inr h1, by rw [← q.length]; exact hl⟩⟩
        obtain ⟨v, e1, rv⟩ := r1.get e
        refine ⟨⟨_, v, .inr h1, e1⟩, fun y H3 hy => ?_⟩
        obtain ⟨rfl, hy⟩ := hy
        exact ⟨LamX.ExtN.refl _, w2.tabs, r1.at e (hy _ (.inr h1))⟩
    · obtain ⟨xs, el, p⟩ := sat_opt p
      obtain ⟨b, vs, e1, h1, q⟩ := asLst_rel a1.w r el
      cases r with
      | loc hl =>
        cases e1
        exact ⟨_, rfl, .inl ⟨vs, .of h1, p _ H1 x t ⟨_, hl, rfl⟩⟩⟩
    · exact p.elim
def fits62 (i : Int) : Bool := decide (-(2 ^ 62) ≤ i) && decide (i < 2 ^ 62)
def rngD (lo hi : Int) : List D := (List.range (hi - lo).toNat).map fun (i : Nat) => D.int (lo + i)
def iRange1 (c : ACode) : ICode := fun env S => do
  let ds ← c env S
  match ds with
  | [.int j] => do need (fits62 j); .ok (.seq (rngD 0 j))
  | _ => .stuck
def iRange2 (c : ACode) : ICode := fun env S => do
  let ds ← c env S
  match ds with
  | [.int i, .int j] => do need (fits62 i && fits62 j); .ok (.seq (rngD i j))
  | _ => .stuck
theorem pi_range1C {a : Expr} {ac : ACode} {p pos : Pos} (hg : Gl X "range") (hm : X.mg "range" = none) (ha : PAc X Γ W [a] ac) (hs : starEach [a] X.env = [(false, eval a X.env)] := by rfl) : PIc X Γ W tg (.Call (.Name "range" p) [a] [] pos) (iRange1 ac) :=
  pi_of (pi_range1 hg hm ha hs) fun σ H R ⟨M, ρ, env, S, a, h⟩ => by
    refine tA_step a (Res.sat_bind h) fun ds vs H1 p x t a1 r => ?_
    split at p
    · rename_i j
      obtain ⟨hf, p⟩ := sat_need p
      unfold fits62 at hf
      simp only [Bool.and_eq_true, decide_eq_true_eq] at hf
      cases r with
      | cons r1 r =>
        cases r; cases r1
        refine ⟨j, rfl, hf.1, hf.2, p _ H1 x t ?_⟩
        have := @okRng Γ M ρ H1 X.K 0 j.toNat
        simpa [rngD] using this
    · exact p.elim
theorem pi_range2C {a b : Expr} {ac : ACode} {p pos : Pos} (hg : Gl X "range") (hm : X.mg "range" = none) (ha : PAc X Γ W [a, b] ac) (hs : starEach [a, b] X.env = [(false, eval a X.env), (false, eval b X.env)] := by rfl) (hs2 : starEach [b] X.env = [(false, eval b X.env)] := by rfl) :
    PIc X Γ W tg (.Call (.Name "range" p) [a, b] [] pos) (iRange2 ac) :=
  pi_of (pi_range2 hg hm ha hs hs2) fun σ H R ⟨M, ρ, env, S, a, h⟩ => by
    refine tA_step a (Res.sat_bind h) fun ds vs H1 p x t a1 r => ?_
    split at p
    · rename_i i j
      obtain ⟨hf, p⟩ := sat_need p
      unfold fits62 at hf
      simp only [Bool.and_eq_true, decide_eq_true_eq] at hf
      cases r with
      | cons r1 r =>
        cases r1
        cases r with
        | cons r2 r =>
          cases r; cases r2
          exact ⟨i, j, rfl, ⟨hf.1.1, hf.1.2, hf.2.1, hf.2.2⟩, p _ H1 x t okRng⟩
    · exact p.elim

/-! ### for -/
def loopSeq (g : GCode) (b : SCode) : List D → Env → Store → Res SRes
  | [], env, S => .ok (.nx, env, S)
  | d :: ds, env, S => do
    let env' ← g d env
    let r ← b env' S
    match r.1 with
    | .nx => loopSeq g b ds r.2.1 r.2.2
    | .ct => loopSeq g b ds r.2.1 r.2.2
    | .bk => .ok (.nx, r.2.1, r.2.2)
    | .rt d => .ok (.rt d, r.2.1, r.2.2)
def loopCell (g : GCode) (b : SCode) (n : Nat) : Nat → Nat → Env → Store → Res SRes
  | 0, _, _, _ => .stuck
  | f + 1, i, env, S => match S[n]? with
    | some (.lst xs) => match xs[i]? with
      | none => .ok (.nx, env, S)
      | some d => do
        let env' ← g d env
        let r ← b env' S
        match r.1 with
        | .nx => loopCell g b n f (i + 1) r.2.1 r.2.2
        | .ct => loopCell g b n f (i + 1) r.2.1 r.2.2
        | .bk => .ok (.nx, r.2.1, r.2.2)
        | .rt d => .ok (.rt d, r.2.1, r.2.2)
    | _ => .stuck
def loopFuel : Nat := 16777216
def sFor (ic : ICode) (g : GCode) (b : SCode) : SCode := fun env S => do
  let it ← ic env S
  match it with
  | .seq ds => loopSeq g b ds env S
  | .cell n => loopCell g b n loopFuel 0 env S
theorem ps_forC {iter : Expr} {body : List Stmt} {pos : Pos} {ic : ICode} {is : List Nat} {g : GCode} {b : SCode} (hp : PassesOwn (model X.prog X.w) X.A X.env X.xe) (hc : X.calm = true) (hi : PIc X Γ W tg iter ic) (hg : PGc X Γ tg is g) (hgx : ∀ d env, NoX (g d env)) (hb : PSsc X Γ W body b)
    (hs : ∀ x, foldedSetIterable iter X.env x = pure x := by intro _; rfl) : PSc X Γ W (.For tg iter body [] pos) (sFor ic g b) :=
  ps_of (ps_for hp hc hi hg hb hs) fun D σ H ⟨M, ρ, env, S, a, h⟩ => by
    refine ⟨M, ρ, env, S, a, (Res.sat_bind h).mono (fun it p J H1 x t ok => ?_) fun e z => z.xw σ⟩
    have a1 := a.ext x t
    cases it with
    | seq ds =>
      refine ⟨fun i m σ' H' => m = ds.length - i ∧ i ≤ ds.length ∧ ∃ ρ1 env1 S1, Ext ρ ρ1 H1 H' ∧ At X.K Γ M ρ1 env1 S1 σ' H' ∧
        (loopSeq g b (ds.drop i) env1 S1).Sat (fun r => ∀ ρ' σ'' H'', Ext ρ1 ρ' H' H'' → At X.K Γ M ρ' r.2.1 r.2.2 σ'' H'' → Outc X.K Γ M D ρ' σ'' H'' r.1) (XS Γ W ρ1 H'),
        ⟨_, rfl, Nat.zero_le _, ρ, env, S, .refl, a1, by
          rw [List.drop_zero]
          exact (sat_xs p (.of x)).mono (fun r q ρ' σ'' H'' x' a' => q ρ' σ'' H'' ((Ext.of x).trans x') a') fun _ z => z⟩, ?_⟩
      rintro i m σ' H' ⟨rfl, hi, ρ1, env1, S1, x1, at1, hq⟩
      have okh := ok M ρ1 S1 H' (keepOf a1.w x1 at1.w) at1.w i
      by_cases hlt : i < ds.length
      · right
        have hd : ds.drop i = ds[i] :: ds.drop (i + 1) := List.drop_eq_getElem_cons hlt
        rw [hd] at hq
        obtain ⟨hgo, hy⟩ := okh.1 ds[i] (List.getElem?_eq_getElem hlt)
        refine ⟨hgo, fun σ2 H2 => ∃ ρ1 env1 S1, Ext ρ ρ1 H1 H2 ∧ At X.K Γ M ρ1 env1 S1 σ2 H2 ∧
          (loopSeq g b (ds.drop (i + 1)) env1 S1).Sat (fun r => ∀ ρ' σ'' H'', Ext ρ1 ρ' H2 H'' → At X.K Γ M ρ' r.2.1 r.2.2 σ'' H'' → Outc X.K Γ M D ρ' σ'' H'' r.1) (XS Γ W ρ1 H2),
          fun σ2 H2 q => ⟨ds.length - (i + 1), by omega, rfl, hlt, q⟩, fun y H2 hyy => ?_⟩
        obtain ⟨ex, tx, rx⟩ := hy y H2 hyy
        have at2 := at1.ext ex tx
        have hq1 := Res.sat_bind hq
        refine ⟨M, ρ1, env1, S1, ds[i], at2, rx, hgx _ _ _ _ _ (hq1.mono (fun env2 hq2 σ3 at3 _ => ?_) fun _ z => z)⟩
        refine ⟨M, ρ1, env2, S1, at3, (sat_xs (Res.sat_bind hq2) (.of ex)).mono (fun r hr ρ4 σ4 H4 x4 at4 => ?_) fun _ z => z⟩
        have xx : Ext ρ1 ρ4 H' H4 := (Ext.of ex).trans x4
        obtain ⟨fl, env4, S4⟩ := r
        cases fl with
        | nx => exact ⟨ρ4, env4, S4, x1.trans xx, at4, (sat_xs hr xx).mono (fun r q ρ' σ'' H'' x' a' => q ρ' σ'' H'' (xx.trans x') a') fun _ z => z⟩
        | ct => exact ⟨ρ4, env4, S4, x1.trans xx, at4, (sat_xs hr xx).mono (fun r q ρ' σ'' H'' x' a' => q ρ' σ'' H'' (xx.trans x') a') fun _ z => z⟩
        | bk => exact hr ρ4 σ4 H4 xx at4
        | rt d => exact hr ρ4 σ4 H4 xx at4
      · left
        have e : i = ds.length := by omega
        subst e
        rw [List.drop_length] at hq
        exact ⟨okh.2 (Nat.le_refl _), hq ρ1 σ' H' .refl at1⟩
    | cell n =>
      obtain ⟨ad, hn, rfl⟩ := ok
      refine ⟨fun i m σ' H' => ∃ ρ1 env1 S1, Ext ρ ρ1 H1 H' ∧ At X.K Γ M ρ1 env1 S1 σ' H' ∧
        (loopCell g b n m i env1 S1).Sat (fun r => ∀ ρ' σ'' H'', Ext ρ1 ρ' H' H'' → At X.K Γ M ρ' r.2.1 r.2.2 σ'' H'' → Outc X.K Γ M D ρ' σ'' H'' r.1) (XS Γ W ρ1 H'),
        ⟨loopFuel, ρ, env, S, .refl, a1, (sat_xs p (.of x)).mono (fun r q ρ' σ'' H'' x' a' => q ρ' σ'' H'' ((Ext.of x).trans x') a') fun _ z => z⟩, ?_⟩
      rintro i m σ' H' ⟨ρ1, env1, S1, x1, at1, hq⟩
      have hn1 := x1.loc n ad hn
      cases m with
      | zero => exact hq.elim
      | succ m =>
        unfold loopCell at hq
        split at hq
        · rename_i xs es
          obtain ⟨vs, h1, rr⟩ := at1.w.cells n _ ad es hn1
          split at hq
          · rename_i ei
            left
            have hl : vs.length ≤ i := by rw [← rr.length]; exact List.getElem?_eq_none_iff.mp ei
            exact ⟨⟨vs, .of h1, hl⟩, hq ρ1 σ' H' .refl at1⟩
          · rename_i d ei
            right
            obtain ⟨v, ev, rv⟩ := rr.get ei
            refine ⟨⟨vs, v, .of h1, ev⟩, fun σ2 H2 => ∃ ρ1 env1 S1, Ext ρ ρ1 H1 H2 ∧ At X.K Γ M ρ1 env1 S1 σ2 H2 ∧
              (loopCell g b n m (i + 1) env1 S1).Sat (fun r => ∀ ρ' σ'' H'', Ext ρ1 ρ' H2 H'' → At X.K Γ M ρ' r.2.1 r.2.2 σ'' H'' → Outc X.K Γ M D ρ' σ'' H'' r.1) (XS Γ W ρ1 H2),
              fun σ2 H2 q => ⟨m, Nat.lt_succ_self _, q⟩, fun y H2 hyy => ?_⟩
            obtain ⟨rfl, hyy⟩ := hyy
            have rx := rr.at ei (hyy vs (.of h1))
            have hq1 := Res.sat_bind hq
            refine ⟨M, ρ1, env1, S1, d, at1, rx, hgx _ _ _ _ _ (hq1.mono (fun env2 hq2 σ3 at3 _ => ?_) fun _ z => z)⟩
            refine ⟨M, ρ1, env2, S1, at3, (Res.sat_bind hq2).mono (fun r hr ρ4 σ4 H4 xx at4 => ?_) fun _ z => z⟩
            obtain ⟨fl, env4, S4⟩ := r
            cases fl with
            | nx => exact ⟨ρ4, env4, S4, x1.trans xx, at4, (sat_xs hr xx).mono (fun r q ρ' σ'' H'' x' a' => q ρ' σ'' H'' (xx.trans x') a') fun _ z => z⟩
            | ct => exact ⟨ρ4, env4, S4, x1.trans xx, at4, (sat_xs hr xx).mono (fun r q ρ' σ'' H'' x' a' => q ρ' σ'' H'' (xx.trans x') a') fun _ z => z⟩
            | bk => exact hr ρ4 σ4 H4 xx at4
            | rt d => exact hr ρ4 σ4 H4 xx at4
        · exact hq.elim
end
end L2.Th

set_option Elab.async false
set_option linter.all false
set_option maxRecDepth 100000
set_option maxHeartbeats 4000000
/-! Layer J: comprehensions. -/
namespace L2.Th
open PySem PySem.Spec PyProof.Rows
/-- no error comes out of it -/
def noX {α : Type} : Res α → Res α
  | .ok a => .ok a
  | .exn _ => .stuck
  | .stuck => .stuck
  | .roll n k => .roll n fun r => noX (k r)
theorem noX_sat {α : Type} {Q : α → Prop} {R R' : Exn → Prop} : ∀ {x : Res α}, (noX x).Sat Q R → x.Sat Q R'
  | .ok _, h => h
  | .exn _, h => h.elim
  | .stuck, h => h
  | .roll _ _, h => ⟨h.1, fun r h0 h1 => noX_sat (h.2 r h0 h1)⟩
@[simp] theorem noX_ok {α : Type} (a : α) : noX (Res.ok a) = .ok a := rfl
def wipeE (env : Env) : List Nat → Env
  | [] => env
  | v :: vs => (wipeE env vs).set v none
theorem wipeE_length (env : Env) : ∀ vs, (wipeE env vs).length = env.length
  | [] => rfl
  | v :: vs => by rw [wipeE, List.length_set, wipeE_length env vs]
theorem wipeE_some {env : Env} {i : Nat} {d : D} : ∀ {vs : List Nat}, (wipeE env vs)[i]? = some (some d) → env[i]? = some (some d) ∧ i ∉ vs
  | [], h => ⟨h, by simp⟩
  | v :: vs, h => by
    unfold wipeE at h
    by_cases hi : v = i
    · subst hi
      by_cases hv : v < (wipeE env vs).length
      · rw [List.getElem?_set_self hv] at h; cases h
      · rw [List.getElem?_eq_none (by simpa using hv)] at h; cases h
    · rw [List.getElem?_set_ne hi] at h
      obtain ⟨h1, h2⟩ := wipeE_some h
      exact ⟨h1, fun hm => (List.mem_cons.mp hm).elim (fun e => hi e.symm) h2⟩
theorem wipe_in {σ : St} {i : Nat} : ∀ {vs : List Nat}, i ∈ vs → i < σ.length → (wipe σ vs)[i]? = some none
  | v :: vs, h, hl => by
    unfold wipe
    by_cases hi : v = i
    · subst hi
      rw [List.getElem?_set_self (by rw [wipe_length]; exact hl)]
    · rw [List.getElem?_set_ne hi]
      exact wipe_in ((List.mem_cons.mp h).elim (fun e => absurd e.symm hi) id) hl
theorem wipe_outs {σ : St} {i : Nat} : ∀ {vs : List Nat}, i ∉ vs → (wipe σ vs)[i]? = σ[i]?
  | [], _ => rfl
  | v :: vs, h => by
    unfold wipe
    rw [List.getElem?_set_ne (fun e => h (by rw [e]; exact List.mem_cons_self))]
    exact wipe_outs fun z => h (List.mem_cons_of_mem _ z)
theorem wipe_dif {σ σ' : St} {is vs : List Nat} (d : Dif is σ σ') (h : ∀ i ∈ is, i ∈ vs) : wipe σ' vs = wipe σ vs := by
  apply List.ext_getElem?
  intro i
  by_cases hi : i ∈ vs
  · by_cases hl : i < σ.length
    · rw [wipe_in hi hl, wipe_in hi (by rw [d.1]; exact hl)]
    · have := d.1
      rw [List.getElem?_eq_none (by rw [wipe_length]; omega), List.getElem?_eq_none (by rw [wipe_length]; omega)]
  · rw [wipe_outs hi, wipe_outs hi]
    exact d.2 i fun z => hi (h i z)
theorem wipe_wipe {σ : St} {vs ws : List Nat} (h : ∀ i ∈ ws, i ∈ vs) : wipe (wipe σ vs) ws = wipe σ vs := by
  apply List.ext_getElem?
  intro i
  by_cases hi : i ∈ ws
  · by_cases hl : i < σ.length
    · rw [wipe_in hi (by rw [wipe_length]; exact hl), wipe_in (h i hi) hl]
    · rw [List.getElem?_eq_none (by rw [wipe_length, wipe_length]; omega), List.getElem?_eq_none (by rw [wipe_length]; omega)]
  · rw [wipe_outs hi]
section
variable {K : PySem.W.Frag} {Γ : Gx} {M : Addr → Prop} {ρ : List Addr} {S : Store} {H H1 H' : Hp} {env : Env} {σ : St} {L : Addr}
theorem At.wipe (a : At K Γ M ρ env S σ H) (vs : List Nat) : At K Γ M ρ (wipeE env vs) S (wipe σ vs) H :=
  ⟨a.w, fun i d e => (by
    obtain ⟨e1, e2⟩ := wipeE_some e
    obtain ⟨v, e3, r⟩ := a.e i d e1
    exact ⟨v, by rw [wipe_outs e2]; exact e3, r⟩), by rw [wipeE_length, wipe_length]; exact a.l⟩
/-- the world within a comprehension: its list, at D, is none of the data -/
abbrev MD (M : Addr → Prop) (L : Addr) : Addr → Prop := fun a => M a ∨ a = L
theorem keep_blk (w : Wld K Γ M ρ S H) {L : Addr} (hD : H L = none) {o : HO} : Keep M (MD M L) ρ ρ H (upd H L o) :=
  ⟨fun b u e hM hρ _ => ⟨by rw [upd_ne (ne_of_none e hD)]; exact e, fun z => z.elim hM fun z => (by rw [z, hD] at e; cases e), hρ⟩, fun b e => by rw [upd_ne (ne_of_none e hD)]; exact e, fun _ _ e => e⟩
theorem cells_keep {M' : Addr → Prop} (k : Keep M M' ρ ρ H H') (hc : ∀ a ∈ ρ, ∀ o, H a = some o → IsCellO o → H' a = some o) {c : Cell} {a : Addr} (ha : a ∈ ρ) (h : CellOk K Γ M ρ H c a) : CellOk K Γ M' ρ H' c a := by
  cases c with
  | lst xs => obtain ⟨vs, e, r⟩ := h; exact ⟨vs, hc a ha _ e (.inl ⟨_, rfl⟩), r.keep k⟩
  | dct xs => obtain ⟨vs, e, r⟩ := h; exact ⟨vs, hc a ha _ e (.inr (.inl ⟨_, rfl⟩)), r.keep k⟩
  | ins c xs => obtain ⟨dx, vs, e, r⟩ := h; exact ⟨dx, vs, hc a ha _ e (.inr (.inr ⟨_, _, _, rfl⟩)), r.keep k⟩
theorem Wld.blk (w : Wld K Γ M ρ S H) {L : Addr} (hD : H L = none) {vs : List V} : Wld K Γ (MD M L) ρ S (upd H L (.lst vs)) where
  m := fun a h => h.elim (fun h => let ⟨o, e, c⟩ := w.m a h; ⟨o, by rw [upd_ne (ne_of_none e hD)]; exact e, c⟩) fun h => ⟨.lst vs, by rw [h]; exact upd_same, .inl ⟨vs, rfl⟩⟩
  tabs := tabs_new w.tabs hD
  nd := w.nd
  dj := fun a h => fun z => z.elim (w.dj a h) fun z => (by subst z; exact (w.new hD).2 h)
  len := w.len
  cells := fun n c a e1 e2 => cells_keep (keep_blk w hD) (fun b _ o e _ => by rw [upd_ne (ne_of_none e hD)]; exact e) (mem_of_loc e2) (w.cells n c a e1 e2)
theorem At.blk (a : At K Γ M ρ env S σ H) {L : Addr} (hD : H L = none) {vs : List V} : At K Γ (MD M L) ρ env S σ (upd H L (.lst vs)) :=
  ⟨a.w.blk hD, fun i d e => let ⟨v, e1, r⟩ := a.e i d e; ⟨v, e1, r.keep (keep_blk a.w hD)⟩, a.l⟩
/-- the comprehension's list grows -/
theorem Wld.grow (w : Wld K Γ (MD M L) ρ S H) {vs us : List V} (h : H L = some (.lst vs)) : Wld K Γ (MD M L) ρ S (upd H L (.lst us)) := by
  have hDρ : L ∉ ρ := fun z => w.dj L z (.inr rfl)
  have k : Keep (MD M L) (MD M L) ρ ρ H (upd H L (.lst us)) := ⟨fun b o e hM hρ _ => ⟨by rw [upd_ne (fun z => hM (.inr z))]; exact e, hM, hρ⟩, fun b e => by
    rw [upd_ne (fun z => by rw [z, h] at e; exact absurd (Option.some.inj e) (IsCellO.nd (.inl ⟨_, rfl⟩)))]; exact e, fun _ _ e => e⟩
  refine ⟨fun a hm => ?_, ⟨fun p hp => ?_, fun P hP => ?_⟩, w.nd, w.dj, w.len, fun n c a e1 e2 => ?_⟩
  · by_cases ha : a = L
    · subst ha; exact ⟨_, upd_same, .inl ⟨_, rfl⟩⟩
    · obtain ⟨o, e, c⟩ := w.m a hm; exact ⟨o, by rw [upd_ne ha]; exact e, c⟩
  · obtain ⟨ps, h1, h2, h3⟩ := w.tabs.1 p hp
    refine ⟨ps, by rw [upd_ne (fun z => by rw [z, h] at h1; cases h1)]; exact h1, h2, fun pos cv hc => ?_⟩
    obtain ⟨c, e1, e2⟩ := h3 pos cv hc
    exact ⟨c, e1, by rw [upd_ne (fun z => by rw [z, h] at e2; unfold LamX.CodeO at e2; cases e2)]; exact e2⟩
  · obtain ⟨ps, h1, h2⟩ := w.tabs.2 P hP
    exact ⟨ps, by rw [upd_ne (fun z => by rw [z, h] at h1; cases h1)]; exact h1, h2⟩
  · exact cells_keep k (fun b hb o e _ => by rw [upd_ne (fun z => hDρ (by rw [← z]; exact hb))]; exact e) (mem_of_loc e2) (w.cells n c a e1 e2)
theorem keep_grow {L : Addr} {vs us : List V} (h : H L = some (.lst vs)) : Keep (MD M L) (MD M L) ρ ρ H (upd H L (.lst us)) :=
  ⟨fun b o e hM hρ _ => ⟨by rw [upd_ne (fun z => hM (.inr z))]; exact e, hM, hρ⟩, fun b e => by
    rw [upd_ne (fun z => by rw [z, h] at e; exact absurd (Option.some.inj e) (IsCellO.nd (.inl ⟨_, rfl⟩)))]; exact e, fun _ _ e => e⟩
theorem At.grow (a : At K Γ (MD M L) ρ env S σ H) {vs us : List V} (h : H L = some (.lst vs)) : At K Γ (MD M L) ρ env S σ (upd H L (.lst us)) :=
  ⟨a.w.grow h, fun i d e => let ⟨v, e1, r⟩ := a.e i d e; ⟨v, e1, r.keep (keep_grow h)⟩, a.l⟩
theorem keep_outb {L : Addr} : Keep (MD M L) M ρ ρ H H := ⟨fun b o e hM hρ _ => ⟨e, fun z => hM (.inl z), hρ⟩, fun b e => e, fun _ _ e => e⟩
end
abbrev W0 : WX := fun _ _ _ _ => False
/-- the data that is walked, within one state -/
def itemsOf (S : Store) : ItD → Option (List D)
  | .seq ds => some ds
  | .cell n => match S[n]? with
    | some (.lst xs) => some xs
    | _ => none
def lcSeq (g : GCode) (t : TCode) (e : Code) (env : Env) (S : Store) : List D → Res (List D)
  | [] => .ok []
  | d :: ds => do
    let env' ← g d env
    let b ← t env' S
    if b then do
      let x ← e env' S
      let xs ← lcSeq g t e env S ds
      .ok (x :: xs)
    else lcSeq g t e env S ds
def cLc (own : List Nat) (ic : ICode) (g : GCode) (t : TCode) (e : Code) : Code := fun env S => do
  let it ← ic env S
  let ds ← opt (itemsOf S it)
  need (decide (ds.length ≤ sizeLine))
  let xs ← noX (lcSeq g t e (wipeE env own) S ds)
  .ok (.lst xs)
def tYesC : TCode := fun _ _ => .ok true
abbrev PTsc (X : Cx) (Γ : Gx) (W : WX) (es : List Expr) (t : TCode) : Prop := PTs X es (tT X.K Γ W t)
section
variable {X : Cx} {Γ : Gx} {W : WX} {K : PySem.W.Frag} {M : Addr → Prop} {ρ : List Addr} {S : Store} {H H1 H' : Hp} {env : Env} {σ : St}
theorem pts_of {X : Cx} {e : List Expr} {t t' : TT} (h : PTs X e t) (w : ∀ σ H Q, t' σ H Q → t σ H Q) : PTs X e t' := ⟨fun pins s σ H Q I h' => h.run pins s σ H Q I (w _ _ _ h')⟩
theorem pts_nilC : PTsc X Γ W [] tYesC := pts_of pts_nil fun σ H Q ⟨M, ρ, env, S, a, h⟩ => h H (LamX.ExtN.refl H) a.w.tabs
theorem pts_oneC {c : Expr} {t : TCode} (h : PTc X Γ W c t) : PTsc X Γ W [c] t := pts_one h
/-- the walked data at each turn, whatever the iterator: L the new list -/
theorem it_turn {J : It} {it : ItD} {ds : List D} {H2 : Hp} {L : Addr} (ok : ItOk K Γ M ρ H1 J it) (hi : itemsOf S it = some ds) (hD1 : H1 L = none) (x : LamX.ExtN H1 H2) (w2 : Wld K Γ (MD M L) ρ S H2) (i : Nat) :
    (∀ d, ds[i]? = some d → J.go i H2 ∧ ∀ y H3, J.yld i H2 y H3 → LamX.ExtN H2 H3 ∧ TabsOk Γ H3 ∧ RelD K Γ.cl (MD M L) ρ H3 d y) ∧ (ds.length ≤ i → J.stop i H2) := by
  cases it with
  | seq xs =>
    cases hi
    exact ok (MD M L) ρ S H2 ⟨fun b o e hM hρ hn => ⟨x b o e hn, fun z => z.elim hM fun z => (by rw [z, hD1] at e; cases e), hρ⟩, fun b e => x b _ e (fun _ z => (nomatch z)), fun _ _ e => e⟩ w2 i
  | cell n =>
    obtain ⟨a, hn, rfl⟩ := ok
    have hi' : (match S[n]? with | some (.lst xs) => some xs | _ => none) = some ds := hi
    split at hi'
    · rename_i xs es
      cases hi'
      obtain ⟨vs, h1, rr⟩ := w2.cells n _ a es hn
      refine ⟨fun d e => ?_, fun hl => ⟨vs, .of h1, by rw [← rr.length]; exact hl⟩⟩
      obtain ⟨v, e1, rv⟩ := rr.get e
      refine ⟨⟨vs, v, .of h1, e1⟩, fun y H3 hy => ?_⟩
      obtain ⟨rfl, hy⟩ := hy
      exact ⟨LamX.ExtN.refl _, w2.tabs, rr.at e (hy vs (.of h1))⟩
    · cases hi'
theorem ext_grow {L : Addr} {vs : List V} {H2 : Hp} (hD1 : H1 L = none) (x : LamX.ExtN H1 H2) : LamX.ExtN H1 (upd H2 L (.lst vs)) := fun b o e n => by
  rw [upd_ne (ne_of_none e hD1)]; exact x b o e n
/-- the reading of a comprehension from its code -/
theorem lc_code {ic : ICode} {is own : List Nat} {g : GCode} {t : TCode} {ce : Code} {Q : VK} (his : ∀ i ∈ is, i ∈ own) (h : tE K Γ W (cLc own ic g t ce) σ H Q) : tLc (tI K Γ W ic) (tG K Γ is g) (tT K Γ W0 t) (tE K Γ W0 ce) own σ H Q := by
  obtain ⟨M, ρ, env, S, a, h⟩ := h
  refine ⟨M, ρ, env, S, a, (Res.sat_bind h).mono (fun it p J H1 x tb ok L hL => ?_) fun _ z => z⟩
  have a1 := a.ext x tb
  obtain ⟨ds, ei, p⟩ := sat_opt p
  obtain ⟨hsz, p⟩ := sat_need p
  have hsz := of_decide_eq_true hsz
  have p := noX_sat (R' := fun _ => False) (Res.sat_bind p)
  have aw := (a1.wipe own).blk (vs := []) hL
  -- what is wanted at the end, by the items so far
  let Fin : List D → Prop := fun xs => ∀ v H', LamX.ExtN H H' → TabsOk Γ H' → RelD K Γ.cl M ρ H' (.lst xs) v → Q v H'
  have p' : (lcSeq g t ce (wipeE env own) S ds).Sat (fun xs => Fin ([] ++ xs)) (fun _ => False) := p
  refine ⟨fun i m H' => m = ds.length - i ∧ i ≤ ds.length ∧ ∃ ys vs, ys.length ≤ i ∧ LamX.ExtN H1 H' ∧ At K Γ (MD M L) ρ (wipeE env own) S (L2.wipe σ own) H' ∧ H' L = some (.lst vs) ∧ RelDs K Γ.cl (MD M L) ρ H' ys vs ∧
    (lcSeq g t ce (wipeE env own) S (ds.drop i)).Sat (fun xs => Fin (ys ++ xs)) (fun _ => False),
    ⟨_, rfl, Nat.zero_le _, [], [], Nat.le_refl _, ext_grow hL (LamX.ExtN.refl _), aw, upd_same, .nil, by rw [List.drop_zero]; exact p'⟩, ?_⟩
  rintro i m H' ⟨rfl, hi, ys, vs, hyl, x1, a2, hl, rs, hq⟩
  have tn := it_turn ok ei hL x1 a2.w i
  by_cases hlt : i < ds.length
  · right
    have hd : ds.drop i = ds[i] :: ds.drop (i + 1) := List.drop_eq_getElem_cons hlt
    rw [hd] at hq
    obtain ⟨hgo, hy⟩ := tn.1 ds[i] (List.getElem?_eq_getElem hlt)
    refine ⟨hgo, fun H2 => ∃ ys vs, ys.length ≤ i + 1 ∧ LamX.ExtN H1 H2 ∧ At K Γ (MD M L) ρ (wipeE env own) S (L2.wipe σ own) H2 ∧ H2 L = some (.lst vs) ∧ RelDs K Γ.cl (MD M L) ρ H2 ys vs ∧
      (lcSeq g t ce (wipeE env own) S (ds.drop (i + 1))).Sat (fun xs => Fin (ys ++ xs)) (fun _ => False), fun H2 q => ⟨ds.length - (i + 1), by omega, rfl, hlt, q⟩, fun y H2 hyy => ?_⟩
    obtain ⟨ex, tx, rx⟩ := hy y H2 hyy
    have a3 := a2.ext ex tx
    refine ⟨MD M L, ρ, wipeE env own, S, ds[i], a3, rx, (Res.sat_bind hq).mono (fun env2 q2 σ3 a4 df => ⟨?_, ?_⟩) fun _ z => z⟩
    · rw [wipe_dif df his, wipe_wipe fun _ z => z]
    · refine ⟨MD M L, ρ, env2, S, a4, (Res.sat_bind q2).mono (fun b q3 H3 x3 t3 => ?_) fun _ z => z.elim⟩
      have x13 : LamX.ExtN H1 H3 := x1.trans (ex.trans x3)
      have l3 : H3 L = some (.lst vs) := x3 _ _ (ex _ _ hl (fun _ z => (nomatch z))) (fun _ z => (nomatch z))
      cases b with
      | true =>
        rw [if_pos rfl] at q3
        show if true = true then _ else _
        rw [if_pos rfl]
        refine ⟨MD M L, ρ, env2, S, a4.ext x3 t3, (Res.sat_bind q3).mono (fun d q4 v H4 x4 t4 r4 => ?_) fun _ z => z.elim⟩
        have l4 : H4 L = some (.lst vs) := x4 _ _ l3 (fun _ z => (nomatch z))
        have rs4 := ((rs.keep (ext_keep ex)).keep (ext_keep x3)).keep (ext_keep x4)
        have a5 := ((a3.ext x3 t3).ext x4 t4)
        have q5 := Res.sat_bind q4
        -- the new list's length
        refine ⟨vs, l4, ?_, ys ++ [d], vs ++ [v], by rw [List.length_append]; exact Nat.succ_le_succ hyl, ext_grow hL (x13.trans x4), a5.grow l4, upd_same, (rs4.append (.cons r4 .nil)).keep (keep_grow l4), ?_⟩
        · have := rs.length; omega
        · refine q5.mono (fun xs q6 => ?_) fun _ z => z
          have e : ys ++ [d] ++ xs = ys ++ d :: xs := by simp
          rw [e]
          exact q6
      | false =>
        rw [if_neg (by decide)] at q3
        show if false = true then _ else _
        rw [if_neg (by decide)]
        exact ⟨ys, vs, Nat.le_succ_of_le hyl, x13, ((a3.ext x3 t3)), l3, (rs.keep (ext_keep ex)).keep (ext_keep x3), q3⟩
  · left
    have e : i = ds.length := by omega
    subst e
    rw [List.drop_length] at hq
    refine ⟨tn.2 (Nat.le_refl _), ?_⟩
    have hq' : Fin (ys ++ []) := hq
    rw [List.append_nil] at hq'
    have wL : ¬ M L ∧ L ∉ ρ := a1.w.new hL
    exact hq' _ H' (x.trans x1) a2.w.tabs (.lst wL.1 wL.2 hl (rs.keep keep_outb))
end
end L2.Th

set_option Elab.async false
set_option linter.all false
set_option maxRecDepth 100000
set_option maxHeartbeats 4000000
/-! Layer K: generator expressions, one clause; any, all, sum of them. -/
namespace L2.Th
open PySem PySem.Spec PyProof.Rows GenW
/-! ### the frame of a generator expression -/
abbrev genX (X : Cx) (N : List Str) (s : Shared) (H : Hp) (cenv : PySem.Env) (A : Around) (fp : List Addr) : Cx :=
  { X with A := A, N := N, s_0 := s, H_0 := H, env := cenv, outer := X.stack, stack := cenv :: X.stack, ex := fp, fn := fun _ => false, calm := true, pn := [], xe := fun _ _ => False }
structure GenOk (XN : List Str) (sc scope : Scope) (N : List Str) (own : Nat) (cap : List Nat) : Prop where
  kind : scope.kind = .function
  co : scope.isCoroutine = false
  cell : ∀ y ∈ scope.names, y.2 ≠ .cell
  dot : scope.names.lookup (".0" : Str) = some NameKind.local
  free : ∀ y ∈ scope.names, y.2 = .free → sc.names.lookup y.1 = some .cell ∨ sc.names.lookup y.1 = some .free
  nd : N.Nodup
  len : N.length = own + cap.length
  caps : ∀ j i, cap[j]? = some i → ∃ y, N[own + j]? = some y ∧ XN[i]? = some y ∧ scope.names.lookup y = some .free
def genS {α : Type} (own : Nat) (cap : List Nat) (σ : List (Option α)) : List (Option α) := List.replicate own none ++ cap.map fun i => (σ[i]?).join
theorem genS_len {α : Type} {own : Nat} {cap : List Nat} {σ : List (Option α)} : (genS own cap σ).length = own + cap.length := by simp [genS]
theorem genS_some {α : Type} {own : Nat} {cap : List Nat} {σ : List (Option α)} {i : Nat} {v : α} (h : (genS own cap σ)[i]? = some (some v)) : ∃ j k, i = own + j ∧ cap[j]? = some k ∧ σ[k]? = some (some v) := by
  unfold genS at h
  by_cases hi : i < own
  · rw [List.getElem?_append_left (by simpa using hi), List.getElem?_replicate] at h
    rw [if_pos hi] at h; cases h
  · rw [List.getElem?_append_right (by simpa using hi), List.getElem?_map, List.length_replicate] at h
    cases e : cap[i - own]? with
    | none => rw [e] at h; cases h
    | some k =>
      rw [e] at h
      refine ⟨i - own, k, by omega, e, ?_⟩
      cases q : σ[k]? with
      | none => simp [q] at h
      | some o => simp [q] at h; rw [h]
theorem genS_none {α : Type} {own : Nat} {cap : List Nat} {σ : List (Option α)} {i : Nat} (h : i < own) : (genS own cap σ)[i]? = some none := by
  unfold genS
  rw [List.getElem?_append_left (by simpa using h), List.getElem?_replicate, if_pos h]
section
variable {X : Cx} {pins : List (Addr × Obj)} {σ : St} {H : Hp} {s : Shared}
theorem cells_of_gen {sc scope : Scope} {env : PySem.Env} (hfree : ∀ y ∈ scope.names, y.2 = .free → ∃ c, env.cells.lookup y.1 = some c) {y : Str} {c : Addr} (hm : (y, c) ∈ cloFrom env.cells scope.names []) : env.cells.lookup y = some c := by
  rcases cloFrom_mem hm with hm | ⟨h1, rfl⟩
  · cases hm
  · obtain ⟨c, hc⟩ := hfree _ h1 rfl
    rw [hc]; rfl
theorem gen_start {scope : Scope} {N : List Str} {own : Nat} {cap : List Nat} {fp : List Addr} {A : Around} {code : Value} {m : Str → Option Value} {h5 : Heap} {g5 : Array GenState} {tk : Nat} (I : Inv X pins σ H s) (ok : GenOk X.N X.env.scope scope N own cap)
    (hfp : ∀ b ∈ fp, FpOk X pins H b ∧ b < s.heap.objs.size) (hA : A.handled = none) (hfr : A.frames = some (genEnv scope (cloFrom X.env.cells scope.names []) s.heap.objs.size code builtinsNs X.env :: X.stack))
    (keep : ∀ b o, s.heap.get? b = some o → h5.get? b = some o) (hns : h5.Ns s.heap.objs.size m) (hg : AllBare g5) :
    Inv (genX X N s H (genEnv scope (cloFrom X.env.cells scope.names []) s.heap.objs.size code builtinsNs X.env) A fp) [] (genS own cap σ) H { s with heap := h5, gens := g5, toks := tk } := by
  have hfree : ∀ y ∈ scope.names, y.2 = .free → ∃ c, X.env.cells.lookup y.1 = some c := fun y hy e => by
    rcases ok.free y hy e with k | k
    · exact I.ok.has _ (.inl k)
    · exact I.ok.has _ (.inr k)
  generalize hce : genEnv scope (cloFrom X.env.cells scope.names []) s.heap.objs.size code builtinsNs X.env = cenv at hfr
  have hL : cenv.locals = s.heap.objs.size := by rw [← hce]; rfl
  have hcl : cenv.cells = cloFrom X.env.cells scope.names [] := by rw [← hce]; rfl
  have hsc : cenv.scope = scope := by rw [← hce]; rfl
  have mem : ∀ {y c}, cenv.cells.lookup y = some c → X.env.cells.lookup y = some c := fun {y c} e => by
    rw [hcl] at e
    exact cells_of_gen (sc := scope) hfree (PySem.mem_of_lookup e)
  have clt : ∀ {y c}, X.env.cells.lookup y = some c → c < s.heap.objs.size := fun {y c} e => by
    obtain ⟨w, z⟩ := I.cell _ _ e
    exact z.lt
  have look : ∀ {y}, scope.names.lookup y = some .free → ∃ c, cenv.cells.lookup y = some c ∧ X.env.cells.lookup y = some c := fun {y} hl => by
    obtain ⟨c', e'⟩ := mem_lookup (cloFrom_has (cells := X.env.cells) (acc := []) (PySem.mem_of_lookup hl))
    rw [← hcl] at e'
    exact ⟨c', e', mem e'⟩
  have okB : (genX X N s H cenv A fp).Ok := by
    refine ⟨I.ok.mod, by show cenv.scope.kind = _; rw [hsc]; exact ok.kind, by show cenv.globals = _; rw [← hce]; exact I.ok.glob, by show cenv.builtins = _; rw [← hce]; rfl, by show s.heap.objs.size ≤ cenv.locals; rw [hL]; exact Nat.le_refl _,
      fun y z c e1 e2 => I.ok.inj y z c (mem e1) (mem e2), fun y hy => ?_, fun y c z e => absurd (show false = true from z) (by decide), fun _ => hA, hfr, .inr ⟨rfl, by show cenv.frame = some cenv.locals; rw [← hce]; rfl⟩, fun b hb => ⟨?_, fun y c e z => ?_⟩, I.bs, Nat.le_trans I.ok.bsz I.sz, fun b o e hb => ?_, fun b hb z => ?_, I.stack, I.stkFree⟩
    · have key : cenv.kindOf y = some .cell ∨ cenv.kindOf y = some .free := hy
      unfold Env.kindOf at key
      rw [hsc] at key
      rcases key with k | k
      · exact absurd rfl (ok.cell _ (PySem.mem_of_lookup k))
      · obtain ⟨c, h1, _⟩ := look k
        exact ⟨c, h1⟩
    · show b ≠ cenv.locals
      rw [hL]; exact Nat.ne_of_lt (hfp b hb).2
    · exact (hfp b hb).1.2.2.2.2.1 y c (mem e) z
    · rcases (hfp b hb).1.2.2.2.1 with z | z
      · exact I.ok.noex b o e z
      · exact absurd (Nat.lt_of_lt_of_le (Heap.lt_size e) (Nat.le_trans I.ok.bsz z)) (Nat.lt_irrefl _)
    · rcases List.mem_cons.mp (I.stkSub b z) with z | z
      · exact (hfp b hb).1.2.1 z
      · exact (hfp b hb).1.2.2.1 z
  refine ⟨okB, rfl, hg, Un.kept keep, ⟨m, by show Heap.Ns _ cenv.locals _; rw [hL]; exact hns, fun i y av e1 e2 e3 => ?_⟩, fun y c e => ?_, ?_, fun y c e => ?_, fun p hp => absurd (show p ∈ ([] : List (Addr × Obj)) ++ [] from hp) (by simp), I.hok.kept keep, by rw [genS_len]; exact ok.len.symm⟩
  · obtain ⟨j, k, rfl, hj, e4⟩ := genS_some e2
    obtain ⟨y', n1, n2, n3⟩ := ok.caps j k hj
    have e1 : N[own + j]? = some y := e1
    rw [n1] at e1; cases e1
    obtain ⟨m', hn, hl⟩ := I.loc
    have hf := ok.free _ (PySem.mem_of_lookup n3) rfl
    have hvis : Vis X.env.scope y := hf.elim (fun k => .inr (.inl k)) (fun k => .inr (.inr k))
    obtain ⟨w, r, q⟩ := hl k y av n2 e4 hvis
    refine ⟨w, r, .inr ⟨.inr (by show cenv.scope.names.lookup y = _; rw [hsc]; exact n3), ?_⟩⟩
    obtain ⟨c, h1, h2⟩ := look n3
    rcases q with ⟨k', _⟩ | ⟨_, c', e', z⟩
    · have k' : X.env.scope.names.lookup y = some .local := k'
      rcases hf with k'' | k'' <;> rw [show X.env.scope.names.lookup y = _ from k''] at k' <;> cases k'
    · rw [h2] at e'; cases e'
      exact ⟨c, h1, z.keeps keep⟩
  · obtain ⟨w, z⟩ := I.cell y c (mem e)
    exact ⟨w, z.keeps keep⟩
  · show H cenv.locals = none
    rw [hL]; exact I.hok.fresh (Nat.le_refl _)
  · exact I.freeC y c (mem e)
/-- other generators' states, all bare -/
theorem _root_.L2.Inv.gens {G : Array GenState} (I : Inv X pins σ H s) (hg : AllBare G) : Inv X pins σ H { s with gens := G } :=
  I.call (h' := s.heap) (g' := G) (t' := s.toks) (d' := s.drawn) (ch := []) Un.refl I.hok hg (fun b z => absurd z (by simp))
theorem bare_set {s : Shared} {g : Nat} {x : GenState} (h : AllBare s.gens) (hx : x.bare = true) : AllBare (s.setGen g x).gens := by
  intro y hy
  simp only [Shared.setGen] at hy
  rcases Array.mem_or_eq_of_mem_setIfInBounds hy with h' | h'
  · exact h y h'
  · rw [h']; exact hx
end
end L2.Th

set_option Elab.async false
set_option linter.all false
set_option maxRecDepth 100000
set_option maxHeartbeats 4000000
/-! Layer L: the turns of a generator expression. -/
namespace L2.Th
open PySem PySem.Spec PyProof.Rows GenW
/-- one item: none: not let through -/
def itR (g : GCode) (t : TCode) (e : Code) (env : Env) (S : Store) (d : D) : Res (Option D) := do
  let env' ← g d env
  let b ← t env' S
  if b then do
    let x ← e env' S
    .ok (some x)
  else .ok none
/-- what is handed out; whether it comes to an end -/
def gList (f : D → Res (Option D)) : List D → List D × Bool
  | [] => ([], true)
  | d :: ds => match f d with
    | .ok (some x) => (x :: (gList f ds).1, (gList f ds).2)
    | .ok none => gList f ds
    | _ => ([], false)
theorem bind_ok {α β : Type} {x : Res α} {f : α → Res β} {b : β} (h : (x >>= f) = .ok b) : ∃ a, x = .ok a ∧ f a = .ok b := by
  cases x with
  | ok a => exact ⟨a, rfl, h⟩
  | exn e => cases h
  | stuck => cases h
  | roll n k => cases h
theorem sat_ok {α : Type} {Q : α → Prop} {R : Exn → Prop} {x : Res α} {a : α} (h : x = .ok a) (q : Q a) : x.Sat Q R := by rw [h]; exact q
section
variable {K : PySem.W.Frag} {Γ : Gx} {M : Addr → Prop} {ρ : List Addr} {S : Store} {H H2 : Hp} {J : It} {itd : ItD} {ds : List D}
theorem it_turn0 (ok : ItOk K Γ M ρ H J itd) (hi : itemsOf S itd = some ds) (x : LamX.ExtN H H2) (w2 : Wld K Γ M ρ S H2) (i : Nat) :
    (∀ d, ds[i]? = some d → J.go i H2 ∧ ∀ y H3, J.yld i H2 y H3 → LamX.ExtN H2 H3 ∧ TabsOk Γ H3 ∧ RelD K Γ.cl M ρ H3 d y) ∧ (ds.length ≤ i → J.stop i H2) := by
  cases itd with
  | seq xs =>
    cases hi
    exact ok M ρ S H2 (ext_keep x) w2 i
  | cell n =>
    obtain ⟨a, hn, rfl⟩ := ok
    have hi' : (match S[n]? with | some (.lst xs) => some xs | _ => none) = some ds := hi
    split at hi'
    · rename_i xs es
      cases hi'
      obtain ⟨vs, h1, rr⟩ := w2.cells n _ a es hn
      refine ⟨fun d e => ?_, fun hl => ⟨vs, .of h1, by rw [← rr.length]; exact hl⟩⟩
      obtain ⟨v, e1, rv⟩ := rr.get e
      refine ⟨⟨vs, v, .of h1, e1⟩, fun y H3 hy => ?_⟩
      obtain ⟨rfl, hy⟩ := hy
      exact ⟨LamX.ExtN.refl _, w2.tabs, rr.at e (hy vs (.of h1))⟩
    · cases hi'
end
def gEnd (Y : Cx) (Γ : Gx) (ao : Addr × Obj) (SS : List Addr) (σg : St) (H : Hp) (fin : Bool) : GenEnd := fun n s₀ r s =>
  r = .ok .next ∧ n = 0 ∧ fin = true ∧ ∃ H', Inv Y (ao :: pinsAt SS s₀.heap) σg H' s ∧ LamX.ExtN H H' ∧ TabsOk Γ H'
def gYld (Y : Cx) (Γ : Gx) (M : Addr → Prop) (ρ : List Addr) (ao : Addr × Obj) (SS : List Addr) (σg : St) (H : Hp) (fp : List Addr) (tn : Nat → Heap → Prop) (xs : List D) (fin : Bool) : Protocol := fun n s₀ v s kap =>
  ∃ x y i H', xs[xs.length - 1 - n]? = some x ∧ Inv Y (ao :: pinsAt SS s₀.heap) σg H' s ∧ RelD Y.K Γ.cl M ρ H' x y ∧ RelV y v ∧ tn i s.heap ∧ (∀ b ∈ fp, H' b = none) ∧ LamX.ExtN H H' ∧ TabsOk Γ H' ∧
    ∀ s'', (n = 0 → fin = true) → Inv Y (ao :: pinsAt SS s''.heap) σg H' s'' → tn i s''.heap → kap (.send .none) s''
theorem gList_fst {f : D → Res (Option D)} {ds : List D} {ys : List D} {fin : Bool} (h : gList f ds = (ys, fin)) : (gList f ds).1 = ys ∧ (gList f ds).2 = fin := by rw [h]; exact ⟨rfl, rfl⟩
section
variable {X : Cx} {Γ : Gx} {M : Addr → Prop} {ρ : List Addr} {S : Store} {N : List Str} {own : Nat} {cap : List Nat} {σ : St} {H : Hp} {s_ : Shared} {cenv : PySem.Env} {A0 : Around} {fp : List Addr} {it : Addr} {tn : Nat → Heap → Prop} {J : It} {itd : ItD} {ds xs : List D} {fin : Bool}
  {ao : Addr × Obj} {SS : List Addr} {tg elt iter : Expr} {ifs : List Expr} {scope : Scope} {pos : Pos} {envg : Env} {is : List Nat} {g : GCode} {t : TCode} {ce : Code}
theorem gen_loop (T : Turn X.prog X.w X.K tg J fp it tn) (ok : ItOk X.K Γ M ρ H J itd) (hi : itemsOf S itd = some ds) (at0 : At X.K Γ M ρ envg S (genS own cap σ) H)
    (hap : ∀ b ∈ fp, b < s_.heap.objs.size) (ha : s_.heap.objs.size ≤ ao.1) (hSS : ∀ b ∈ SS, s_.heap.objs.size ≤ b) (his : ∀ i ∈ is, i < own) (hco : cenv.scope.isCoroutine = false)
    (pg : PGc (genX X N s_ H cenv (A0.over (.compLoop (.GeneratorExp elt [⟨tg, iter, ifs, 0⟩] scope pos) 0 (.ref it) .none cenv) []) fp) Γ tg is g)
    (pt : PTsc (genX X N s_ H cenv (A0.over (.compLoop (.GeneratorExp elt [⟨tg, iter, ifs, 0⟩] scope pos) 0 (.ref it) .none cenv) []) fp) Γ W0 ifs t)
    (pe : PEc (genX X N s_ H cenv (A0.over (.compLoop (.GeneratorExp elt [⟨tg, iter, ifs, 0⟩] scope pos) 0 (.ref it) .none cenv) []) fp) Γ W0 elt ce) :
    ∀ (k i : Nat) (s₀ s : Shared) (H' : Hp) (ys : List D), ds.length - i = k → i ≤ ds.length → gList (itR g t ce envg S) (ds.drop i) = (ys, fin) → xs.drop (xs.length - ys.length) = ys → ys.length ≤ xs.length → (ys.length = 0 → fin = true) →
      Inv (genX X N s_ H cenv (A0.over (.compLoop (.GeneratorExp elt [⟨tg, iter, ifs, 0⟩] scope pos) 0 (.ref it) .none cenv) []) fp) (ao :: pinsAt SS s₀.heap) (genS own cap σ) H' s → tn i s.heap → (∀ b ∈ fp, H' b = none) → LamX.ExtN H H' → TabsOk Γ H' →
      Seg (model X.prog X.w) A0 (gEnd (genX X N s_ H cenv (A0.over (.compLoop (.GeneratorExp elt [⟨tg, iter, ifs, 0⟩] scope pos) 0 (.ref it) .none cenv) []) fp) Γ ao SS (genS own cap σ) H fin)
        (gYld (genX X N s_ H cenv (A0.over (.compLoop (.GeneratorExp elt [⟨tg, iter, ifs, 0⟩] scope pos) 0 (.ref it) .none cenv) []) fp) Γ M ρ ao SS (genS own cap σ) H fp tn xs fin) ys.length s₀
        (.compLoop (.GeneratorExp elt [⟨tg, iter, ifs, 0⟩] scope pos) 0 (.ref it) .none cenv) ((model X.prog X.w).den (.compLoop (.GeneratorExp elt [⟨tg, iter, ifs, 0⟩] scope pos) 0 (.ref it) .none cenv)) [] s := by
  generalize hA : A0.over (.compLoop (.GeneratorExp elt [⟨tg, iter, ifs, 0⟩] scope pos) 0 (.ref it) .none cenv) [] = A at pg pt pe ⊢
  have stat : ∀ {s₀ s' : Shared} {σ' : St} {H' : Hp} , Inv (genX X N s_ H cenv A fp) (ao :: pinsAt SS s₀.heap) σ' H' s' → (∀ b ∈ fp, H' b = none) → ∀ b ∈ fp, FpOk (genX X N s_ H cenv A fp) (ao :: pinsAt SS s₀.heap) H' b := fun {s₀ s' σ' H'} I hn b hb =>
    ⟨hn b hb, (I.ok.exf b hb).1, I.ok.exfs b hb, .inl hb, fun x c e => (I.ok.exf b hb).2 x c e, fun p hp z => by
      have hlt := hap b hb
      have hp : p ∈ ao :: pinsAt SS s₀.heap := by simpa using hp
      rcases List.mem_cons.mp hp with e | hp
      · rw [← z, e] at hlt; exact absurd (Nat.lt_of_lt_of_le hlt ha) (Nat.lt_irrefl _)
      · have h2 := hSS p.1 (of_pinsAt hp).1
        rw [z] at h2
        exact absurd (Nat.lt_of_lt_of_le hlt h2) (Nat.lt_irrefl _)⟩
  intro k
  induction k with
  | zero =>
    intro i s₀ s H' ys hk hle hg hx hl hf I st n' x tb
    have e : i = ds.length := by omega
    subst e
    rw [List.drop_length] at hg
    cases hg
    show Seg _ A0 _ _ _ s₀ _ ((compTurn (.GeneratorExp elt [⟨tg, iter, ifs, 0⟩] scope pos) 0 (.ref it) .none cenv).onRaise (leaving cenv)) [] s
    rw [compTurn_gen, Sem.onRaise_eq_wrap]
    refine seg_bind_wrap (wpAny_standAt ?_)
    have tn2 := it_turn0 ok hi x ((at0.ext x tb).w) ds.length
    refine seg_bind_wrap (by
      rw [hA]
      refine thnF (T.done (genX X N s_ H cenv A fp) rfl rfl rfl rfl ds.length _ s _ H' (fun _ _ => False) I (stat I n') st (tn2.2 (Nat.le_refl _))) fun r s1 ⟨hr, I1⟩ => ?_
      subst hr
      exact seg_end (.ok .next) ⟨rfl, rfl, rfl, H', I1, x, tb⟩)
  | succ k ih =>
    intro i s₀ s H' ys hk hle hg hx hl hf I st n' x tb
    have hlt : i < ds.length := by omega
    have at1 := at0.ext x tb
    have tn2 := it_turn0 ok hi x at1.w i
    obtain ⟨hgo, hy⟩ := tn2.1 ds[i] (List.getElem?_eq_getElem hlt)
    rw [List.drop_eq_getElem_cons hlt] at hg
    show Seg _ A0 _ _ _ s₀ _ ((compTurn (.GeneratorExp elt [⟨tg, iter, ifs, 0⟩] scope pos) 0 (.ref it) .none cenv).onRaise (leaving cenv)) [] s
    rw [compTurn_gen, Sem.onRaise_eq_wrap]
    refine seg_bind_wrap (wpAny_standAt ?_)
    refine seg_bind_wrap (by
      rw [hA]
      refine thnF (T.item (genX X N s_ H cenv A fp) rfl rfl rfl rfl i _ s _ H' (fun _ _ => False) I (stat I n') st hgo) fun r s1 ⟨u, hr, h1⟩ => ?_
      subst hr
      refine seg_bind_wrap (by
        rw [hA]
        refine thnF h1 fun _ s2 ⟨vx, H2, I2, r2, y2, st2, n2⟩ => ?_
        obtain ⟨x2, t2, rd⟩ := hy vx H2 y2
        have at2 := at1.ext x2 t2
        have I2' := I2.pinned (stat I2 n2) (T.obj _ _ st2)
        -- what the item gives
        have hcase : ∃ r, itR g t ce envg S ds[i] = .ok r ∧ match r with
            | some xv => ys = xv :: (gList (itR g t ce envg S) (ds.drop (i + 1))).1 ∧ fin = (gList (itR g t ce envg S) (ds.drop (i + 1))).2
            | none => gList (itR g t ce envg S) (ds.drop (i + 1)) = (ys, fin) := by
          unfold gList at hg
          split at hg
          · rename_i xv q; cases hg; exact ⟨some xv, q, ⟨rfl, rfl⟩⟩
          · rename_i q; exact ⟨none, q, hg⟩
          · exfalso
            cases hg
            exact absurd (hf rfl) (by decide)
        obtain ⟨r, hr, hrest⟩ := hcase
        obtain ⟨env', e1, hr⟩ := bind_ok hr
        obtain ⟨b, e2, hr⟩ := bind_ok hr
        refine seg_bind_wrap (by
          rw [hA]
          refine thnF (pg.run _ s2 (genS own cap σ) H2 vx u (fun σ' Hx => Hx = H2 ∧ At X.K Γ M ρ env' S σ' H2 ∧ Dif is (genS own cap σ) σ') I2' r2 ⟨M, ρ, envg, S, ds[i], at2, rd, sat_ok e1 fun σ' a d => ⟨rfl, a, d⟩⟩) fun _ s3 ⟨σ3, H3, I3, e3, at3, df⟩ => ?_
          subst e3
          -- back to the names known at the start
          have back : ∀ {s' : Shared} {Hn : Hp} {pl : List (Addr × Obj)}, Inv (genX X N s_ H cenv A fp) pl σ3 Hn s' → Inv (genX X N s_ H cenv A fp) pl (genS own cap σ) Hn s' := fun I' => I'.weak (by rw [df.1]) fun j v e => by
            obtain ⟨j', k', rfl, _, _⟩ := genS_some e
            rw [df.2 _ fun hm => absurd (his _ hm) (by omega)]
            exact e
          have pin' : ∀ {s' : Shared} {Hn : Hp}, Inv (genX X N s_ H cenv A fp) ((ao :: pinsAt SS s₀.heap) ++ pinsAt fp s2.heap) σ3 Hn s' → tn (i + 1) s'.heap ∧ ∀ b ∈ fp, Hn b = none := fun {s' Hn} I' => by
            have h1 : ∀ b ∈ fp, ∀ o, s2.heap.get? b = some o → s'.heap.get? b = some o ∧ Hn b = none := fun b hb o e =>
              let z := I'.pin (b, o) (List.mem_append_right _ (List.mem_append_right _ (mem_pinsAt hb e)))
              ⟨z.1, z.2.1⟩
            refine ⟨T.keep _ _ _ st2 fun b hb o e => (h1 b hb o e).1, fun b hb => ?_⟩
            obtain ⟨o, e, _⟩ := T.obj _ _ st2 b hb
            exact (h1 b hb o e).2
          refine seg_bind_wrap (by
            rw [hA]
            refine thnF (pt.run _ s3 σ3 H3 (fun b' Hn => b' = b ∧ LamX.ExtN H3 Hn ∧ TabsOk Γ Hn) I3 ⟨M, ρ, env', S, at3, sat_ok e2 fun Hn xn tbn => ⟨rfl, xn, tbn⟩⟩) fun b' s4 ⟨H4, I4, eb, x4, t4⟩ => ?_
            subst eb
            have at4 := at3.ext x4 t4
            have x04 : LamX.ExtN H H4 := x.trans (x2.trans x4)
            cases b' with
            | false =>
              rw [if_neg (by decide)] at hr
              cases hr
              simp only [Bool.false_eq_true, if_false]
              obtain ⟨p1, p2⟩ := pin' I4
              exact seg_again rfl (ih (i + 1) s₀ s4 H4 ys (by omega) hlt hrest hx hl hf (back I4.unpinned) p1 p2 x04 t4)
            | true =>
              rw [if_pos rfl] at hr
              obtain ⟨xv, e5, hr⟩ := bind_ok hr
              cases hr
              obtain ⟨hys, hfin⟩ := hrest
              simp only [if_true]
              have hyy : ∀ v, yieldOut cenv v = yieldValue v := fun v => by simp only [yieldOut, hco, Bool.false_eq_true, if_false]
              simp only [hyy]
              rw [Sem.bind_eq_wrap', Sem.bind_eq_wrap', Sem.wrap_wrap, Sem.wrap_wrap]
              refine seg_wrap (by
                rw [hA]
                refine thnF (pe.run _ s4 σ3 H4 (fun yv Hn => LamX.ExtN H4 Hn ∧ TabsOk Γ Hn ∧ RelD X.K Γ.cl M ρ Hn xv yv) I4 ⟨M, ρ, env', S, at4, sat_ok e5 fun v Hn xn tbn rn => ⟨xn, tbn, rn⟩⟩) fun v s5 ⟨yv, H5, I5, rv, x5, t5, r5⟩ => ?_
                obtain ⟨p1, p2⟩ := pin' I5
                generalize hzs : (gList (itR g t ce envg S) (ds.drop (i + 1))).1 = zs at hys
                have hl' : ys.length = zs.length + 1 := by rw [hys]; rfl
                have hx' : xs.drop (xs.length - zs.length) = zs := by
                  have e7 : xs.length - zs.length = (xs.length - ys.length) + 1 := by omega
                  rw [e7, ← List.drop_drop, hx, hys]; rfl
                rw [hl']
                refine seg_at (seg_yield rfl rfl rfl ⟨xv, yv, i + 1, H5, ?_, back I5.unpinned, r5, rv, p1, p2, x04.trans x5, t5, fun s'' hf' I'' st'' => ?_⟩)
                · have e8 : xs.length - 1 - zs.length = xs.length - ys.length := by omega
                  rw [e8]
                  have := congrArg (fun l => l[0]?) hx
                  simp only [List.getElem?_drop, Nat.add_zero] at this
                  rw [this, hys]; rfl
                · refine seg_again rfl (ih (i + 1) s'' s'' H5 zs (by omega) hlt ?_ hx' (by omega) hf' I'' st'' p2 (x04.trans x5) t5)
                  rw [hfin, ← hzs])))))
end
end L2.Th

set_option Elab.async false
set_option linter.all false
set_option maxRecDepth 100000
set_option maxHeartbeats 4000000
/-! Layer M: a generator expression's object, asked for its next; any, all, sum over it. -/
namespace L2.Th
open PySem PySem.Spec PyProof.Rows GenW
section
variable {X : Cx} {Γ : Gx} {M : Addr → Prop} {ρ : List Addr} {S : Store} {N : List Str} {own : Nat} {cap : List Nat} {σ : St} {H : Hp} {s_ : Shared} {cenv : PySem.Env} {A0 : Around} {fp : List Addr} {it : Addr} {tn : Nat → Heap → Prop} {J : It} {itd : ItD} {ds xs : List D} {fin : Bool}
  {ao : Addr × Obj} {SS : List Addr} {tg elt iter : Expr} {ifs : List Expr} {scope : Scope} {pos : Pos} {envg : Env} {is : List Nat} {g : GCode} {t : TCode} {ce : Code}
theorem gen_go (T : Turn X.prog X.w X.K tg J fp it tn) (ok : ItOk X.K Γ M ρ H J itd) (hi : itemsOf S itd = some ds) (at0 : At X.K Γ M ρ envg S (genS own cap σ) H)
    (hap : ∀ b ∈ fp, b < s_.heap.objs.size) (ha : s_.heap.objs.size ≤ ao.1) (hSS : ∀ b ∈ SS, s_.heap.objs.size ≤ b) (his : ∀ i ∈ is, i < own) (hco : cenv.scope.isCoroutine = false)
    (pg : PGc (genX X N s_ H cenv (A0.over (.compLoop (.GeneratorExp elt [⟨tg, iter, ifs, 0⟩] scope pos) 0 (.ref it) .none cenv) []) fp) Γ tg is g)
    (pt : PTsc (genX X N s_ H cenv (A0.over (.compLoop (.GeneratorExp elt [⟨tg, iter, ifs, 0⟩] scope pos) 0 (.ref it) .none cenv) []) fp) Γ W0 ifs t)
    (pe : PEc (genX X N s_ H cenv (A0.over (.compLoop (.GeneratorExp elt [⟨tg, iter, ifs, 0⟩] scope pos) 0 (.ref it) .none cenv) []) fp) Γ W0 elt ce)
    (hg : gList (itR g t ce envg S) ds = (xs, fin)) (s'' : Shared) (hf : xs.length = 0 → fin = true)
    (I : Inv (genX X N s_ H cenv (A0.over (.compLoop (.GeneratorExp elt [⟨tg, iter, ifs, 0⟩] scope pos) 0 (.ref it) .none cenv) []) fp) (ao :: pinsAt SS s''.heap) (genS own cap σ) H s'') (st : tn 0 s''.heap) (nf : ∀ b ∈ fp, H b = none) (tb : TabsOk Γ H) :
    (GenState.fresh (.compStart (.GeneratorExp elt [⟨tg, iter, ifs, 0⟩] scope pos) 0 (.ref it) .none cenv)).Goes (model X.prog X.w) A0 (gEnd (genX X N s_ H cenv (A0.over (.compLoop (.GeneratorExp elt [⟨tg, iter, ifs, 0⟩] scope pos) 0 (.ref it) .none cenv) []) fp) Γ ao SS (genS own cap σ) H fin)
        (gYld (genX X N s_ H cenv (A0.over (.compLoop (.GeneratorExp elt [⟨tg, iter, ifs, 0⟩] scope pos) 0 (.ref it) .none cenv) []) fp) Γ M ρ ao SS (genS own cap σ) H fp tn xs fin) xs.length (.send .none) s'' := by
  have loop := gen_loop (iter := iter) (xs := xs) T ok hi at0 hap ha hSS his hco pg pt pe ds.length 0 s'' s'' H xs (Nat.sub_zero _) (Nat.zero_le _) (by rw [List.drop_zero]; exact hg) (by rw [Nat.sub_self, List.drop_zero]) (Nat.le_refl _) hf I st nf (LamX.ExtN.refl H) tb
  refine ⟨rfl, ?_⟩
  show Seg _ A0 _ _ _ s'' _ ((compStart (.GeneratorExp elt [⟨tg, iter, ifs, 0⟩] scope pos) 0 (.ref it) .none cenv).onRaise (leaving cenv)) [] s''
  unfold compStart
  rw [Sem.onRaise_eq_wrap]
  show Seg _ A0 _ _ _ s'' _ ((ask >>= _).wrap _ _ _ _) [] s''
  refine seg_bind_wrap (wpAny_askSetting ?_)
  split
  · exact seg_again rfl loop
  · first
      | exact seg_bind_wrap (wpAny_rule (seg_bind_wrap (wpAny_standAt (seg_bind_wrap (T.self _ 0 s'' _ _ st (seg_again rfl loop))))))
      | (refine seg_bind_wrap (wpAny_rule ?_); show Seg _ A0 _ _ _ s'' _ ((standAt iter.pos >>= _).wrap _ _ _ _) [] s''; exact seg_bind_wrap (wpAny_standAt (seg_bind_wrap (T.self _ 0 s'' _ _ st (seg_again rfl loop)))))
end
theorem pinsAt_eq {SS : List Addr} {h h' : Heap} (e : ∀ b ∈ SS, h.get? b = h'.get? b) : pinsAt SS h = pinsAt SS h' := by
  unfold pinsAt
  induction SS with
  | nil => rfl
  | cons b SS ih =>
    rw [List.filterMap_cons, List.filterMap_cons, e b List.mem_cons_self, ih fun b hb => e b (List.mem_cons_of_mem _ hb)]
def Live (Y : Cx) (Γ : Gx) (M : Addr → Prop) (ρ : List Addr) (ao : Addr × Obj) (g : Nat) (SS : List Addr) (σg : St) (H : Hp) (fp : List Addr) (tn : Nat → Heap → Prop) (xs : List D) (fin : Bool) (A0 : Around) (j : Nat) (s : Shared) (H' : Hp) : Prop :=
  ∃ gs i, s.gens[g]? = some gs ∧ Inv Y (ao :: pinsAt SS s.heap) σg H' s ∧ tn i s.heap ∧ (∀ b ∈ fp, H' b = none) ∧ LamX.ExtN H H' ∧ TabsOk Γ H' ∧ j ≤ xs.length ∧
    ∀ s'', (xs.length - j = 0 → fin = true) → Inv Y (ao :: pinsAt SS s''.heap) σg H' s'' → tn i s''.heap → gs.Goes (model Y.prog Y.w) A0 (gEnd Y Γ ao SS σg H fin) (gYld Y Γ M ρ ao SS σg H fp tn xs fin) (xs.length - j) (.send .none) s''
section
variable {Y : Cx} {Γ : Gx} {M : Addr → Prop} {ρ : List Addr} {H : Hp} {A0 A1 : Around} {fp : List Addr} {tn : Nat → Heap → Prop} {xs : List D} {fin : Bool} {ao : Addr × Obj} {gn : Nat} {SS : List Addr} {σg : St} {j : Nat} {s : Shared} {H' : Hp} {Q : Option Value → Shared → Prop} {E : Value → Shared → Prop}
/-- the generator's object -/
def GenO (o : Obj) (g : Nat) : Prop := ∃ nm qn, o.cls = .type "generator" ∧ o.data = .fields #[.int g 0, nm, qn] ∧ o.slots = #[]
theorem pull (hA1 : A1.in1 = A0) (hh : A1.handled = none) (hroom : A1.depth < recursionLimit) (ho : GenO ao.2 gn) (L : Live Y Γ M ρ ao gn SS σg H fp tn xs fin A0 j s H') (hf : xs.length - j = 0 → fin = true) (hall : ∀ b ∈ SS, ∃ o, s.heap.get? b = some o)
    (hit : ∀ x y v s'' H'', xs[j]? = some x → RelD Y.K Γ.cl M ρ H'' x y → RelV y v → Live Y Γ M ρ ao gn SS σg H fp tn xs fin A0 (j + 1) s'' H'' → (∀ b ∈ SS, s''.heap.get? b = s.heap.get? b) → Q (some v) s'')
    (hend : ∀ s'' H'', xs.length = j → Inv Y (pinsAt SS s.heap) σg H'' s'' → LamX.ExtN H H'' → TabsOk Γ H'' → Q none s'') : wpAny (model Y.prog Y.w) A1 (pyNext (.ref ao.1)) Q E s := by
  subst hA1
  obtain ⟨gs, i, hgs, I, st, n', x, tb, hj, hgoes⟩ := L
  have hlt : gn < s.gens.size := by
    rcases Nat.lt_or_ge gn s.gens.size with h' | h'
    · exact h'
    · rw [Array.getElem?_eq_none h'] at hgs; cases hgs
  have hao := (I.pin ao (List.mem_append_right _ List.mem_cons_self)).1
  have hig : s.heap.IsGen ao.1 gn := by
    obtain ⟨nm, qn, h1, h2, h3⟩ := ho
    exact ⟨ao.2, nm, qn, hao, h1, h2, h3⟩
  refine wpAny_gsz (n := gn + 1) hlt ?_
  refine wpAny_pyNext_genexpQ (n := xs.length - j) (Y := gYld Y Γ M ρ ao SS σg H fp tn xs fin) (P := fun n s₀ s₁ => n = 0 ∧ fin = true ∧ ∃ H'', Inv Y (ao :: pinsAt SS s₀.heap) σg H'' s₁ ∧ LamX.ExtN H H'' ∧ TabsOk Γ H'') hh I.nolimit hroom hig hgs ?_ (fun v s₁ gs' hb' hv => ?_) (fun s₁ hp h' hk => ?_)
  · exact hgoes (s.setGen gn .running) hf (I.gens (bare_set I.bare rfl)) st
  · obtain ⟨x1, y, i', H'', hx, I1, r1, rv, st1, n1, x1', t1, hkap⟩ := hv
    intro hsz
    have hsz' : gn < s₁.gens.size := by
      have : (s₁.setGen gn gs').gens.size = s₁.gens.size := by simp [Shared.setGen]
      omega
    have I1 : Inv Y (ao :: pinsAt SS s.heap) σg H'' s₁ := I1
    have same : ∀ b ∈ SS, s₁.heap.get? b = s.heap.get? b := fun b hb => by
      obtain ⟨o, e⟩ := hall b hb
      rw [e]
      exact (I1.pin (b, o) (List.mem_append_right _ (List.mem_cons_of_mem _ (mem_pinsAt hb e)))).1
    have ep : pinsAt SS s₁.heap = pinsAt SS s.heap := pinsAt_eq same
    have I1s : Inv Y (ao :: pinsAt SS s₁.heap) σg H'' s₁ := by rw [ep]; exact I1
    cases hn : xs.length - j with
    | zero =>
      rw [hn] at hkap
      exact (hkap s₁ (fun _ => hf hn) I1s st1).elim
    | succ m =>
      rw [hn] at hkap hx
      have hm : xs.length - (j + 1) = m := by omega
      refine hit x1 y v (s₁.setGen gn gs') H'' ?_ r1 rv ⟨gs', i', ?_, I1s.gens (bare_set I1.bare hb'), st1, n1, x1', t1, by omega, fun s'' hf' I'' st'' => ?_⟩ same
      · have e9 : xs.length - 1 - (m + 1 - 1) = j := by omega
        rw [e9] at hx
        exact hx
      · simp [Shared.setGen, hsz']
      · rw [hm] at hf' ⊢
        exact hkap s'' (by simpa using hf') I'' st''
  · obtain ⟨h0, _, H'', I1, x1, t1⟩ := hp
    intro _
    have I1 : Inv Y (ao :: pinsAt SS s.heap) σg H'' s₁ := I1
    have I2 : Inv Y (pinsAt SS s.heap) σg H'' s₁ := I1.pins_of fun p hp => I1.pin p (List.mem_append_right _ (List.mem_cons_of_mem _ hp))
    refine hend _ H'' (by omega) ?_ x1 t1
    have I3 := I2.call (h' := h') (g' := (s₁.setGen gn .finished).gens) (t' := s₁.toks) (d' := s₁.drawn) (ch := []) (Un.kept hk) (I2.hok.kept hk) (bare_set I2.bare rfl) (fun b z => absurd z (by simp))
    exact I3
end
def anyL : List D → Bool → Res Bool
  | [], fin => if fin then .ok false else .stuck
  | .bl b :: xs, fin => if b then .ok true else anyL xs fin
  | _ :: _, _ => .stuck
def allL : List D → Bool → Res Bool
  | [], fin => if fin then .ok true else .stuck
  | .bl b :: xs, fin => if b then allL xs fin else .ok false
  | _ :: _, _ => .stuck
def sumL : List D → Bool → Int → Res Int
  | [], fin, c => if fin then .ok c else .stuck
  | .int i :: xs, fin, c => sumL xs fin (c + i)
  | _ :: _, _, _ => .stuck
theorem drop_at {α : Type} {xs : List α} {j : Nat} {x : α} (h : xs[j]? = some x) : xs.drop j = x :: xs.drop (j + 1) := by
  obtain ⟨hj, e⟩ := List.getElem?_eq_some_iff.mp h
  rw [List.drop_eq_getElem_cons hj, e]
section
variable {Y : Cx} {Γ : Gx} {M : Addr → Prop} {ρ : List Addr} {H : Hp} {XA : Around} {fp : List Addr} {tn : Nat → Heap → Prop} {xs : List D} {fin : Bool} {ao : Addr × Obj} {gn : Nat} {σg : St} {R : Result → Shared → Prop}
theorem any_fin {b : Bool} {j : Nat} (h : anyL (xs.drop j) fin = .ok b) (hj : xs.length - j = 0) : fin = true := by
  rw [List.drop_of_length_le (by omega)] at h
  cases fin with
  | true => rfl
  | false => cases h
theorem any_loop (hh : XA.handled = none) (hroom : XA.depth < recursionLimit) (ho : GenO ao.2 gn) {b : Bool} (hR : ∀ s'' H'', Inv Y [] σg H'' s'' → LamX.ExtN H H'' → TabsOk Γ H'' → R (.ok (.ret (.bool b))) s'') :
    ∀ (k j : Nat) (s : Shared) (H' : Hp), xs.length - j = k → Live Y Γ M ρ ao gn [] σg H fp tn xs fin XA.in1.in1 j s H' → anyL (xs.drop j) fin = .ok b → codeAny (model Y.prog Y.w) XA (.builtin "any.loop" ⟨[.ref ao.1], []⟩) R s := by
  intro k
  induction k with
  | zero =>
    intro j s H' hk L ha
    refine codeAny_builtin F.entry_any_loop ?_
    rw [Around.under_plainId F.plain_any_loop _]
    show wpAny _ XA.in1 (pyNext (.ref ao.1) >>= _) _ _ s
    refine wpAny_bind (pull (A1 := XA.in1) rfl hh hroom ho L (any_fin ha) (fun b hb => absurd hb (by simp)) (fun x y v s'' H'' hx _ _ _ _ => ?_) fun s'' H'' _ I' x t => ?_)
    · exact absurd (List.getElem?_eq_some_iff.mp hx).1 (by omega)
    · have e : b = false := by
        rw [List.drop_of_length_le (by omega)] at ha
        unfold anyL at ha
        split at ha <;> cases ha
        rfl
      subst e
      exact wpAny_bind (wpAny_rule (wpAny_pure (hR s'' H'' I' x t)))
  | succ k ih =>
    intro j s H' hk L ha
    refine codeAny_builtin F.entry_any_loop ?_
    rw [Around.under_plainId F.plain_any_loop _]
    show wpAny _ XA.in1 (pyNext (.ref ao.1) >>= _) _ _ s
    refine wpAny_bind (pull (A1 := XA.in1) rfl hh hroom ho L (any_fin ha) (fun b hb => absurd hb (by simp)) (fun x y v s'' H'' hx r1 rv L' _ => ?_) fun s'' H'' _ I' x t => by omega)
    rw [drop_at hx] at ha
    cases x with
    | bl c =>
      cases r1
      obtain rfl := (show v = Value.bool c from rv)
      refine wpAny_bind (wpAny_holding (wpAny_truthy_bool ?_))
      refine wpAny_bind (wpAny_letGo ?_)
      cases c with
      | false =>
        simp only [Bool.false_eq_true, if_false]
        exact wpAny_pure ⟨plainId_quiet F.plain_any_loop _, ih (j + 1) s'' H'' (by omega) L' ha⟩
      | true =>
        simp only [if_true]
        have e : b = true := by
          have : (Res.ok true : Res Bool) = .ok b := ha
          cases this; rfl
        subst e
        obtain ⟨_, _, _, I', _, _, x', t', _⟩ := L'
        exact wpAny_bind (wpAny_rule (wpAny_pure (hR s'' H'' (I'.pins_of fun p hp => absurd hp (by simp)) x' t')))
    | _ => cases ha
theorem all_fin {b : Bool} {j : Nat} (h : allL (xs.drop j) fin = .ok b) (hj : xs.length - j = 0) : fin = true := by
  rw [List.drop_of_length_le (by omega)] at h
  cases fin with
  | true => rfl
  | false => cases h
theorem all_loop (hh : XA.handled = none) (hroom : XA.depth < recursionLimit) (ho : GenO ao.2 gn) {b : Bool} (hR : ∀ s'' H'', Inv Y [] σg H'' s'' → LamX.ExtN H H'' → TabsOk Γ H'' → R (.ok (.ret (.bool b))) s'') :
    ∀ (k j : Nat) (s : Shared) (H' : Hp), xs.length - j = k → Live Y Γ M ρ ao gn [] σg H fp tn xs fin XA.in1.in1 j s H' → allL (xs.drop j) fin = .ok b → codeAny (model Y.prog Y.w) XA (.builtin "all.loop" ⟨[.ref ao.1], []⟩) R s := by
  intro k
  induction k with
  | zero =>
    intro j s H' hk L ha
    refine codeAny_builtin F.entry_all_loop ?_
    rw [Around.under_plainId F.plain_all_loop _]
    show wpAny _ XA.in1 (pyNext (.ref ao.1) >>= _) _ _ s
    refine wpAny_bind (pull (A1 := XA.in1) rfl hh hroom ho L (all_fin ha) (fun b hb => absurd hb (by simp)) (fun x y v s'' H'' hx _ _ _ _ => ?_) fun s'' H'' _ I' x t => ?_)
    · exact absurd (List.getElem?_eq_some_iff.mp hx).1 (by omega)
    · have e : b = true := by
        rw [List.drop_of_length_le (by omega)] at ha
        unfold allL at ha
        split at ha <;> cases ha
        rfl
      subst e
      exact wpAny_bind (wpAny_rule (wpAny_pure (hR s'' H'' I' x t)))
  | succ k ih =>
    intro j s H' hk L ha
    refine codeAny_builtin F.entry_all_loop ?_
    rw [Around.under_plainId F.plain_all_loop _]
    show wpAny _ XA.in1 (pyNext (.ref ao.1) >>= _) _ _ s
    refine wpAny_bind (pull (A1 := XA.in1) rfl hh hroom ho L (all_fin ha) (fun b hb => absurd hb (by simp)) (fun x y v s'' H'' hx r1 rv L' _ => ?_) fun s'' H'' _ I' x t => by omega)
    rw [drop_at hx] at ha
    cases x with
    | bl c =>
      cases r1
      obtain rfl := (show v = Value.bool c from rv)
      refine wpAny_bind (wpAny_holding (wpAny_truthy_bool ?_))
      refine wpAny_bind (wpAny_letGo ?_)
      cases c with
      | true =>
        simp only [if_true]
        exact wpAny_pure ⟨plainId_quiet F.plain_all_loop _, ih (j + 1) s'' H'' (by omega) L' ha⟩
      | false =>
        simp only [Bool.false_eq_true, if_false]
        have e : b = false := by
          have : (Res.ok false : Res Bool) = .ok b := ha
          cases this; rfl
        subst e
        obtain ⟨_, _, _, I', _, _, x', t', _⟩ := L'
        exact wpAny_bind (wpAny_rule (wpAny_pure (hR s'' H'' (I'.pins_of fun p hp => absurd hp (by simp)) x' t')))
    | _ => cases ha
theorem live_upd {A0 : Around} {j : Nat} {s : Shared} {H' : Hp} {z : Addr} {h' : Heap} {t' : Nat} {oz oz' : Obj} (L : Live Y Γ M ρ ao gn [z] σg H fp tn xs fin A0 j s H') (hpn : Y.pn = []) (hz : Y.s_0.heap.objs.size ≤ z) (haz : ao.1 ≠ z) (hfz : z ∉ fp)
    (hkeep : ∀ i h h', tn i h → (∀ b ∈ fp, ∀ o, h.get? b = some o → h'.get? b = some o) → tn i h')
    (k : ∀ b o, b ≠ z → s.heap.get? b = some o → h'.get? b = some o) (e : s.heap.get? z = some oz) (e' : h'.get? z = some oz') (nc' : ∀ v, oz'.data ≠ .cell v) : Live Y Γ M ρ ao gn [z] σg H fp tn xs fin A0 j { s with heap := h', toks := t' } H' := by
  obtain ⟨gs, i, hgs, I, st, n', x, tb, hj, hgoes⟩ := L
  obtain ⟨_, hn, hL, hf, nc⟩ := I.pin (z, oz) (List.mem_append_right _ (List.mem_cons_of_mem _ (mem_pinsAt List.mem_cons_self e)))
  have I0 : Inv Y [ao] σg H' s := I.pins_of fun p hp => I.pin p (List.mem_append_right _ (by
    have e0 : p = ao := List.mem_singleton.mp hp
    rw [e0]; exact List.mem_cons_self))
  have I1 := I0.turned (h' := h') (t' := t') (it := z) k hn hL (.inr hz) (fun y c ec ez => by
      obtain ⟨v, o, h1, h2⟩ := I.cell y c ec
      rw [ez, e] at h1
      cases h1
      exact nc v h2) (fun p hp => by
      rw [hpn] at hp
      have e0 : p = ao := List.mem_singleton.mp (by simpa using hp)
      rw [e0]
      exact haz)
  have I2 : Inv Y (ao :: pinsAt [z] h') σg H' { s with heap := h', toks := t' } := I1.pins_of fun p hp => by
    rcases List.mem_cons.mp hp with rfl | hp
    · exact I1.pin _ (List.mem_append_right _ List.mem_cons_self)
    · obtain ⟨h1, h2⟩ := of_pinsAt hp
      have h1 := List.mem_singleton.mp h1
      rw [h1] at h2 ⊢
      rw [e'] at h2
      cases h2
      exact ⟨e', hn, hL, hf, nc'⟩
  exact ⟨gs, i, hgs, I2, hkeep _ _ _ st fun b hb o eo => k b o (fun q => hfz (by rw [← q]; exact hb)) eo, n', x, tb, hj, hgoes⟩
theorem sum_fin {b c : Int} {j : Nat} (h : sumL (xs.drop j) fin c = .ok b) (hj : xs.length - j = 0) : fin = true := by
  rw [List.drop_of_length_le (by omega)] at h
  cases fin with
  | true => rfl
  | false => cases h
theorem sum_loop (hh : XA.handled = none) (hroom : XA.depth < recursionLimit) (ho : GenO ao.2 gn) {b : Int} {z : Addr} (hpn : Y.pn = []) (hz : Y.s_0.heap.objs.size ≤ z) (haz : ao.1 ≠ z) (hfz : z ∉ fp)
    (hkeep : ∀ i h h', tn i h → (∀ b ∈ fp, ∀ o, h.get? b = some o → h'.get? b = some o) → tn i h')
    (hR : ∀ s'' H'' t, Inv Y [] σg H'' s'' → LamX.ExtN H H'' → TabsOk Γ H'' → R (.ok (.ret (.int b t))) s'') :
    ∀ (k j : Nat) (s : Shared) (H' : Hp) (c : Int) (tA : Tok) (cp : Nat) (stg : Int), (stg = 0 ∨ stg = 2) → xs.length - j = k → Live Y Γ M ρ ao gn [z] σg H fp tn xs fin XA.in1.in1 j s H' → s.heap.get? z = some { cls := .type "list", dict := none, data := .seq #[.int c tA] cp, slots := #[] } →
      sumL (xs.drop j) fin c = .ok b → codeAny (model Y.prog Y.w) XA (.builtin "sum.loop" ⟨[.ref ao.1, .ref z, rawInt stg, rawInt 0], []⟩) R s := by
  have ncl : ∀ (o : Obj) (vs : Array Value) (n : Nat), o.data = .seq vs n → ∀ v, o.data ≠ .cell v := fun o vs n h v q => by rw [h] at q; cases q
  intro k
  induction k with
  | zero =>
    intro j s H' c tA cp stg hst hk L hS ha
    refine codeAny_builtin F.entry_sum_loop ?_
    rw [Around.under_plainId F.plain_sum_loop _]
    show wpAny _ XA.in1 (seqItems? (.ref z) >>= _) _ _ s
    refine wpAny_bind (wpAny_seqItems hS rfl ?_)
    show wpAny _ XA.in1 (tryCatch (pyNext (.ref ao.1)) _ >>= _) _ _ s
    refine wpAny_bind (wpAny_tryCatch (pull (A1 := XA.in1) rfl hh hroom ho L (sum_fin ha) (fun b hb => by rw [List.mem_singleton.mp hb]; exact ⟨_, hS⟩) (fun x y v s'' H'' hx _ _ _ _ => ?_) fun s'' H'' _ I' x t => ?_))
    · exact absurd (List.getElem?_eq_some_iff.mp hx).1 (by omega)
    · have e : b = c := by
        rw [List.drop_of_length_le (by omega)] at ha
        unfold sumL at ha
        split at ha <;> cases ha
        rfl
      subst e
      exact wpAny_pure (hR s'' H'' tA (I'.pins_of fun p hp => absurd hp (by simp)) x t)
  | succ k ih =>
    intro j s H' c tA cp stg hst hk L hS ha
    refine codeAny_builtin F.entry_sum_loop ?_
    rw [Around.under_plainId F.plain_sum_loop _]
    show wpAny _ XA.in1 (seqItems? (.ref z) >>= _) _ _ s
    refine wpAny_bind (wpAny_seqItems hS rfl ?_)
    show wpAny _ XA.in1 (tryCatch (pyNext (.ref ao.1)) _ >>= _) _ _ s
    refine wpAny_bind (wpAny_tryCatch (pull (A1 := XA.in1) rfl hh hroom ho L (sum_fin ha) (fun b hb => by rw [List.mem_singleton.mp hb]; exact ⟨_, hS⟩) (fun x y v s' H'' hx r1 rv L' hsm => ?_) fun s'' H'' _ I' x t => by omega))
    rw [drop_at hx] at ha
    cases x with
    | int i =>
      cases r1
      obtain ⟨t, rfl⟩ := (show ∃ t, v = Value.int i t from rv)
      have ha : sumL (xs.drop (j + 1)) fin (c + i) = .ok b := ha
      have hS' : s'.heap.get? z = some { cls := .type "list", dict := none, data := .seq #[.int c tA] cp, slots := #[] } := by rw [hsm z List.mem_cons_self]; exact hS
      have up : ∀ (h' : Heap) (t' : Nat) (oz' : Obj), (∀ b o, b ≠ z → s'.heap.get? b = some o → h'.get? b = some o) → h'.get? z = some oz' → (∀ v, oz'.data ≠ .cell v) → Live Y Γ M ρ ao gn [z] σg H fp tn xs fin XA.in1.in1 (j + 1) { s' with heap := h', toks := t' } H'' := fun h' t' oz' k e nc => live_upd L' hpn hz haz hfz hkeep k hS' e nc
      rcases hst with rfl | rfl
      · show wpAny _ XA.in1 (if (_ : Bool) = true then (mkInt (c + i) >>= _) else _) _ _ _
        split
        · refine wpAny_bind (wpAny_mkInt ?_)
          show wpAny _ XA.in1 (updateSeq z (fun _ => #[.int (c + i) s'.toks]) >>= _) _ _ _
          refine wpAny_bind ?_
          have e1 := Heap.get?_update_self (Obj.mapSeq fun _ => #[Value.int (c + i) s'.toks]) hS' rfl
          refine wpAny_updateSeq hS' rfl (wpAny_pure ⟨plainId_quiet F.plain_sum_loop _, ih (j + 1) _ H'' (c + i) s'.toks _ 0 (.inl rfl) (by omega) (up (s'.heap.update z (Obj.mapSeq fun _ => #[Value.int (c + i) s'.toks])) (s'.toks + 1) _ (fun b o hb e => (Heap.get?_update_other _ _ (Ne.symm hb)).trans e) e1 (ncl _ _ _ rfl)) e1 ha⟩)
        · refine wpAny_bind (wpAny_rule ?_)
          refine wpAny_bind (wpAny_attempt (wpAny_holding (wpAny_add_int ?_)))
          show wpAny _ XA.in1 (updateSeq z (fun _ => #[.int (c + i) s'.toks]) >>= _) _ _ _
          refine wpAny_bind (wpAny_updateSeq hS' rfl ?_)
          have hS₂ := Heap.get?_update_self (Obj.mapSeq fun _ => #[Value.int (c + i) s'.toks]) hS' rfl
          refine wpAny_bind (wpAny_letGo ?_)
          have e1 := Heap.get?_update_self (Obj.mapSeq fun _ => #[Value.int (c + i) s'.toks]) hS₂ rfl
          refine wpAny_bind (wpAny_updateSeq hS₂ rfl (wpAny_pure ⟨plainId_quiet F.plain_sum_loop _, ih (j + 1) _ H'' (c + i) s'.toks _ 2 (.inr rfl) (by omega) (up ((s'.heap.update z (Obj.mapSeq fun _ => #[Value.int (c + i) s'.toks])).update z (Obj.mapSeq fun _ => #[Value.int (c + i) s'.toks])) (s'.toks + 1) _ (fun b o hb e => (Heap.get?_update_other _ _ (Ne.symm hb)).trans ((Heap.get?_update_other _ _ (Ne.symm hb)).trans e)) e1 (ncl _ _ _ rfl)) e1 ha⟩))
      · show wpAny _ XA.in1 ((holding [Value.int i t] (binaryOp .Add (.int c tA) (.int i t))).attempt >>= _) _ _ _
        refine wpAny_bind (wpAny_attempt (wpAny_holding (wpAny_add_int ?_)))
        show wpAny _ XA.in1 (updateSeq z (fun _ => #[.int (c + i) s'.toks]) >>= _) _ _ _
        refine wpAny_bind (wpAny_updateSeq hS' rfl ?_)
        have hS₂ := Heap.get?_update_self (Obj.mapSeq fun _ => #[Value.int (c + i) s'.toks]) hS' rfl
        refine wpAny_bind (wpAny_letGo ?_)
        have e1 := Heap.get?_update_self (Obj.mapSeq fun _ => #[Value.int (c + i) s'.toks]) hS₂ rfl
        refine wpAny_bind (wpAny_updateSeq hS₂ rfl (wpAny_pure ⟨plainId_quiet F.plain_sum_loop _, ih (j + 1) _ H'' (c + i) s'.toks _ 2 (.inr rfl) (by omega) (up ((s'.heap.update z (Obj.mapSeq fun _ => #[Value.int (c + i) s'.toks])).update z (Obj.mapSeq fun _ => #[Value.int (c + i) s'.toks])) (s'.toks + 1) _ (fun b o hb e => (Heap.get?_update_other _ _ (Ne.symm hb)).trans ((Heap.get?_update_other _ _ (Ne.symm hb)).trans e)) e1 (ncl _ _ _ rfl)) e1 ha⟩))
    | _ => cases ha
end
end L2.Th

set_option Elab.async false
set_option linter.all false
set_option maxRecDepth 100000
set_option maxHeartbeats 4000000
/-! Layer N: any, all, sum of a generator expression of one clause, as rules. -/
namespace L2.Th
open PySem PySem.Spec PyProof.Rows GenW
section
variable {K : PySem.W.Frag} {Γ : Gx} {M M' : Addr → Prop} {ρ ρ' : List Addr} {S : Store} {H H1 H2 : Hp} {J : It} {itd : ItD}
theorem Keep.pre (x : LamX.ExtN H H1) (k : Keep M M' ρ ρ' H1 H2) : Keep M M' ρ ρ' H H2 :=
  ⟨fun b o e hM hρ hn => k.obj b o (x b o e hn) hM hρ hn, fun b e => k.dice b (x b _ e (fun _ z => (nomatch z))), k.loc⟩
theorem ItOk.ext (ok : ItOk K Γ M ρ H J itd) (x : LamX.ExtN H H1) : ItOk K Γ M ρ H1 J itd := by
  cases itd with
  | seq ds => exact fun M1 ρ1 S1 H2 k w i => ok M1 ρ1 S1 H2 (k.pre x) w i
  | cell n => exact ok
/-- a generator's table has grown -/
theorem tabs_grow {P : Addr} {ps ps' : Array Value} (t : TabsOk Γ H) (hP : H P = some (.tbl ps)) (hl : ∀ p ∈ Γ.tl, p.1 ≠ P) (ht : TriplesOk ps'.toList) : TabsOk Γ (upd H P (.tbl ps')) := by
  refine ⟨fun p hp => ?_, fun P' hP' => ?_⟩
  · obtain ⟨qs, h1, h2, h3⟩ := t.1 p hp
    refine ⟨qs, by rw [upd_ne (hl p hp)]; exact h1, h2, fun pos cv hc => ?_⟩
    obtain ⟨c, e1, e2⟩ := h3 pos cv hc
    exact ⟨c, e1, by rw [upd_ne (fun z => by rw [z, hP] at e2; unfold LamX.CodeO at e2; cases e2)]; exact e2⟩
  · by_cases h : P' = P
    · subst h; exact ⟨ps', upd_same, ht⟩
    · obtain ⟨qs, h1, h2⟩ := t.2 P' hP'
      exact ⟨qs, by rw [upd_ne h]; exact h1, h2⟩
theorem ext_tab {P : Addr} {ps ps' : Array Value} (hP : H P = some (.tbl ps)) : LamX.ExtN H (upd H P (.tbl ps')) := fun b o e n => by
  rw [upd_ne (fun z => by rw [z, hP] at e; exact n ps (Option.some.inj e).symm)]; exact e
theorem At.genS {env : Env} {σ : St} (a : At K Γ M ρ env S σ H) (own : Nat) (cap : List Nat) : At K Γ M ρ (genS own cap env) S (Th.genS own cap σ) H :=
  ⟨a.w, fun i d e => by
    obtain ⟨j, k, rfl, hj, e4⟩ := genS_some e
    obtain ⟨v, e5, r⟩ := a.e k d e4
    refine ⟨v, ?_, r⟩
    unfold Th.genS
    rw [List.getElem?_append_right (by simp), List.length_replicate, Nat.add_sub_cancel_left, List.getElem?_map, hj, Option.map_some, e5]
    rfl, by rw [genS_len, genS_len]⟩
end
/-- the generator stands ready -/
structure GReady (X : Cx) (pins : List (Addr × Obj)) (σ : St) (Γ : Gx) (M : Addr → Prop) (ρ : List Addr) (H : Hp) (L : List D × Bool) (a : Addr) (s5 : Shared) : Prop where
  ex : ∃ (N : List Str) (s_ : Shared) (H1 : Hp) (cenv : PySem.Env) (A : Around) (fp : List Addr) (ob : Obj) (gn : Nat) (gs : GenState) (σg : St) (tn : Nat → Heap → Prop),
    GenO ob gn ∧ LamX.ExtN H H1 ∧ s_.heap.objs.size ≤ s5.heap.objs.size ∧ a < s5.heap.objs.size ∧ (∀ b ∈ fp, b < s5.heap.objs.size) ∧ s5.gens[gn]? = some gs ∧ tn 0 s5.heap ∧ (∀ b ∈ fp, H1 b = none) ∧ TabsOk Γ H1 ∧
    (∀ i h h', tn i h → (∀ b ∈ fp, ∀ o, h.get? b = some o → h'.get? b = some o) → tn i h') ∧
    Inv (genX X N s_ H1 cenv A fp) [(a, ob)] σg H1 s5 ∧
    (∀ (s'' : Shared) (H'' : Hp), Inv (genX X N s_ H1 cenv A fp) [] σg H'' s'' → Inv X pins σ H'' s'') ∧
    ∀ SS : List Addr, (∀ b ∈ SS, s5.heap.objs.size ≤ b) → ∀ s'', (L.1.length = 0 → L.2 = true) → Inv (genX X N s_ H1 cenv A fp) ((a, ob) :: pinsAt SS s''.heap) σg H1 s'' → tn 0 s''.heap →
      gs.Goes (model X.prog X.w) X.A.in1.in1 (gEnd (genX X N s_ H1 cenv A fp) Γ (a, ob) SS σg H1 L.2) (gYld (genX X N s_ H1 cenv A fp) Γ M ρ (a, ob) SS σg H1 fp tn L.1 L.2) L.1.length (.send .none) s''
section
variable {X : Cx} {Γ : Gx} {W : WX} {M : Addr → Prop} {ρ : List Addr} {S : Store} {N : List Str} {own : Nat} {cap : List Nat} {σ : St} {H : Hp} {s : Shared} {pins : List (Addr × Obj)}
  {tg elt iter : Expr} {ifs : List Expr} {scope : Scope} {pos : Pos} {env : Env} {is : List Nat} {ic : ICode} {g : GCode} {t : TCode} {ce : Code} {c P : Addr} {k : Nat} {Z : List D × Bool → Prop} {Q' : Value → Shared → Prop}
theorem gen_core (hr : Room (k + 1) X.A) (TB : GxR.TabB X.base X.mg c P) (hP : P ∈ Γ.tg) (hPl : ∀ p ∈ Γ.tl, p.1 ≠ P) (hcode : X.env.code = .ref c) (ok : GenOk X.N X.env.scope scope N own cap) (hi : PIc X Γ W tg iter ic) (his : ∀ i ∈ is, i < own)
    (hpg : ∀ (s : Shared) (H : Hp) (C : Addr) (cl : List (Str × Addr)) (code : Value) (A : Around) (fp : List Addr), PGc (genX X N s H (genEnv scope cl C code builtinsNs X.env) A fp) Γ tg is g)
    (hpt : ∀ (s : Shared) (H : Hp) (C : Addr) (cl : List (Str × Addr)) (code : Value) (A : Around) (fp : List Addr), Room k A → PTsc (genX X N s H (genEnv scope cl C code builtinsNs X.env) A fp) Γ W0 ifs t)
    (hpe : ∀ (s : Shared) (H : Hp) (C : Addr) (cl : List (Str × Addr)) (code : Value) (A : Around) (fp : List Addr), Room k A → PEc (genX X N s H (genEnv scope cl C code builtinsNs X.env) A fp) Γ W0 elt ce)
    (hs : ∀ v, genFold iter X.env v = pure v) (I : Inv X pins σ H s) (a : At X.K Γ M ρ env S σ H)
    (h : (ic env S).Sat (fun it => ∃ ds, itemsOf S it = some ds ∧ Z (gList (itR g t ce (genS own cap env) S) ds)) (XW Γ W σ H))
    (hQ : ∀ (L : List D × Bool) (ad : Addr) (s5 : Shared), Z L → GReady X pins σ Γ M ρ H L ad s5 → Q' (.ref ad) s5) :
    wpAny (model X.prog X.w) X.A (eval (.GeneratorExp elt [⟨tg, iter, ifs, 0⟩] scope pos) X.env) Q' X.xe s := by
  have hfree : ∀ y ∈ scope.names, y.2 = .free → ∃ c, X.env.cells.lookup y.1 = some c := fun y hy e => by
    rcases ok.free y hy e with k | k
    · exact I.ok.has _ (.inl k)
    · exact I.ok.has _ (.inr k)
  refine wpAny_GeneratorExp_make ok.co (closure_ok hfree) ok.cell ok.dot ok.kind (by have := hr.dp; omega) ?_ hs
  refine thn (hi.run pins s σ H (fun J H2 => ∃ itd ds, LamX.ExtN H H2 ∧ TabsOk Γ H2 ∧ ItOk X.K Γ M ρ H2 J itd ∧ itemsOf S itd = some ds ∧ Z (gList (itR g t ce (genS own cap env) S) ds)) I
    ⟨M, ρ, env, S, a, h.mono (fun it ⟨ds, h1, h2⟩ J H' x tb ok => ⟨it, ds, x, tb, ok, h1, h2⟩) fun _ z => z⟩) fun xv s1 h1 => thn h1 fun itv s2 h2 => ?_
  obtain ⟨it, fp, tn, J, H2, e, I2, T, st2, f2, itd, ds, x2, t2, okI, hids, hz⟩ := h2
  subst e
  refine ⟨I2.nolimit, ?_⟩
  obtain ⟨ps, hP2, ht⟩ := t2.2 P hP
  have hPs : s2.heap.get? P = some { cls := .none, data := .fields ps } := I2.hok P _ hP2
  have cd : PySem.W.CodeHd s2.heap c P := TB.code.keeps fun b u e => I2.bk b u e
  have hPf : P ∉ fp := fun z => by have := (f2 P z).1; rw [hP2] at this; cases this
  have cont : ∀ (code : Value) (h3 : Heap) (tk : Nat) (more : Array Value), Heap.ExtBut P s2.heap h3 → h3.get? P = some { cls := .none, data := .fields (ps ++ more) } → TriplesOk (ps ++ more).toList →
      wpAny (model X.prog X.w) X.A (builtinsFor X.env.globals X.env.builtins) (fun bi s₄ => ∀ h', h'.Ns s₄.heap.objs.size (fun y => if y = ".0" then some (.ref it) else none) → Heap.SameBut s₄.heap.objs.size (s₄.heap.push { cls := .type "frame", data := .dict #[] }) h' →
          Q' (.ref h'.objs.size) { s₄ with
            gens := s₄.gens.push (.fresh (.compStart (.GeneratorExp elt [⟨tg, iter, ifs, 0⟩] scope pos) 0 (.ref it) .none (genEnv scope (cloFrom X.env.cells scope.names []) s₄.heap.objs.size code bi X.env))),
            toks := s₄.toks + 1 + 1 + 1,
            heap := h'.push { cls := .type "generator", data := .fields #[.int s₄.gens.size 0, .str "<genexpr>" (s₄.toks + 1), .str (X.env.qual ++ "<genexpr>") (s₄.toks + 1 + 1)] } }) X.xe { s2 with heap := h3, toks := tk } := by
    intro code h3 tk more hx hP3 ht3
    obtain ⟨bm, ob, e1, e2, e3, e4, e5, e6, e7, e8⟩ := TB.bm
    have keep3 : ∀ b u, b ≠ P → s2.heap.get? b = some u → h3.get? b = some u := fun b u hb e => hx b u hb e
    refine wpAny_builtinsFor (m := X.mg) (by rw [I2.ok.glob]; exact (I2.mod.glob.keeps I2.bk).extBut hx TB.gP) e1 e2 (keep3 _ _ e4 (I2.bk _ _ e5)) e6 e7 e8 ?_
    intro h' hn' hs'
    have J3 : Inv X pins σ (upd H2 P (.tbl (ps ++ more))) { s2 with heap := h3, toks := tk } := GxR.inv_tab (g' := s2.gens) (d' := s2.drawn) I2 hP2 (fun b o hb e => keep3 b o hb e) hP3 I2.bare
    have x3 : LamX.ExtN H2 (upd H2 P (.tbl (ps ++ more))) := ext_tab hP2
    have t3 : TabsOk Γ (upd H2 P (.tbl (ps ++ more))) := tabs_grow t2 hP2 hPl ht3
    have nf3 : ∀ b ∈ fp, upd H2 P (.tbl (ps ++ more)) b = none := fun b hb => by
      rw [upd_ne (fun z => hPf (by rw [← z]; exact hb))]; exact (f2 b hb).1
    generalize upd H2 P (.tbl (ps ++ more)) = H3 at J3 x3 t3 nf3
    have lt3 : ∀ b ∈ fp, b < h3.objs.size := fun b hb => by
      obtain ⟨o, e, _⟩ := T.obj _ _ st2 b hb
      exact Heap.lt_size (keep3 b o (fun z => hPf (by rw [← z]; exact hb)) e)
    have f3 : ∀ b ∈ fp, FpOk X pins H3 b ∧ b < h3.objs.size := fun b hb => ⟨⟨nf3 b hb, (f2 b hb).2⟩, lt3 b hb⟩
    have hsz : h'.objs.size = h3.objs.size + 1 := by rw [hs'.1, Heap.size_push]
    have keep' : ∀ b o, h3.get? b = some o → h'.get? b = some o := fun b o e => hs'.extBut b o (Nat.ne_of_lt (Heap.lt_size e)) (Heap.get?_push_of_some _ e)
    generalize hgo : ({ cls := .type "generator", data := .fields #[.int s2.gens.size 0, .str "<genexpr>" (tk + 1), .str (X.env.qual ++ "<genexpr>") (tk + 1 + 1)] } : Obj) = go
    have hGO : GenO go s2.gens.size := by rw [← hgo]; exact ⟨_, _, rfl, rfl, rfl⟩
    have ncg : ∀ v, go.data ≠ .cell v := fun v q => by rw [← hgo] at q; cases q
    have keep5 : ∀ b o, h3.get? b = some o → (h'.push go).get? b = some o := fun b o e => Heap.get?_push_of_some _ (keep' b o e)
    generalize hcen : genEnv scope (cloFrom X.env.cells scope.names []) h3.objs.size code builtinsNs X.env = cenv
    have hAfr : (X.A.in1.in1.over (.compLoop (.GeneratorExp elt [⟨tg, iter, ifs, 0⟩] scope pos) 0 (.ref it) .none cenv) []).frames = some (cenv :: X.stack) := by
      show pushEnvs [cenv] (pushEnvs [] X.A.frames) = _
      rw [J3.ok.frames]; rfl
    have hrA : Room k (X.A.in1.in1.over (.compLoop (.GeneratorExp elt [⟨tg, iter, ifs, 0⟩] scope pos) 0 (.ref it) .none cenv) []) := by
      refine ⟨hr.hd, ?_, ?_⟩
      · have := hr.dp
        show X.A.depth + 0 + 1 + 3 * k + 5 < _
        omega
      · have := hr.un
        show X.A.units + 1 + 1 + 0 + 3 + 16 * k + 200 < _
        omega
    have st3 : tn 0 (h'.push go) := T.keep _ _ _ st2 fun b hb o e => keep5 b o (keep3 b o (fun z => hPf (by rw [← z]; exact hb)) e)
    have IY := gen_start (A := X.A.in1.in1.over (.compLoop (.GeneratorExp elt [⟨tg, iter, ifs, 0⟩] scope pos) 0 (.ref it) .none cenv) []) (code := code) (h5 := h'.push go)
      (g5 := s2.gens.push (.fresh (.compStart (.GeneratorExp elt [⟨tg, iter, ifs, 0⟩] scope pos) 0 (.ref it) .none cenv))) (tk := tk + 1 + 1 + 1) J3 ok f3 hr.hd (by rw [hAfr, ← hcen]) keep5 (hn'.push _) (J3.bare.push rfl)
    have pg := hpg { s2 with heap := h3, toks := tk } H3 h3.objs.size (cloFrom X.env.cells scope.names []) code (X.A.in1.in1.over (.compLoop (.GeneratorExp elt [⟨tg, iter, ifs, 0⟩] scope pos) 0 (.ref it) .none cenv) []) fp
    have pt := hpt { s2 with heap := h3, toks := tk } H3 h3.objs.size (cloFrom X.env.cells scope.names []) code (X.A.in1.in1.over (.compLoop (.GeneratorExp elt [⟨tg, iter, ifs, 0⟩] scope pos) 0 (.ref it) .none cenv) []) fp hrA
    have pe := hpe { s2 with heap := h3, toks := tk } H3 h3.objs.size (cloFrom X.env.cells scope.names []) code (X.A.in1.in1.over (.compLoop (.GeneratorExp elt [⟨tg, iter, ifs, 0⟩] scope pos) 0 (.ref it) .none cenv) []) fp hrA
    rw [hcen] at IY pg pt pe
    have hcoC : cenv.scope.isCoroutine = false := by rw [← hcen]; exact ok.co
    have at3 := (a.ext (x2.trans x3) t3).genS own cap
    have nL : h'.objs.size ≠ cenv.locals := by rw [← hcen]; show h'.objs.size ≠ h3.objs.size; omega
    have nS : h'.objs.size ∉ frs X.stack := fun z => by
      rcases List.mem_cons.mp (J3.stkSub _ z) with e | e
      · have h1 := J3.lt
        rw [← e] at h1
        have h1 : h'.objs.size < h3.objs.size := h1
        omega
      · exact J3.nofs (show ({ s2 with heap := h3, toks := tk } : Shared).heap.objs.size ≤ _ by show h3.objs.size ≤ _; omega) e
    have nH : H3 h'.objs.size = none := J3.hok.fresh (show h3.objs.size ≤ _ by omega)
    refine hQ _ _ _ hz ⟨N, { s2 with heap := h3, toks := tk }, H3, cenv, X.A.in1.in1.over (.compLoop (.GeneratorExp elt [⟨tg, iter, ifs, 0⟩] scope pos) 0 (.ref it) .none cenv) [], fp, go, s2.gens.size, .fresh (.compStart (.GeneratorExp elt [⟨tg, iter, ifs, 0⟩] scope pos) 0 (.ref it) .none cenv), genS own cap σ, tn,
      hGO, x2.trans x3, ?_, ?_, fun b hb => ?_, Array.getElem?_push_size .., st3, nf3, t3, fun i h1 h2 => T.keep i h1 h2, ?_, fun s'' H'' I'' => ?_, fun SS hSS s'' hf I'' st'' => ?_⟩
    · show h3.objs.size ≤ (h'.push go).objs.size
      rw [Heap.size_push]; omega
    · show h'.objs.size < (h'.push go).objs.size
      rw [Heap.size_push]; omega
    · show b < (h'.push go).objs.size
      rw [Heap.size_push]
      exact Nat.lt_succ_of_lt (Nat.lt_of_lt_of_le (lt3 b hb) (by omega))
    · refine IY.pins_of fun p hp => ?_
      have e0 : p = (h'.objs.size, go) := List.mem_singleton.mp hp
      rw [e0]
      exact ⟨Heap.get?_push_size _ (by rw [← hgo]; rfl), nH, nL, nS, ncg⟩
    · exact J3.call' (ch := fp) I''.os I''.base I''.hok I''.bare fun b hb => ⟨(f3 b hb).1.2.2.2.1, (f3 b hb).1.2.1, (f3 b hb).1.2.2.2.2.1, (f3 b hb).1.2.2.2.2.2⟩
    · have hSS2 : ∀ b ∈ SS, h3.objs.size ≤ b := fun b hb => by
        have h1 : (h'.push go).objs.size ≤ b := hSS b hb
        rw [Heap.size_push] at h1; omega
      exact gen_go (own := own) (cap := cap) (σ := σ) (s_ := { s2 with heap := h3, toks := tk }) (ao := (h'.objs.size, go)) T (okI.ext x3) hids at3 lt3 (show h3.objs.size ≤ h'.objs.size by omega) hSS2 his hcoC pg pt pe rfl s'' hf I'' st'' nf3 t3
  cases hf : codeAmong pos ps.toList with
  | none =>
    refine wpAny_genexprCodeX hcode (cd.code hPs ht) (cd.tab hPs) hf fun c' h' tk hx hge hlt hco' _ htab' _ => ?_
    obtain ⟨o1, vs, f1, tf, fl, tg', inF, tx, tt, op, _, _, _, _, _, _, _, _, _, htr, _⟩ := hco'
    exact cont _ h' tk _ hx htab'.2 htr
  | some cv =>
    refine wpAny_genexprCode_hit hcode (cd.code hPs ht) hf ?_
    exact cont cv s2.heap s2.toks #[] (Heap.ExtBut.refl _ _) (by simpa using hPs) (by simpa using ht)
/-! ### the rules -/
def cGen (own : Nat) (cap : List Nat) (ic : ICode) (f : Env → Store → D → Res (Option D)) : Env → Store → Res (List D × Bool) := fun env S => do
  let it ← ic env S
  let ds ← opt (itemsOf S it)
  .ok (gList (f (genS own cap env) S) ds)
theorem anyL_sat {xs : List D} {fin : Bool} {Q : Bool → Prop} {R : Exn → Prop} (h : (anyL xs fin).Sat Q R) : ∃ b, anyL xs fin = .ok b ∧ Q b := by
  induction xs with
  | nil => cases fin with
    | true => exact ⟨_, rfl, h⟩
    | false => exact h.elim
  | cons x xs ih => cases x with
    | bl c => cases c with
      | true => exact ⟨_, rfl, h⟩
      | false => exact ih h
    | _ => exact h.elim
theorem allL_sat {xs : List D} {fin : Bool} {Q : Bool → Prop} {R : Exn → Prop} (h : (allL xs fin).Sat Q R) : ∃ b, allL xs fin = .ok b ∧ Q b := by
  induction xs with
  | nil => cases fin with
    | true => exact ⟨_, rfl, h⟩
    | false => exact h.elim
  | cons x xs ih => cases x with
    | bl c => cases c with
      | false => exact ⟨_, rfl, h⟩
      | true => exact ih h
    | _ => exact h.elim
theorem sumL_sat {xs : List D} {fin : Bool} {c : Int} {Q : Int → Prop} {R : Exn → Prop} (h : (sumL xs fin c).Sat Q R) : ∃ b, sumL xs fin c = .ok b ∧ Q b := by
  induction xs generalizing c with
  | nil => cases fin with
    | true => exact ⟨_, rfl, h⟩
    | false => exact h.elim
  | cons x xs ih => cases x with
    | int i => exact ih h
    | _ => exact h.elim
theorem ready_any {L : List D × Bool} {ad : Addr} {s5 : Shared} {b : Bool} {Q : VK} (hr : Room k X.A) (G : GReady X pins σ Γ M ρ H L ad s5) (hb : anyL L.1 L.2 = .ok b) (hQ : ∀ H', LamX.ExtN H H' → TabsOk Γ H' → Q (.bl b) H') :
    wpAny (model X.prog X.w) X.A (call (.builtin "any") [.ref ad]) (EP X pins σ Q) X.xe s5 := by
  obtain ⟨N, s_, H1, cenv, A, fp, ob, gn, gs, σg, tn, hGO, x1, z1, z2, z3, hgs, st, nf, t1, hkeep, IY, hback, hgo⟩ := G.ex
  have hig : s5.heap.IsGen ad gn := by
    obtain ⟨nm, qn, h1, h2, h3⟩ := hGO
    exact ⟨ob, nm, qn, (IY.pin (ad, ob) (List.mem_append_right _ List.mem_cons_self)).1, h1, h2, h3⟩
  refine call_function_tree F.kind_any F.plain_any F.entry_any (F.args_any1 _) ?_
  unfold Builtin.«any»
  refine wpAny_bind (m := oneArg "any" _) (wpAny_pure ?_)
  refine wpAny_bind (wpAny_pyIter_gen hig ?_)
  refine wpAny_pure ⟨plainId_quiet F.plain_any_loop _, any_loop (Y := genX X N s_ H1 cenv A fp) (ao := (ad, ob)) (XA := X.A) (tn := tn) (σg := σg) (H := H1) hr.hd (by have := hr.dp; omega) hGO (b := b) (fun s'' H'' I' x' t' => ?_) L.1.length 0 s5 H1 (Nat.sub_zero _)
    ⟨gs, 0, hgs, IY, st, nf, LamX.ExtN.refl _, t1, Nat.zero_le _, fun s'' hf I'' st'' => hgo [] (fun b hb => absurd hb (by simp)) s'' hf I'' st''⟩ (by rw [List.drop_zero]; exact hb)⟩
  exact ⟨.bl b, H'', hback s'' H'' I', rfl, hQ H'' (x1.trans x') t'⟩
theorem ready_all {L : List D × Bool} {ad : Addr} {s5 : Shared} {b : Bool} {Q : VK} (hr : Room k X.A) (G : GReady X pins σ Γ M ρ H L ad s5) (hb : allL L.1 L.2 = .ok b) (hQ : ∀ H', LamX.ExtN H H' → TabsOk Γ H' → Q (.bl b) H') :
    wpAny (model X.prog X.w) X.A (call (.builtin "all") [.ref ad]) (EP X pins σ Q) X.xe s5 := by
  obtain ⟨N, s_, H1, cenv, A, fp, ob, gn, gs, σg, tn, hGO, x1, z1, z2, z3, hgs, st, nf, t1, hkeep, IY, hback, hgo⟩ := G.ex
  have hig : s5.heap.IsGen ad gn := by
    obtain ⟨nm, qn, h1, h2, h3⟩ := hGO
    exact ⟨ob, nm, qn, (IY.pin (ad, ob) (List.mem_append_right _ List.mem_cons_self)).1, h1, h2, h3⟩
  refine call_function_tree F.kind_all F.plain_all F.entry_all (F.args_all1 _) ?_
  unfold Builtin.«all»
  refine wpAny_bind (m := oneArg "all" _) (wpAny_pure ?_)
  refine wpAny_bind (wpAny_pyIter_gen hig ?_)
  refine wpAny_pure ⟨plainId_quiet F.plain_all_loop _, all_loop (Y := genX X N s_ H1 cenv A fp) (ao := (ad, ob)) (XA := X.A) (tn := tn) (σg := σg) (H := H1) hr.hd (by have := hr.dp; omega) hGO (b := b) (fun s'' H'' I' x' t' => ?_) L.1.length 0 s5 H1 (Nat.sub_zero _)
    ⟨gs, 0, hgs, IY, st, nf, LamX.ExtN.refl _, t1, Nat.zero_le _, fun s'' hf I'' st'' => hgo [] (fun b hb => absurd hb (by simp)) s'' hf I'' st''⟩ (by rw [List.drop_zero]; exact hb)⟩
  exact ⟨.bl b, H'', hback s'' H'' I', rfl, hQ H'' (x1.trans x') t'⟩
theorem ready_sum {L : List D × Bool} {ad : Addr} {s5 : Shared} {b : Int} {Q : VK} (hr : Room k X.A) (G : GReady X pins σ Γ M ρ H L ad s5) (hb : sumL L.1 L.2 0 = .ok b) (hQ : ∀ H', LamX.ExtN H H' → TabsOk Γ H' → Q (.int b) H') :
    wpAny (model X.prog X.w) X.A (call (.builtin "sum") [.ref ad]) (EP X pins σ Q) X.xe s5 := by
  obtain ⟨N, s_, H1, cenv, A, fp, ob, gn, gs, σg, tn, hGO, x1, z1, z2, z3, hgs, st, nf, t1, hkeep, IY, hback, hgo⟩ := G.ex
  have hig : s5.heap.IsGen ad gn := by
    obtain ⟨nm, qn, h1, h2, h3⟩ := hGO
    exact ⟨ob, nm, qn, (IY.pin (ad, ob) (List.mem_append_right _ List.mem_cons_self)).1, h1, h2, h3⟩
  refine call_function_tree F.kind_sum F.plain_sum F.entry_sum (F.args_sum1 _) ?_
  unfold Builtin.«sum»
  simp only [List.length_cons, List.length_nil]
  rw [if_neg (by decide)]
  refine wpAny_bind (wpAny_of_eq (show Builtin.Builtins.bindParams "sum" ["start"] 0 { } = pure [none] from rfl) ?_)
  refine wpAny_bind (wpAny_pyIter_gen hig ?_)
  refine wpAny_bind (wpAny_mkInt ?_)
  refine wpAny_bind (wpAny_pure ?_)
  simp only [List.forIn_cons, List.forIn_nil]
  refine wpAny_bind (wpAny_bind (wpAny_bind (wpAny_isInstance (T := "int") (b := false) (typeIs_int _ _ _) PySem.sub_int_str ?_)))
  simp only [Bool.false_eq_true, if_false]
  refine wpAny_pure (wpAny_bind (wpAny_bind (wpAny_isInstance (T := "int") (b := false) (typeIs_int _ _ _) PySem.sub_int_bytes ?_)))
  simp only [Bool.false_eq_true, if_false]
  refine wpAny_pure (wpAny_bind (wpAny_bind (wpAny_isInstance (T := "int") (b := false) (typeIs_int _ _ _) PySem.sub_int_bytearray ?_)))
  simp only [Bool.false_eq_true, if_false]
  refine wpAny_pure (wpAny_pure ?_)
  refine wpAny_bind (wpAny_newObj_type ?_)
  have hzf : s5.heap.objs.size ∉ fp := fun hm => Nat.lt_irrefl _ (z3 _ hm)
  have haz : ad ≠ s5.heap.objs.size := Nat.ne_of_lt z2
  generalize hz : s5.heap.objs.size = z at hzf haz z1 hgo
  -- the sum's own list stands
  have keep : ∀ b o, s5.heap.get? b = some o → (s5.heap.push { cls := .type "list", data := .seq #[.int 0 s5.toks] }).get? b = some o := fun b o e => Heap.get?_push_of_some _ e
  have e1 : (s5.heap.push { cls := .type "list", data := .seq #[.int 0 s5.toks] }).get? z = some { cls := .type "list", data := .seq #[.int 0 s5.toks] } := by rw [← hz]; exact Heap.get?_push_size _ rfl
  have IZ : Inv (genX X N s_ H1 cenv A fp) ((ad, ob) :: pinsAt [z] (s5.heap.push { cls := .type "list", data := .seq #[.int 0 s5.toks] })) σg H1 { s5 with heap := s5.heap.push { cls := .type "list", data := .seq #[.int 0 s5.toks] }, toks := s5.toks + 1 } := by
    have I1 := IY.call (h' := s5.heap.push { cls := .type "list", data := .seq #[.int 0 s5.toks] }) (g' := s5.gens) (t' := s5.toks + 1) (d' := s5.drawn) (ch := []) (Un.kept keep) (IY.hok.kept keep) IY.bare (fun b z => absurd z (by simp))
    refine I1.pins_of fun p hp => ?_
    rcases List.mem_cons.mp hp with rfl | hp
    · exact I1.pin _ (List.mem_append_right _ List.mem_cons_self)
    · obtain ⟨h1, h2⟩ := of_pinsAt hp
      have h1 := List.mem_singleton.mp h1
      rw [h1] at h2 ⊢
      rw [← Option.some.inj (e1.symm.trans h2)]
      refine ⟨e1, IY.hok.fresh (by rw [hz]; exact Nat.le_refl _), ?_, ?_, fun v q => by cases q⟩
      · have := IY.lt
        show z ≠ cenv.locals
        intro q
        have h3 : cenv.locals < s5.heap.objs.size := this
        rw [hz, ← q] at h3
        exact Nat.lt_irrefl _ h3
      · exact IY.nofs (by rw [hz]; exact Nat.le_refl _)
  refine wpAny_pure ⟨plainId_quiet F.plain_sum_loop _, ?_⟩
  exact sum_loop (Y := genX X N s_ H1 cenv A fp) (ao := (ad, ob)) (XA := X.A) (tn := tn) (σg := σg) (H := H1) (xs := L.1) (fin := L.2) hr.hd (by have := hr.dp; omega) hGO (b := b) (z := z) rfl z1 haz hzf hkeep (fun s'' H'' t I' x' t' => ⟨.int b, H'', hback s'' H'' I', ⟨t, rfl⟩, hQ H'' (x1.trans x') t'⟩) L.1.length 0 _ H1 0 s5.toks 0 0 (.inl rfl) (Nat.sub_zero _)
    ⟨gs, 0, hgs, IZ, hkeep _ _ _ st fun b _ o e => keep b o e, nf, LamX.ExtN.refl _, t1, Nat.zero_le _, fun s'' hf I'' st'' => hgo [z] (fun b hb => by rw [List.mem_singleton.mp hb]; exact Nat.le_refl _) s'' hf I'' st''⟩ e1 (by rw [List.drop_zero]; exact hb)
end
structure GCons (X : Cx) (Γ : Gx) (id : String) (F : List D × Bool → Res D) : Prop where
  nx : ∀ L Q R, (F L).Sat Q R → ∃ d, F L = .ok d ∧ Q d
  run : ∀ {pins : List (Addr × Obj)} {σ : St} {M : Addr → Prop} {ρ : List Addr} {H : Hp} {L : List D × Bool} {ad : Addr} {s5 : Shared} {d : D} {Q : VK} {k : Nat}, Room k X.A → GReady X pins σ Γ M ρ H L ad s5 → F L = .ok d →
    (∀ v H', LamX.ExtN H H' → TabsOk Γ H' → RelD X.K Γ.cl M ρ H' d v → Q v H') → wpAny (model X.prog X.w) X.A (call (.builtin id) [.ref ad]) (EP X pins σ Q) X.xe s5
def fAnyG (L : List D × Bool) : Res D := do let b ← anyL L.1 L.2; .ok (.bl b)
def fAllG (L : List D × Bool) : Res D := do let b ← allL L.1 L.2; .ok (.bl b)
def fSumG (L : List D × Bool) : Res D := do let b ← sumL L.1 L.2 0; .ok (.int b)
theorem gc_any {X : Cx} {Γ : Gx} : GCons X Γ "any" fAnyG where
  nx := fun L Q R h => by
    obtain ⟨b, e, q⟩ := anyL_sat (Res.sat_bind h)
    exact ⟨.bl b, by unfold fAnyG; rw [e]; rfl, q⟩
  run := fun hr G h hQ => by
    obtain ⟨b, e, h⟩ := bind_ok h
    cases h
    exact ready_any hr G e fun H' x t => hQ _ H' x t (.bl b)
theorem gc_all {X : Cx} {Γ : Gx} : GCons X Γ "all" fAllG where
  nx := fun L Q R h => by
    obtain ⟨b, e, q⟩ := allL_sat (Res.sat_bind h)
    exact ⟨.bl b, by unfold fAllG; rw [e]; rfl, q⟩
  run := fun hr G h hQ => by
    obtain ⟨b, e, h⟩ := bind_ok h
    cases h
    exact ready_all hr G e fun H' x t => hQ _ H' x t (.bl b)
theorem gc_sum {X : Cx} {Γ : Gx} : GCons X Γ "sum" fSumG where
  nx := fun L Q R h => by
    obtain ⟨b, e, q⟩ := sumL_sat (Res.sat_bind h)
    exact ⟨.int b, by unfold fSumG; rw [e]; rfl, q⟩
  run := fun hr G h hQ => by
    obtain ⟨b, e, h⟩ := bind_ok h
    cases h
    exact ready_sum hr G e fun H' x t => hQ _ H' x t (.int b)
def cGenC (F : List D × Bool → Res D) (lg : Env → Store → Res (List D × Bool)) : Code := fun env S => do
  let L ← lg env S
  F L
section
variable {X : Cx} {Γ : Gx} {W : WX} {N : List Str} {own : Nat} {cap : List Nat} {tg elt iter : Expr} {ifs : List Expr} {scope : Scope} {is : List Nat} {ic : ICode} {g : GCode} {t : TCode} {ce : Code} {c P : Addr} {k : Nat}
theorem pc_gen {x : Str} {id : String} {F : List D × Bool → Res D} {p pos gpos : Pos} (GC : GCons X Γ id F) (hg : Gl X x) (hm : X.mg x = none) (hv : bootBuiltins x = some (.builtin id)) (hr : Room (k + 1) X.A) (TB : GxR.TabB X.base X.mg c P) (hP : P ∈ Γ.tg) (hPl : ∀ p ∈ Γ.tl, p.1 ≠ P) (hcode : X.env.code = .ref c)
    (ok : GenOk X.N X.env.scope scope N own cap) (hi : PIc X Γ W tg iter ic) (his : ∀ i ∈ is, i < own)
    (hpg : ∀ (s : Shared) (H : Hp) (C : Addr) (cl : List (Str × Addr)) (code : Value) (A : Around) (fp : List Addr), PGc (genX X N s H (genEnv scope cl C code builtinsNs X.env) A fp) Γ tg is g)
    (hpt : ∀ (s : Shared) (H : Hp) (C : Addr) (cl : List (Str × Addr)) (code : Value) (A : Around) (fp : List Addr), Room k A → PTsc (genX X N s H (genEnv scope cl C code builtinsNs X.env) A fp) Γ W0 ifs t)
    (hpe : ∀ (s : Shared) (H : Hp) (C : Addr) (cl : List (Str × Addr)) (code : Value) (A : Around) (fp : List Addr), Room k A → PEc (genX X N s H (genEnv scope cl C code builtinsNs X.env) A fp) Γ W0 elt ce)
    (hs : ∀ v, genFold iter X.env v = pure v := by intro _; rfl) (hnm : x ≠ "__name__" := by decide) (hdb : (x == ("__debug__" : Str)) = false := by decide)
    (he : starEach [.GeneratorExp elt [⟨tg, iter, ifs, 0⟩] scope gpos] X.env = (false, eval (.GeneratorExp elt [⟨tg, iter, ifs, 0⟩] scope gpos) X.env) :: starEach [] X.env := by rfl) :
    PEc X Γ W (.Call (.Name x p) [.GeneratorExp elt [⟨tg, iter, ifs, 0⟩] scope gpos] [] pos) (cGenC F (cGen own cap ic fun env S => itR g t ce env S)) := by
  refine ⟨fun pins s σ H Q I ⟨M, ρ, env, S, a, h⟩ => ?_⟩
  refine wpAny_Call_Name_kw (ld_blt I hg hm hv ?_ hnm hdb)
  refine PyProof.Rows.callWith_builtin1 ?_ he (by rfl)
  rw [he]
  show wpAny _ _ (spliced ((false, eval (.GeneratorExp elt [⟨tg, iter, ifs, 0⟩] scope gpos) X.env) :: backTo pos (starEach [] X.env))) _ _ s
  have h1 : (cGen own cap ic (fun env S => itR g t ce env S) env S).Sat (fun L => (F L).Sat (fun d => ∀ (v : V) (H' : Hp), LamX.ExtN H H' → TabsOk Γ H' → RelD X.K Γ.cl M ρ H' d v → Q v H') (XW Γ W σ H)) (XW Γ W σ H) := Res.sat_bind h
  have h2 : (ic env S).Sat (fun it => (opt (itemsOf S it) >>= fun ds => Res.ok (gList (itR g t ce (genS own cap env) S) ds)).Sat (fun L => (F L).Sat (fun d => ∀ (v : V) (H' : Hp), LamX.ExtN H H' → TabsOk Γ H' → RelD X.K Γ.cl M ρ H' d v → Q v H') (XW Γ W σ H)) (XW Γ W σ H)) (XW Γ W σ H) := Res.sat_bind h1
  refine Calls.spliced_cons (gen_core (Z := fun L => ∃ d, F L = .ok d ∧ ∀ v H', LamX.ExtN H H' → TabsOk Γ H' → RelD X.K Γ.cl M ρ H' d v → Q v H') hr TB hP hPl hcode ok hi his hpg hpt hpe hs I a (h2.mono (fun it hit => ?_) fun _ z => z) fun L ad s5 ⟨d, hd, hq⟩ G => ?_)
  · obtain ⟨ds, e, hit⟩ := sat_opt hit
    exact ⟨ds, e, GC.nx _ _ _ hit⟩
  · refine Calls.spliced_nil ?_
    exact GC.run hr G hd fun v H' x t r => hq v H' x t r
end
end L2.Th

set_option Elab.async false
set_option linter.all false
set_option maxRecDepth 100000
set_option maxHeartbeats 4000000
/-! Layer O: list comprehensions as rules, of one and of two clauses. -/
namespace L2.Th
open PySem PySem.Spec PyProof.Rows
theorem sat_const {α : Type} {A : Prop} {R : Exn → Prop} (hR : ∀ e, R e → A) : ∀ {x : Res α}, x.Sat (fun _ => A) R → A
  | .ok _, h => h
  | .exn e, h => hR e h
  | .stuck, h => h.elim
  | .roll n k, h => sat_const hR (h.2 0 (Int.le_refl _) h.1)
section
variable {X : Cx} {Γ : Gx} {W : WX} {elt tg iter : Expr} {ifs : List Expr} {scope : Scope} {own : List (Str × Nat)} {pos spos : Pos} {ic : ICode} {is : List Nat} {g : GCode} {t : TCode} {ce : Code}
theorem pc_lc (hc : X.calm = true) (hN : X.N.Nodup) (hi : PIc X Γ W tg iter ic) (ok : BlkOk X.N X.env.scope scope own) (his : ∀ i ∈ is, i ∈ own.map (·.2))
    (hg : ∀ (s : Shared) (H : Hp) (C : Addr) (cl : List (Str × Addr)) (fp : List Addr), PGc (X.blk s H scope (compEnvC scope cl C X.env) fp) Γ tg is g) (ht : ∀ (s : Shared) (H : Hp) (C : Addr) (cl : List (Str × Addr)) (fp : List Addr), PTsc (X.blk s H scope (compEnvC scope cl C X.env) fp) Γ W0 ifs t)
    (he : ∀ (s : Shared) (H : Hp) (C : Addr) (cl : List (Str × Addr)) (fp : List Addr), PEc (X.blk s H scope (compEnvC scope cl C X.env) fp) Γ W0 elt ce) (hs : ∀ x, foldedSetIterable iter X.env x = pure x := by intro _; rfl) :
    PEc X Γ W (.ListComp elt [⟨tg, iter, ifs, 0⟩] scope pos) (cLc (own.map (·.2)) ic g t ce) :=
  pe_of (pe_lc hc hN hi ok hg ht he hs) fun σ H Q h => lc_code his h
theorem ps_setLcC {i : Nat} {y : Str} {py : Pos} (hc : X.calm = true) (hN : X.N.Nodup) (hy : X.N[i]? = some y) (hyl : X.env.scope.names.lookup y = some .local)
    (hsw : swapsWith (.ListComp elt [⟨tg, iter, ifs, 0⟩] scope pos) (some (.Name y py)) spos.line X.env = pure true) (hi : PIc X Γ W tg iter ic) (ok : BlkOk X.N X.env.scope scope own) (his : ∀ i ∈ is, i ∈ own.map (·.2))
    (hg : ∀ (s : Shared) (H : Hp) (C : Addr) (cl : List (Str × Addr)) (fp : List Addr), PGc (X.blk s H scope (compEnvC scope cl C X.env) fp) Γ tg is g) (ht : ∀ (s : Shared) (H : Hp) (C : Addr) (cl : List (Str × Addr)) (fp : List Addr), PTsc (X.blk s H scope (compEnvC scope cl C X.env) fp) Γ W0 ifs t)
    (he : ∀ (s : Shared) (H : Hp) (C : Addr) (cl : List (Str × Addr)) (fp : List Addr), PEc (X.blk s H scope (compEnvC scope cl C X.env) fp) Γ W0 elt ce) (hs : ∀ x, foldedSetIterable iter X.env x = pure x := by intro _; rfl) :
    PSc X Γ W (.Assign [.Name y py] (.ListComp elt [⟨tg, iter, ifs, 0⟩] scope pos) spos) (sAsg (cLc (own.map (·.2)) ic g t ce) (gNm i)) :=
  ps_of (ps_setLc hc hN hy hyl hsw hi ok hg ht he hs) fun D σ H ⟨M, ρ, env, S, a, h⟩ => by
    refine lc_code (Γ := Γ) (W := W) (ic := ic) (g := g) (t := t) (ce := ce) his ?_
    exact tE_st a (Res.sat_bind h) fun d v H1 p x t a1 r => p ρ _ H1 (.of x) (a1.set r)
end
/-! ### two clauses -/
/-- all but the list at L and the tables stays -/
def ExtL (L : Addr) (H H' : Hp) : Prop := ∀ b o, H b = some o → (∀ ps, o ≠ .tbl ps) → b ≠ L → H' b = some o
def lcSeq2 (g : GCode) (t : TCode) (ic1 : ICode) (own1 : List Nat) (g1 : GCode) (t1 : TCode) (e : Code) (env : Env) (S : Store) : List D → Res (List D)
  | [] => .ok []
  | d :: ds => do
    let env' ← g d env
    let b ← t env' S
    if b then do
      let it ← ic1 env' S
      let ys ← opt (itemsOf S it)
      let xs ← lcSeq g1 t1 e (wipeE env' own1) S ys
      let rest ← lcSeq2 g t ic1 own1 g1 t1 e env S ds
      .ok (xs ++ rest)
    else lcSeq2 g t ic1 own1 g1 t1 e env S ds
def cLc2 (own own1 : List Nat) (ic : ICode) (g : GCode) (t : TCode) (ic1 : ICode) (g1 : GCode) (t1 : TCode) (e : Code) : Code := fun env S => do
  let it ← ic env S
  let ds ← opt (itemsOf S it)
  let xs ← noX (lcSeq2 g t ic1 own1 g1 t1 e (wipeE env own) S ds)
  need (decide (xs.length ≤ sizeLine))
  .ok (.lst xs)
section
variable {X : Cx} {Γ : Gx} {W : WX} {K : PySem.W.Frag} {M : Addr → Prop} {ρ : List Addr} {S : Store} {H H1 H2 H' : Hp} {env : Env} {σ : St} {L : Addr}
theorem ExtL.refl : ExtL L H H := fun _ _ e _ _ => e
theorem ExtL.trans (a : ExtL L H H1) (b : ExtL L H1 H2) : ExtL L H H2 := fun c o e n h => b c o (a c o e n h) n h
theorem ExtL.of (x : LamX.ExtN H H1) : ExtL L H H1 := fun b o e n _ => x b o e n
theorem ExtL.upd {o : HO} : ExtL L H (upd H L o) := fun b u e _ h => by rw [upd_ne h]; exact e
theorem ExtL.keep {vs : List V} (x : ExtL L H H1) (hl : H L = some (.lst vs)) : Keep (MD M L) (MD M L) ρ ρ H H1 :=
  ⟨fun b o e hM hρ n => ⟨x b o e n fun z => hM (.inr z), hM, hρ⟩, fun b e => x b _ e (fun _ z => (nomatch z)) fun z => by rw [z, hl] at e; exact absurd (Option.some.inj e) (IsCellO.nd (.inl ⟨_, rfl⟩)), fun _ _ e => e⟩
/-- the inner walk's data at each turn -/
theorem it_turn1 {J : It} {it : ItD} {ds : List D} {vs : List V} (ok : ItOk K Γ (MD M L) ρ H1 J it) (hi : itemsOf S it = some ds) (hl : H1 L = some (.lst vs)) (x : ExtL L H1 H2) (w2 : Wld K Γ (MD M L) ρ S H2) (i : Nat) :
    (∀ d, ds[i]? = some d → J.go i H2 ∧ ∀ y H3, J.yld i H2 y H3 → LamX.ExtN H2 H3 ∧ TabsOk Γ H3 ∧ RelD K Γ.cl (MD M L) ρ H3 d y) ∧ (ds.length ≤ i → J.stop i H2) := by
  cases it with
  | seq xs =>
    cases hi
    exact ok (MD M L) ρ S H2 (x.keep hl) w2 i
  | cell n =>
    obtain ⟨a, hn, rfl⟩ := ok
    have hi' : (match S[n]? with | some (.lst xs) => some xs | _ => none) = some ds := hi
    split at hi'
    · rename_i xs es
      cases hi'
      obtain ⟨vs, h1, rr⟩ := w2.cells n _ a es hn
      refine ⟨fun d e => ?_, fun hl => ⟨vs, .of h1, by rw [← rr.length]; exact hl⟩⟩
      obtain ⟨v, e1, rv⟩ := rr.get e
      refine ⟨⟨vs, v, .of h1, e1⟩, fun y H3 hy => ?_⟩
      obtain ⟨rfl, hy⟩ := hy
      exact ⟨LamX.ExtN.refl _, w2.tabs, rr.at e (hy vs (.of h1))⟩
    · cases hi'
theorem lc2_code {ic ic1 : ICode} {is is1 own own1 : List Nat} {g g1 : GCode} {t t1 : TCode} {ce : Code} {Q : VK} (his : ∀ i ∈ is, i ∈ own) (his1 : ∀ i ∈ is1, i ∈ own1) (h : tE K Γ W (cLc2 own own1 ic g t ic1 g1 t1 ce) σ H Q) :
    tLc2 (tI K Γ W ic) (tG K Γ is g) (tT K Γ W0 t) (tI K Γ W0 ic1) (tG K Γ is1 g1) (tT K Γ W0 t1) (tE K Γ W0 ce) own own1 σ H Q := by
  obtain ⟨M, ρ, env, S, a, h⟩ := h
  refine ⟨M, ρ, env, S, a, (Res.sat_bind h).mono (fun it p J H1 x tb ok L hL => ?_) fun _ z => z⟩
  have a1 := a.ext x tb
  obtain ⟨ds, ei, p⟩ := sat_opt p
  have p := noX_sat (R' := fun _ => False) (Res.sat_bind p)
  have aw := (a1.wipe own).blk (vs := []) hL
  let Fin : List D → Prop := fun xs => xs.length ≤ sizeLine ∧ ∀ v H', LamX.ExtN H H' → TabsOk Γ H' → RelD K Γ.cl M ρ H' (.lst xs) v → Q v H'
  have p' : (lcSeq2 g t ic1 own1 g1 t1 ce (wipeE env own) S ds).Sat (fun xs => Fin ([] ++ xs)) (fun _ => False) := p.mono (fun xs q => by
    obtain ⟨hb, q⟩ := sat_need q
    exact ⟨of_decide_eq_true hb, q⟩) fun _ z => z
  refine ⟨fun i m H' => m = ds.length - i ∧ i ≤ ds.length ∧ ∃ ys vs, LamX.ExtN H1 H' ∧ At K Γ (MD M L) ρ (wipeE env own) S (L2.wipe σ own) H' ∧ H' L = some (.lst vs) ∧ RelDs K Γ.cl (MD M L) ρ H' ys vs ∧
    (lcSeq2 g t ic1 own1 g1 t1 ce (wipeE env own) S (ds.drop i)).Sat (fun xs => Fin (ys ++ xs)) (fun _ => False),
    ⟨_, rfl, Nat.zero_le _, [], [], ext_grow hL (LamX.ExtN.refl _), aw, upd_same, .nil, by rw [List.drop_zero]; exact p'⟩, ?_⟩
  rintro i m H' ⟨rfl, hi, ys, vs, x1, a2, hl, rs, hq⟩
  have tn := it_turn ok ei hL x1 a2.w i
  by_cases hlt : i < ds.length
  · right
    have hd : ds.drop i = ds[i] :: ds.drop (i + 1) := List.drop_eq_getElem_cons hlt
    rw [hd] at hq
    obtain ⟨hgo, hy⟩ := tn.1 ds[i] (List.getElem?_eq_getElem hlt)
    refine ⟨hgo, fun H2 => ∃ ys vs, LamX.ExtN H1 H2 ∧ At K Γ (MD M L) ρ (wipeE env own) S (L2.wipe σ own) H2 ∧ H2 L = some (.lst vs) ∧ RelDs K Γ.cl (MD M L) ρ H2 ys vs ∧
      (lcSeq2 g t ic1 own1 g1 t1 ce (wipeE env own) S (ds.drop (i + 1))).Sat (fun xs => Fin (ys ++ xs)) (fun _ => False), fun H2 q => ⟨ds.length - (i + 1), by omega, rfl, hlt, q⟩, fun y H2 hyy => ?_⟩
    obtain ⟨ex, tx, rx⟩ := hy y H2 hyy
    have a3 := a2.ext ex tx
    refine ⟨MD M L, ρ, wipeE env own, S, ds[i], a3, rx, (Res.sat_bind hq).mono (fun env2 q2 σ2 a4 df => ⟨?_, ?_⟩) fun _ z => z⟩
    · rw [wipe_dif df his, wipe_wipe fun _ z => z]
    · refine ⟨MD M L, ρ, env2, S, a4, (Res.sat_bind q2).mono (fun b q3 H3 x3 t3 => ?_) fun _ z => z.elim⟩
      have x13 : LamX.ExtN H1 H3 := x1.trans (ex.trans x3)
      have l3 : H3 L = some (.lst vs) := x3 _ _ (ex _ _ hl (fun _ z => (nomatch z))) (fun _ z => (nomatch z))
      have rs3 := (rs.keep (ext_keep ex)).keep (ext_keep x3)
      cases b with
      | false =>
        rw [if_neg (by decide)] at q3
        show if false = true then _ else _
        rw [if_neg (by decide)]
        exact ⟨ys, vs, x13, a3.ext x3 t3, l3, rs3, q3⟩
      | true =>
        rw [if_pos rfl] at q3
        show if true = true then _ else _
        rw [if_pos rfl]
        refine ⟨MD M L, ρ, env2, S, a4.ext x3 t3, (Res.sat_bind q3).mono (fun it1 q4 J1 H4 x4 t4 ok1 => ?_) fun _ z => z.elim⟩
        obtain ⟨es, ei1, q4⟩ := sat_opt q4
        have l4 : H4 L = some (.lst vs) := x4 _ _ l3 (fun _ z => (nomatch z))
        have a5 := (a3.ext x3 t3).ext x4 t4
        have a6 := (a4.ext x3 t3).ext x4 t4
        refine ⟨fun j k H' => k = es.length - j ∧ j ≤ es.length ∧ ∃ ys vs, LamX.ExtN H1 H' ∧ ExtL L H4 H' ∧ At K Γ (MD M L) ρ (wipeE env own) S (L2.wipe σ own) H' ∧ At K Γ (MD M L) ρ env2 S σ2 H' ∧ H' L = some (.lst vs) ∧ RelDs K Γ.cl (MD M L) ρ H' ys vs ∧
          (lcSeq g1 t1 ce (wipeE env2 own1) S (es.drop j) >>= fun xs => lcSeq2 g t ic1 own1 g1 t1 ce (wipeE env own) S (ds.drop (i + 1)) >>= fun rest => Res.ok (xs ++ rest)).Sat (fun xs => Fin (ys ++ xs)) (fun _ => False),
          ⟨_, rfl, Nat.zero_le _, ys, vs, x13.trans x4, .refl, a5, a6, l4, rs3.keep (ext_keep x4), by rw [List.drop_zero]; exact q4⟩, ?_⟩
        rintro j k H5 ⟨rfl, hj, zs, ws, y1, y2, b1, b2, lz, rz, hz⟩
        have tn1 := it_turn1 ok1 ei1 l4 y2 b1.w j
        by_cases hjt : j < es.length
        · right
          have hd1 : es.drop j = es[j] :: es.drop (j + 1) := List.drop_eq_getElem_cons hjt
          rw [hd1] at hz
          obtain ⟨hgo1, hy1⟩ := tn1.1 es[j] (List.getElem?_eq_getElem hjt)
          refine ⟨hgo1, fun H' => ∃ ys vs, LamX.ExtN H1 H' ∧ ExtL L H4 H' ∧ At K Γ (MD M L) ρ (wipeE env own) S (L2.wipe σ own) H' ∧ At K Γ (MD M L) ρ env2 S σ2 H' ∧ H' L = some (.lst vs) ∧ RelDs K Γ.cl (MD M L) ρ H' ys vs ∧
            (lcSeq g1 t1 ce (wipeE env2 own1) S (es.drop (j + 1)) >>= fun xs => lcSeq2 g t ic1 own1 g1 t1 ce (wipeE env own) S (ds.drop (i + 1)) >>= fun rest => Res.ok (xs ++ rest)).Sat (fun xs => Fin (ys ++ xs)) (fun _ => False),
            fun H' q => ⟨es.length - (j + 1), by omega, rfl, hjt, q⟩, fun y5 H6 hyy1 => ?_⟩
          obtain ⟨ex1, tx1, rx1⟩ := hy1 y5 H6 hyy1
          have b3 := (b2.ext ex1 tx1).wipe own1
          have hz1 := Res.sat_bind (Res.sat_bind hz)
          refine ⟨MD M L, ρ, wipeE env2 own1, S, es[j], b3, rx1, hz1.mono (fun env3 q5 σ3 b4 df1 => ⟨?_, ?_⟩) fun _ z => z⟩
          · rw [wipe_dif df1 his1, wipe_wipe fun _ z => z]
          · refine ⟨MD M L, ρ, env3, S, b4, (Res.sat_bind q5).mono (fun b q6 H7 x7 t7 => ?_) fun _ z => z.elim⟩
            have l7 : H7 L = some (.lst ws) := x7 _ _ (ex1 _ _ lz (fun _ z => (nomatch z))) (fun _ z => (nomatch z))
            have rz7 := (rz.keep (ext_keep ex1)).keep (ext_keep x7)
            have yy1 := y1.trans (ex1.trans x7)
            have yy2 : ExtL L H4 H7 := y2.trans (.of (ex1.trans x7))
            cases b with
            | false =>
              rw [if_neg (by decide)] at q6
              show if false = true then _ else _
              rw [if_neg (by decide)]
              exact ⟨zs, ws, yy1, yy2, (b1.ext ex1 tx1).ext x7 t7, (b2.ext ex1 tx1).ext x7 t7, l7, rz7, Res.sat_bind' q6⟩
            | true =>
              rw [if_pos rfl] at q6
              show if true = true then _ else _
              rw [if_pos rfl]
              refine ⟨MD M L, ρ, env3, S, b4.ext x7 t7, (Res.sat_bind q6).mono (fun d q7 v H8 x8 t8 r8 => ?_) fun _ z => z.elim⟩
              have l8 : H8 L = some (.lst ws) := x8 _ _ l7 (fun _ z => (nomatch z))
              have rz8 := rz7.keep (ext_keep x8)
              have q8 := Res.sat_bind q7
              -- what is still to come
              have q9 : (lcSeq g1 t1 ce (wipeE env2 own1) S (es.drop (j + 1)) >>= fun xs => lcSeq2 g t ic1 own1 g1 t1 ce (wipeE env own) S (ds.drop (i + 1)) >>= fun rest => Res.ok (xs ++ rest)).Sat (fun xs => Fin (zs ++ [d] ++ xs)) (fun _ => False) := by
                refine Res.sat_bind' (q8.mono (fun xs q => ?_) fun _ z => z)
                refine Res.sat_bind' ((Res.sat_bind (show (lcSeq2 g t ic1 own1 g1 t1 ce (wipeE env own) S (ds.drop (i + 1)) >>= fun rest => Res.ok (d :: xs ++ rest)).Sat (fun xs => Fin (zs ++ xs)) (fun _ => False) from q)).mono (fun rest q => ?_) fun _ z => z)
                show Fin (zs ++ [d] ++ (xs ++ rest))
                have e : zs ++ [d] ++ (xs ++ rest) = zs ++ (d :: xs ++ rest) := by simp
                rw [e]
                exact q
              have hlen : zs.length + 1 ≤ sizeLine := sat_const (fun _ z => False.elim z) (q9.mono (fun xs q => by
                have := q.1
                simp only [List.length_append, List.length_cons, List.length_nil] at this
                omega) fun _ z => z)
              refine ⟨ws, l8, ?_, zs ++ [d], ws ++ [v], ext_grow hL (yy1.trans x8), (yy2.trans (.of x8)).trans .upd, (((b1.ext ex1 tx1).ext x7 t7).ext x8 t8).grow l8, (((b2.ext ex1 tx1).ext x7 t7).ext x8 t8).grow l8, upd_same, (rz8.append (.cons r8 .nil)).keep (keep_grow l8), q9⟩
              have := rz.length; omega
        · left
          have e : j = es.length := by omega
          subst e
          rw [List.drop_length] at hz
          refine ⟨tn1.2 (Nat.le_refl _), zs, ws, y1, b1, lz, rz, ?_⟩
          exact (Res.sat_bind (show (lcSeq2 g t ic1 own1 g1 t1 ce (wipeE env own) S (ds.drop (i + 1)) >>= fun rest => Res.ok ([] ++ rest)).Sat (fun xs => Fin (zs ++ xs)) (fun _ => False) from hz)).mono (fun rest q => q) fun _ z => z
  · left
    have e : i = ds.length := by omega
    subst e
    rw [List.drop_length] at hq
    refine ⟨tn.2 (Nat.le_refl _), ?_⟩
    have hq' : Fin (ys ++ []) := hq
    rw [List.append_nil] at hq'
    have wL : ¬ M L ∧ L ∉ ρ := a1.w.new hL
    exact hq'.2 _ H' (x.trans x1) a2.w.tabs (.lst wL.1 wL.2 hl (rs.keep keep_outb))
end
section
variable {X : Cx} {Γ : Gx} {W : WX} {elt tg iter tg1 iter1 : Expr} {ifs ifs1 : List Expr} {scope : Scope} {own : List (Str × Nat)} {own1 : List Nat} {pos spos : Pos} {ic ic1 : ICode} {is is1 : List Nat} {g g1 : GCode} {t t1 : TCode} {ce : Code}
theorem pc_lc2 (hc : X.calm = true) (hN : X.N.Nodup) (hi : PIc X Γ W tg iter ic) (ok : BlkOk X.N X.env.scope scope own) (hv : ∀ i ∈ own1, i ∈ own.map (·.2)) (his : ∀ i ∈ is, i ∈ own.map (·.2)) (his1 : ∀ i ∈ is1, i ∈ own1)
    (hg : ∀ (s : Shared) (H : Hp) (C : Addr) (cl : List (Str × Addr)) (fp : List Addr), PGc (X.blk s H scope (compEnvC scope cl C X.env) fp) Γ tg is g) (ht : ∀ (s : Shared) (H : Hp) (C : Addr) (cl : List (Str × Addr)) (fp : List Addr), PTsc (X.blk s H scope (compEnvC scope cl C X.env) fp) Γ W0 ifs t)
    (hi1 : ∀ (s : Shared) (H : Hp) (C : Addr) (cl : List (Str × Addr)) (fp : List Addr), PIc (X.blk s H scope (compEnvC scope cl C X.env) fp) Γ W0 tg1 iter1 ic1)
    (hg1 : ∀ (s : Shared) (H : Hp) (C : Addr) (cl : List (Str × Addr)) (fp : List Addr), PGc (X.blk s H scope (compEnvC scope cl C X.env) fp) Γ tg1 is1 g1) (ht1 : ∀ (s : Shared) (H : Hp) (C : Addr) (cl : List (Str × Addr)) (fp : List Addr), PTsc (X.blk s H scope (compEnvC scope cl C X.env) fp) Γ W0 ifs1 t1)
    (he : ∀ (s : Shared) (H : Hp) (C : Addr) (cl : List (Str × Addr)) (fp : List Addr), PEc (X.blk s H scope (compEnvC scope cl C X.env) fp) Γ W0 elt ce) (hs : ∀ x, foldedSetIterable iter X.env x = pure x := by intro _; rfl) (hs1 : ∀ env x, foldedSetIterable iter1 env x = pure x := by intro _ _; rfl) :
    PEc X Γ W (.ListComp elt [⟨tg, iter, ifs, 0⟩, ⟨tg1, iter1, ifs1, 0⟩] scope pos) (cLc2 (own.map (·.2)) own1 ic g t ic1 g1 t1 ce) :=
  pe_of (pe_lc2 hc hN hi ok hv hg ht hi1 hg1 ht1 he hs hs1) fun σ H Q h => lc2_code his his1 h
theorem ps_setLc2C {i : Nat} {y : Str} {py : Pos} (hc : X.calm = true) (hN : X.N.Nodup) (hy : X.N[i]? = some y) (hyl : X.env.scope.names.lookup y = some .local)
    (hsw : swapsWith (.ListComp elt [⟨tg, iter, ifs, 0⟩, ⟨tg1, iter1, ifs1, 0⟩] scope pos) (some (.Name y py)) spos.line X.env = pure true) (hi : PIc X Γ W tg iter ic) (ok : BlkOk X.N X.env.scope scope own) (hv : ∀ i ∈ own1, i ∈ own.map (·.2)) (his : ∀ i ∈ is, i ∈ own.map (·.2)) (his1 : ∀ i ∈ is1, i ∈ own1)
    (hg : ∀ (s : Shared) (H : Hp) (C : Addr) (cl : List (Str × Addr)) (fp : List Addr), PGc (X.blk s H scope (compEnvC scope cl C X.env) fp) Γ tg is g) (ht : ∀ (s : Shared) (H : Hp) (C : Addr) (cl : List (Str × Addr)) (fp : List Addr), PTsc (X.blk s H scope (compEnvC scope cl C X.env) fp) Γ W0 ifs t)
    (hi1 : ∀ (s : Shared) (H : Hp) (C : Addr) (cl : List (Str × Addr)) (fp : List Addr), PIc (X.blk s H scope (compEnvC scope cl C X.env) fp) Γ W0 tg1 iter1 ic1)
    (hg1 : ∀ (s : Shared) (H : Hp) (C : Addr) (cl : List (Str × Addr)) (fp : List Addr), PGc (X.blk s H scope (compEnvC scope cl C X.env) fp) Γ tg1 is1 g1) (ht1 : ∀ (s : Shared) (H : Hp) (C : Addr) (cl : List (Str × Addr)) (fp : List Addr), PTsc (X.blk s H scope (compEnvC scope cl C X.env) fp) Γ W0 ifs1 t1)
    (he : ∀ (s : Shared) (H : Hp) (C : Addr) (cl : List (Str × Addr)) (fp : List Addr), PEc (X.blk s H scope (compEnvC scope cl C X.env) fp) Γ W0 elt ce) (hs : ∀ x, foldedSetIterable iter X.env x = pure x := by intro _; rfl) (hs1 : ∀ env x, foldedSetIterable iter1 env x = pure x := by intro _ _; rfl) :
    PSc X Γ W (.Assign [.Name y py] (.ListComp elt [⟨tg, iter, ifs, 0⟩, ⟨tg1, iter1, ifs1, 0⟩] scope pos) spos) (sAsg (cLc2 (own.map (·.2)) own1 ic g t ic1 g1 t1 ce) (gNm i)) :=
  ps_of (ps_setLc2 hc hN hy hyl hsw hi ok hv hg ht hi1 hg1 ht1 he hs hs1) fun D σ H ⟨M, ρ, env, S, a, h⟩ => by
    refine lc2_code (Γ := Γ) (W := W) (ic := ic) (g := g) (t := t) (ic1 := ic1) (g1 := g1) (t1 := t1) (ce := ce) his his1 ?_
    exact tE_st a (Res.sat_bind h) fun d v H1 p x t a1 r => p ρ _ H1 (.of x) (a1.set r)
end
end L2.Th

set_option Elab.async false
set_option linter.all false
set_option maxRecDepth 100000
set_option maxHeartbeats 4000000
/-! Layer P: tuple(reversed(x)), list(reversed(x)) of a list or a tuple. -/
namespace L2.Th
open PySem PySem.Spec PyProof.Rows
theorem nolen_rt : typeLookup (.type "reversed") "__len__" = pure none := by rw [typeLookup_type, builtinLookup_eq_fast]; kernel_rfl
theorem hint_rt : typeLookup (.type "reversed") "__length_hint__" = pure (some (.builtin "reversed.__length_hint__")) := by rw [typeLookup_type, builtinLookup_eq_fast]; kernel_rfl
theorem slot_rt_hint : Slot "reversed" "__length_hint__" "reversed.__length_hint__" :=
  .of (owner := "reversed") (n := "__length_hint__") (by rw [typeLookup_type, builtinLookup_eq_fast]; kernel_rfl) (by decide +kernel) (by decide +kernel) (by decide +kernel)
    (by first | exact .inl (by decide +kernel) | exact .inr (by decide +kernel)) (by rw [isSubtype_type]; kernel_rfl)
theorem entry_rt_hint : entryFor table "reversed.__length_hint__" = some Builtin.«reversed.__length_hint__» := entryFor_of_tree (by kernel_rfl)
theorem args_rt_hint (a : Value) : argsOk "reversed.__length_hint__" ⟨[a], []⟩ := by
  unfold argsOk; rw [signature?_of (id := "reversed.__length_hint__") (n := ['_', '_', 't', 'n', 'i', 'h', '_', 'h', 't', 'g', 'n', 'e', 'l', '_', '_']) (o := ['d', 'e', 's', 'r', 'e', 'v', 'e', 'r']) (by kernel_rfl) RT.owner_rt]; kernel_rfl
theorem bind_rt_hint (self : Value) : bindSpecial (.builtin "reversed.__length_hint__") self = pure (.builtin "reversed.__length_hint__", [self]) := by
  first
    | kernel_rfl
    | (unfold bindSpecial; kernel_rfl)
    | rfl
section
variable {prog : Program} {w : World} {A : Around} {E : Value → Shared → Prop} {s : Shared} {I : Addr} {fp wr : List Addr} {n : Nat} {P : Nat → Value → Prop} {St : Nat → Heap → Prop} {T : String}
theorem hint_lri {Q : Bool → Shared → Prop} (hT : s.TypeIs (.ref I) "list_reverseiterator") (h : Q false s) : wpAny (model prog w) A (Builtin.List.listLengthHint (.ref I)) Q E s := by
  unfold Builtin.List.listLengthHint
  refine wpAny_bind (wpAny_specialOf hT RT.nolen_lri ?_)
  show wpAny _ A (specialOf (Value.ref I) (Str.ofString "__length_hint__") >>= _) _ _ _
  refine wpAny_bind (wpAny_specialOf hT RT.hint_lri ?_)
  generalize hid : ("list_reverseiterator.__length_hint__" : String) = id0
  wp_delta
  rw [show splitId id0 = some ("list_reverseiterator", "__length_hint__") from by subst hid; decide +kernel]
  subst hid
  refine wpAny_bind (wpAny_isInstance (b := true) hT (by rw [isSubtype_type]; kernel_rfl) ?_)
  exact wpAny_pure h
theorem hint_rtu {Q : Bool → Shared → Prop} {t : Addr} {its : Array Value} (hit : RT.IsRt s.heap I t ((its.size : Int) - 1)) (ht : IsTup s.heap t its) (hn : its.size ≤ 16777216) (h : ∀ b tk, Q b { s with toks := tk }) : wpAny (model prog w) A (Builtin.List.listLengthHint (.ref I)) Q E s := by
  have hT := RT.IsRt.typeIs hit
  obtain ⟨o, ho, hc, hd⟩ := id hit
  unfold Builtin.List.listLengthHint
  refine wpAny_bind (wpAny_specialOf hT nolen_rt ?_)
  show wpAny _ A (specialOf (Value.ref I) (Str.ofString "__length_hint__") >>= _) _ _ _
  refine wpAny_bind (wpAny_specialOf hT hint_rt ?_)
  generalize hid : ("reversed.__length_hint__" : String) = id0
  wp_delta
  rw [show splitId id0 = some ("reversed", "__length_hint__") from by subst hid; decide +kernel]
  subst hid
  refine wpAny_bind (wpAny_isInstance (b := true) hT (by rw [isSubtype_type]; kernel_rfl) ?_)
  rw [if_neg (by decide)]
  try dsimp only
  rw [if_neg (by decide +kernel)]
  refine wpAny_bind (wpAny_rule ?_)
  refine wpAny_bind (wpAny_of_eq (bind_rt_hint _) ?_)
  try dsimp only
  refine wpAny_bind (wpAny_attempt (wpAny_call_entry slot_rt_hint hT entry_rt_hint ?_ (args_rt_hint _)))
  unfold Builtin.«reversed.__length_hint__»
  refine wpAny_bind (wpAny_of_eq (a := Value.ref I) rfl ?_)
  try dsimp only
  refine wpAny_bind (wpAny_field ho hd (x := .ref t) rfl ?_)
  show wpAny _ _ (if (Value.ref t == Value.none) = true then _ else _) _ _ s
  rw [if_neg (show ¬ ((Value.ref t == Value.none) = true) from Bool.false_ne_true)]
  refine wpAny_bind (len_tuple ht (by omega) ?_)
  refine wpAny_bind (m := asInt? _) (wpAny_pure ?_)
  try dsimp only
  refine wpAny_bind (wpAny_field (s := { s with toks := s.toks + 1 + 1 }) ho hd (x := rawInt ((its.size : Int) - 1)) rfl ?_)
  show wpAny _ _ (if (its.size : Int) < (its.size : Int) - 1 + 1 then _ else _) _ _ _
  rw [if_neg (by omega)]
  have e1 : (its.size : Int) - 1 + 1 = its.size := by omega
  rw [e1]
  unfold retInt
  refine wpAny_bind (wpAny_mkInt ?_)
  refine wpAny_pure ⟨.int its.size (s.toks + 1 + 1), rfl, ?_⟩
  have f1 : Builtin.List.listFitsIndex (its.size : Int) = true := by
    unfold Builtin.List.listFitsIndex
    rw [Bool.and_eq_true, decide_eq_true_eq, decide_eq_true_eq]; omega
  have f2 : Builtin.List.listTooLong ((its.size : Int).toNat) = false := by
    unfold Builtin.List.listTooLong
    rw [Int.toNat_natCast, decide_eq_false_iff_not, sizeLine_eq]; omega
  generalize its.size = sz at f1 f2
  have ea : ∀ t : Tok, asInt? (.int (sz : Int) t) = pure (some (sz : Int)) := fun t => rfl
  show wpAny _ _ (asInt? (.int (sz : Int) (s.toks + 1 + 1)) >>= _) _ _ _
  rw [ea, pure_bind]
  try dsimp only
  have f3 : ¬ ((sz : Int) < 0) := by omega
  simp only [f1, f2, f3, Bool.not_true, Bool.false_eq_true, if_false]
  exact wpAny_pure (h _ _)
/-- what is asked of an iterator that is gathered into a list -/
structure Gath (prog : Program) (w : World) (A : Around) (T : String) (I : Addr) (fp wr : List Addr) (n : Nat) (P : Nat → Value → Prop) (St : Nat → Heap → Prop) : Prop where
  W : ∀ A : Around, A.handled = none → Walks prog w A I fp wr n P St
  ty : ∀ i (s : Shared), St i s.heap → s.TypeIs (.ref I) T
  no : (Value.type T == Value.type "list") = false ∧ (Value.type T == Value.type "tuple") = false
  hint : ∀ (A : Around) (s : Shared) (Q : Bool → Shared → Prop) (E : Value → Shared → Prop), St 0 s.heap → (∀ b tk, Q b { s with toks := tk }) → wpAny (model prog w) A (Builtin.List.listLengthHint (.ref I)) Q E s
  sz : n ≤ sizeLine
  mem : I ∈ fp
theorem Gath.extend (Gt : Gath prog w A T I fp wr n P St) (hh : A.handled = none) {R : Result → Shared → Prop} (S : Addr) (res : Value) (c₀ : Nat) (hSf : S ∉ fp) (hst : St 0 s.heap)
    (hS : s.heap.get? S = some { cls := .type "list", data := .seq #[] c₀ })
    (hR : ∀ h' tk acc' c', (∀ b o, b ≠ S → b ∉ wr → s.heap.get? b = some o → h'.get? b = some o) → h'.get? S = some { cls := .type "list", dict := none, data := .seq acc' c', slots := #[] } →
      ItemsOf P acc' n → R (.ok (.ret res)) { s with heap := h', toks := tk }) :
    wpAny (model prog w) A.in1 (Builtin.List.listExtendWith (.ref S) (.ref I) res)
      (fun fin s' => match fin with | .done f => R (.ok f) s' | .again c' => c'.quiet = true ∧ codeAny (model prog w) A c' R s') (fun e s' => R (.error e) s') s := by
  have hSI : S ≠ I := fun e => hSf (by rw [e]; exact Gt.mem)
  have h1 : Builtin.List.listSameRef (.ref S) (.ref I) = false := by simp [Builtin.List.listSameRef, hSI]
  have W := Gt.W A.in1 hh
  have hfr : ∀ (h' : Heap), (∀ b o, b ≠ S → s.heap.get? b = some o → h'.get? b = some o) → St 0 h' := fun h' k => W.frame 0 s.heap _ hst fun b hb o e => k b o (fun z => hSf (by rw [← z]; exact hb)) e
  have key : ∀ (h : Heap) (c₁ tk : Nat), (∀ b o, b ≠ S → s.heap.get? b = some o → h.get? b = some o) → h.get? S = some { cls := .type "list", data := .seq #[] c₁ } →
      codeAny (model prog w) A (.builtin "list.extend.loop" ⟨[.ref S, .ref I, res], []⟩) R { s with heap := h, toks := tk } := by
    intro h c₁ tk hk hS₁
    refine codeAny_extend_loopS W.toS Gt.sz S hSf res n 0 _ #[] c₁ rfl (Nat.zero_le _) (hfr h hk) hS₁ (ItemsOf.nil _) fun s' acc' c' hm hS' hacc => ?_
    rw [Moved.eq_with hm]
    exact hR s'.heap s'.toks acc' c' (fun b o hb hw e => hm.heap b o (fun hmem => (List.mem_cons.mp hmem).elim hb hw) (hk b o hb e)) hS' hacc
  unfold Builtin.List.listExtendWith
  refine wpAny_bind (wpAny_typeOf (Gt.ty 0 s hst) ?_)
  simp only [h1, Gt.no.1, Gt.no.2, Bool.or_false, Bool.false_eq_true, if_false]
  refine wpAny_bind (W.self 0 s _ _ hst ?_)
  refine wpAny_bind (wpAny_holding (Gt.hint _ s _ _ hst fun b tk => ?_))
  refine wpAny_ite_split (fun _ => ?_) (fun _ => wpAny_pure ⟨plainId_quiet F.plain_extend_loop _, key _ c₀ _ (fun b o _ e => e) hS⟩)
  refine wpAny_bind (wpAny_rule ?_)
  refine wpAny_bind ?_
  show wpAny _ _ (updateSeq S (·.push .none) >>= fun _ => updateSeq S (·.pop)) _ _ _
  refine wpAny_bind (wpAny_updateSeq hS rfl ?_)
  have hS₂ := Heap.get?_update_self (Obj.mapSeq (·.push Value.none)) hS rfl
  refine wpAny_updateSeq (hz := by seq_fits) hS₂ rfl ?_
  have hS₃ := Heap.get?_update_self (Obj.mapSeq (·.pop)) hS₂ rfl
  exact wpAny_pure ⟨plainId_quiet F.plain_extend_loop _, key _ _ _ (fun b o hb e => (Heap.get?_update_other _ _ (Ne.symm hb)).trans ((Heap.get?_update_other _ _ (Ne.symm hb)).trans e)) hS₃⟩
theorem Gath.initL (Gt : Gath prog w A T I fp wr n P St) (hh : A.handled = none) {R : Result → Shared → Prop} (S : Addr) (hSf : S ∉ fp) (hst : St 0 s.heap)
    (hS : s.heap.get? S = some { cls := .type "list", data := .seq #[] })
    (hR : ∀ h' tk acc' c', (∀ b o, b ≠ S → b ∉ wr → s.heap.get? b = some o → h'.get? b = some o) → h'.get? S = some { cls := .type "list", dict := none, data := .seq acc' c', slots := #[] } →
      ItemsOf P acc' n → R (.ok (.ret .none)) { s with heap := h', toks := tk }) :
    wpAny (model prog w) A.in1 (Builtin.«list.__init__» ⟨[.ref S, .ref I], []⟩)
      (fun fin s' => match fin with | .done f => R (.ok f) s' | .again c' => c'.quiet = true ∧ codeAny (model prog w) A c' R s') (fun e s' => R (.error e) s') s := by
  show wpAny _ _ (do let old ← Builtin.List.listItems (.ref S); Builtin.List.listUpdate (.ref S) (fun _ => #[]); letGo old.toList.reverse; Builtin.List.listExtendWith (.ref S) (.ref I) .none) _ _ s
  refine wpAny_bind ?_
  unfold Builtin.List.listItems
  refine wpAny_bind (wpAny_seqItems hS rfl (wpAny_pure ?_))
  show wpAny _ _ (updateSeq S (fun _ => #[]) >>= fun _ => letGo (#[] : Array Value).toList.reverse >>= fun _ => Builtin.List.listExtendWith (.ref S) (.ref I) .none) _ _ s
  refine wpAny_bind (wpAny_updateSeq hS rfl ?_)
  have hS₂ := Heap.get?_update_self (Obj.mapSeq (fun _ => (#[] : Array Value))) hS rfl
  have oth : ∀ b o, b ≠ S → s.heap.get? b = some o → (s.heap.update S (Obj.mapSeq (fun _ => (#[] : Array Value)))).get? b = some o :=
    fun b o hb e => (Heap.get?_update_other _ _ (Ne.symm hb)).trans e
  refine wpAny_bind (wpAny_letGo ?_)
  refine Gt.extend hh S .none _ hSf ((Gt.W A hh).frame 0 s.heap _ hst fun b hb o e => oth b o (fun z => hSf (by rw [← z]; exact hb)) e) hS₂ fun h' tk acc' c' hk hS' hacc => ?_
  exact hR h' tk acc' c' (fun b o hb hw e => hk b o hb hw (oth b o hb e)) hS' hacc
/-- list(it) -/
theorem Gath.list (Gt : Gath prog w A T I fp wr n P St) (hh : A.handled = none) {Q : Value → Shared → Prop} (hfp : ∀ b ∈ fp, b < s.heap.objs.size) (hst : St 0 s.heap)
    (hQ : ∀ h' tk acc' c', (∀ b o, b ∉ wr → s.heap.get? b = some o → h'.get? b = some o) → h'.get? s.heap.objs.size = some { cls := .type "list", dict := none, data := .seq acc' c', slots := #[] } → ItemsOf P acc' n → Q (.ref s.heap.objs.size) { s with heap := h', toks := tk }) :
    wpAny (model prog w) A (call (.type "list") [.ref I]) Q E s := by
  refine callType_codes (Q₁ := fun obj s₁ => obj = .ref s.heap.objs.size ∧ s₁ = { s with heap := s.heap.push { cls := .type "list", data := .seq #[] } }) F.called_list (F.typeCall_list_1 _) F.entry_list_init
    (code_list_new _ ⟨rfl, rfl⟩) fun obj s₁ h₁ => ?_
  obtain ⟨rfl, rfl⟩ := h₁
  have hS : (s.heap.push { cls := .type "list", data := .seq #[] }).get? s.heap.objs.size = some { cls := .type "list", data := .seq #[] } := Heap.get?_push_size _ rfl
  have Gt1 : Gath prog w A.in1 T I fp wr n P St := ⟨Gt.W, Gt.ty, Gt.no, Gt.hint, Gt.sz, Gt.mem⟩
  refine ⟨⟨_, hS, rfl⟩, F.args_list_init_2 _ _, Gt1.initL hh _ (fun z => Nat.lt_irrefl _ (hfp _ z)) ((Gt.W A hh).frame 0 s.heap _ hst fun b hb o e => Heap.get?_push_of_some _ e) hS fun h' tk acc' c' hk hS' hacc => ?_⟩
  exact ⟨rfl, hQ h' tk acc' c' (fun b o hw e => hk b o (Nat.ne_of_lt (Heap.lt_size e)) hw (Heap.get?_push_of_some _ e)) hS' hacc⟩
theorem Gath.iadd (Gt : Gath prog w A T I fp wr n P St) (hh : A.handled = none) {R : Result → Shared → Prop} (S : Addr) (c₀ : Nat) (hSf : S ∉ fp) (hst : St 0 s.heap)
    (hS : s.heap.get? S = some { cls := .type "list", data := .seq #[] c₀ })
    (hR : ∀ h' tk acc' c', (∀ b o, b ≠ S → b ∉ wr → s.heap.get? b = some o → h'.get? b = some o) → h'.get? S = some { cls := .type "list", dict := none, data := .seq acc' c', slots := #[] } →
      ItemsOf P acc' n → R (.ok (.ret (.ref S))) { s with heap := h', toks := tk }) : codeAny (model prog w) A (.builtin "list.__iadd__" ⟨[.ref S, .ref I], []⟩) R s := by
  refine codeAny_builtin F.entry_list_iadd ?_
  rw [Around.under_plainId F.plain_list_iadd _]
  show wpAny _ A.in1 (Builtin.List.listExtendWith (.ref S) (.ref I) (.ref S)) _ _ _
  exact Gt.extend hh S (.ref S) c₀ hSf hst hS hR
theorem Gath.collect (Gt : Gath prog w A T I fp wr n P St) (hh : A.handled = none) {Q : List Value → Shared → Prop} (hfp : ∀ b ∈ fp, b < s.heap.objs.size) (hst : St 0 s.heap)
    (hQ : ∀ h' tk (acc : Array Value), (∀ b o, b ∉ wr → s.heap.get? b = some o → h'.get? b = some o) → ItemsOf P acc n → Q acc.toList { s with heap := h', toks := tk }) :
    wpAny (model prog w) A (PySem.collect (.ref I)) Q E s := by
  unfold PySem.collect
  refine wpAny_bind (wpAny_runValue (codeAny_builtin F.entry_proto_collect ?_))
  rw [Around.under_plainId F.plain_proto_collect _]
  show wpAny _ A.in1 (newList [] >>= fun l' => again (.builtin "list.__iadd__" ⟨[l', .ref I], []⟩)) _ _ s
  refine wpAny_bind (wpAny_newObj_type ?_)
  have hS₁ : (s.heap.push { cls := .type "list", data := .seq ([] : List Value).toArray }).get? s.heap.objs.size = some { cls := .type "list", data := .seq ([] : List Value).toArray } := Heap.get?_push_size _ rfl
  refine wpAny_pure ⟨plainId_quiet F.plain_list_iadd _, Gt.iadd (s := { s with heap := s.heap.push { cls := .type "list", data := .seq ([] : List Value).toArray } }) hh _ _ (fun z => Nat.lt_irrefl _ (hfp _ z)) ((Gt.W A hh).frame 0 s.heap _ hst fun b hb o e => Heap.get?_push_of_some _ e) hS₁ fun h' tk acc' c' hk hS' hacc => ?_⟩
  show wpAny _ A (load s.heap.objs.size >>= _) _ _ _
  refine wpAny_bind (wpAny_load hS' ?_)
  refine wpAny_pure ?_
  exact hQ h' tk acc' (fun b o hw e => hk b o (Nat.ne_of_lt (Heap.lt_size e)) hw (Heap.get?_push_of_some _ e)) hacc
theorem Gath.tupleNew (Gt : Gath prog w A T I fp wr n P St) (hh : A.handled = none) {Q₁ : Value → Shared → Prop} (hfp : ∀ b ∈ fp, b < s.heap.objs.size) (hst : St 0 s.heap)
    (h : ∀ (h' : Heap) (tk : Nat) (acc : Array Value), (∀ b o, b ∉ wr → s.heap.get? b = some o → h'.get? b = some o) → ItemsOf P acc n → Q₁ (.ref h'.objs.size) { s with heap := h'.push { cls := .type "tuple", data := .seq acc }, toks := tk }) :
    codeAny (model prog w) A (.call (.builtin "tuple.__new__") ⟨[.type "tuple", .ref I], []⟩) (wants Q₁ E) s := by
  refine codeAny_of_tree ?_
  show wpAny _ A.in1 (do checkBuiltinCall "tuple.__new__" ⟨[.type "tuple", .ref I], []⟩; again (.builtin "tuple.__new__" ⟨[.type "tuple", .ref I], []⟩)) _ _ s
  refine wpAny_bind (wpAny_of_eq (F.newCall_tuple_1 _) (wpAny_pure ⟨plainId_quiet F.plain_tuple_new _, codeAny_builtin F.entry_tuple_new ?_⟩))
  rw [Around.under_plainId F.plain_tuple_new _]
  have hsub := sub_tuple_self
  have hinit := init_tuple_lookup
  have hmh := madeHere_tuple
  have hTI := Gt.ty 0 s hst
  have hne := Gt.no.2
  have Gt1 : Gath prog w A.in1 T I fp wr n P St := ⟨Gt.W, Gt.ty, Gt.no, Gt.hint, Gt.sz, Gt.mem⟩
  have hcol := fun (Q : List Value → Shared → Prop) (E : Value → Shared → Prop) => Gt1.collect (E := E) (Q := Q) hh hfp hst
  wp_walk using wpAny_typeOf hTI, hcol
  intro h' tk acc hk hacc
  show wpAny _ _ (Builtin.Tuple.tupleExact acc.toList.toArray >>= fun v => ret v) _ _ _
  unfold Builtin.Tuple.tupleExact
  refine wpAny_bind (wpAny_newObj_type ?_ (by show acc.toList.toArray.size ≤ sizeLine; simp only [Array.toArray_toList]; rw [hacc.1]; exact Gt.sz))
  refine wpAny_pure ?_
  have e : acc.toList.toArray = acc := by simp
  rw [e]
  exact h h' tk acc hk hacc
/-- tuple(it) -/
theorem Gath.tuple (Gt : Gath prog w A T I fp wr n P St) (hh : A.handled = none) {Q : Value → Shared → Prop} (hfp : ∀ b ∈ fp, b < s.heap.objs.size) (hst : St 0 s.heap)
    (hQ : ∀ (h' : Heap) (tk : Nat) (acc : Array Value), (∀ b o, b ∉ wr → s.heap.get? b = some o → h'.get? b = some o) → ItemsOf P acc n → Q (.ref h'.objs.size) { s with heap := h'.push { cls := .type "tuple", data := .seq acc }, toks := tk }) :
    wpAny (model prog w) A (call (.type "tuple") [.ref I]) Q E s := by
  have Gt1 : Gath prog w A.in1 T I fp wr n P St := ⟨Gt.W, Gt.ty, Gt.no, Gt.hint, Gt.sz, Gt.mem⟩
  refine callType_codes (Q₁ := fun obj s₁ => s₁.TypeIs obj "tuple" ∧ Q obj s₁) F.called_tuple (F.typeCall_tuple_1 _) F.entry_object_init
    (Gt1.tupleNew hh hfp hst fun h' tk acc hk hacc => ⟨⟨_, Heap.get?_push_size _ rfl, rfl⟩, hQ h' tk acc hk hacc⟩) fun obj s₁ h₁ => ?_
  exact ⟨h₁.1, F.args_object_init_2 obj _, object_init_meets F.called_tuple.init.lookup F.called_tuple.made (by decide) prog w A.in1 _ s₁ ⟨h₁.1, rfl, h₁.2⟩⟩
/-- reversed(list), reversed(tuple) as such iterators -/
theorem gath_lri {l : Addr} {items : Array Value} (hne : l ≠ I) (hn : items.size ≤ sizeLine) :
    Gath prog w A "list_reverseiterator" I [I, l] [I] items.size (fun i v => items[items.size - 1 - i]? = some v) (fun i h => i ≤ items.size ∧ h.IsRevIter I l ((items.size : Int) - 1 - (i : Int)) ∧ h.IsList l items) where
  W := fun A hh => Walks.listRev hh I l hne items
  ty := fun i s x => Heap.IsRevIter.typeIs x.2.1
  no := ⟨by decide, by decide⟩
  hint := fun A s Q E x hQ => hint_lri (Heap.IsRevIter.typeIs x.2.1) (hQ false s.toks)
  sz := hn
  mem := by simp
theorem walks_rt (hh : A.handled = none) {l : Addr} {items : Array Value} (hne : l ≠ I) (hn : items.size ≤ sizeLine) :
    Walks prog w A I [I, l] [I] items.size (fun i v => items[items.size - 1 - i]? = some v) (fun i h => i ≤ items.size ∧ RT.IsRt h I l ((items.size : Int) - 1 - (i : Int)) ∧ IsTup h l items) where
  sub := fun b hb => by simp at hb; simp [hb]
  frame := fun _ _ _ x hk => ⟨x.1, x.2.1.at fun o e => hk I (by simp) o e, let ⟨o, e, r⟩ := x.2.2; ⟨o, hk l (by simp) o e, r⟩⟩
  item := fun i s Q E hi x hQ => by
    have e : (items.size : Int) - 1 - (i : Int) = ((items.size - 1 - i : Nat) : Int) := by omega
    have hit := x.2.1
    rw [e] at hit
    have hx : items[items.size - 1 - i]? = some (items[items.size - 1 - i]'(by omega)) := Array.getElem?_eq_getElem (by omega)
    refine RT.next_rt_item hit x.2.2 hx hn fun h' hit' hs' => ?_
    have e2 : ((items.size - 1 - i : Nat) : Int) - 1 = (items.size : Int) - 1 - ((i + 1 : Nat) : Int) := by omega
    rw [e2] at hit'
    exact hQ _ h' _ hx ⟨hi, hit', let ⟨o, eo, r⟩ := x.2.2; ⟨o, (hs'.2 l hne).trans eo, r⟩⟩ fun b o hb eo => hs'.extBut b o (fun h => hb (by simp [h])) eo
  done := fun s Q E x hQ => by
    have e : (items.size : Int) - 1 - (items.size : Int) = -1 := by omega
    have hit := x.2.1
    rw [e] at hit
    exact RT.next_rt_end hh hit fun h' he' => hQ h' s.toks fun b o hb eo => he' b o (fun h => hb (by simp [h])) eo
  self := fun _ _ _ _ x hQ => RT.iter_rt x.2.1 hQ
theorem gath_rt {l : Addr} {items : Array Value} (hne : l ≠ I) (hn : items.size ≤ sizeLine) :
    Gath prog w A "reversed" I [I, l] [I] items.size (fun i v => items[items.size - 1 - i]? = some v) (fun i h => i ≤ items.size ∧ RT.IsRt h I l ((items.size : Int) - 1 - (i : Int)) ∧ IsTup h l items) where
  W := fun A hh => walks_rt hh hne hn
  ty := fun i s x => RT.IsRt.typeIs x.2.1
  no := ⟨by decide, by decide⟩
  hint := fun A s Q E x hQ => hint_rtu (by have := x.2.1; simpa using this) x.2.2 (by rw [← sizeLine_eq]; exact hn) hQ
  sz := hn
  mem := by simp
end
section
variable {X : Cx} {pins : List (Addr × Obj)} {σ : St} {H1 : Hp} {s1 : Shared} {E : Value → Shared → Prop}
/-- reversed(x): its iterator -/
theorem rev_make {a : Addr} {xs : List V} {Q : Value → Shared → Prop} (I1 : Inv X pins σ H1 s1) (hq : SqL X.K H1 a xs ∨ SqT X.K H1 a xs)
    (h : ∀ (it : Addr) (s2 : Shared) (T : String) (fp : List Addr) (P : Nat → Value → Prop) (St : Nat → Heap → Prop), Inv X pins σ H1 s2 → Gath X.prog X.w X.A T it fp [it] xs.length P St → St 0 s2.heap → (∀ b ∈ fp, b < s2.heap.objs.size) → FpOk X pins H1 it →
      (∀ acc, ItemsOf P acc xs.length → Vals xs.reverse acc.toList) → xs.length ≤ sizeLine → Q (.ref it) s2) : wpAny (model X.prog X.w) X.A (call (.type "reversed") [.ref a]) Q E s1 := by
  have hfp := I1.fpOk (H' := H1) (b := s1.heap.objs.size) (Nat.le_refl _) (I1.hok.fresh (Nat.le_refl _))
  rcases hq with hq | hq
  · obtain ⟨its, rv, p', hz⟩ := I1.list hq
    have e1 : its.toArray.size = xs.length := by rw [List.size_toArray, ← rv.length]
    refine call_reversed_list p'.isList ?_
    have hl := p'.isList
    obtain ⟨ol, hol, _⟩ := id hl
    have hne : a ≠ s1.heap.objs.size := Nat.ne_of_lt (Heap.lt_size hol)
    have k0 : ∀ b o, s1.heap.get? b = some o → (s1.heap.push (revObj a ((its.toArray.size : Int) - 1))).get? b = some o := fun b o e => Heap.get?_push_of_some _ e
    have G := gath_lri (prog := X.prog) (w := X.w) (A := X.A) (items := its.toArray) hne (by rw [e1]; exact hz)
    rw [e1] at G
    refine h _ _ _ _ _ _ (I1.kept (t' := s1.toks) k0) G ⟨Nat.zero_le _, ?_, hl.push _⟩ (fun b hb => ?_) hfp (fun acc hi => RT.vals_rev rv (by rw [e1]; exact hi)) hz
    · rw [← e1]
      have z : (its.toArray.size : Int) - 1 - ((0 : Nat) : Int) = (its.toArray.size : Int) - 1 := by omega
      rw [z]
      exact ⟨_, Heap.get?_push_size _ rfl, rfl, rfl⟩
    · show b < (s1.heap.push _).objs.size
      rw [Heap.size_push]
      simp only [List.mem_cons, List.not_mem_nil, or_false] at hb
      rcases hb with rfl | rfl
      · exact Nat.lt_succ_self _
      · exact Nat.lt_succ_of_lt (Heap.lt_size hol)
  · obtain ⟨its, rv, p', hz⟩ := I1.tuple hq
    have e1 : its.toArray.size = xs.length := by rw [List.size_toArray, ← rv.length]
    have hz' : its.toArray.size ≤ 16777216 := by rw [e1, ← sizeLine_eq]; exact hz
    refine RT.call_reversed_tup p' (fun A E Q k => len_tuple p' (by omega) k) ?_
    obtain ⟨ol, hol, hr⟩ := id p'
    have hne : a ≠ s1.heap.objs.size := Nat.ne_of_lt (Heap.lt_size hol)
    have k0 : ∀ b o, s1.heap.get? b = some o → (s1.heap.push (RT.rtObj a ((its.toArray.size : Int) - 1))).get? b = some o := fun b o e => Heap.get?_push_of_some _ e
    have G := gath_rt (prog := X.prog) (w := X.w) (A := X.A) (items := its.toArray) hne (by rw [e1]; exact hz)
    rw [e1] at G
    refine h _ _ _ _ _ _ (I1.kept (t' := s1.toks + 1 + 1) k0) G ⟨Nat.zero_le _, ?_, ⟨ol, k0 _ _ hol, hr⟩⟩ (fun b hb => ?_) hfp (fun acc hi => RT.vals_rev rv (by rw [e1]; exact hi)) hz
    · rw [← e1]
      have z : (its.toArray.size : Int) - 1 - ((0 : Nat) : Int) = (its.toArray.size : Int) - 1 := by omega
      rw [z]
      exact ⟨_, Heap.get?_push_size _ rfl, rfl, rfl⟩
    · show b < (s1.heap.push _).objs.size
      rw [Heap.size_push]
      simp only [List.mem_cons, List.not_mem_nil, or_false] at hb
      rcases hb with rfl | rfl
      · exact Nat.lt_succ_self _
      · exact Nat.lt_succ_of_lt (Heap.lt_size hol)
end
section
variable {X : Cx} {pins : List (Addr × Obj)} {σ : St} {H : Hp} {s : Shared}
/-- an object of ours that stands untracked is tracked from now on -/
theorem _root_.L2.Inv.track {a : Addr} {o : HO} (I : Inv X pins σ H s) (hn : H a = none) (h0 : X.s_0.heap.objs.size ≤ a) (hL : a ≠ X.env.locals) (hC : ∀ x c, X.env.cells.lookup x = some c → c ≠ a) (hp : ∀ p ∈ X.pn ++ pins, p.1 ≠ a)
    (new : ObjOk X.prog X.w (upd H a o) s.heap a o) : Inv X pins σ (upd H a o) s := by
  refine ⟨I.ok, I.os, I.bare, ⟨I.base.keep, I.base.slot, fun b ob e n hx => ?_, I.base.there, fun b xs e => ?_, fun b ob u e => ?_, fun b ps e => ?_⟩, I.loc, I.cell, ?_, fun x c e => ?_, fun p hp' => ?_, fun b u e => ?_, I.len⟩
  · rw [upd_ne (Nat.ne_of_lt (Nat.lt_of_lt_of_le (Heap.lt_size e) h0))]
    exact I.base.free b ob e n hx
  · have := I.base.tups b xs e
    rw [upd_ne (ne_of_none this hn)]; exact this
  · have := I.base.frzs b ob u e
    rw [upd_ne (ne_of_none this hn)]; exact this
  · obtain ⟨m, this⟩ := I.base.tbls b ps e
    exact ⟨m, by rw [upd_ne (ne_of_none this hn)]; exact this⟩
  · rw [upd_ne (Ne.symm hL)]; exact I.free
  · rw [upd_ne (hC x c e)]; exact I.freeC x c e
  · obtain ⟨h1, h2, h3⟩ := I.pin p hp'
    exact ⟨h1, by rw [upd_ne (hp p hp')]; exact h2, h3⟩
  · by_cases hb : b = a
    · subst hb; rw [upd_same] at e; cases e; exact new
    · rw [upd_ne hb] at e
      exact (I.hok b u e).stay (fun c v _ q => q) (fun c q => by rw [upd_ne (ne_of_none q hn)]; exact q) fun c xs q => by rw [upd_ne (ne_of_none q hn)]; exact q
end
/-- tuple(reversed(x)), list(reversed(x)) -/
def cTupRev (c : Code) : Code := fun env S => do
  let d ← c env S
  let xs ← opt (asSeq S d)
  .ok (.tup xs.reverse)
def cLstRev (c : Code) : Code := fun env S => do
  let d ← c env S
  let xs ← opt (asSeq S d)
  .ok (.lst xs.reverse)
section
variable {X : Cx} {Γ : Gx} {W : WX} {e : Expr} {ce : Code} {p p2 pos pos2 : Pos}
theorem pc_tupRev (hc : X.calm = true) (hg : Gl X "tuple") (hm : X.mg "tuple" = none) (hg2 : Gl X "reversed") (hm2 : X.mg "reversed" = none) (he : PEc X Γ W e ce)
    (hs : starEach [e] X.env = (false, eval e X.env) :: starEach [] X.env := by rfl)
    (hs2 : starEach [.Call (.Name "reversed" p2) [e] [] pos2] X.env = (false, eval (.Call (.Name "reversed" p2) [e] [] pos2) X.env) :: starEach [] X.env := by rfl) :
    PEc X Γ W (.Call (.Name "tuple" p) [.Call (.Name "reversed" p2) [e] [] pos2] [] pos) (cTupRev ce) := by
  refine ⟨fun pins s σ H Q I ⟨M, ρ, env, S, a, h⟩ => ?_⟩
  refine Call_ (ld_blt I hg hm boot_tuple (PyProof.Rows.callWith_type1 (args_cons (Call_ (ld_blt I hg2 hm2 PyProof.Rows.boot_reversed (PyProof.Rows.callWith_type1 (args_cons (thn (he.run pins s σ H _ I (tE_step (Q := fun v H1 => ∃ (ad : Addr) (vs : List V) (ds : List D), v = .ref ad ∧ (SqL X.K H1 ad vs ∨ SqT X.K H1 ad vs) ∧ RelDs X.K Γ.cl M ρ H1 ds vs ∧ LamX.ExtN H H1 ∧ TabsOk Γ H1 ∧ Wld X.K Γ M ρ S H1 ∧ ∀ v H', LamX.ExtN H H' → TabsOk Γ H' → RelD X.K Γ.cl M ρ H' (.tup ds.reverse) v → Q v H') a (Res.sat_bind h) fun d v H1 hd x t a1 r => ?_)) fun u s1 ⟨v, H1, I1, r1, q1⟩ => args_nil ?_) hs) hs rfl))) hs2) hs2 rfl))
  · obtain ⟨xs, e1, hd⟩ := sat_opt hd
    obtain ⟨ad, vs, e2, h1, h2⟩ := asSeq_rel a1.w r e1
    exact ⟨ad, vs, xs, e2, h1, h2, x, t, a1.w, hd⟩
  · obtain ⟨ad, vs, ds, rfl, hq, rd, x, t, w1, q⟩ := q1
    obtain rfl : u = Value.ref ad := r1
    refine rev_make I1 hq fun it s2 T fp P St I2 G st2 hfp f hv hz => args_nil ?_
    refine G.tuple (I2.ok.hd hc) hfp st2 fun h' tk acc hk hi => ?_
    obtain ⟨f0, f1, f2, f3, f4, f5⟩ := f
    have I3 : Inv X pins σ H1 { s2 with heap := h', toks := tk } := I2.turned (t' := tk) (fun b o hb e => hk b o (by simpa using hb) e) f0 f1 f3 f4 f5
    have hn := I3.hok.fresh (Nat.le_refl _)
    refine ⟨.ref h'.objs.size, upd H1 h'.objs.size (.tup vs.reverse), I3.laid (t' := tk) (fun c o e => Heap.get?_push_of_some _ e) (Nat.le_refl _) (show ObjOk X.prog X.w _ _ _ (.tup vs.reverse) from ⟨by rw [List.length_reverse]; exact hz, acc.toList, hv acc hi, ?_⟩), rfl, q _ _ (x.trans (ext_new hn)) (tabs_new t hn) (new_tup w1 rd.reverse hn)⟩
    rw [Array.toArray_toList]
    exact IsTup.new _ _
theorem pc_lstRev (hc : X.calm = true) (hg : Gl X "list") (hm : X.mg "list" = none) (hg2 : Gl X "reversed") (hm2 : X.mg "reversed" = none) (he : PEc X Γ W e ce)
    (hs : starEach [e] X.env = (false, eval e X.env) :: starEach [] X.env := by rfl)
    (hs2 : starEach [.Call (.Name "reversed" p2) [e] [] pos2] X.env = (false, eval (.Call (.Name "reversed" p2) [e] [] pos2) X.env) :: starEach [] X.env := by rfl) :
    PEc X Γ W (.Call (.Name "list" p) [.Call (.Name "reversed" p2) [e] [] pos2] [] pos) (cLstRev ce) := by
  refine ⟨fun pins s σ H Q I ⟨M, ρ, env, S, a, h⟩ => ?_⟩
  refine Call_ (ld_blt I hg hm boot_list (PyProof.Rows.callWith_type1 (args_cons (Call_ (ld_blt I hg2 hm2 PyProof.Rows.boot_reversed (PyProof.Rows.callWith_type1 (args_cons (thn (he.run pins s σ H _ I (tE_step (Q := fun v H1 => ∃ (ad : Addr) (vs : List V) (ds : List D), v = .ref ad ∧ (SqL X.K H1 ad vs ∨ SqT X.K H1 ad vs) ∧ RelDs X.K Γ.cl M ρ H1 ds vs ∧ LamX.ExtN H H1 ∧ TabsOk Γ H1 ∧ Wld X.K Γ M ρ S H1 ∧ ∀ v H', LamX.ExtN H H' → TabsOk Γ H' → RelD X.K Γ.cl M ρ H' (.lst ds.reverse) v → Q v H') a (Res.sat_bind h) fun d v H1 hd x t a1 r => ?_)) fun u s1 ⟨v, H1, I1, r1, q1⟩ => args_nil ?_) hs) hs rfl))) hs2) hs2 rfl))
  · obtain ⟨xs, e1, hd⟩ := sat_opt hd
    obtain ⟨ad, vs, e2, h1, h2⟩ := asSeq_rel a1.w r e1
    exact ⟨ad, vs, xs, e2, h1, h2, x, t, a1.w, hd⟩
  · obtain ⟨ad, vs, ds, rfl, hq, rd, x, t, w1, q⟩ := q1
    obtain rfl : u = Value.ref ad := r1
    refine rev_make I1 hq fun it s2 T fp P St I2 G st2 hfp f hv hz => args_nil ?_
    refine G.list (I2.ok.hd hc) hfp st2 fun h' tk acc cp hk hS hi => ?_
    obtain ⟨f0, f1, f2, f3, f4, f5⟩ := f
    have I3 : Inv X pins σ H1 { s2 with heap := h', toks := tk } := I2.turned (t' := tk) (fun b o hb e => hk b o (by simpa using hb) e) f0 f1 f3 f4 f5
    have hn : H1 s2.heap.objs.size = none := I2.hok.fresh (Nat.le_refl _)
    obtain ⟨g0, g1, g2, g3, g4, g5⟩ := I2.fpOk (b := s2.heap.objs.size) (Nat.le_refl _) hn
    have I4 : Inv X pins σ (upd H1 s2.heap.objs.size (.lst vs.reverse)) { s2 with heap := h', toks := tk } := by
      exact I3.track hn I2.sz g1 g4 g5 ⟨by rw [List.length_reverse]; exact hz, acc.toList, cp, hv acc hi, by rw [Array.toArray_toList]; exact hS⟩
    exact ⟨.ref s2.heap.objs.size, upd H1 s2.heap.objs.size (.lst vs.reverse), I4, rfl, q _ _ (x.trans (ext_new hn)) (tabs_new t hn) (new_lst w1 rd.reverse hn)⟩
end
end L2.Th

set_option Elab.async false
set_option linter.all false
set_option maxRecDepth 100000
set_option maxHeartbeats 4000000
/-! Layer Q: fresh objects, cells of the store. -/
namespace L2.Th
open PySem PySem.Spec PyProof.Rows
/-- a new object at p, known to nobody -/
def FreshAt (K : PySem.W.Frag) (Γ : Gx) (M : Addr → Prop) (ρ : List Addr) (H : Hp) (d : D) (p : Addr) : Prop := match d with
  | .lst xs => ∃ vs, H p = some (.lst vs) ∧ RelDs K Γ.cl (MD M p) ρ H xs vs
  | .dct xs => ∃ vs, H p = some (.dK vs) ∧ RelKs K Γ.cl (MD M p) ρ H xs vs
  | .ins c fs => ∃ dx vs, H p = some (.ins (Γ.cl c) dx vs) ∧ RelFs K Γ.cl (MD M p) ρ H fs vs
  | _ => False
def tEf (K : PySem.W.Frag) (Γ : Gx) (W : WX) (c : Code) : TE := fun σ H Q => ∃ M ρ env S, At K Γ M ρ env S σ H ∧
  (c env S).Sat (fun d => ∀ p H1 H', LamX.ExtN H H1 → TabsOk Γ H1 → H1 p = none → LamX.ExtN H1 H' → TabsOk Γ H' → FreshAt K Γ M ρ H' d p → Q (.ref p) H') (XW Γ W σ H)
abbrev PEf (X : Cx) (Γ : Gx) (W : WX) (e : Expr) (c : Code) : Prop := PE X e (tEf X.K Γ W c)
def cellOf : D → Option Cell
  | .lst xs => some (.lst xs)
  | .dct xs => some (.dct xs)
  | .ins c fs => some (.ins c fs)
  | _ => none
section
variable {X : Cx} {Γ : Gx} {W : WX} {K : PySem.W.Frag} {M : Addr → Prop} {ρ : List Addr} {S : Store} {H H1 H2 H' : Hp} {env : Env} {σ : St} {L p : Addr}
theorem FreshAt.rel (w : Wld K Γ M ρ S H) (hp : H p = none) {d : D} (f : FreshAt K Γ M ρ H' d p) : RelD K Γ.cl M ρ H' d (.ref p) := by
  have wL := w.new hp
  cases d with
  | lst xs => obtain ⟨vs, h, r⟩ := f; exact .lst wL.1 wL.2 h (r.keep keep_outb)
  | dct xs => obtain ⟨vs, h, r⟩ := f; exact .dK wL.1 wL.2 h (r.keep keep_outb)
  | ins c fs => obtain ⟨dx, vs, h, r⟩ := f; exact .ins wL.1 wL.2 h (r.keep keep_outb)
  | _ => exact f.elim
theorem pc_fresh {e : Expr} {c : Code} (h : PEf X Γ W e c) : PEc X Γ W e c := pe_of h fun σ H Q ⟨M, ρ, env, S, a, h⟩ =>
  ⟨M, ρ, env, S, a, h.mono (fun d q p H1 H' x1 t1 hp x2 t2 f => q _ H' (x1.trans x2) t2 (f.rel (a.ext x1 t1).w hp)) fun _ z => z⟩
theorem keep_push (x : LamX.ExtN H H') (hp : H p = none) : Keep M M ρ (ρ ++ [p]) H H' :=
  ⟨fun b o e hM hρ hn => ⟨x b o e hn, hM, fun z => (List.mem_append.mp z).elim hρ fun z => by rw [List.mem_singleton.mp z, hp] at e; cases e⟩, fun b e => x b _ e (fun _ z => (nomatch z)), fun n a e => by
    rw [List.getElem?_append_left (List.getElem?_eq_some_iff.mp e).1]; exact e⟩
theorem keep_mine : Keep (MD M p) M ρ (ρ ++ [p]) H' H' :=
  ⟨fun b o e hM hρ _ => ⟨e, fun z => hM (.inl z), fun z => (List.mem_append.mp z).elim hρ fun z => hM (.inr (List.mem_singleton.mp z))⟩, fun b e => e, fun n a e => by
    rw [List.getElem?_append_left (List.getElem?_eq_some_iff.mp e).1]; exact e⟩
/-- a new cell -/
theorem At.push (a : At K Γ M ρ env S σ H) (x : LamX.ExtN H H') (t : TabsOk Γ H') (hp : H p = none) {d : D} {c : Cell} (hc : cellOf d = some c) (f : FreshAt K Γ M ρ H' d p) : At K Γ M (ρ ++ [p]) env (S ++ [c]) σ H' := by
  have wL := a.w.new hp
  have k : Keep M M ρ (ρ ++ [p]) H H' := keep_push x hp
  refine ⟨⟨fun b hb => ?_, t, ?_, fun b hb => ?_, ?_, fun n c' b e1 e2 => ?_⟩, fun i d e => ?_, a.l⟩
  · obtain ⟨o, e, n⟩ := a.w.m b hb
    exact ⟨o, x b o e n.ntb, n⟩
  · rw [List.nodup_append]
    refine ⟨a.w.nd, List.nodup_cons.mpr ⟨by simp, List.nodup_nil⟩, fun y hy z hz => ?_⟩
    rw [List.mem_singleton.mp hz]
    intro e; subst e; exact wL.2 hy
  · rcases List.mem_append.mp hb with hb | hb
    · exact a.w.dj b hb
    · rw [List.mem_singleton.mp hb]; exact wL.1
  · rw [List.length_append, List.length_append, a.w.len]; rfl
  · by_cases hn : n < S.length
    · rw [List.getElem?_append_left hn] at e1
      rw [List.getElem?_append_left (by rw [← a.w.len]; exact hn)] at e2
      have h := a.w.cells n c' b e1 e2
      cases c' with
      | lst xs => obtain ⟨vs, e, r⟩ := h; exact ⟨vs, x _ _ e (fun _ z => (nomatch z)), r.keep k⟩
      | dct xs => obtain ⟨vs, e, r⟩ := h; exact ⟨vs, x _ _ e (fun _ z => (nomatch z)), r.keep k⟩
      | ins c xs => obtain ⟨dx, vs, e, r⟩ := h; exact ⟨dx, vs, x _ _ e (fun _ z => (nomatch z)), r.keep k⟩
    · rw [List.getElem?_append_right (by omega)] at e1
      rw [List.getElem?_append_right (by rw [← a.w.len]; omega)] at e2
      have hz : n - S.length = 0 := by
        rcases Nat.eq_zero_or_pos (n - S.length) with h | h
        · exact h
        · rw [List.getElem?_eq_none (by simp only [List.length_cons, List.length_nil]; omega)] at e1; cases e1
      rw [hz] at e1
      rw [← a.w.len, hz] at e2
      cases e1; cases e2
      cases d with
      | lst xs => cases hc; obtain ⟨vs, h, r⟩ := f; exact ⟨vs, h, r.keep keep_mine⟩
      | dct xs => cases hc; obtain ⟨vs, h, r⟩ := f; exact ⟨vs, h, r.keep keep_mine⟩
      | ins c fs => cases hc; obtain ⟨dx, vs, h, r⟩ := f; exact ⟨dx, vs, h, r.keep keep_mine⟩
      | _ => cases hc
  · obtain ⟨v, e1, r⟩ := a.e i d e
    exact ⟨v, e1, r.keep k⟩
theorem Ext.push (hp : H p = none) (x : LamX.ExtN H H') : Ext ρ (ρ ++ [p]) H H' :=
  ⟨fun b o e _ n => x b o e n, fun b o h e n => (List.mem_append.mp h).elim id fun z => (by rw [List.mem_singleton.mp z, hp] at e; cases e), fun n a e => (by
    rw [List.getElem?_append_left (List.getElem?_eq_some_iff.mp e).1]; exact e)⟩
/-! ### comprehensions as fresh lists -/
/-- the reading of a comprehension from its code -/
theorem lc_codeF {ic : ICode} {is own : List Nat} {g : GCode} {t : TCode} {ce : Code} {Q : VK} (his : ∀ i ∈ is, i ∈ own) (h : tEf K Γ W (cLc own ic g t ce) σ H Q) : tLc (tI K Γ W ic) (tG K Γ is g) (tT K Γ W0 t) (tE K Γ W0 ce) own σ H Q := by
  obtain ⟨M, ρ, env, S, a, h⟩ := h
  refine ⟨M, ρ, env, S, a, (Res.sat_bind h).mono (fun it p J H1 x tb ok L hL => ?_) fun _ z => z⟩
  have a1 := a.ext x tb
  obtain ⟨ds, ei, p⟩ := sat_opt p
  obtain ⟨hsz, p⟩ := sat_need p
  have hsz := of_decide_eq_true hsz
  have p := noX_sat (R' := fun _ => False) (Res.sat_bind p)
  have aw := (a1.wipe own).blk (vs := []) hL
  -- what is wanted at the end, by the items so far
  let Fin : List D → Prop := fun xs => ∀ p H1 H', LamX.ExtN H H1 → TabsOk Γ H1 → H1 p = none → LamX.ExtN H1 H' → TabsOk Γ H' → FreshAt K Γ M ρ H' (.lst xs) p → Q (.ref p) H'
  have p' : (lcSeq g t ce (wipeE env own) S ds).Sat (fun xs => Fin ([] ++ xs)) (fun _ => False) := p
  refine ⟨fun i m H' => m = ds.length - i ∧ i ≤ ds.length ∧ ∃ ys vs, ys.length ≤ i ∧ LamX.ExtN H1 H' ∧ At K Γ (MD M L) ρ (wipeE env own) S (L2.wipe σ own) H' ∧ H' L = some (.lst vs) ∧ RelDs K Γ.cl (MD M L) ρ H' ys vs ∧
    (lcSeq g t ce (wipeE env own) S (ds.drop i)).Sat (fun xs => Fin (ys ++ xs)) (fun _ => False),
    ⟨_, rfl, Nat.zero_le _, [], [], Nat.le_refl _, ext_grow hL (LamX.ExtN.refl _), aw, upd_same, .nil, by rw [List.drop_zero]; exact p'⟩, ?_⟩
  rintro i m H' ⟨rfl, hi, ys, vs, hyl, x1, a2, hl, rs, hq⟩
  have tn := it_turn ok ei hL x1 a2.w i
  by_cases hlt : i < ds.length
  · right
    have hd : ds.drop i = ds[i] :: ds.drop (i + 1) := List.drop_eq_getElem_cons hlt
    rw [hd] at hq
    obtain ⟨hgo, hy⟩ := tn.1 ds[i] (List.getElem?_eq_getElem hlt)
    refine ⟨hgo, fun H2 => ∃ ys vs, ys.length ≤ i + 1 ∧ LamX.ExtN H1 H2 ∧ At K Γ (MD M L) ρ (wipeE env own) S (L2.wipe σ own) H2 ∧ H2 L = some (.lst vs) ∧ RelDs K Γ.cl (MD M L) ρ H2 ys vs ∧
      (lcSeq g t ce (wipeE env own) S (ds.drop (i + 1))).Sat (fun xs => Fin (ys ++ xs)) (fun _ => False), fun H2 q => ⟨ds.length - (i + 1), by omega, rfl, hlt, q⟩, fun y H2 hyy => ?_⟩
    obtain ⟨ex, tx, rx⟩ := hy y H2 hyy
    have a3 := a2.ext ex tx
    refine ⟨MD M L, ρ, wipeE env own, S, ds[i], a3, rx, (Res.sat_bind hq).mono (fun env2 q2 σ3 a4 df => ⟨?_, ?_⟩) fun _ z => z⟩
    · rw [wipe_dif df his, wipe_wipe fun _ z => z]
    · refine ⟨MD M L, ρ, env2, S, a4, (Res.sat_bind q2).mono (fun b q3 H3 x3 t3 => ?_) fun _ z => z.elim⟩
      have x13 : LamX.ExtN H1 H3 := x1.trans (ex.trans x3)
      have l3 : H3 L = some (.lst vs) := x3 _ _ (ex _ _ hl (fun _ z => (nomatch z))) (fun _ z => (nomatch z))
      cases b with
      | true =>
        rw [if_pos rfl] at q3
        show if true = true then _ else _
        rw [if_pos rfl]
        refine ⟨MD M L, ρ, env2, S, a4.ext x3 t3, (Res.sat_bind q3).mono (fun d q4 v H4 x4 t4 r4 => ?_) fun _ z => z.elim⟩
        have l4 : H4 L = some (.lst vs) := x4 _ _ l3 (fun _ z => (nomatch z))
        have rs4 := ((rs.keep (ext_keep ex)).keep (ext_keep x3)).keep (ext_keep x4)
        have a5 := ((a3.ext x3 t3).ext x4 t4)
        have q5 := Res.sat_bind q4
        -- the new list's length
        refine ⟨vs, l4, ?_, ys ++ [d], vs ++ [v], by rw [List.length_append]; exact Nat.succ_le_succ hyl, ext_grow hL (x13.trans x4), a5.grow l4, upd_same, (rs4.append (.cons r4 .nil)).keep (keep_grow l4), ?_⟩
        · have := rs.length; omega
        · refine q5.mono (fun xs q6 => ?_) fun _ z => z
          have e : ys ++ [d] ++ xs = ys ++ d :: xs := by simp
          rw [e]
          exact q6
      | false =>
        rw [if_neg (by decide)] at q3
        show if false = true then _ else _
        rw [if_neg (by decide)]
        exact ⟨ys, vs, Nat.le_succ_of_le hyl, x13, ((a3.ext x3 t3)), l3, (rs.keep (ext_keep ex)).keep (ext_keep x3), q3⟩
  · left
    have e : i = ds.length := by omega
    subst e
    rw [List.drop_length] at hq
    refine ⟨tn.2 (Nat.le_refl _), ?_⟩
    have hq' : Fin (ys ++ []) := hq
    rw [List.append_nil] at hq'
    have wL : ¬ M L ∧ L ∉ ρ := a1.w.new hL
    exact hq' L H1 H' x tb hL x1 a2.w.tabs ⟨_, hl, rs⟩
theorem lc2_codeF {ic ic1 : ICode} {is is1 own own1 : List Nat} {g g1 : GCode} {t t1 : TCode} {ce : Code} {Q : VK} (his : ∀ i ∈ is, i ∈ own) (his1 : ∀ i ∈ is1, i ∈ own1) (h : tEf K Γ W (cLc2 own own1 ic g t ic1 g1 t1 ce) σ H Q) :
    tLc2 (tI K Γ W ic) (tG K Γ is g) (tT K Γ W0 t) (tI K Γ W0 ic1) (tG K Γ is1 g1) (tT K Γ W0 t1) (tE K Γ W0 ce) own own1 σ H Q := by
  obtain ⟨M, ρ, env, S, a, h⟩ := h
  refine ⟨M, ρ, env, S, a, (Res.sat_bind h).mono (fun it p J H1 x tb ok L hL => ?_) fun _ z => z⟩
  have a1 := a.ext x tb
  obtain ⟨ds, ei, p⟩ := sat_opt p
  have p := noX_sat (R' := fun _ => False) (Res.sat_bind p)
  have aw := (a1.wipe own).blk (vs := []) hL
  let Fin : List D → Prop := fun xs => xs.length ≤ sizeLine ∧ ∀ p H1 H', LamX.ExtN H H1 → TabsOk Γ H1 → H1 p = none → LamX.ExtN H1 H' → TabsOk Γ H' → FreshAt K Γ M ρ H' (.lst xs) p → Q (.ref p) H'
  have p' : (lcSeq2 g t ic1 own1 g1 t1 ce (wipeE env own) S ds).Sat (fun xs => Fin ([] ++ xs)) (fun _ => False) := p.mono (fun xs q => by
    obtain ⟨hb, q⟩ := sat_need q
    exact ⟨of_decide_eq_true hb, q⟩) fun _ z => z
  refine ⟨fun i m H' => m = ds.length - i ∧ i ≤ ds.length ∧ ∃ ys vs, LamX.ExtN H1 H' ∧ At K Γ (MD M L) ρ (wipeE env own) S (L2.wipe σ own) H' ∧ H' L = some (.lst vs) ∧ RelDs K Γ.cl (MD M L) ρ H' ys vs ∧
    (lcSeq2 g t ic1 own1 g1 t1 ce (wipeE env own) S (ds.drop i)).Sat (fun xs => Fin (ys ++ xs)) (fun _ => False),
    ⟨_, rfl, Nat.zero_le _, [], [], ext_grow hL (LamX.ExtN.refl _), aw, upd_same, .nil, by rw [List.drop_zero]; exact p'⟩, ?_⟩
  rintro i m H' ⟨rfl, hi, ys, vs, x1, a2, hl, rs, hq⟩
  have tn := it_turn ok ei hL x1 a2.w i
  by_cases hlt : i < ds.length
  · right
    have hd : ds.drop i = ds[i] :: ds.drop (i + 1) := List.drop_eq_getElem_cons hlt
    rw [hd] at hq
    obtain ⟨hgo, hy⟩ := tn.1 ds[i] (List.getElem?_eq_getElem hlt)
    refine ⟨hgo, fun H2 => ∃ ys vs, LamX.ExtN H1 H2 ∧ At K Γ (MD M L) ρ (wipeE env own) S (L2.wipe σ own) H2 ∧ H2 L = some (.lst vs) ∧ RelDs K Γ.cl (MD M L) ρ H2 ys vs ∧
      (lcSeq2 g t ic1 own1 g1 t1 ce (wipeE env own) S (ds.drop (i + 1))).Sat (fun xs => Fin (ys ++ xs)) (fun _ => False), fun H2 q => ⟨ds.length - (i + 1), by omega, rfl, hlt, q⟩, fun y H2 hyy => ?_⟩
    obtain ⟨ex, tx, rx⟩ := hy y H2 hyy
    have a3 := a2.ext ex tx
    refine ⟨MD M L, ρ, wipeE env own, S, ds[i], a3, rx, (Res.sat_bind hq).mono (fun env2 q2 σ2 a4 df => ⟨?_, ?_⟩) fun _ z => z⟩
    · rw [wipe_dif df his, wipe_wipe fun _ z => z]
    · refine ⟨MD M L, ρ, env2, S, a4, (Res.sat_bind q2).mono (fun b q3 H3 x3 t3 => ?_) fun _ z => z.elim⟩
      have x13 : LamX.ExtN H1 H3 := x1.trans (ex.trans x3)
      have l3 : H3 L = some (.lst vs) := x3 _ _ (ex _ _ hl (fun _ z => (nomatch z))) (fun _ z => (nomatch z))
      have rs3 := (rs.keep (ext_keep ex)).keep (ext_keep x3)
      cases b with
      | false =>
        rw [if_neg (by decide)] at q3
        show if false = true then _ else _
        rw [if_neg (by decide)]
        exact ⟨ys, vs, x13, a3.ext x3 t3, l3, rs3, q3⟩
      | true =>
        rw [if_pos rfl] at q3
        show if true = true then _ else _
        rw [if_pos rfl]
        refine ⟨MD M L, ρ, env2, S, a4.ext x3 t3, (Res.sat_bind q3).mono (fun it1 q4 J1 H4 x4 t4 ok1 => ?_) fun _ z => z.elim⟩
        obtain ⟨es, ei1, q4⟩ := sat_opt q4
        have l4 : H4 L = some (.lst vs) := x4 _ _ l3 (fun _ z => (nomatch z))
        have a5 := (a3.ext x3 t3).ext x4 t4
        have a6 := (a4.ext x3 t3).ext x4 t4
        refine ⟨fun j k H' => k = es.length - j ∧ j ≤ es.length ∧ ∃ ys vs, LamX.ExtN H1 H' ∧ ExtL L H4 H' ∧ At K Γ (MD M L) ρ (wipeE env own) S (L2.wipe σ own) H' ∧ At K Γ (MD M L) ρ env2 S σ2 H' ∧ H' L = some (.lst vs) ∧ RelDs K Γ.cl (MD M L) ρ H' ys vs ∧
          (lcSeq g1 t1 ce (wipeE env2 own1) S (es.drop j) >>= fun xs => lcSeq2 g t ic1 own1 g1 t1 ce (wipeE env own) S (ds.drop (i + 1)) >>= fun rest => Res.ok (xs ++ rest)).Sat (fun xs => Fin (ys ++ xs)) (fun _ => False),
          ⟨_, rfl, Nat.zero_le _, ys, vs, x13.trans x4, .refl, a5, a6, l4, rs3.keep (ext_keep x4), by rw [List.drop_zero]; exact q4⟩, ?_⟩
        rintro j k H5 ⟨rfl, hj, zs, ws, y1, y2, b1, b2, lz, rz, hz⟩
        have tn1 := it_turn1 ok1 ei1 l4 y2 b1.w j
        by_cases hjt : j < es.length
        · right
          have hd1 : es.drop j = es[j] :: es.drop (j + 1) := List.drop_eq_getElem_cons hjt
          rw [hd1] at hz
          obtain ⟨hgo1, hy1⟩ := tn1.1 es[j] (List.getElem?_eq_getElem hjt)
          refine ⟨hgo1, fun H' => ∃ ys vs, LamX.ExtN H1 H' ∧ ExtL L H4 H' ∧ At K Γ (MD M L) ρ (wipeE env own) S (L2.wipe σ own) H' ∧ At K Γ (MD M L) ρ env2 S σ2 H' ∧ H' L = some (.lst vs) ∧ RelDs K Γ.cl (MD M L) ρ H' ys vs ∧
            (lcSeq g1 t1 ce (wipeE env2 own1) S (es.drop (j + 1)) >>= fun xs => lcSeq2 g t ic1 own1 g1 t1 ce (wipeE env own) S (ds.drop (i + 1)) >>= fun rest => Res.ok (xs ++ rest)).Sat (fun xs => Fin (ys ++ xs)) (fun _ => False),
            fun H' q => ⟨es.length - (j + 1), by omega, rfl, hjt, q⟩, fun y5 H6 hyy1 => ?_⟩
          obtain ⟨ex1, tx1, rx1⟩ := hy1 y5 H6 hyy1
          have b3 := (b2.ext ex1 tx1).wipe own1
          have hz1 := Res.sat_bind (Res.sat_bind hz)
          refine ⟨MD M L, ρ, wipeE env2 own1, S, es[j], b3, rx1, hz1.mono (fun env3 q5 σ3 b4 df1 => ⟨?_, ?_⟩) fun _ z => z⟩
          · rw [wipe_dif df1 his1, wipe_wipe fun _ z => z]
          · refine ⟨MD M L, ρ, env3, S, b4, (Res.sat_bind q5).mono (fun b q6 H7 x7 t7 => ?_) fun _ z => z.elim⟩
            have l7 : H7 L = some (.lst ws) := x7 _ _ (ex1 _ _ lz (fun _ z => (nomatch z))) (fun _ z => (nomatch z))
            have rz7 := (rz.keep (ext_keep ex1)).keep (ext_keep x7)
            have yy1 := y1.trans (ex1.trans x7)
            have yy2 : ExtL L H4 H7 := y2.trans (.of (ex1.trans x7))
            cases b with
            | false =>
              rw [if_neg (by decide)] at q6
              show if false = true then _ else _
              rw [if_neg (by decide)]
              exact ⟨zs, ws, yy1, yy2, (b1.ext ex1 tx1).ext x7 t7, (b2.ext ex1 tx1).ext x7 t7, l7, rz7, Res.sat_bind' q6⟩
            | true =>
              rw [if_pos rfl] at q6
              show if true = true then _ else _
              rw [if_pos rfl]
              refine ⟨MD M L, ρ, env3, S, b4.ext x7 t7, (Res.sat_bind q6).mono (fun d q7 v H8 x8 t8 r8 => ?_) fun _ z => z.elim⟩
              have l8 : H8 L = some (.lst ws) := x8 _ _ l7 (fun _ z => (nomatch z))
              have rz8 := rz7.keep (ext_keep x8)
              have q8 := Res.sat_bind q7
              -- what is still to come
              have q9 : (lcSeq g1 t1 ce (wipeE env2 own1) S (es.drop (j + 1)) >>= fun xs => lcSeq2 g t ic1 own1 g1 t1 ce (wipeE env own) S (ds.drop (i + 1)) >>= fun rest => Res.ok (xs ++ rest)).Sat (fun xs => Fin (zs ++ [d] ++ xs)) (fun _ => False) := by
                refine Res.sat_bind' (q8.mono (fun xs q => ?_) fun _ z => z)
                refine Res.sat_bind' ((Res.sat_bind (show (lcSeq2 g t ic1 own1 g1 t1 ce (wipeE env own) S (ds.drop (i + 1)) >>= fun rest => Res.ok (d :: xs ++ rest)).Sat (fun xs => Fin (zs ++ xs)) (fun _ => False) from q)).mono (fun rest q => ?_) fun _ z => z)
                show Fin (zs ++ [d] ++ (xs ++ rest))
                have e : zs ++ [d] ++ (xs ++ rest) = zs ++ (d :: xs ++ rest) := by simp
                rw [e]
                exact q
              have hlen : zs.length + 1 ≤ sizeLine := sat_const (fun _ z => False.elim z) (q9.mono (fun xs q => by
                have := q.1
                simp only [List.length_append, List.length_cons, List.length_nil] at this
                omega) fun _ z => z)
              refine ⟨ws, l8, ?_, zs ++ [d], ws ++ [v], ext_grow hL (yy1.trans x8), (yy2.trans (.of x8)).trans .upd, (((b1.ext ex1 tx1).ext x7 t7).ext x8 t8).grow l8, (((b2.ext ex1 tx1).ext x7 t7).ext x8 t8).grow l8, upd_same, (rz8.append (.cons r8 .nil)).keep (keep_grow l8), q9⟩
              have := rz.length; omega
        · left
          have e : j = es.length := by omega
          subst e
          rw [List.drop_length] at hz
          refine ⟨tn1.2 (Nat.le_refl _), zs, ws, y1, b1, lz, rz, ?_⟩
          exact (Res.sat_bind (show (lcSeq2 g t ic1 own1 g1 t1 ce (wipeE env own) S (ds.drop (i + 1)) >>= fun rest => Res.ok ([] ++ rest)).Sat (fun xs => Fin (zs ++ xs)) (fun _ => False) from hz)).mono (fun rest q => q) fun _ z => z
  · left
    have e : i = ds.length := by omega
    subst e
    rw [List.drop_length] at hq
    refine ⟨tn.2 (Nat.le_refl _), ?_⟩
    have hq' : Fin (ys ++ []) := hq
    rw [List.append_nil] at hq'
    have wL : ¬ M L ∧ L ∉ ρ := a1.w.new hL
    exact hq'.2 L H1 H' x tb hL x1 a2.w.tabs ⟨_, hl, rs⟩
end
/-! ### right-hand sides: plain, or fresh and put into the store -/
abbrev NCode := Env → Store → Res (List D × Store)
def tN (K : PySem.W.Frag) (Γ : Gx) (W : WX) (c : NCode) : TA := fun σ H Q => ∃ M ρ env S, At K Γ M ρ env S σ H ∧
  (c env S).Sat (fun r => ∀ vs ρ' H', Ext ρ ρ' H H' → At K Γ M ρ' env r.2 σ H' → RelDs K Γ.cl M ρ' H' r.1 vs → Q vs H') (XS Γ W ρ H)
abbrev PNc (X : Cx) (Γ : Gx) (W : WX) (es : List Expr) (c : NCode) : Prop := PA X es (tN X.K Γ W c)
def nNil : NCode := fun _ S => .ok ([], S)
def nPlain (c : Code) (r : NCode) : NCode := fun env S => do
  let d ← c env S
  let q ← r env S
  .ok (d :: q.1, q.2)
def nFresh (c : Code) (r : NCode) : NCode := fun env S => do
  let d ← c env S
  let cl ← opt (cellOf d)
  let q ← r env (S ++ [cl])
  .ok (.loc S.length :: q.1, q.2)
section
variable {X : Cx} {Γ : Gx} {W : WX} {pos : Pos} {e : Expr} {es : List Expr} {ce : Code} {cn : NCode}
theorem pn_nil : PNc X Γ W [] nNil := pa_of pa_nil fun σ H Q ⟨M, ρ, env, S, a, h⟩ => h [] ρ H .refl a .nil
theorem pn_plain (ha : PEc X Γ W e ce) (hr : PNc X Γ W es cn) (hs : starEach (e :: es) X.env = (false, eval e X.env) :: starEach es X.env := by rfl) : PNc X Γ W (e :: es) (nPlain ce cn) :=
  pa_of (pa_cons ha hr hs) fun σ H Q ⟨M, ρ, env, S, a, h⟩ => by
    refine tE_st a (Res.sat_bind h) fun d v H1 hd x t a1 r => ?_
    refine ⟨M, ρ, env, S, a1, (Res.sat_bind (sat_xs hd (.of x))).mono (fun q hq vs ρ' H' x' a' r' => ?_) fun _ z => z⟩
    exact hq (v :: vs) ρ' H' ((Ext.of x).trans x') a' (.cons (r.keep (x'.keep a1.w a'.w.dj)) r')
theorem pn_fresh (ha : PEf X Γ W e ce) (hr : PNc X Γ W es cn) (hs : starEach (e :: es) X.env = (false, eval e X.env) :: starEach es X.env := by rfl) : PNc X Γ W (e :: es) (nFresh ce cn) :=
  pa_of (pa_cons ha hr hs) fun σ H Q ⟨M, ρ, env, S, a, h⟩ => by
    refine ⟨M, ρ, env, S, a, (sat_xw (Res.sat_bind h)).mono (fun d hd p H1 H2 x1 t1 hp x2 t2 f => ?_) fun _ z => z⟩
    obtain ⟨cl, hc, hd⟩ := sat_opt hd
    have a2 := (a.ext x1 t1).push x2 t2 hp hc f
    have x12 : Ext ρ (ρ ++ [p]) H H2 := (Ext.of x1).trans (Ext.push hp x2)
    refine ⟨M, ρ ++ [p], env, S ++ [cl], a2, (Res.sat_bind (sat_xs hd x12)).mono (fun q hq vs ρ' H' x' a' r' => ?_) fun _ z => z⟩
    refine hq _ ρ' H' (x12.trans x') a' (.cons (.loc (x'.loc _ _ ?_)) r')
    rw [List.getElem?_append_right (by rw [a.w.len]; exact Nat.le_refl _), a.w.len, Nat.sub_self]; rfl
end
end L2.Th

set_option Elab.async false
set_option linter.all false
set_option maxRecDepth 100000
set_option maxHeartbeats 4000000
/-! Layer R: statements that make and write cells; fresh displays; calls that give fresh things; items() of a fresh dict; raise; module constants. -/
namespace L2.Th
open PySem PySem.Spec PyProof.Rows
section
variable {X : Cx} {Γ : Gx} {W : WX} {K : PySem.W.Frag} {M : Addr → Prop} {ρ : List Addr} {S : Store} {H H1 H2 H' : Hp} {env : Env} {σ : St} {p : Addr}
theorem keep_put {o : HO} (w : Wld K Γ M ρ S H) (hp : p ∈ ρ) : Keep M M ρ ρ H (upd H p o) :=
  ⟨fun b u e hM hρ _ => ⟨by rw [upd_ne (fun z => hρ (by rw [z]; exact hp))]; exact e, hM, hρ⟩, fun b e => by rw [upd_ne (fun z => (dice_cell w b e).2 (by rw [z]; exact hp))]; exact e, fun _ _ e => e⟩
theorem tabs_put {o : HO} (w : Wld K Γ M ρ S H) (hp : p ∈ ρ) : TabsOk Γ (upd H p o) := by
  obtain ⟨u, hu, hc⟩ := w.at hp
  refine ⟨fun q hq => ?_, fun P hP => ?_⟩
  · obtain ⟨ps, h1, h2, h3⟩ := w.tabs.1 q hq
    refine ⟨ps, by rw [upd_ne (fun z => by rw [z, hu] at h1; exact hc.ntb _ (Option.some.inj h1))]; exact h1, h2, fun pos cv hcc => ?_⟩
    obtain ⟨c, e1, e2⟩ := h3 pos cv hcc
    refine ⟨c, e1, ?_⟩
    rw [upd_ne (fun z => ?_)]
    · exact e2
    · rw [z, hu] at e2
      have := Option.some.inj e2
      rw [this] at hc
      unfold LamX.CodeO at hc
      rcases hc with ⟨_, e⟩ | ⟨_, e⟩ | ⟨_, _, _, e⟩ <;> cases e
  · obtain ⟨ps, h1, h2⟩ := w.tabs.2 P hP
    exact ⟨ps, by rw [upd_ne (fun z => by rw [z, hu] at h1; exact hc.ntb _ (Option.some.inj h1))]; exact h1, h2⟩
theorem ext_put {o : HO} (hp : p ∈ ρ) : Ext ρ ρ H (upd H p o) := ⟨fun b u e h _ => by rw [upd_ne (fun z => h (by rw [z]; exact hp))]; exact e, fun _ _ h _ _ => h, fun _ _ e => e⟩
/-- a cell is written -/
theorem At.put {n : Nat} {c' : Cell} {o : HO} (a : At K Γ M ρ env S σ H) (hn : ρ[n]? = some p) (ho : IsCellO o) (new : CellOk K Γ M ρ (upd H p o) c' p) : At K Γ M ρ env (S.set n c') σ (upd H p o) := by
  have hp := mem_of_loc hn
  have k := keep_put (o := o) a.w hp
  refine ⟨⟨fun b hb => ?_, tabs_put a.w hp, a.w.nd, a.w.dj, by rw [List.length_set]; exact a.w.len, fun m c b e1 e2 => ?_⟩, fun i d e => ?_, a.l⟩
  · obtain ⟨u, e, n⟩ := a.w.m b hb
    exact ⟨u, by rw [upd_ne (fun z => a.w.dj p hp (by rw [← z]; exact hb))]; exact e, n⟩
  · by_cases hm : n = m
    · subst hm
      rw [hn] at e2; cases e2
      rw [List.getElem?_set_self (by
        have := (List.getElem?_eq_some_iff.mp hn).1
        rw [a.w.len]; exact this)] at e1
      cases e1
      exact new
    · rw [List.getElem?_set_ne hm] at e1
      have hb : b ≠ p := fun z => by
        subst z
        have h1 := List.getElem?_eq_some_iff.mp hn
        have h2 := List.getElem?_eq_some_iff.mp e2
        obtain ⟨i1, q1⟩ := h1
        obtain ⟨i2, q2⟩ := h2
        exact hm ((List.getElem_inj a.w.nd).mp (q1.trans q2.symm))
      have h := a.w.cells m c b e1 e2
      cases c with
      | lst xs => obtain ⟨vs, e, r⟩ := h; exact ⟨vs, by rw [upd_ne hb]; exact e, r.keep k⟩
      | dct xs => obtain ⟨vs, e, r⟩ := h; exact ⟨vs, by rw [upd_ne hb]; exact e, r.keep k⟩
      | ins c xs => obtain ⟨dx, vs, e, r⟩ := h; exact ⟨dx, vs, by rw [upd_ne hb]; exact e, r.keep k⟩
  · obtain ⟨v, e1, r⟩ := a.e i d e
    exact ⟨v, e1, r.keep k⟩
end
/-! ### assignments of fresh things -/
def sNew (i : Nat) (c : Code) : SCode := fun env S => do
  let d ← c env S
  let cl ← opt (cellOf d)
  .ok (.nx, env.set i (some (.loc S.length)), S ++ [cl])
section
variable {X : Cx} {Γ : Gx} {W : WX} {pos : Pos} {e : Expr} {ce : Code}
theorem ps_newG {D : Ends} {σ : St} {H : Hp} {i : Nat} (h : tS X.K Γ W (sNew i ce) D σ H) : tEf X.K Γ W ce σ H (fun v H1 => D.nx (σ.set i (some v)) H1) := by
  obtain ⟨M, ρ, env, S, a, h⟩ := h
  refine ⟨M, ρ, env, S, a, (sat_xw (Res.sat_bind h)).mono (fun d hd p H1 H2 x1 t1 hp x2 t2 f => ?_) fun _ z => z⟩
  obtain ⟨cl, hc, hd⟩ := sat_opt hd
  have a2 := (a.ext x1 t1).push x2 t2 hp hc f
  refine hd (ρ ++ [p]) _ H2 ((Ext.of x1).trans (Ext.push hp x2)) (a2.set (.loc ?_))
  rw [List.getElem?_append_right (by rw [a.w.len]; exact Nat.le_refl _), a.w.len, Nat.sub_self]; rfl
theorem ps_newC {i : Nat} {x : Str} {pos' : Pos} (hN : X.N.Nodup) (hi : X.N[i]? = some x) (hx : Loc X.env.scope x) (he : PEf X Γ W e ce) (hs : swapsWith e (some (.Name x pos')) pos.line X.env = pure false := by rfl)
    (hf : X.fn x = true ∨ X.env.scope.names.lookup x = some .local := by first | exact .inl rfl | exact .inr rfl) : PSc X Γ W (.Assign [.Name x pos'] e pos) (sNew i ce) :=
  ps_of (ps_set hN hi hx he hs hf) fun D σ H h => ps_newG h
def sParN (i j : Nat) (ac : NCode) : SCode := fun env S => do
  let r ← ac env S
  match r.1 with
  | [x, y] => .ok (.nx, (env.set i (some x)).set j (some y), r.2)
  | _ => .stuck
theorem ps_parN {i j : Nat} {x y : Str} {a b : Expr} {ac : NCode} {px py pt : Pos} {kt k2 pt2} (hc : X.calm = true) (hN : X.N.Nodup) (hi : X.N[i]? = some x) (hj : X.N[j]? = some y) (hij : i ≠ j)
    (hx : X.env.scope.names.lookup x = some .local) (hy : X.env.scope.names.lookup y = some .local) (ha : PNc X Γ W [a, b] ac)
    (hw : swappedStores [.Tuple [.Name x px, .Name y py] kt pt] (.Tuple [a, b] k2 pt2) X.env = pure (some [x, y]) := by rfl)
    (hs : swapsWithSole [.Tuple [.Name x px, .Name y py] kt pt] (.Tuple [a, b] k2 pt2) pos.line X.env = pure false := by rfl) :
    PSc X Γ W (.Assign [.Tuple [.Name x px, .Name y py] kt pt] (.Tuple [a, b] k2 pt2) pos) (sParN i j ac) :=
  ps_of (ps_par hc hN hi hj hij hx hy ha hw hs) fun D σ H ⟨M, ρ, env, S, a, h⟩ => by
    refine ⟨M, ρ, env, S, a, (Res.sat_bind h).mono (fun r p vs ρ' H' x' a' rr => ?_) fun _ z => z⟩
    obtain ⟨ds, S'⟩ := r
    dsimp only at p rr a'
    split at p
    · cases rr with
      | cons r1 rr => cases rr with
        | cons r2 rr =>
          cases rr
          exact ⟨_, _, rfl, p ρ' _ H' x' ((a'.set r1).set r2)⟩
    · exact p.elim
def sPar3N (i j l : Nat) (ac : NCode) : SCode := fun env S => do
  let r ← ac env S
  match r.1 with
  | [x, y, z] => .ok (.nx, ((env.set i (some x)).set j (some y)).set l (some z), r.2)
  | _ => .stuck
theorem ps_par3N {i j l : Nat} {x y z : Str} {a b c : Expr} {ac : NCode} {px py pz pt : Pos} {kt k2 pt2} (hc : X.calm = true) (hN : X.N.Nodup) (hi : X.N[i]? = some x) (hj : X.N[j]? = some y) (hl : X.N[l]? = some z) (hij : i ≠ j) (hil : i ≠ l) (hjl : j ≠ l)
    (hx : X.env.scope.names.lookup x = some .local) (hy : X.env.scope.names.lookup y = some .local) (hz : X.env.scope.names.lookup z = some .local) (ha : PNc X Γ W [a, b, c] ac)
    (hw : swappedStores [.Tuple [.Name x px, .Name y py, .Name z pz] kt pt] (.Tuple [a, b, c] k2 pt2) X.env = pure (some [x, y, z]) := by rfl)
    (hs : swapsWithSole [.Tuple [.Name x px, .Name y py, .Name z pz] kt pt] (.Tuple [a, b, c] k2 pt2) pos.line X.env = pure false := by rfl) :
    PSc X Γ W (.Assign [.Tuple [.Name x px, .Name y py, .Name z pz] kt pt] (.Tuple [a, b, c] k2 pt2) pos) (sPar3N i j l ac) :=
  ps_of (ps_par3 hc hN hi hj hl hij hil hjl hx hy hz ha hw hs) fun D σ H ⟨M, ρ, env, S, a, h⟩ => by
    refine ⟨M, ρ, env, S, a, (Res.sat_bind h).mono (fun r p vs ρ' H' x' a' rr => ?_) fun _ z => z⟩
    obtain ⟨ds, S'⟩ := r
    dsimp only at p rr a'
    split at p
    · cases rr with
      | cons r1 rr => cases rr with
        | cons r2 rr => cases rr with
          | cons r3 rr =>
            cases rr
            exact ⟨_, _, _, rfl, p ρ' _ H' x' (((a'.set r1).set r2).set r3)⟩
    · exact p.elim
/-! ### writing cells -/
def isLoc : D → Option Nat
  | .loc n => some n
  | _ => none
def cellL (S : Store) (n : Nat) : Option (List D) := match S[n]? with
  | some (.lst xs) => some xs
  | _ => none
def cellD (S : Store) (n : Nat) : Option (List (D × D)) := match S[n]? with
  | some (.dct xs) => some xs
  | _ => none
theorem isLoc_eq {d : D} {n : Nat} (h : isLoc d = some n) : d = .loc n := by cases d <;> simp [isLoc] at h; rw [h]
theorem cellL_eq {S : Store} {n : Nat} {xs : List D} (h : cellL S n = some xs) : S[n]? = some (.lst xs) := by
  unfold cellL at h
  split at h
  · cases h; assumption
  · cases h
theorem cellD_eq {S : Store} {n : Nat} {xs : List (D × D)} (h : cellD S n = some xs) : S[n]? = some (.dct xs) := by
  unfold cellD at h
  split at h
  · cases h; assumption
  · cases h
/-- o.append(e) -/
def sAppend (co c : Code) : SCode := fun env S => do
  let o ← co env S
  let n ← opt (isLoc o)
  let xs ← opt (cellL S n)
  let d ← c env S
  need (decide (xs.length < sizeLine))
  .ok (.nx, env, S.set n (.lst (xs ++ [d])))
theorem ps_appendC {o : Expr} {co : Code} {apos cpos : Pos} (ho : PEc X Γ W o co) (he : PEc X Γ W e ce)
    (hbase : attributeBase o "append" X.env (eval o X.env) = eval o X.env := by rfl)
    (hfew : ((backTo cpos (starEach [e] X.env)).all (fun x => !x.1) && (backToKw cpos (keywordEach [] X.env)).all (fun x => x.1.isSome)
      && decide ([e].length + ([] : List Keyword).length + (if ([] : List Keyword).isEmpty then 0 else 1) < 30)) = true := by rfl)
    (hline : (apos.endLine == cpos.line) = true := by rfl) (hs : starEach [e] X.env = (false, eval e X.env) :: starEach [] X.env := by rfl) (hsw : swapsWith (.Call (.Attribute o "append" apos) [e] [] cpos) none pos.line X.env = pure false := by rfl) :
    PSc X Γ W (.Expr (.Call (.Attribute o "append" apos) [e] [] cpos) pos) (sAppend co ce) :=
  ps_of (ps_expr (pe_bm PySem.F.plainAttrs_list PySem.F.slot_list_append PySem.F.type_list_append mt_append ho (pa_cons he pa_nil hs) hbase hfew hline hs) hsw) fun D σ H ⟨M, ρ, env, S, a, h⟩ => by
    refine tE_st a (Res.sat_bind h) fun d0 v0 H1 hA x t a1 r0 => ?_
    obtain ⟨n, en, hB⟩ := sat_opt hA
    obtain ⟨xs, ex, h⟩ := sat_opt hB
    clear hA hB
    have en := isLoc_eq en
    subst en
    have ex := cellL_eq ex
    cases r0 with
    | loc hl =>
      obtain ⟨vs, h1, h2⟩ := a1.w.cells n _ _ ex hl
      refine ⟨.inl ⟨rfl, vs, .of h1⟩, ?_⟩
      refine tE_st a1 (Res.sat_bind (sat_xs h (.of x))) fun d v H2 hd x2 t2 a2 r2 => ?_
      obtain ⟨hb, hd⟩ := sat_need hd
      have hb := of_decide_eq_true hb
      have e2 : H2 _ = some (.lst vs) := x2 _ _ h1 (fun _ z => (nomatch z))
      have hlen := h2.length
      refine ⟨_, vs, v, rfl, rfl, e2, by omega, ?_⟩
      have k := keep_put (o := .lst (vs ++ [v])) a2.w (mem_of_loc hl)
      have new : CellOk X.K Γ M ρ (upd H2 _ (.lst (vs ++ [v]))) (.lst (xs ++ [d])) _ := ⟨_, upd_same, ((h2.keep (ext_keep x2)).append (.cons r2 .nil)).keep k⟩
      exact hd ρ σ _ (((Ext.of x).trans (.of x2)).trans (ext_put (mem_of_loc hl))) (a2.put hl (.inl ⟨_, rfl⟩) new)
/-- d[k] = v, a dict of one's own -/
def putD (xs : List (D × D)) (k : Key) (d : D) : List (D × D) :=
  if (xs.any fun kv => decide (keyOf kv.1 = some k)) = true then xs.map (fun kv => if keyOf kv.1 = some k then (kv.1, d) else kv) else xs ++ [(kD k, d)]
def sDput (co ck cv : Code) : SCode := fun env S => do
  let v ← cv env S
  let o ← co env S
  let y ← ck env S
  let n ← opt (isLoc o)
  let kvs ← opt (cellD S n)
  let k ← opt (keyOf y)
  need (decide (kvs.length < sizeLine))
  .ok (.nx, env, S.set n (.dct (putD kvs k v)))
end
section
variable {K : PySem.W.Frag} {Γ : Gx} {M : Addr → Prop} {ρ : List Addr} {H : Hp}
theorem anyK_rel {k : Key} : ∀ {xs : List (D × D)} {hs : List (Key × V)}, RelKs K Γ.cl M ρ H xs hs → (xs.any fun kv => decide (keyOf kv.1 = some k)) = hs.any fun kv => decide (kv.1 = k)
  | _, _, .nil => rfl
  | _, _, .cons (k := k2) h q => by
    rw [List.any_cons, List.any_cons, anyK_rel q, keyOf_kD]
    congr 1
    by_cases e : k2 = k
    · simp [e]
    · simp [e]
theorem mapK_rel {k : Key} {d : D} {v : V} (r : RelD K Γ.cl M ρ H d v) : ∀ {xs : List (D × D)} {hs : List (Key × V)}, RelKs K Γ.cl M ρ H xs hs → RelKs K Γ.cl M ρ H (xs.map fun kv => if keyOf kv.1 = some k then (kv.1, d) else kv) (hs.map fun kv => if kv.1 = k then (kv.1, v) else kv)
  | _, _, .nil => .nil
  | _, _, .cons (k := k2) (d := d2) (v := v2) h q => by
    rw [List.map_cons, List.map_cons]
    simp only [keyOf_kD]
    by_cases e : k2 = k
    · rw [if_pos (by rw [e]), if_pos e]
      exact .cons r (mapK_rel r q)
    · rw [if_neg (fun z => e (Option.some.inj z)), if_neg e]
      exact .cons h (mapK_rel r q)
theorem RelKs.append {xs ys : List (D × D)} {vs us : List (Key × V)} (r : RelKs K Γ.cl M ρ H xs vs) (q : RelKs K Γ.cl M ρ H ys us) : RelKs K Γ.cl M ρ H (xs ++ ys) (vs ++ us) := by
  induction xs generalizing vs with
  | nil => cases r; exact q
  | cons x xs ih => cases r with | cons h r => exact .cons h (ih r)
theorem putD_rel {k : Key} {d : D} {v : V} (r : RelD K Γ.cl M ρ H d v) {xs : List (D × D)} {hs : List (Key × V)} (q : RelKs K Γ.cl M ρ H xs hs) : RelKs K Γ.cl M ρ H (putD xs k d) (putK hs k v) := by
  unfold putD putK
  rw [anyK_rel q]
  split
  · exact mapK_rel r q
  · exact q.append (.cons r .nil)
end
section
variable {X : Cx} {Γ : Gx} {W : WX} {pos pos' : Pos} {o i e : Expr} {co ci ce : Code}
theorem ps_dputC {k : Nat} (hr : Room k X.A) (ho : PEc X Γ W o co) (hi : PEc X Γ W i ci) (he : PEc X Γ W e ce) (hs : swapsWith e (some (.Subscript o i pos')) pos.line X.env = pure false := by rfl) :
    PSc X Γ W (.Assign [.Subscript o i pos'] e pos) (sDput co ci ce) :=
  ps_of (ps_dput (hu_of hr) ho hi he hs) fun D σ H ⟨M, ρ, env, S, a, h⟩ => by
    refine tE_st a (Res.sat_bind h) fun d v H1 h1 x1 t1 a1 r1 => ?_
    refine tE_st a1 (Res.sat_bind (sat_xs h1 (.of x1))) fun d2 v2 H2 h2 x2 t2 a2 r2 => ?_
    refine tE_st a2 (Res.sat_bind (sat_xs h2 (.of x2))) fun d3 v3 H3 h3 x3 t3 a3 r3 => ?_
    obtain ⟨n, en, h4⟩ := sat_opt h3
    obtain ⟨kvs, ex, h5⟩ := sat_opt h4
    obtain ⟨k, ek, h6⟩ := sat_opt h5
    obtain ⟨hb, h7⟩ := sat_need h6
    clear h3 h4 h5 h6
    have en := isLoc_eq en
    subst en
    have ex := cellD_eq ex
    have r2 := r2.keep (ext_keep x3)
    cases r2 with
    | loc hl =>
      obtain ⟨vs, g1, g2⟩ := a3.w.cells n _ _ ex hl
      have e3 := keyOf_rel r3 ek
      subst e3
      have hlen := g2.length
      refine ⟨_, _, rfl, DPut.k g1 (by have := of_decide_eq_true hb; omega), ?_⟩
      have r := (r1.keep (ext_keep x2)).keep (ext_keep x3)
      have kk := keep_put (o := .dK (putK vs k v)) a3.w (mem_of_loc hl)
      have new : CellOk X.K Γ M ρ (upd H3 _ (.dK (putK vs k v))) (.dct (putD kvs k d)) _ := ⟨_, upd_same, (putD_rel r g2).keep kk⟩
      exact h7 ρ σ _ ((((Ext.of x1).trans (.of x2)).trans (.of x3)).trans (ext_put (mem_of_loc hl))) (a3.put hl (.inr (.inl ⟨_, rfl⟩)) new)
end
end L2.Th

set_option Elab.async false
set_option linter.all false
set_option maxRecDepth 100000
set_option maxHeartbeats 4000000
/-! Layer S: fresh displays; items() of what a call gives; raise; module constants; chained comparisons. -/
namespace L2.Th
open PySem PySem.Spec PyProof.Rows
section
variable {X : Cx} {Γ : Gx} {W : WX} {K : PySem.W.Frag} {M : Addr → Prop} {ρ : List Addr} {S : Store} {H H1 H2 H' : Hp} {env : Env} {σ : St} {p : Addr}
theorem Wld.blkO (w : Wld K Γ M ρ S H) {L : Addr} (hD : H L = none) {o : HO} (ho : IsCellO o) : Wld K Γ (MD M L) ρ S (upd H L o) where
  m := fun a h => h.elim (fun h => let ⟨u, e, c⟩ := w.m a h; ⟨u, by rw [upd_ne (ne_of_none e hD)]; exact e, c⟩) fun h => ⟨o, by rw [h]; exact upd_same, ho⟩
  tabs := tabs_new w.tabs hD
  nd := w.nd
  dj := fun a h => fun z => z.elim (w.dj a h) fun z => (by subst z; exact (w.new hD).2 h)
  len := w.len
  cells := fun n c a e1 e2 => cells_keep (keep_blk w hD) (fun b _ o e _ => by rw [upd_ne (ne_of_none e hD)]; exact e) (mem_of_loc e2) (w.cells n c a e1 e2)
theorem At.blkO (a : At K Γ M ρ env S σ H) {L : Addr} (hD : H L = none) {o : HO} (ho : IsCellO o) : At K Γ (MD M L) ρ env S σ (upd H L o) :=
  ⟨a.w.blkO hD ho, fun i d e => let ⟨v, e1, r⟩ := a.e i d e; ⟨v, e1, r.keep (keep_blk a.w hD)⟩, a.l⟩
end
section
variable {X : Cx} {Γ : Gx} {W : WX} {pos : Pos} {e : Expr} {es : List Expr} {ce : Code} {ac : ACode}
theorem pf_lst (h : PAc X Γ W es ac) : PEf X Γ W (.List es pos) (cLst ac) :=
  pe_of (pe_lst h) fun σ H Q ⟨M, ρ, env, S, a, h⟩ => by
    refine tA_step a (Res.sat_bind h) fun ds vs H1 hd e1 t1 a1 r1 => ?_
    obtain ⟨hl, hd⟩ := sat_need hd
    exact ⟨by rw [← r1.length]; exact of_decide_eq_true hl, fun p hp => hd p H1 _ e1 t1 hp (ext_new hp) (tabs_new t1 hp) ⟨vs, upd_same, r1.keep (keep_blk a1.w hp)⟩⟩
def cDnew : Code := fun _ _ => .ok (.dct [])
theorem pf_dnew : PEf X Γ W (.Dict [] [] pos) cDnew :=
  pe_of pe_dnewK fun σ H Q ⟨M, ρ, env, S, a, h⟩ => fun p hp => h p H _ (LamX.ExtN.refl H) a.w.tabs hp (ext_new hp) (tabs_new a.w.tabs hp) ⟨[], upd_same, .nil⟩
/-! {k: v, ..} -/
abbrev KCode := Env → Store → Res (List (Key × D))
def kNil : KCode := fun _ _ => .ok []
def kCons (ck cv : Code) (r : KCode) : KCode := fun env S => do
  let y ← ck env S
  let k ← opt (keyOf y)
  let v ← cv env S
  let q ← r env S
  .ok ((k, v) :: q)
inductive RelP (K : PySem.W.Frag) (cl : Nat → Addr) (M : Addr → Prop) (ρ : List Addr) (H : Hp) : List (Key × D) → List (Key × V) → Prop where
  | nil : RelP K cl M ρ H [] []
  | cons {k : Key} {d : D} {v : V} {ds : List (Key × D)} {vs : List (Key × V)} (h : RelD K cl M ρ H d v) (r : RelP K cl M ρ H ds vs) : RelP K cl M ρ H ((k, d) :: ds) ((k, v) :: vs)
theorem RelP.length {K : PySem.W.Frag} {cl : Nat → Addr} {M : Addr → Prop} {ρ : List Addr} {H : Hp} {ds : List (Key × D)} {vs : List (Key × V)} (r : RelP K cl M ρ H ds vs) : ds.length = vs.length := by
  induction r with
  | nil => rfl
  | cons _ _ ih => rw [List.length_cons, List.length_cons, ih]
def mergeD (kvs : List (D × D)) (more : List (Key × D)) : List (D × D) := more.foldl (fun acc kv => putD acc kv.1 kv.2) kvs
theorem merge_rel {K : PySem.W.Frag} {M : Addr → Prop} {ρ : List Addr} {H : Hp} {ds : List (Key × D)} {vs : List (Key × V)} (r : RelP K Γ.cl M ρ H ds vs) : ∀ {xs : List (D × D)} {hs : List (Key × V)}, RelKs K Γ.cl M ρ H xs hs → RelKs K Γ.cl M ρ H (mergeD xs ds) (mergeK hs vs) := by
  induction r with
  | nil => intro xs hs q; exact q
  | cons h r ih => intro xs hs q; exact ih (putD_rel h q)
/-- the pairs' readings from their codes -/
structure PPc (X : Cx) (Γ : Gx) (W : WX) (pos : Pos) (keys : List (Option Expr)) (values : List Expr) (c : KCode) : Prop where
  ex : ∃ trs, PPs X pos keys values trs ∧ ∀ (M : Addr → Prop) (ρ : List Addr) (env : Env) (S : Store) (σ : St) (H : Hp) (P : List (Key × D) → Prop) (Q : List (V × V) → Hp → Prop), At X.K Γ M ρ env S σ H → (c env S).Sat P (XW Γ W σ H) →
    (∀ ds vs H', P ds → LamX.ExtN H H' → TabsOk Γ H' → RelP X.K Γ.cl M ρ H' ds vs → Q (vs.map fun kv => (kV kv.1, kv.2)) H') → tPairs trs σ H Q
theorem pp_nil : PPc X Γ W pos [] [] kNil := ⟨⟨[], pps_nil, fun M ρ env S σ H P Q a h hq => hq [] [] H h (LamX.ExtN.refl H) a.w.tabs .nil⟩⟩
theorem pp_cons {k v : Expr} {ks : List (Option Expr)} {vs : List Expr} {ck cv : Code} {r : KCode} (hk : PEc X Γ W k ck) (hv : PEc X Γ W v cv) (hr : PPc X Γ W pos ks vs r) : PPc X Γ W pos (some k :: ks) (v :: vs) (kCons ck cv r) := by
  obtain ⟨trs, h1, h2⟩ := hr.ex
  refine ⟨⟨(tE X.K Γ W ck, tE X.K Γ W cv) :: trs, pps_cons hk hv h1, fun M ρ env S σ H P Q a h hq => ?_⟩⟩
  refine tE_step a (Res.sat_bind h) fun d1 v1 H1 g1 x1 t1 a1 r1 => ?_
  obtain ⟨kk, ek, g1⟩ := sat_opt g1
  have e3 := keyOf_rel r1 ek
  subst e3
  refine tE_step a1 (Res.sat_bind (sat_ext g1 x1)) fun d2 v2 H2 g2 x2 t2 a2 r2 => ?_
  refine h2 M ρ env S σ H2 (fun q => P ((kk, d2) :: q)) _ a2 ((Res.sat_bind (sat_ext g2 x2)).mono (fun q p => p) fun _ z => z) fun ds vs H3 p x3 t3 r3 => ?_
  exact hq ((kk, d2) :: ds) ((kk, v2) :: vs) H3 p ((x1.trans x2).trans x3) t3 (.cons (r2.keep (ext_keep x3)) r3)
def cDisp (c : KCode) : Code := fun env S => do
  let q ← c env S
  need (decide (q.length ≤ 15))
  .ok (.dct (mergeD [] q))
theorem pf_disp {keys : List (Option Expr)} {values : List Expr} {c : KCode} (h : PPc X Γ W pos keys values c) (hall : keys.all (·.isSome) = true := by rfl) (hl : keys.length = values.length := by rfl) (h0 : keys ≠ [] := by intro h; cases h)
    (h15 : keys.length ≤ 15 := by decide) : PEf X Γ W (.Dict keys values pos) (cDisp c) := by
  obtain ⟨trs, h1, h2⟩ := h.ex
  refine pe_of (pe_disp h1 hall hl h0 h15) fun σ H Q ⟨M, ρ, env, S, a, h⟩ p hp => ?_
  have ab := a.blkO (o := .dK []) hp (.inr (.inl ⟨_, rfl⟩))
  have xb : LamX.ExtN H (upd H p (.dK [])) := ext_new hp
  refine h2 (MD M p) ρ env S σ (upd H p (.dK [])) _ _ ab (sat_ext (Res.sat_bind h) xb) fun ds vs H2 q x t r => ?_
  obtain ⟨hb, q⟩ := sat_need q
  have hp2 : H2 p = some (.dK []) := x _ _ upd_same (fun _ z => (nomatch z))
  refine ⟨hp2, vs, rfl, by rw [← r.length]; exact of_decide_eq_true hb, ?_⟩
  have w2 := (ab.ext x t).w
  have hkp : Keep (MD M p) (MD M p) ρ ρ H2 (upd H2 p (.dK (mergeK [] vs))) := ⟨fun b u e hM hρ _ => ⟨by rw [upd_ne (fun z => hM (.inr z))]; exact e, hM, hρ⟩, fun b e => by
    rw [upd_ne (fun z => by rw [z, hp2] at e; exact absurd (Option.some.inj e) (IsCellO.nd (.inr (.inl ⟨_, rfl⟩))))]; exact e, fun _ _ e => e⟩
  have tb : TabsOk Γ (upd H2 p (.dK (mergeK [] vs))) := by
    refine ⟨fun q hq => ?_, fun P hP => ?_⟩
    · obtain ⟨ps, g1, g2, g3⟩ := t.1 q hq
      refine ⟨ps, by rw [upd_ne (fun z => by rw [z, hp2] at g1; cases g1)]; exact g1, g2, fun pos cv hc => ?_⟩
      obtain ⟨c, e1, e2⟩ := g3 pos cv hc
      exact ⟨c, e1, by rw [upd_ne (fun z => by rw [z, hp2] at e2; unfold LamX.CodeO at e2; cases e2)]; exact e2⟩
    · obtain ⟨ps, g1, g2⟩ := t.2 P hP
      exact ⟨ps, by rw [upd_ne (fun z => by rw [z, hp2] at g1; cases g1)]; exact g1, g2⟩
  refine q p H (upd H2 p (.dK (mergeK [] vs))) (LamX.ExtN.refl H) a.w.tabs hp (fun b o e n => ?_) tb ⟨_, upd_same, (merge_rel r .nil).keep hkp⟩
  rw [upd_ne (fun z => by rw [z, hp] at e; cases e)]
  exact xb.trans x b o e n
/-! ### module constants -/
/-- a tree that the written part alone holds -/
theorem pc_glob {x : Str} {d : D} {v : V} {u : Value} (hg : Gl X x) (hm : X.mg x = some u) (r : RelV v u) (hd : ∀ (M : Addr → Prop) (ρ : List Addr) (H : Hp), RelD X.K Γ.cl M ρ H d v) (hdb : (x == ("__debug__" : Str)) = false := by decide) : PEc X Γ W (.Name x pos) (cK d) :=
  pe_of (pe_glob hg hm r hdb) fun σ H Q ⟨M, ρ, env, S, a, h⟩ => h v H (LamX.ExtN.refl H) a.w.tabs (hd M ρ H)
/-! ### raise -/
/-- an own exception class without __init__ of its own -/
structure ExcC (X : Cx) (Γ : Gx) (x : Str) (c : Nat) (B newId initId : String) (bmB : List Value) : Prop where
  F : ExcBaseFacts B newId initId bmB
  q : PySem.W.excIn X.K (Γ.cl c) bmB newId = true
  g : X.mg x = some (.ref (Γ.cl c))
  k : PySem.W.keepIn X.K (.ref (Γ.cl c)) = true
  s : PySem.W.subIn X.K (.ref (Γ.cl c)) (.type "BaseException") = some true
  t : PySem.W.typeIn X.K (.ref (Γ.cl c)) = some (.type "type")
def sRaise (c : Nat) : SCode := fun _ _ => .exn ⟨c, none⟩
theorem ps_raiseC {x m : Str} {c j : Nat} {p p2 pos2 : Pos} {B newId initId : String} {bmB : List Value} (hc : X.calm = true) (C : ExcC X Γ x c B newId initId bmB) (tk : Takes X W) (hg : Gl X x) (hdb : (x == ("__debug__" : Str)) = false := by decide) :
    PSc X Γ W (.Raise (some (.Call (.Name x p) [.Constant (.str m) j p2] [] pos)) none pos2) (sRaise c) :=
  ps_of (ps_raise hc tk (pmk_own C.F C.q C.g C.k (raises_own C.s C.t) hg hdb)) fun D σ H ⟨M, ρ, env, S, a, h⟩ =>
    h (.ref (Γ.cl c)) none σ H (fun b o e _ _ => e) a.w.tabs ⟨rfl, rfl⟩
/-! ### a < b < c -/
def cChain (op op' : Op2) (a b c : Code) : TCode := fun env S => do
  let x ← a env S
  let y ← b env S
  let r ← op S x y
  let k ← opt (asB r)
  if k then do
    let z ← c env S
    let r' ← op' S y z
    opt (asB r')
  else .ok false
end
end L2.Th

set_option Elab.async false
set_option linter.all false
set_option maxRecDepth 100000
set_option maxHeartbeats 4000000
/-! Layer T: a def from its body. -/
namespace L2.Th
open PySem PySem.Spec PyProof.Rows
section
variable {K : PySem.W.Frag} {Γ : Gx} {M : Addr → Prop} {ρ : List Addr} {S : Store} {H : Hp}
theorem keep_out : KeepN M M ρ [] H H := ⟨fun b o e hM hρ _ => ⟨e, hM, by simp⟩, fun b e => e⟩
/-- a result leaves its frame: its cell is a value now -/
theorem frzD_out {d x : D} {v : V} (w : Wld K Γ M ρ S H) (e : frzD S d = some x) (r : RelD K Γ.cl M ρ H d v) : RelD K Γ.cl M [] H x v := by
  unfold frzD at e
  split at e
  · rename_i n
    cases r with
    | loc hl =>
      split at e
      · rename_i xs q
        split at e
        · rename_i hn
          cases e
          obtain ⟨vs, h1, h2⟩ := w.cells _ _ _ q hl
          exact .lst (w.dj _ (mem_of_loc hl)) (by simp) h1 (h2.keepN keep_out hn)
        · cases e
      · rename_i xs q
        split at e
        · rename_i hn
          cases e
          obtain ⟨vs, h1, h2⟩ := w.cells _ _ _ q hl
          exact .dK (w.dj _ (mem_of_loc hl)) (by simp) h1 (h2.keepN keep_out hn)
        · cases e
      · cases e
  · split at e
    · rename_i hn
      cases e
      exact r.keepN keep_out hn
    · cases e
end
/-- a def: its body over the arguments -/
def runB (N : Nat) (b : SCode) : Fn := fun ds => do
  let r ← b (ds.map some ++ List.replicate (N - ds.length) none) []
  match r.1 with
  | .nx => .ok .non
  | .rt d => opt (frzD r.2.2 d)
  | _ => .stuck
section
variable {P : Program} {w : World} {K : PySem.W.Frag} {mg : Str → Option Value} {base : Heap} {x qual : Str} {params : Arguments} {body : List Stmt} {scope : Scope} {f : Addr} {fd : FuncData} {Γ : Gx}
theorem rel_start {M : Addr → Prop} {H : Hp} {ds : List D} {vs : List V} {n : Nat} (r : RelDs K Γ.cl M [] H ds vs) : RelE K Γ M [] H (ds.map some ++ List.replicate n none) (vs.map some ++ List.replicate n none) := fun i d e => by
  by_cases hi : i < ds.length
  · rw [List.getElem?_append_left (by simpa using hi), List.getElem?_map] at e
    cases q : ds[i]? with
    | none => rw [q] at e; cases e
    | some d' =>
      rw [q] at e
      cases e
      obtain ⟨v, e1, r1⟩ := r.get q
      exact ⟨v, by rw [List.getElem?_append_left (by have := (List.getElem?_eq_some_iff.mp e1).1; simpa using this), List.getElem?_map, e1]; rfl, r1⟩
  · rw [List.getElem?_append_right (by simpa using hi), List.getElem?_replicate] at e
    split at e <;> cases e
/-- the rule for a def; its code object is known -/
theorem cal_of {N ps : List Str} {k n : Nat} {b : SCode} {p : He.Defn} (F : FunD K x qual params body scope [] [] (He.fAd K p) fd) (hm : mg x = some (.ref (He.fAd K p))) (S : FnScope N ps scope) (hn : ps.length = n)
    (hb : ∀ (kV doc pm : Value) (an : Option Addr) (cdv ct : Value) (us : List Value), us.length = ps.length → bindArgs (PySem.W.fnOf x qual params body scope .none kV doc pm an cdv ct) ⟨us, []⟩ = pure (ps.zip us))
    (h : ∀ (A : Around) (outer : List PySem.Env) (s : Shared) (H : Hp) (E : XK), Room k (A.deeper (envOfC qual scope s.heap.objs.size (He.fAd K p) (.ref (He.codeOf K p)))) →
      PSsc (cxOf (L2.CX P w) P w K mg base N qual scope (He.fAd K p) (.ref (He.codeOf K p)) A outer s H E) Γ (fun cls d _ H' => E cls d H') body b) : Cal P w K mg base Γ x (k + 1) n (runB N.length b) := by
  refine ⟨_, fd, ps, hn, hm, F.kp, F.bindsN hb, ?_⟩
  obtain ⟨oc, od, dV, kV, doc, pm, an, cdv, ct, osl, rfl, lk, hcd, _, _⟩ := F.ex
  obtain ⟨c, rfl⟩ := He.codeIn_ref hcd
  have ec : He.codeOf K p = c := He.codeOf_eq lk rfl
  subst ec
  refine fn_of lk hcd S (fun vs H Q E q => q.1.trans hn.symm) fun A outer s H vs Q E hr hsp => ⟨_, h A outer s H E hr, ?_⟩
  obtain ⟨hl, M, ds, hM, ht, r, hs⟩ := hsp
  have hlen := r.length
  have he : start N vs = vs.map some ++ List.replicate (N.length - ds.length) none := by rw [hlen]; rfl
  rw [he]
  refine ⟨M, [], ds.map some ++ List.replicate (N.length - ds.length) none, [], ⟨⟨hM, ht, List.nodup_nil, fun a z => (by cases z), rfl, fun n c a z => (by cases z)⟩, rel_start r, by simp [hlen]⟩, ?_⟩
  refine (Res.sat_bind hs).mono (fun r p ρ' σ' H' xe a' => ?_) fun e p cls dx σ' H' y t rx => p cls dx H' (fun b o e n => y b o e (by simp) n) t rx
  have hx : LamX.ExtN H H' := fun b o e n => xe.obj b o e (by simp) n
  obtain ⟨fl, env', S'⟩ := r
  cases fl with
  | nx => exact p .non H' hx a'.w.tabs .non
  | bk => exact p.elim
  | ct => exact p.elim
  | rt d =>
    intro v rv
    obtain ⟨d', e, p⟩ := sat_opt (f := fun z => Res.ok z) (Res.sat_bind' (p.mono (fun d q => q) fun _ z => z))
    exact p v H' hx a'.w.tabs (frzD_out a'.w e rv)
end
end L2.Th

set_option Elab.async false
set_option linter.all false
set_option maxRecDepth 100000
set_option maxHeartbeats 4000000
/-! Layer U: xs[i] = e of a list cell; chains; powers. -/
namespace L2.Th
open PySem PySem.Spec PyProof.Rows
/-- o[i] = e of a list -/
def sLput (co ci ce : Code) : SCode := fun env S => do
  let d ← ce env S
  let o ← co env S
  let i ← ci env S
  let n ← opt (isLoc o)
  let xs ← opt (cellL S n)
  let k ← opt (asI i)
  let j ← opt (ixN xs.length k)
  .ok (.nx, env, S.set n (.lst (xs.set j d)))
section
variable {X : Cx} {Γ : Gx} {W : WX} {pos pos' : Pos} {o i e : Expr} {co ci ce : Code}
theorem asB_eq {d : D} {k : Bool} (h : asB d = some k) : d = .bl k := by cases d <;> simp [asB] at h; rw [h]
theorem asI_eq {d : D} {k : Int} (h : asI d = some k) : d = .int k := by cases d <;> simp [asI] at h; rw [h]
theorem ps_lputC (ho : PEc X Γ W o co) (hi : PEc X Γ W i ci) (he : PEc X Γ W e ce) (hs : swapsWithSole [.Subscript o i pos'] e pos.line X.env = pure false := by rfl) (hw : swappedStores [.Subscript o i pos'] e X.env = pure none := by rfl)
    (h1 : (assignEach [.Subscript o i pos'] X.env).map (·.2) = [assign (.Subscript o i pos') X.env] := by rfl)
    (ha : ∀ v, assign (.Subscript o i pos') X.env v = (do
      let ov ← holding [v] (eval o X.env)
      let iv ← holding [v, ov] (eval i X.env)
      standAt pos'
      holding [v, ov, iv] (setItem ov iv v)
      release [v, ov, iv] []) := by intro _; rfl) :
    PSc X Γ W (.Assign [.Subscript o i pos'] e pos) (sLput co ci ce) :=
  ps_of (ps_asg he (pg_sub ho hi set_list ha) hs hw h1) fun D σ H ⟨M, ρ, env, S, a, h⟩ => by
    refine tE_st a (Res.sat_bind h) fun d v H1 h1 x1 t1 a1 r1 => ?_
    refine tE_st a1 (Res.sat_bind (sat_xs h1 (.of x1))) fun d2 v2 H2 h2 x2 t2 a2 r2 => ?_
    refine tE_st a2 (Res.sat_bind (sat_xs h2 (.of x2))) fun d3 v3 H3 h3 x3 t3 a3 r3 => ?_
    obtain ⟨n, en, h4⟩ := sat_opt h3
    obtain ⟨xs, ex, h5⟩ := sat_opt h4
    obtain ⟨k, ek, h6⟩ := sat_opt h5
    obtain ⟨j, ej, h7⟩ := sat_opt h6
    clear h3 h4 h5 h6
    have en := isLoc_eq en
    subst en
    have ek := asI_eq ek
    subst ek
    have ex := cellL_eq ex
    have r2 := r2.keep (ext_keep x3)
    cases r3
    cases r2 with
    | loc hl =>
      obtain ⟨vs, g1, g2⟩ := a3.w.cells n _ _ ex hl
      have r := (r1.keep (ext_keep x2)).keep (ext_keep x3)
      refine ⟨_, vs, k, j, rfl, rfl, g1, by rw [← g2.length]; exact ej, ?_⟩
      have kk := keep_put (o := .lst (vs.set j v)) a3.w (mem_of_loc hl)
      have new : CellOk X.K Γ M ρ (upd H3 _ (.lst (vs.set j v))) (.lst (xs.set j d)) _ := ⟨_, upd_same, (g2.set r j).keep kk⟩
      exact h7 ρ σ _ ((((Ext.of x1).trans (.of x2)).trans (.of x3)).trans (ext_put (mem_of_loc hl))) (a3.put hl (.inl ⟨_, rfl⟩) new)
end
/-! ### a < b < c -/
section
variable {X : Cx} {Γ : Gx} {W : WX} {pos : Pos} {a b c : Expr} {ca cb cc : Code} {o o' : CmpOp} {op op' : Op2}
theorem pt_chainC (h1 : CmpC X Γ o op) (h2 : CmpC X Γ o' op') (ha : PEc X Γ W a ca) (hb : PEc X Γ W b cb) (hc : PEc X Γ W c cc)
    (hm : lastMarks [o, o'] [b, c] = false := by with_unfolding_all rfl) : PTc X Γ W (.Compare a [o, o'] [b, c] pos) (cChain op op' ca cb cc) :=
  pt_of (pt_chain h1.r h2.r ha hb hc hm) fun σ H Q ⟨M, ρ, env, S, at0, h⟩ => by
    refine tE_step at0 (Res.sat_bind h) fun d1 v1 H1 h1' x1 t1 a1 r1 => ?_
    refine tE_step a1 (Res.sat_bind (sat_ext h1' x1)) fun d2 v2 H2 h2' x2 t2 a2 r2 => ?_
    have x12 := x1.trans x2
    refine ⟨M, ρ, S, d1, d2, a2.w, r1.keep (ext_keep x2), r2, h1.n S d1 d2 _ _ _ ((Res.sat_bind (sat_ext h2' x2)).mono (fun z p v3 H3 x3 t3 r3 => ?_) fun _ z => z)⟩
    have a3 := a2.ext x3 t3
    obtain ⟨k, ek, p⟩ := sat_opt p
    have ek := asB_eq ek
    subst ek
    cases r3
    refine ⟨k, rfl, ?_⟩
    cases k with
    | false => exact ⟨false, rfl, p H3 ((x1.trans x2).trans x3) t3⟩
    | true =>
      refine tE_step a3 (Res.sat_bind (sat_ext (show Res.Sat _ _ (_ >>= _) from p) x3)) fun d4 v4 H4 q x4 t4 a4 r4 => ?_
      refine ⟨M, ρ, S, d2, d4, a4.w, (r2.keep (ext_keep x3)).keep (ext_keep x4), r4, h2.n S d2 d4 _ _ _ ((Res.sat_bind q).mono (fun z p v5 H5 x5 t5 r5 => ?_) fun _ z => z)⟩
      cases z with
      | bl b =>
        cases r5
        exact ⟨b, rfl, p H5 ((((x1.trans x2).trans x3).trans x4).trans x5) t5⟩
      | _ => exact p.elim
/-! ### ** -/
def opPow : Op2 := fun _ x y => match x, y with
  | .int i, .int j => do need (decide (0 ≤ j) && decide (j ≤ 1000000) && decide (i.natAbs < 2 ^ 64)); .ok (.int (i ^ j.toNat))
  | _, _ => .stuck
theorem op_powC : OpR X (binaryOp .Pow) (rOp2 X.K Γ opPow) := by
  intro pins s σ H x y v u Q I rx ry h
  obtain ⟨M, ρ, S, dx, dy, w, r1, r2, h⟩ := h
  unfold opPow at h
  split at h
  · rename_i i j
    cases r1; cases r2
    obtain ⟨hb, h⟩ := sat_need h
    simp only [Bool.and_eq_true, decide_eq_true_eq] at hb
    exact op_pow pins s σ H _ _ v u Q I rx ry ⟨i, j, rfl, rfl, ⟨hb.1.1, hb.1.2, hb.2⟩, h _ H (LamX.ExtN.refl H) w.tabs (.int _)⟩
  · exact h.elim
theorem nx_pow : NX2 opPow := fun S x y => by unfold opPow; split; exact .bind .need fun _ => .ok; exact .stuck
theorem pc_pow (ha : PEc X Γ W a ca) (hb : PEc X Γ W b cb) : PEc X Γ W (.BinOp a .Pow b pos) (cOp2 opPow ca cb) := pc_bin op_powC nx_pow ha hb
end
end L2.Th

set_option Elab.async false
set_option linter.all false
set_option maxRecDepth 100000
set_option maxHeartbeats 4000000
/-! Layer V: what the printed derivations lean on. -/
namespace L2.Th
open PySem PySem.Spec PyProof.Rows
theorem takes0 {X : Cx} : Takes X W0 := fun _ _ ⟨_, _, _, _, _, _, _, _, _, _, _, _, _, _, _, _, z⟩ => z.elim
/-- a constant of a module -/
def GlobK (K : PySem.W.Frag) (Γ : Gx) (mg : Str → Option Value) (x : Str) (d : D) : Prop :=
  ∃ v u, mg x = some u ∧ RelV v u ∧ ∀ (M : Addr → Prop) (ρ : List Addr) (H : Hp), RelD K Γ.cl M ρ H d v
theorem pc_globK {X : Cx} {Γ : Gx} {W : WX} {pos : Pos} {x : Str} {d : D} (hg : Gl X x) (G : GlobK X.K Γ X.mg x d) (hdb : (x == ("__debug__" : Str)) = false := by decide) : PEc X Γ W (.Name x pos) (cK d) := by
  obtain ⟨v, u, h1, h2, h3⟩ := G
  exact pc_glob hg h1 h2 h3 hdb
/-- an own exception class, by the written part -/
structure Exc (K : PySem.W.Frag) (Γ : Gx) (mg : Str → Option Value) (x : Str) (c : Nat) : Prop where
  ex : ∃ (B newId initId : String) (bmB : List Value), ExcBaseFacts B newId initId bmB ∧ PySem.W.excIn K (Γ.cl c) bmB newId = true ∧ mg x = some (.ref (Γ.cl c)) ∧ PySem.W.keepIn K (.ref (Γ.cl c)) = true ∧
    PySem.W.subIn K (.ref (Γ.cl c)) (.type "BaseException") = some true ∧ PySem.W.typeIn K (.ref (Γ.cl c)) = some (.type "type")
theorem ps_raiseK {X : Cx} {Γ : Gx} {W : WX} {x m : Str} {c j : Nat} {p p2 pos pos2 : Pos} (hc : X.calm = true) (C : Exc X.K Γ X.mg x c) (tk : Takes X W) (hg : Gl X x) (hdb : (x == ("__debug__" : Str)) = false := by decide) :
    PSc X Γ W (.Raise (some (.Call (.Name x p) [.Constant (.str m) j p2] [] pos)) none pos2) (sRaise c) := by
  obtain ⟨B, newId, initId, bmB, h1, h2, h3, h4, h5, h6⟩ := C.ex
  exact ps_raiseC hc ⟨h1, h2, h3, h4, h5, h6⟩ tk hg hdb
end L2.Th

set_option Elab.async false
set_option linter.all false
set_option maxRecDepth 100000
set_option maxHeartbeats 4000000
/-! Layer W: items() of what a call gives. -/
namespace L2.Th
open PySem PySem.Spec PyProof.Rows
def isDct : D → Option (List (D × D))
  | .dct kvs => some kvs
  | _ => none
theorem isDct_eq {d : D} {kvs : List (D × D)} (h : isDct d = some kvs) : d = .dct kvs := by cases d <;> simp [isDct] at h; rw [h]
def lfk : List (D × D) → Bool
  | [] => true
  | (_, d) :: r => lf d && lfk r
/-- .. in f(e, ..).items() -/
def iItemsCall (n : Nat) (F : Fn) (ac : ACode) : ICode := fun env S => do
  let ds ← ac env S
  need (decide (ds.length = n) && lfs ds)
  let d ← F ds
  let kvs ← opt (isDct d)
  need (lfk kvs)
  .ok (.seq (kvs.map fun kv => .tup [kv.1, kv.2]))
section
variable {X : Cx} {Γ : Gx} {W : WX} {pos : Pos} {e : Expr} {es : List Expr} {ac : ACode}
/-- what an expression gives is locked -/
theorem pe_lock {e : Expr} {t : TE} (h : PE X e t) : PE X e (fun σ H Q => t σ H fun x H1 => ∃ a u, x = .ref a ∧ H1 a = some u ∧ Mut (some u) ∧ ∀ od, Q x (upd H1 a (.frz od u))) :=
  ⟨fun pins s σ H Q I h' => thn (h.run pins s σ H _ I h') fun v s1 ⟨x, H1, I1, r1, a, u, ex, hu, mu, q⟩ => by
    obtain ⟨od, I2⟩ := I1.lock hu mu
    exact ⟨x, _, I2, r1, q od⟩⟩
section
variable {K : PySem.W.Frag} {cl : Nat → Addr} {M M' : Addr → Prop} {ρ ρ' : List Addr} {H H' : Hp} {a : Addr}
theorem RelKs.lf (hM : ∀ a vs, M a → H a ≠ some (.tup vs)) (hρ : ∀ a vs, a ∈ ρ → H a ≠ some (.tup vs)) : ∀ {d : List (D × D)} {v : List (Key × V)}, lfk d = true → RelKs K cl M' ρ' H d v → RelKs K cl M ρ H d v
  | _, _, _, .nil => .nil
  | _, _, n, .cons h r => .cons (RelD.lf hM hρ (b2 (by simpa only [lfk] using n)).1 h) (RelKs.lf hM hρ (b2 (by simpa only [lfk] using n)).2 r)
theorem RelKs.get : ∀ {xs : List (D × D)} {vs : List (Key × V)} {i : Nat} {p : D × D}, RelKs K cl M ρ H xs vs → xs[i]? = some p → ∃ k v, vs[i]? = some (k, v) ∧ p.1 = kD k ∧ RelD K cl M ρ H p.2 v
  | _, _, _, _, .nil, e => by simp at e
  | _, _, 0, _, .cons (k := k) (v := v) h r, e => by simp at e; subst e; exact ⟨k, v, rfl, rfl, h⟩
  | _, _, i + 1, _, .cons h r, e => by simpa using RelKs.get (i := i) r (by simpa using e)
theorem RelKs.len : ∀ {xs : List (D × D)} {vs : List (Key × V)}, RelKs K cl M ρ H xs vs → xs.length = vs.length
  | _, _, .nil => rfl
  | _, _, .cons h r => congrArg Nat.succ (RelKs.len r)
mutual
theorem RelD.lf0 {o : HO} {od : Obj} {hs : List (Key × V)} (h : H a = some (.dK hs)) : ∀ {d : D} {v : V}, lf d = true → RelD K cl M ρ H d v → RelD K cl M ρ (upd H a (.frz od (.dK hs))) d v
  | _, _, _, .non => .non
  | _, _, _, .bl b => .bl b
  | _, _, _, .int i => .int i
  | _, _, _, .str x => .str x
  | _, _, n, .tup z1 z2 g r => .tup z1 z2 (by rw [upd_ne (ne_of g h (fun z => nomatch z))]; exact g) (RelDs.lf0 (o := o) h (by simpa only [Th.lf] using n) r)
  | _, _, n, .lst _ _ _ r => by simp [Th.lf] at n
  | _, _, n, .tupK g r => .tupK g (RelDs.lf0 (o := o) h (by simpa only [Th.lf] using n) r)
  | _, _, n, .dK .. => by simp [Th.lf] at n
  | _, _, n, .ins .. => by simp [Th.lf] at n
  | _, _, n, .dice _ => by simp [Th.lf] at n
  | _, _, n, .loc _ => by simp [Th.lf] at n
theorem RelDs.lf0 {o : HO} {od : Obj} {hs : List (Key × V)} (h : H a = some (.dK hs)) : ∀ {d : List D} {v : List V}, lfs d = true → RelDs K cl M ρ H d v → RelDs K cl M ρ (upd H a (.frz od (.dK hs))) d v
  | _, _, _, .nil => .nil
  | _, _, n, .cons g r => .cons (RelD.lf0 (o := o) h (b2 (by simpa only [Th.lfs] using n)).1 g) (RelDs.lf0 (o := o) h (b2 (by simpa only [Th.lfs] using n)).2 r)
end
theorem RelKs.lf0 {od : Obj} {hs : List (Key × V)} (h : H a = some (.dK hs)) : ∀ {d : List (D × D)} {v : List (Key × V)}, lfk d = true → RelKs K cl M ρ H d v → RelKs K cl M ρ (upd H a (.frz od (.dK hs))) d v
  | _, _, _, .nil => .nil
  | _, _, n, .cons g r => .cons (RelD.lf0 (o := .dK []) h (b2 (by simpa only [lfk] using n)).1 g) (RelKs.lf0 h (b2 (by simpa only [lfk] using n)).2 r)
theorem rel_key {k : Key} : RelD K cl M ρ H (kD k) (kV k) := by cases k <;> constructor
end
theorem pi_itemsC {n k kk : Nat} {F : Fn} {x : Str} {p apos cpos tpos : Pos} {elts : List Expr} (C : CalX X Γ x k n F) (hr : Room k X.A) (hg : Gl X x) (tk : Takes X W) (ha : PAc X Γ W (e :: es) ac) (hdb : (x == ("__debug__" : Str)) = false := by decide)
    (he : starEach (e :: es) X.env = (false, eval e X.env) :: starEach es X.env := by rfl) (hpl : (backTo pos (starEach es X.env)).any (·.1) = false := by rfl)
    (hbase : attributeBase (.Call (.Name x p) (e :: es) [] pos) "items" X.env (eval (.Call (.Name x p) (e :: es) [] pos) X.env) = eval (.Call (.Name x p) (e :: es) [] pos) X.env := by rfl) (hline : (apos.endLine == cpos.line) = true := by rfl) :
    PIc X Γ W (.Tuple elts kk tpos) (.Call (.Attribute (.Call (.Name x p) (e :: es) [] pos) "items" apos) [] [] cpos) (iItemsCall n F ac) := by
  obtain ⟨f, fd, ps, h1, h2, h3, h4, h5⟩ := C.ex
  refine pi_of (pi_items (pe_lock (pe_callS h5 hr hg h2 h3 h4 (fun σ => passAt tk σ) ha hdb he hpl)) hbase hline) fun σ H R ⟨M, ρ, env, S, a, h⟩ => ?_
  refine tA_step a (Res.sat_bind h) fun ds vs H1 hd e1 t1 a1 r1 => ?_
  obtain ⟨hlen, hd⟩ := sat_need hd
  simp only [Bool.and_eq_true, decide_eq_true_eq] at hlen
  obtain ⟨hlen, hlf⟩ := hlen
  have nt : ∀ b ws, (M b ∨ b ∈ ρ ∨ ∃ hs, H1 b = some (.dK hs)) → H1 b ≠ some (.tup ws) := fun b ws z e => by
    rcases z with z | z | ⟨hs, z⟩
    · obtain ⟨o, e1, c⟩ := a1.w.m b z
      rw [e] at e1
      exact c.ntup _ (Option.some.inj e1).symm
    · obtain ⟨o, e1, c⟩ := a1.w.at z
      rw [e] at e1
      exact c.ntup _ (Option.some.inj e1).symm
    · rw [e] at z; cases z
  refine ⟨by rw [← r1.length]; exact hlen, fun b => M b ∨ b ∈ ρ ∨ ∃ hs, H1 b = some (.dK hs), ds, fun b z => ?_, a1.w.tabs, RelDs.lf (fun b ws z => nt b ws z) (fun b ws z => by simp at z) hlf r1, (Res.sat_bind hd).mono (fun d p v H2 x2 t2 r2 => ?_) fun ex p cls dx H' x t r => p cls dx H' (e1.trans x) t r⟩
  · rcases z with z | z | ⟨hs, z⟩
    · exact a1.w.m b z
    · exact a1.w.at z
    · exact ⟨_, z, .inr (.inl ⟨hs, rfl⟩)⟩
  · obtain ⟨kvs, ek, p1⟩ := sat_opt p
    obtain ⟨hk, p2⟩ := sat_need p1
    clear p p1
    have ek := isDct_eq ek
    subst ek
    cases r2 with
    | dK hM hρ h r =>
      rename_i ad hs
      refine ⟨ad, .dK hs, rfl, h, trivial, fun od => ⟨ad, od, hs, rfl, upd_same, ?_⟩⟩
      have x3 : LamX.ExtN H1 (upd H2 ad (.frz od (.dK hs))) := fun b o eb nb => by
        have q := x2 b o eb nb
        rw [upd_ne (fun z => by
          subst z
          rw [h] at q
          cases q
          exact hM (.inr (.inr ⟨_, eb⟩)))]
        exact q
      have t3 : TabsOk Γ (upd H2 ad (.frz od (.dK hs))) := by
        refine ⟨fun q hq => ?_, fun P hP => ?_⟩
        · obtain ⟨ps, g1, g2, g3⟩ := t2.1 q hq
          refine ⟨ps, by rw [upd_ne (fun z => by rw [z, h] at g1; cases g1)]; exact g1, g2, fun pos cv hc => ?_⟩
          obtain ⟨c, e1, e2⟩ := g3 pos cv hc
          exact ⟨c, e1, by rw [upd_ne (fun z => by rw [z, h] at e2; unfold LamX.CodeO at e2; cases e2)]; exact e2⟩
        · obtain ⟨ps, g1, g2⟩ := t2.2 P hP
          exact ⟨ps, by rw [upd_ne (fun z => by rw [z, h] at g1; cases g1)]; exact g1, g2⟩
      refine p2 _ _ (e1.trans x3) t3 ?_
      have a3 := a1.ext x3 t3
      have r3 : RelKs X.K Γ.cl M ρ (upd H2 ad (.frz od (.dK hs))) kvs hs := by
        refine RelKs.lf (M' := fun b => M b ∨ b ∈ ρ ∨ ∃ hs, H1 b = some (.dK hs)) (ρ' := []) (fun b ws z e => ?_) (fun b ws z e => ?_) hk ?_
        · obtain ⟨o, e1, c⟩ := a3.w.m b z
          rw [e] at e1
          exact c.ntup _ (Option.some.inj e1).symm
        · obtain ⟨o, e1, c⟩ := a3.w.at z
          rw [e] at e1
          exact c.ntup _ (Option.some.inj e1).symm
        · exact RelKs.lf0 h hk r
      have had : ¬ M ad ∧ ad ∉ ρ := ⟨fun z => hM (.inl z), fun z => hM (.inr (.inl z))⟩
      intro M1 ρ1 S1 H4 k4 w4 i
      have hl := r3.len
      obtain ⟨g1, g2, g3⟩ := k4.obj ad _ upd_same had.1 had.2 (fun _ z => nomatch z)
      refine ⟨fun d ed => ?_, fun hle => ⟨g1, by rw [← hl]; simpa using hle⟩⟩
      rw [List.getElem?_map] at ed
      cases q : kvs[i]? with
      | none => rw [q] at ed; cases ed
      | some kv =>
        rw [q] at ed
        cases ed
        obtain ⟨kk, v, ev, ek, rv⟩ := r3.get q
        refine ⟨⟨g1, (List.getElem?_eq_some_iff.mp ev).1⟩, fun y H5 hy => ?_⟩
        obtain ⟨T, k', v', e', rfl, hT, rfl⟩ := hy
        rw [ev] at e'
        cases e'
        have wT := w4.new hT
        refine ⟨ext_new hT, tabs_new w4.tabs hT, .tup wT.1 wT.2 upd_same (.cons ?_ (.cons ?_ .nil))⟩
        · rw [ek]; exact rel_key
        · exact (rv.keep k4).keep (ext_keep (ext_new hT))
end
end L2.Th

set_option Elab.async false
set_option linter.all false
set_option maxRecDepth 100000
set_option maxHeartbeats 4000000
/-! Layer X: a lambda handed to a def that tries it. -/
namespace L2.Th
open PySem PySem.Spec PyProof.Rows
section
variable {X : Cx} {pins : List (Addr × Obj)} {σ : L2.St} {H : Hp} {s : Shared}
theorem off_stack (I : Inv X pins σ H s) {q : Addr} (hq : s.heap.objs.size ≤ q) : q ∉ frs X.stack := by
  intro z
  rcases List.mem_cons.mp (I.stkSub q z) with e | e
  · subst e
    exact absurd I.lt (Nat.not_lt.mpr hq)
  · exact I.nofs hq e
/-- the maker's lambda; of all tables only its own grows -/
theorem lam_mk {Γ : Gx} {cd tb : Addr} {pr : Arguments} {bd : Expr} {sc : Scope} {ps : Pos} {E : Value → Shared → Prop} {Q : Value → Shared → Prop} (I : Inv X pins σ H s) (TB : LamX.TabB X.base X.mg cd tb) (hcd : X.env.code = .ref cd)
    (mem : (tb, X.env.qual ++ "<lambda>") ∈ Γ.tl) (one : ∀ z ∈ Γ.tl, z.1 = tb → z.2 = X.env.qual ++ "<lambda>") (ng : ∀ z ∈ Γ.tg, z ≠ tb) (tok : TabsOk Γ H) (nodef : defaultsOf pr X.env = ([], [])) (fr : ∀ y ∈ sc.names, y.2 = .free → ∃ q, X.env.cells.lookup y.1 = some q)
    (next : ∀ (f q : Addr) (pm ct : Value) (H1 : Hp) (s1 : Shared), Inv X pins σ H1 s1 → LamX.ExtN H H1 → TabsOk Γ H1 →
      s1.heap.get? f = some (PySem.W.kla_obj "<lambda>" (X.env.qual ++ "<lambda>") pr bd sc (cloFrom X.env.cells sc.names []) pm q ct) → H1 f = none → f ∉ frs X.stack → H1 q = some (LamX.CodeO q (X.env.qual ++ "<lambda>")) → Q (.ref f) s1) :
    wpAny (model X.prog X.w) X.A (eval (.Lambda pr bd sc ps) X.env) Q E s := by
  obtain ⟨tv, htv, tri, among⟩ := tok.1 _ mem
  have inTab : s.heap.get? tb = some (PySem.W.tabObj tv) := I.hok tb _ htv
  have bi := TB.bm.keeps I.bk
  have cdk := TB.code.keeps I.bk
  have gl := I.mod.glob.keeps I.bk
  refine PySem.W.kla_eval nodef ?_
  cases hit : codeAmong ps tv.toList with
  | some cv =>
    obtain ⟨q, rfl, hq⟩ := among ps cv hit
    refine PySem.W.kla_makeFunctionHit (mg := X.mg) (c := cd) (P := tb) (ps := tv) (closure_ok fr) I.ok.glob gl hcd cdk inTab tri hit bi fun ct h1 tk1 ext big => ?_
    exact next _ q _ ct H _ (I.kept (t' := tk1) fun b o e => Heap.get?_push_of_some _ (ext b o e)) (LamX.ExtN.refl H) tok (Heap.get?_push_size _ rfl) (I.hok.fresh big) (off_stack I big) hq
  | none =>
    refine PySem.W.kla_makeFunction (mg := X.mg) (c := cd) (P := tb) (ps := tv) (closure_ok fr) I.ok.glob gl hcd cdk inTab tri hit TB.gP bi fun q ct h1 tk1 ext ge1 lt1 rec tab1 => ?_
    obtain ⟨q', oq, fs, tq, eq, a1, a2, a3⟩ := rec
    cases eq
    have big : s.heap.objs.size ≤ h1.objs.size := Nat.le_trans ge1 (Nat.le_of_lt lt1)
    have fresh : H q = none := I.hok.fresh ge1
    have J := LamX.inv_table (t' := tk1) (more := #[rawInt ps.line, rawInt ps.col, .ref q]) I htv
      (h' := h1.push (PySem.W.kla_obj "<lambda>" (X.env.qual ++ "<lambda>") pr bd sc (cloFrom X.env.cells sc.names []) ((X.mg "__name__").getD .none) q ct)) (fun b o nb e => Heap.get?_push_of_some _ (ext b o nb e)) (Heap.get?_push_of_some _ tab1) ge1 ⟨oq, fs, tq, Heap.get?_push_of_some _ a1, a2, a3⟩
    have grow : (tv ++ #[rawInt ps.line, rawInt ps.col, Value.ref q]).toList = tv.toList ++ [rawInt ps.line, rawInt ps.col, .ref q] := by simp
    have far : ∀ b o, H b = some o → b ≠ q := fun b o e => ne_of_none e fresh
    have stay : ∀ b o, b ≠ tb → H b = some o → upd (upd H tb (.tbl (tv ++ #[rawInt ps.line, rawInt ps.col, .ref q]))) q (LamX.CodeO q (X.env.qual ++ "<lambda>")) b = some o := fun b o nb e => by
      rw [upd_ne (far b o e), upd_ne nb, e]
    have xt : LamX.ExtN H (upd (upd H tb (.tbl (tv ++ #[rawInt ps.line, rawInt ps.col, .ref q]))) q (LamX.CodeO q (X.env.qual ++ "<lambda>"))) := fun b o e nt => stay b o (by
      rintro rfl
      rw [htv] at e
      exact nt _ (Option.some.inj e).symm) e
    refine next h1.objs.size q _ ct _ _ J xt ⟨fun z hz => ?_, fun z hz => ?_⟩ (Heap.get?_push_size _ rfl) ?_ (off_stack I big) upd_same
    · by_cases ez : z.1 = tb
      · rw [one z hz ez, ez]
        refine ⟨_, (upd_ne (far tb _ htv)).trans upd_same, ?_, fun p cv hc => ?_⟩
        · rw [grow]
          exact PySem.TriplesOk_snoc _ _ _ _ tri
        · rw [grow] at hc
          rcases LamX.among_app _ tri hc with y | y
          · obtain ⟨r, e1, e2⟩ := among p cv y
            exact ⟨r, e1, xt _ _ e2 LamX.codeO_ne⟩
          · exact ⟨q, y, upd_same⟩
      · obtain ⟨us, b1, b2, b3⟩ := tok.1 z hz
        refine ⟨us, stay _ _ ez b1, b2, fun p cv hc => ?_⟩
        obtain ⟨r, e1, e2⟩ := b3 p cv hc
        exact ⟨r, e1, xt _ _ e2 LamX.codeO_ne⟩
    · obtain ⟨us, b1, b2⟩ := tok.2 z hz
      exact ⟨us, stay _ _ (ng z hz) b1, b2⟩
    · have d1 : h1.objs.size ≠ q := fun z => absurd lt1 (by rw [z]; exact Nat.lt_irrefl _)
      have d2 : h1.objs.size ≠ tb := fun z => absurd (Heap.lt_size inTab) (by rw [← z]; exact Nat.not_lt.mpr big)
      rw [upd_ne d1, upd_ne d2, I.hok.fresh big]
end
end L2.Th

set_option Elab.async false
set_option linter.all false
set_option maxRecDepth 100000
set_option maxHeartbeats 4000000
/-! Layer Y: told(lambda: e), the errors told by texts. -/
namespace L2.Th
open PySem PySem.Spec PyProof.Rows
def catchR {α : Type} (h : Exn → Res α) : Res α → Res α
  | .ok a => .ok a
  | .exn e => h e
  | .stuck => .stuck
  | .roll n k => .roll n fun r => catchR h (k r)
theorem sat_catch {α : Type} {h : Exn → Res α} {Q : α → Prop} {R : Exn → Prop} : ∀ {x : Res α}, (catchR h x).Sat Q R → x.Sat Q fun e => (h e).Sat Q R
  | .ok _, z => z
  | .exn _, z => z
  | .stuck, z => z
  | .roll _ _, z => ⟨z.1, fun r h0 h1 => sat_catch (z.2 r h0 h1)⟩
def cTold (tab : Nat → Option Str) (c : Code) : Code := fun env S => catchR (fun e => do let t ← opt (tab e.c); .ok (.str t)) (c env S)
/-- the clauses -/
inductive HdsT (sg : Scope) (mg : Str → Option Value) : List ExceptHandler → List (Addr × Str) → Prop
  | nil : HdsT sg mg [] []
  | cons {e ret : Str} {CS : Addr} {j : Nat} {p4 p5 p6 p7 : Pos} {hds : List ExceptHandler} {cs : List (Addr × Str)} (h1 : sg.names.lookup e = some .globalImplicit) (h2 : mg e = some (.ref CS)) (h3 : (e == ("__debug__" : Str)) = false) (r : HdsT sg mg hds cs) :
      HdsT sg mg (.ExceptHandler (some (.Name e p4)) none [.Return (some (.Constant (.str ret) j p5)) p6] p7 :: hds) ((CS, ret) :: cs)
def lOf (cs : List (Addr × Str)) : List (Value × (Addr → Value → Option Addr → TS)) := cs.map fun p => (Value.ref p.1, fun _ _ _ => fun D _ H => D.rt (.str p.2) H)
def toldB (K : PySem.W.Frag) (cls : Addr) (ret : Str) : List (Addr × Str) → Bool
  | [] => false
  | p :: r => match PySem.W.exmOne K (.ref cls) (.ref p.1) with
    | some true => decide (p.2 = ret)
    | some false => toldB K cls ret r
    | none => false
theorem told_many {K : PySem.W.Frag} {cls : Addr} {ret : Str} {D : Ends} {d : Option Addr} {σ : L2.St} {H : Hp} : ∀ {cs : List (Addr × Str)}, toldB K cls ret cs = true → D.rt (.str ret) H → wMany K (fun _ _ _ _ => False) D (lOf cs) (.ref cls) d σ H
  | [], h, _ => by cases h
  | p :: r, h, q => by
    unfold toldB at h
    split at h
    · rename_i e
      exact ⟨true, e, (fun _ a _ => by have := of_decide_eq_true h; show D.rt (.str p.2) H; rw [this]; exact q), fun z => by cases z⟩
    · rename_i e
      exact ⟨false, e, (fun z => by cases z), fun _ => told_many h q⟩
    · cases h
/-- the def that tells, by its name -/
structure TolD (K : PySem.W.Frag) (mg : Str → Option Value) (Γ : Gx) (x : Str) (tab : Nat → Option Str) : Prop where
  ex : ∃ (g : Addr) (oc : Value) (od : Option Addr) (pg : Arguments) (sg : Scope) (dV kV doc pm cdv ct : Value) (an : Option Addr) (osl : Array (Option Value)) (a : Str) (p1 p2 p3 p8 : Pos) (h₀ : ExceptHandler) (hds : List ExceptHandler) (cs : List (Addr × Str)),
    mg x = some (.ref g) ∧ PySem.W.keepIn K (.ref g) = true ∧ K.lookup g = some ⟨oc, od, .func (PySem.W.fnOf x x pg [.Try [.Return (some (.Call (.Name a p1) [] [] p2)) p3] (h₀ :: hds) [] [] p8] sg dV kV doc pm an cdv ct), osl⟩ ∧ PySem.W.codeIn K cdv x = true ∧
    Binds K (PySem.W.fnOf x x pg [.Try [.Return (some (.Call (.Name a p1) [] [] p2)) p3] (h₀ :: hds) [] [] p8] sg dV kV doc pm an cdv ct) [a] [] ∧ FnScope [a] [a] sg ∧ Vis sg a ∧ (a == ("__debug__" : Str)) = false ∧ (a == ("__classdict__" : Str)) = false ∧ HdsT sg mg (h₀ :: hds) cs ∧
    ∀ c t, tab c = some t → toldB K (Γ.cl c) t cs = true
theorem hds_ok {X : Cx} : ∀ {hds : List ExceptHandler} {cs : List (Addr × Str)}, HdsT X.env.scope X.mg hds cs → X.env.scope.kind = .function → HdsOk X.nox hds (lOf cs)
  | _, _, .nil, _ => .nil
  | _, _, .cons h1 h2 h3 r, hk => .cons ⟨show X.env.kindOf _ = _ from h1, h3, .inl h2⟩ (fun a oe cls d pn _ _ => pss_one (ps_ret pe_str)) (hds_ok r hk)
section
variable {X : Cx} {Γ : Gx} {W : WX}
theorem pc_told {tab : Nat → Option Str} {x : Str} {c P : Addr} {k : Nat} {params : Arguments} {body : Expr} {scope : Scope} {p lpos pos : Pos} {ce : Code} (T : TolD X.K X.mg Γ x tab) (hg : Gl X x)
    (TB : LamX.TabB X.base X.mg c P) (hcode : X.env.code = .ref c) (hmT : (P, X.env.qual ++ "<lambda>") ∈ Γ.tl) (hu : ∀ p ∈ Γ.tl, p.1 = P → p.2 = X.env.qual ++ "<lambda>") (hng : ∀ z ∈ Γ.tg, z ≠ P) (hr : Room (k + 2) X.A) (L : LamX.LamS X.env.scope scope)
    (hbody : ∀ (A : Around) (outer : List PySem.Env) (s : Shared) (H : Hp) (E : XK) (f c' : Addr), Room k (A.deeper (LamX.lamEnv X scope s.heap.objs.size f c')) → PEc (LamX.lamCx X A outer s H E scope f c') Γ (fun cls d _ H' => E cls d H') body ce)
    (hdef : defaultsOf params X.env = ([], []) := by rfl) (hbind : ∀ (q : Str) (cl : List (Str × Addr)) (pm cv ctv : Value), bindArgs (PySem.W.kla_fn "<lambda>" q params body scope cl pm cv ctv) ⟨[], []⟩ = pure [] := by intros; rfl)
    (hdb : (x == ("__debug__" : Str)) = false := by decide) : PEc X Γ W (.Call (.Name x p) [.Lambda params body scope lpos] [] pos) (cTold tab ce) := by
  obtain ⟨g, oc, od, pg, sg, dV, kV, doc, pm, cdv, ct, an, osl, a, p1, p2, p3, p8, h₀, hds, cs, hm, hk, lk, hcg, hb, Sg, hva, hd, hcd, hT, htab⟩ := T.ex
  refine ⟨fun pins s σ H Q I ⟨M, ρ, env, S, at0, h⟩ => ?_⟩
  refine wpAny_Call_Name_kw (ld_glob I hg hm ?_ hdb)
  refine PySem.W.callWith_K (h₀ := X.base) I.ok.mod.kin hk ?_ (by rfl) (by rfl)
  show wpAny _ _ (spliced ((false, eval (.Lambda params body scope lpos) X.env) :: backTo pos (starEach [] X.env))) _ _ s
  refine Calls.spliced_cons (lam_mk I TB hcode hmT hu hng at0.w.tabs hdef (L.has I.ok) fun f c' pm' ctv H1 s1 I1 eN T1 hf hfn hfr hco => ?_)
  refine Calls.spliced_nil ⟨I1.kIn, ?_⟩
  have rc : codeAny (model X.prog X.w) X.A (.call (.ref g) ⟨[.ref f], []⟩) (CR C8.CX0 X.stack X.prog X.w H1 s1 Q C8.E0) s1 := by
    refine LamX.run_ofS (N := [a]) (ps := [a]) (us := [.ref f]) (vs := [.ref f]) lk hcg Sg hr I1.env0 (hb s1 [.ref f] I1.kIn rfl) (.cons rfl .nil) rfl fun hr' => ?_
    have act := fun (W' : WX) (pn : List (Addr × Obj)) (xe : Value → Shared → Prop) (E : XK) (tk : Takes ((cxOf C8.CX0 X.prog X.w X.K X.mg X.base [a] x sg g cdv X.A X.stack s1 H1 C8.E0).tr pn xe) W') (hW : ∀ cls d σ' H', E cls d H' → W' cls d σ' H') =>
      LamX.pe_act (i := 0) (tb := tE X.K Γ (fun cls d _ H' => E cls d H') ce) (p1 := p1) (p2 := p2) I1 L hf hfn hfr (hbind _ _ _ _ _) tk hW hr' (fun A outer s H hr2 => hbody A outer s H E f c' hr2) rfl hva hd hcd
    refine ⟨_, (pss_one (ps_try_many (X := (cxOf C8.CX0 X.prog X.w X.K X.mg X.base [a] x sg g cdv X.A X.stack s1 H1 C8.E0).nox) (l := lOf cs) (Wout := fun _ _ _ _ => False)
      (tb := fun W' D σZ HZ => ∃ E' : XK, (∀ cls d σ' H', E' cls d H' → W' cls d σ' H') ∧ σZ[0]? = some (some (.ref f)) ∧ HZ c' = some (LamX.CodeO c' (X.env.qual ++ "<lambda>")) ∧ tE X.K Γ (fun cls d _ H' => E' cls d H') ce σ HZ D.rt)
      rfl rfl takes_none5 (fun W' pn xe tk _ => ⟨fun pins s' σ' H' D J ⟨E', hW, e1, e2, e3⟩ => (pss_one (ps_ret (pos := p3) (act W' pn xe E' tk hW))).run pins s' σ' H' D J ⟨e1, e2, e3⟩⟩) (hds_ok (X := cxOf C8.CX0 X.prog X.w X.K X.mg X.base [a] x sg g cdv X.A X.stack s1 H1 C8.E0) hT Sg.kind))).nox, ?_⟩
    refine ⟨fun cls d H' => ∀ σ', wMany X.K (fun _ _ _ _ => False) { nx := fun _ H' => Q .non H', rt := Q } (lOf cs) cls d σ' H', fun cls d σ' H' z => z σ', rfl, hco, M, ρ, env, S, at0.ext eN T1, (sat_catch h).mono (fun d q v H' x t r => q v H' (eN.trans x) t r) fun e q cls dx H' x t rx => ?_⟩
    intro σ'
    obtain ⟨tx, et, q⟩ := sat_opt q
    obtain ⟨ec, _⟩ := rx
    rw [ec]
    exact told_many (htab _ _ et) (q _ H' (eN.trans x) t (.str _))
  refine wpAny_call (codeAny_mono rc fun r s2 hq => ?_)
  cases r with
  | error e => exact (show False from hq).elim
  | ok fl =>
    cases fl with
    | ret u => exact I1.after hq
    | next => exact hq.elim
    | brk => exact hq.elim
    | cont => exact hq.elim
end
end L2.Th

set_option Elab.async false
set_option linter.all false
set_option maxRecDepth 100000
set_option maxHeartbeats 4000000
/-! Layer Z: the law's dice. -/
namespace L2.Th
open PySem PySem.Spec PyProof.Rows
section
variable {X : Cx} {pins : List (Addr × Obj)} {σ : L2.St} {H : Hp} {s : Shared}
abbrev diV (c n m : Int) : HO := .lst [.int c, .int n, .int m]
/-- a die is a list of three ints -/
theorem Inv.openD (I : Inv X pins σ H s) {a : Addr} (h : H a = some (diceO a)) : ∃ c n m, Inv X pins σ (upd H a (diV c n m)) s := by
  obtain ⟨⟨c, n, m, t1, t2, t3, k, _, e⟩, _, _⟩ := I.hok a _ h
  refine ⟨c, n, m, I.write (x := a) (e := a) (t' := s.toks) (h' := s.heap) (by rw [h]; trivial) (.inl rfl) (fun b u _ q => q) ⟨_, e⟩ ?_⟩
  exact ⟨(by show 3 ≤ sizeLine; decide), [.int c t1, .int n t2, .int m t3], k, .cons ⟨t1, rfl⟩ (.cons ⟨t2, rfl⟩ (.cons ⟨t3, rfl⟩ .nil)), e⟩
theorem Inv.sealD (I : Inv X pins σ H s) {a : Addr} {c n m : Int} (h : H a = some (diV c n m)) : Inv X pins σ (upd H a (diceO a)) s := by
  obtain ⟨_, its, k, r, e⟩ := I.hok a _ h
  cases r with
  | cons r1 r => cases r with
    | cons r2 r => cases r with
      | cons r3 r =>
        cases r
        obtain ⟨t1, rfl⟩ := r1
        obtain ⟨t2, rfl⟩ := r2
        obtain ⟨t3, rfl⟩ := r3
        refine I.write (x := a) (e := a) (t' := s.toks) (h' := s.heap) (by rw [h]; trivial) (.inl rfl) (fun b u _ q => q) ⟨_, e⟩ ?_
        refine ⟨⟨c, n, m, t1, t2, t3, k, trivial, e⟩, ⟨_, e⟩, ?_⟩
        rintro h1 h2 ⟨c, n, m, t1, t2, t3, k, _, e⟩ st
        exact ⟨c, n, m, t1, t2, t3, k, trivial, st _ e⟩
end
section
variable {X : Cx} {l : List Stmt} {t : TS}
/-- the die at a is opened for the body, closed at its return -/
theorem pss_open (h : PSs X l t) : PSs X l fun D σ H => ∃ a, H a = some (diceO a) ∧ ∀ c n m, (∀ q, H a ≠ some (LamX.CodeO a q)) → t { nx := fun _ _ => False, rt := fun v H' => (∃ c n m, H' a = some (diV c n m)) ∧ D.rt v (upd H' a (diceO a)) } σ (upd H a (diV c n m)) :=
  ⟨fun pins s σ H D I ⟨a, ha, q⟩ => by
    obtain ⟨c, n, m, I1⟩ := Inv.openD I ha
    refine wpAny_mono (h.run pins s σ _ _ I1 (q c n m fun y e => by
      obtain ⟨⟨oc, vs, t, g1, g2, _⟩, _, _⟩ := I.hok a _ e
      obtain ⟨⟨c, n, m, t1, t2, t3, k, _, g3⟩, _, _⟩ := I.hok a _ ha
      rw [g3] at g1
      cases g1
      cases g2)) (fun f s' z => ?_) fun _ _ z => z
    cases f with
    | next => obtain ⟨_, _, _, z⟩ := z; exact z.elim
    | brk => obtain ⟨_, _, _, z⟩ := z; exact z.elim
    | cont => obtain ⟨_, _, _, z⟩ := z; exact z.elim
    | ret u =>
      obtain ⟨v, σ', H', J, r, ⟨c', n', m', e⟩, z⟩ := z
      exact ⟨v, σ', _, Inv.sealD J e, r, z⟩⟩
/-- a list of three ints is returned as a die -/
theorem pss_seal (h : PSs X l t) : PSs X l fun D σ H => t { nx := fun _ _ => False, rt := fun v H' => ∃ a c n m, v = .ref a ∧ H' a = some (diV c n m) ∧ D.rt v (upd H' a (diceO a)) } σ H :=
  ⟨fun pins s σ H D I q => by
    refine wpAny_mono (h.run pins s σ _ _ I q) (fun f s' z => ?_) fun _ _ z => z
    cases f with
    | next => obtain ⟨_, _, _, z⟩ := z; exact z.elim
    | brk => obtain ⟨_, _, _, z⟩ := z; exact z.elim
    | cont => obtain ⟨_, _, _, z⟩ := z; exact z.elim
    | ret u =>
      obtain ⟨v, σ', H', J, r, a, c', n', m', ev, e, z⟩ := z
      exact ⟨v, σ', _, Inv.sealD J e, r, z⟩⟩
end
def cdRoll : SCode :=
  (sSeq (sIf (tOrC (tVal (cOp2 opEq (cOp2 opIx (cVar 0) (cK (.int 2))) (cK (.int 2)))) (tAndC (tVal (cOp2 opEq (cOp2 opIx (cVar 0) (cK (.int 2))) (cK (.int 1)))) (tVal (cOp2 opGt (cOp2 opIx (cVar 0) (cK (.int 0))) (cK (.int 0))))))
  (sSeq (sAsg (cOp2 opMod (cOpN (op1 fInt) (aCons (cOp2 opIx (cVar 0) (cK (.int 0))) aNil)) (cVar 1)) (gNm 2))
  (sSeq (sLput (cVar 0) (cK (.int 0)) (cOp2 opDiv (cOp2 opIx (cVar 0) (cK (.int 0))) (cVar 1)))
  (sRet (cVar 2))))
  sNext)
  (sSeq (sLput (cVar 0) (cK (.int 2)) (cK (.int 0)))
  (sSeq (sLput (cVar 0) (cK (.int 0)) (cOp2 opMod (cOpN (op1 fInt) (aCons (cOp2 opAdd (cOp2 opAdd (cOp2 opMul (cOp2 opIx (cVar 0) (cK (.int 0))) (cK (.int 48271))) (cOp2 opMul (cOp2 opIx (cVar 0) (cK (.int 1))) (cK (.int 69621)))) (cK (.int 11))) aNil)) (cK (.int 2147483647))))
  (sSeq (sLput (cVar 0) (cK (.int 1)) (cOp2 opAdd (cOp2 opIx (cVar 0) (cK (.int 1))) (cK (.int 1))))
  (sRet (cOp2 opMod (cOpN (op1 fInt) (aCons (cOp2 opAdd (cOp2 opDiv (cOp2 opIx (cVar 0) (cK (.int 0))) (cK (.int 7))) (cOp2 opIx (cVar 0) (cK (.int 0)))) aNil)) (cVar 1)))))))
theorem cOp2_eq {op : Op2} {a b : Code} {env : Env} {S : Store} {x y : D} {r : Res D} (h1 : a env S = .ok x) (h2 : b env S = .ok y) (h3 : op S x y = r) : cOp2 op a b env S = r := by unfold cOp2; rw [h1, Res.ok_bind, h2, Res.ok_bind, h3]
theorem need_dec {p : Prop} [Decidable p] (h : p) : need (decide p) = .ok () := by rw [decide_eq_true h]; rfl
theorem roll_run (c n m many : Int) (h : 0 < many) (h2 : many < 1073741824) : ∃ r c' n' m' env', 0 ≤ r ∧ r < many ∧ cdRoll [some (.loc 0), some (.int many), none] [.lst [.int c, .int n, .int m]] = .ok (.rt (.int r), env', [.lst [.int c', .int n', .int m']]) := by
  have q : ∀ z : Int, 0 ≤ z % many ∧ z % many < many := fun z => ⟨Int.emod_nonneg z (by omega), Int.emod_lt_of_pos z h⟩
  have n1 : need (decide (0 < many)) = .ok () := need_dec h
  have n2 : need (decide (0 < many) && decide (many < 1073741824)) = .ok () := by rw [decide_eq_true h, decide_eq_true h2]; rfl
  have sa : ∀ (c n m : Int), cOp2 opEq (cOp2 opIx (cVar 0) (cK (.int 2))) (cK (.int 2)) [some (.loc 0), some (.int many), none] [.lst [.int c, .int n, .int m]] = .ok (.bl (m == 2)) := fun c n m => rfl
  have sb : ∀ (c n m : Int), cOp2 opEq (cOp2 opIx (cVar 0) (cK (.int 2))) (cK (.int 1)) [some (.loc 0), some (.int many), none] [.lst [.int c, .int n, .int m]] = .ok (.bl (m == 1)) := fun c n m => rfl
  have sc : ∀ (c n m : Int), cOp2 opGt (cOp2 opIx (cVar 0) (cK (.int 0))) (cK (.int 0)) [some (.loc 0), some (.int many), none] [.lst [.int c, .int n, .int m]] = .ok (.bl (decide (c > 0))) := fun c n m => rfl
  have one : ∀ (c n m : Int), (sSeq (sAsg (cOp2 opMod (cOpN (op1 fInt) (aCons (cOp2 opIx (cVar 0) (cK (.int 0))) aNil)) (cVar 1)) (gNm 2))
    (sSeq (sLput (cVar 0) (cK (.int 0)) (cOp2 opDiv (cOp2 opIx (cVar 0) (cK (.int 0))) (cVar 1)))
    (sRet (cVar 2)))) [some (.loc 0), some (.int many), none] [.lst [.int c, .int n, .int m]] = .ok (.rt (.int (c % many)), [some (.loc 0), some (.int many), some (.int (c % many))], [.lst [.int (c / many), .int n, .int m]]) := fun c n m => by
    have e1 : cOp2 opMod (cOpN (op1 fInt) (aCons (cOp2 opIx (cVar 0) (cK (.int 0))) aNil)) (cVar 1) [some (.loc 0), some (.int many), none] [.lst [.int c, .int n, .int m]] = (do need (decide (0 < many)); .ok (.int (c % many))) := rfl
    rw [n1] at e1
    have e2 : cOp2 opDiv (cOp2 opIx (cVar 0) (cK (.int 0))) (cVar 1) [some (.loc 0), some (.int many), some (.int (c % many))] [.lst [.int c, .int n, .int m]] = (do need (decide (0 < many) && decide (many < 1073741824)); .ok (.int (c / many))) := rfl
    rw [n2] at e2
    unfold sSeq sAsg
    rw [e1]
    show (sLput (cVar 0) (cK (.int 0)) (cOp2 opDiv (cOp2 opIx (cVar 0) (cK (.int 0))) (cVar 1)) [some (.loc 0), some (.int many), some (.int (c % many))] [.lst [.int c, .int n, .int m]] >>= _) = _
    unfold sLput
    rw [e2]
    rfl
  have ts : ∀ (c n m : Int), tOrC (tVal (cOp2 opEq (cOp2 opIx (cVar 0) (cK (.int 2))) (cK (.int 2)))) (tAndC (tVal (cOp2 opEq (cOp2 opIx (cVar 0) (cK (.int 2))) (cK (.int 1)))) (tVal (cOp2 opGt (cOp2 opIx (cVar 0) (cK (.int 0))) (cK (.int 0))))) [some (.loc 0), some (.int many), none] [.lst [.int c, .int n, .int m]] = .ok ((m == 2) || ((m == 1) && decide (c > 0))) := fun c n m => by
    unfold tOrC tAndC tVal
    rw [sa, sb, sc]
    cases (m == 2) <;> cases (m == 1) <;> rfl
  have mo : ∀ z w : Int, -(2 ^ 64) < w → w < 2 ^ 64 → need (mulOk z w) = .ok () := fun z w h1 h2 => by
    unfold mulOk
    rw [decide_eq_true h1, decide_eq_true h2, Bool.and_true, Bool.or_true]
    rfl
  cases hc : ((m == 2) || ((m == 1) && decide (c > 0))) with
  | true =>
    refine ⟨c % many, c / many, n, m, [some (.loc 0), some (.int many), some (.int (c % many))], (q c).1, (q c).2, ?_⟩
    unfold cdRoll
    rw [sSeq, sIf, ts, hc, Res.ok_bind, if_pos rfl, one]
    rfl
  | false =>
    have e1 : ∀ (c n m : Int), cOp2 opMul (cOp2 opIx (cVar 0) (cK (.int 0))) (cK (.int 48271)) [some (.loc 0), some (.int many), none] [.lst [.int c, .int n, .int m]] = .ok (.int (c * 48271)) := fun c n m => by
      refine cOp2_eq (x := .int c) (y := .int 48271) rfl rfl ?_
      show (do need (mulOk c 48271); Res.ok (D.int (c * 48271))) = _
      rw [mo c 48271 (by decide) (by decide)]
      rfl
    have e2 : ∀ (c n m : Int), cOp2 opMul (cOp2 opIx (cVar 0) (cK (.int 1))) (cK (.int 69621)) [some (.loc 0), some (.int many), none] [.lst [.int c, .int n, .int m]] = .ok (.int (n * 69621)) := fun c n m => by
      refine cOp2_eq (x := .int n) (y := .int 69621) rfl rfl ?_
      show (do need (mulOk n 69621); Res.ok (D.int (n * 69621))) = _
      rw [mo n 69621 (by decide) (by decide)]
      rfl
    have e3 := fun c n m => cOp2_eq (op := opAdd) (cOp2_eq (op := opAdd) (e1 c n m) (e2 c n m) rfl) (show cK (.int 11) [some (.loc 0), some (.int many), none] [.lst [.int c, .int n, .int m]] = .ok (.int 11) from rfl) rfl
    have e4 : ∀ (c n m : Int), cOp2 opMod (cOpN (op1 fInt) (aCons (cOp2 opAdd (cOp2 opAdd (cOp2 opMul (cOp2 opIx (cVar 0) (cK (.int 0))) (cK (.int 48271))) (cOp2 opMul (cOp2 opIx (cVar 0) (cK (.int 1))) (cK (.int 69621)))) (cK (.int 11))) aNil)) (cK (.int 2147483647)) [some (.loc 0), some (.int many), none] [.lst [.int c, .int n, .int m]] = .ok (.int ((c * 48271 + n * 69621 + 11) % 2147483647)) := fun c n m => by
      refine cOp2_eq (x := .int (c * 48271 + n * 69621 + 11)) (y := .int 2147483647) ?_ rfl rfl
      unfold cOpN aCons
      rw [e3 c n m]
      rfl
    let c1 := (c * 48271 + n * 69621 + 11) % 2147483647
    have e5 : ∀ (c n m : Int), cOp2 opMod (cOpN (op1 fInt) (aCons (cOp2 opAdd (cOp2 opDiv (cOp2 opIx (cVar 0) (cK (.int 0))) (cK (.int 7))) (cOp2 opIx (cVar 0) (cK (.int 0)))) aNil)) (cVar 1) [some (.loc 0), some (.int many), none] [.lst [.int c, .int n, .int m]] = .ok (.int ((c / 7 + c) % many)) := fun c n m => by
      refine cOp2_eq (x := .int (c / 7 + c)) (y := .int many) rfl rfl ?_
      show (do need (decide (0 < many)); Res.ok (D.int ((c / 7 + c) % many))) = _
      rw [n1]
      rfl
    refine ⟨(c1 / 7 + c1) % many, c1, n + 1, 0, [some (.loc 0), some (.int many), none], (q _).1, (q _).2, ?_⟩
    unfold cdRoll
    rw [sSeq, sIf, ts, hc, Res.ok_bind, if_neg (by decide)]
    show sSeq _ _ [some (.loc 0), some (.int many), none] [.lst [.int c, .int n, .int m]] = _
    rw [sSeq]
    show sSeq _ _ [some (.loc 0), some (.int many), none] [.lst [.int c, .int n, .int 0]] = _
    rw [sSeq, sLput, e4]
    show sSeq _ _ [some (.loc 0), some (.int many), none] [.lst [.int c1, .int n, .int 0]] = _
    rw [sSeq]
    show sRet _ [some (.loc 0), some (.int many), none] [.lst [.int c1, .int (n + 1), .int 0]] = _
    rw [sRet, e5]
    rfl
/-- the die's promise -/
def fRoll : Fn := fun ds => match ds with
  | [.dice, .int m] => do
    need (decide (0 < m) && decide (m < 1073741824))
    .roll m fun r => .ok (.int r)
  | _ => .stuck
section
variable {P : Program} {w : World} {K : PySem.W.Frag} {mg : Str → Option Value} {base : Heap} {x qual : Str} {params : Arguments} {body : List Stmt} {scope : Scope} {f : Addr} {fd : FuncData} {Γ : Gx}
abbrev NRoll : List Str := ["dice", "many", "found"]
theorem cal_roll {k : Nat} {p : He.Defn} (F : FunD K x qual params body scope [] [] (He.fAd K p) fd) (hm : mg x = some (.ref (He.fAd K p))) (S : FnScope NRoll ["dice", "many"] scope)
    (hb : ∀ (kV doc pm : Value) (an : Option Addr) (cdv ct : Value) (us : List Value), us.length = 2 → bindArgs (PySem.W.fnOf x qual params body scope .none kV doc pm an cdv ct) ⟨us, []⟩ = pure ((["dice", "many"] : List Str).zip us))
    (h : ∀ (A : Around) (outer : List PySem.Env) (s : Shared) (H : Hp) (E : XK), Room k (A.deeper (envOfC qual scope s.heap.objs.size (He.fAd K p) (.ref (He.codeOf K p)))) →
      PSsc (cxOf (L2.CX P w) P w K mg base NRoll qual scope (He.fAd K p) (.ref (He.codeOf K p)) A outer s H E) Γ (fun cls d _ H' => E cls d H') body cdRoll) : Cal P w K mg base Γ x (k + 1) 2 fRoll := by
  refine ⟨_, fd, ["dice", "many"], rfl, hm, F.kp, F.bindsN hb, ?_⟩
  obtain ⟨oc, od, dV, kV, doc, pm, an, cdv, ct, osl, rfl, lk, hcd, _, _⟩ := F.ex
  obtain ⟨c, rfl⟩ := He.codeIn_ref hcd
  have ec : He.codeOf K p = c := He.codeOf_eq lk rfl
  subst ec
  refine fn_of lk hcd S (fun vs H Q E q => q.1) fun A outer s H vs Q E hr hsp => ⟨_, pss_open (h A outer s H E hr), ?_⟩
  obtain ⟨hl, M, ds, hM, ht, r, hs⟩ := hsp
  unfold fRoll at hs
  split at hs
  · rename_i many
    obtain ⟨hn, hs⟩ := sat_need hs
    simp only [Bool.and_eq_true, decide_eq_true_eq] at hn
    obtain ⟨_, hs⟩ := hs
    cases r with
    | cons r1 r => cases r with
      | cons r2 r =>
        cases r
        cases r2
        cases r1 with
        | dice ha =>
          rename_i a
          refine ⟨a, ha, fun c n m nco => ?_⟩
          have na : ¬ M a := fun z => (by obtain ⟨o, e, c⟩ := hM a z; rw [ha] at e; exact c.nd (Option.some.inj e).symm)
          have tb : ∀ {G : Hp} {o : HO}, (∃ u, G a = some u ∧ (∀ ps, u ≠ .tbl ps)) → (∀ q, G a ≠ some (LamX.CodeO a q)) → TabsOk Γ G → TabsOk Γ (upd G a o) := fun {G o} ⟨u, hu, n1⟩ n2 t => by
            refine ⟨fun q hq => ?_, fun P hP => ?_⟩
            · obtain ⟨ps, g1, g2, g3⟩ := t.1 q hq
              refine ⟨ps, by rw [upd_ne (fun z => by rw [z, hu] at g1; exact n1 _ (Option.some.inj g1))]; exact g1, g2, fun pos cv hc => ?_⟩
              obtain ⟨c, e1, e2⟩ := g3 pos cv hc
              exact ⟨c, e1, by rw [upd_ne (fun z => by rw [z] at e2; exact n2 _ e2)]; exact e2⟩
            · obtain ⟨ps, g1, g2⟩ := t.2 P hP
              exact ⟨ps, by rw [upd_ne (fun z => by rw [z, hu] at g1; exact n1 _ (Option.some.inj g1))]; exact g1, g2⟩
          obtain ⟨r, c', n', m', env', r0, r1, er⟩ := roll_run c n m many hn.1 hn.2
          have hs1 := hs r r0 r1
          have w0 : Wld K Γ M [a] [.lst [.int c, .int n, .int m]] (upd H a (diV c n m)) := by
            refine ⟨fun b hb => ?_, tb ⟨_, ha, fun ps z => nomatch z⟩ nco ht, List.nodup_cons.mpr ⟨by simp, List.nodup_nil⟩, fun b hb => by rw [List.mem_singleton.mp hb]; exact na, rfl, fun i cc b e1 e2 => ?_⟩
            · obtain ⟨o, e, cc⟩ := hM b hb
              exact ⟨o, by rw [upd_ne (fun z => na (by rw [← z]; exact hb))]; exact e, cc⟩
            · cases i with
              | zero =>
                cases e1
                cases e2
                exact ⟨_, upd_same, .cons (.int c) (.cons (.int n) (.cons (.int m) .nil))⟩
              | succ i => cases e2
          refine ⟨M, [a], [some (.loc 0), some (.int many), none], [.lst [.int c, .int n, .int m]], ⟨w0, fun i d e => ?_, rfl⟩, ?_⟩
          · match i, e with
            | 0, e => cases e; exact ⟨_, rfl, .loc rfl⟩
            | 1, e => cases e; exact ⟨_, rfl, .int many⟩
            | 2, e => cases e
            | i + 3, e => cases e
          · rw [er]
            intro ρ' σ' H' xe a' v rv
            have hl := xe.loc 0 a rfl
            obtain ⟨vs, g1, g2⟩ := a'.w.cells 0 _ a rfl hl
            cases g2 with
            | cons z1 g2 => cases g2 with
              | cons z2 g2 => cases g2 with
                | cons z3 g2 =>
                  cases g2
                  cases z1
                  cases z2
                  cases z3
                  refine ⟨⟨c', n', m', g1⟩, ?_⟩
                  cases rv
                  refine hs1 _ _ (fun b o e nt => ?_) (tb ⟨_, g1, fun ps z => nomatch z⟩ (fun q z => by rw [g1] at z; cases z) a'.w.tabs) (.int r)
                  by_cases hb : b = a
                  · rw [hb] at e ⊢
                    rw [upd_same, ← e, ha]
                  · rw [upd_ne hb]
                    exact xe.obj b o (by rw [upd_ne hb]; exact e) (by simpa using hb) nt
  · exact hs.elim
end
end L2.Th

set_option Elab.async false
set_option linter.all false
set_option maxRecDepth 100000
set_option maxHeartbeats 4000000
/-! Layer TiA: making dice; the rounds. -/
namespace L2.Th
open PySem PySem.Spec PyProof.Rows
def cdDice : SCode :=
  (sSeq (sIf (cChain opLt opLt (cOp2 opSub (cK (.int 0)) (cK (.int 10))) (cVar 0) (cK (.int 10)))
  (sRet (cLst (aCons (cOpN (op1 fAbs) (aCons (cVar 0) aNil)) (aCons (cK (.int 0)) (aCons (cK (.int 2)) aNil)))))
  sNext)
  (sRet (cLst (aCons (cVar 0) (aCons (cOp2 opAdd (cK (.int 1)) (cOp2 opMod (cOpN (op1 fInt) (aCons (cVar 0) aNil)) (cK (.int 1009)))) (aCons (cOpN (op1 fInt) (aCons (cOp2 opGe (cVar 0) (cOp2 opPow (cK (.int 10)) (cK (.int 18)))) aNil)) aNil))))))
theorem dice_run (c : Int) : ∃ x y z, cdDice [some (.int c)] [] = .ok (.rt (.lst [.int x, .int y, .int z]), [some (.int c)], []) := by
  have t1 : cChain opLt opLt (cOp2 opSub (cK (.int 0)) (cK (.int 10))) (cVar 0) (cK (.int 10)) [some (.int c)] [] = if decide ((0 - 10 : Int) < c) = true then .ok (decide (c < 10)) else .ok false := rfl
  have t2 : (sRet (cLst (aCons (cOpN (op1 fAbs) (aCons (cVar 0) aNil)) (aCons (cK (.int 0)) (aCons (cK (.int 2)) aNil))))) [some (.int c)] [] = .ok (.rt (.lst [.int (if c < 0 then -c else c), .int 0, .int 2]), [some (.int c)], []) := by
    rfl
  have t3 : (sRet (cLst (aCons (cVar 0) (aCons (cOp2 opAdd (cK (.int 1)) (cOp2 opMod (cOpN (op1 fInt) (aCons (cVar 0) aNil)) (cK (.int 1009)))) (aCons (cOpN (op1 fInt) (aCons (cOp2 opGe (cVar 0) (cOp2 opPow (cK (.int 10)) (cK (.int 18)))) aNil)) aNil))))) [some (.int c)] [] =
      .ok (.rt (.lst [.int c, .int (1 + c % 1009), .int (if decide (c ≥ (10 : Int) ^ (18 : Int).toNat) then 1 else 0)]), [some (.int c)], []) := by
    rfl
  unfold cdDice
  rw [sSeq, sIf, t1]
  cases decide ((0 - 10 : Int) < c) with
  | false =>
    rw [if_neg (by decide), Res.ok_bind, if_neg (by decide)]
    exact ⟨_, _, _, t3⟩
  | true =>
    rw [if_pos rfl, Res.ok_bind]
    cases decide (c < 10) with
    | true =>
      rw [if_pos rfl, t2]
      exact ⟨_, _, _, rfl⟩
    | false =>
      rw [if_neg (by decide)]
      exact ⟨_, _, _, t3⟩
def fDice : Fn := fun ds => match ds with
  | [.int _] => .ok .dice
  | _ => .stuck
section
variable {P : Program} {w : World} {K : PySem.W.Frag} {mg : Str → Option Value} {base : Heap} {x qual : Str} {params : Arguments} {body : List Stmt} {scope : Scope} {f : Addr} {fd : FuncData} {Γ : Gx}
theorem cal_dice {k : Nat} {p : He.Defn} (F : FunD K x qual params body scope [] [] (He.fAd K p) fd) (hm : mg x = some (.ref (He.fAd K p))) (S : FnScope ["cell"] ["cell"] scope)
    (hb : ∀ (kV doc pm : Value) (an : Option Addr) (cdv ct : Value) (us : List Value), us.length = 1 → bindArgs (PySem.W.fnOf x qual params body scope .none kV doc pm an cdv ct) ⟨us, []⟩ = pure ((["cell"] : List Str).zip us))
    (h : ∀ (A : Around) (outer : List PySem.Env) (s : Shared) (H : Hp) (E : XK), Room k (A.deeper (envOfC qual scope s.heap.objs.size (He.fAd K p) (.ref (He.codeOf K p)))) →
      PSsc (cxOf (L2.CX P w) P w K mg base ["cell"] qual scope (He.fAd K p) (.ref (He.codeOf K p)) A outer s H E) Γ (fun cls d _ H' => E cls d H') body cdDice) : Cal P w K mg base Γ x (k + 1) 1 fDice := by
  refine ⟨_, fd, ["cell"], rfl, hm, F.kp, F.bindsN hb, ?_⟩
  obtain ⟨oc, od, dV, kV, doc, pm, an, cdv, ct, osl, rfl, lk, hcd, _, _⟩ := F.ex
  obtain ⟨c, rfl⟩ := He.codeIn_ref hcd
  have ec : He.codeOf K p = c := He.codeOf_eq lk rfl
  subst ec
  refine fn_of lk hcd S (fun vs H Q E q => q.1) fun A outer s H vs Q E hr hsp => ⟨_, pss_seal (h A outer s H E hr), ?_⟩
  obtain ⟨hl, M, ds, hM, ht, r, hs⟩ := hsp
  unfold fDice at hs
  split at hs
  · rename_i i
    cases r with
    | cons r1 r =>
      cases r
      cases r1
      obtain ⟨x, y, z, er⟩ := dice_run i
      refine ⟨fun b => ∃ vs, H b = some (.lst vs), [], [some (.int i)], [], ⟨⟨fun b ⟨vs, e⟩ => ⟨_, e, .inl ⟨vs, rfl⟩⟩, ht, List.nodup_nil, fun a z => (by cases z), rfl, fun n c a z => (by cases z)⟩, fun j d e => ?_, rfl⟩, ?_⟩
      · match j, e with
        | 0, e => cases e; exact ⟨_, rfl, .int i⟩
        | j + 1, e => cases e
      · rw [er]
        intro ρ' σ' H' xe a' v rv
        cases rv with
        | lst hM2 hρ2 g1 g2 =>
          rename_i a vs
          cases g2 with
          | cons z1 g2 => cases g2 with
            | cons z2 g2 => cases g2 with
              | cons z3 g2 =>
                cases g2
                cases z1
                cases z2
                cases z3
                have kx : ∀ b o, H b = some o → (∀ ps, o ≠ .tbl ps) → upd H' a (diceO a) b = some o := fun b o e nt => by
                  have q := xe.obj b o e (by simp) nt
                  rw [upd_ne (fun zz => by
                    rw [zz, g1] at q
                    cases q
                    exact hM2 ⟨_, by rw [← zz]; exact e⟩)]
                  exact q
                refine ⟨a, x, y, z, rfl, g1, hs _ _ kx ⟨fun q hq => ?_, fun P hP => ?_⟩ (.dice upd_same)⟩
                · obtain ⟨ps, b1, b2, b3⟩ := a'.w.tabs.1 q hq
                  refine ⟨ps, by rw [upd_ne (fun z => by rw [z, g1] at b1; cases b1)]; exact b1, b2, fun pos cv hc => ?_⟩
                  obtain ⟨c, e1, e2⟩ := b3 pos cv hc
                  exact ⟨c, e1, by rw [upd_ne (fun z => by rw [z, g1] at e2; unfold LamX.CodeO at e2; cases e2)]; exact e2⟩
                · obtain ⟨ps, b1, b2⟩ := a'.w.tabs.2 P hP
                  exact ⟨ps, by rw [upd_ne (fun z => by rw [z, g1] at b1; cases b1)]; exact b1, b2⟩
  · exact hs.elim
end
/-! ### the rounds -/
/-- the statements behind the cut -/
def cdRest : SCode :=
  (sSeq (sIf (tVal (cOp2 opEq (cVar 2) (cLst aNil)))
  (sAsg (cLst (aCons (cK (.int 0)) aNil)) (gNm 2))
  sNext)
  (sRet (cLc [3] (iSeq (cVar 2)) (gNm 3) tYesC (cCall 1 fDice (aCons (cVar 3) aNil)))))
/-- what the rounds' def promises: a list of dice, however many -/
def spRounds (K : PySem.W.Frag) (Γ : Gx) : Sp := fun vs H Q _ => ∃ (a : Addr) (ns : List Int) (m : Int), vs = [.ref a, .int m] ∧ SqL K H a (ns.map V.int) ∧ ns.length ≤ 63 ∧ TabsOk Γ H ∧
  ∀ (n : Nat) v H', LamX.ExtN H H' → TabsOk Γ H' → RelD K Γ.cl (fun _ => False) [] H' (.lst (List.replicate n .dice)) v → Q v H'
structure Rnd (P : Program) (w : World) (K : PySem.W.Frag) (mg : Str → Option Value) (base : Heap) (Γ : Gx) (x : Str) (k : Nat) : Prop where
  ex : ∃ f fd ps, ps.length = 2 ∧ mg x = some (.ref f) ∧ PySem.W.keepIn K (.ref f) = true ∧ Binds K fd ps [] ∧ FnOk P w K mg base (L2.CX P w) k f fd ps (spRounds K Γ)
theorem rel_ints {K : PySem.W.Frag} {cl : Nat → Addr} {M : Addr → Prop} {ρ : List Addr} {H : Hp} : ∀ xs : List Int, RelDs K cl M ρ H (xs.map D.int) (xs.map V.int)
  | [] => .nil
  | x :: xs => .cons (.int x) (rel_ints xs)
theorem noLs_dice : ∀ n : Nat, noLs (List.replicate n D.dice) = true
  | 0 => rfl
  | n + 1 => by
    rw [List.replicate_succ]
    unfold noLs
    rw [noLs_dice n]
    rfl
theorem lay_ints : ∀ xs : List Int, (xs.map D.int).all (lay 59) = true
  | [] => rfl
  | x :: xs => by
    rw [List.map_cons, List.all_cons, lay_ints xs]
    rfl
theorem rest_lc (e : Code) (env : Env) (he : ∀ x : Int, e (env.set 3 (some (.int x))) [] = .ok .dice) : ∀ xs : List Int, lcSeq (gNm 3) tYesC e env [] (xs.map D.int) = .ok (List.replicate xs.length .dice)
  | [] => rfl
  | x :: xs => by
    rw [List.map_cons]
    show (do let y ← e (env.set 3 (some (.int x))) []; let ys ← lcSeq (gNm 3) tYesC e env [] (xs.map D.int); Res.ok (y :: ys)) = _
    rw [he x, rest_lc e env he xs]
    rfl
theorem rest_ret (m : Int) (xs : List Int) (hl : xs.length ≤ 63) (o : Option D) : (sRet (cLc [3] (iSeq (cVar 2)) (gNm 3) tYesC (cCall 1 fDice (aCons (cVar 3) aNil)))) [none, some (.int m), some (.lst (xs.map D.int)), o] [] =
    .ok (.rt (.lst (List.replicate xs.length .dice)), [none, some (.int m), some (.lst (xs.map D.int)), o], []) := by
  have hz : decide ((xs.map D.int).length ≤ sizeLine) = true := decide_eq_true (by rw [List.length_map]; exact Nat.le_trans hl (by decide))
  have e1 : cLc [3] (iSeq (cVar 2)) (gNm 3) tYesC (cCall 1 fDice (aCons (cVar 3) aNil)) [none, some (.int m), some (.lst (xs.map D.int)), o] [] = .ok (.lst (List.replicate xs.length .dice)) := by
    show (do need (decide ((xs.map D.int).length ≤ sizeLine)); let ys ← noX (lcSeq (gNm 3) tYesC (cCall 1 fDice (aCons (cVar 3) aNil)) [none, some (.int m), some (.lst (xs.map D.int)), none] [] (xs.map D.int)); Res.ok (D.lst ys)) = _
    rw [hz, rest_lc _ _ (fun x => rfl)]
    rfl
  rw [sRet, e1]
  rfl
theorem rest_run (m : Int) (xs : List Int) (hl : xs.length ≤ 63) : ∃ n env', cdRest [none, some (.int m), some (.lst (xs.map D.int)), none] [] = .ok (.rt (.lst (List.replicate n .dice)), env', []) := by
  unfold cdRest
  cases xs with
  | nil => exact ⟨1, _, rest_ret m [0] (by decide) none⟩
  | cons x xs =>
    refine ⟨(x :: xs).length, [none, some (.int m), some (.lst ((x :: xs).map D.int)), none], ?_⟩
    have hl2 := lay_ints (x :: xs)
    have e1 : cOp2 opEq (cVar 2) (cLst aNil) [none, some (.int m), some (.lst ((x :: xs).map D.int)), none] [] = (do need (((x :: xs).map D.int).all (lay 59) && true); Res.ok (D.bl false)) := rfl
    rw [hl2] at e1
    rw [sSeq, sIf, tVal, e1]
    exact rest_ret m (x :: xs) hl none
section
variable {P : Program} {w : World} {K : PySem.W.Frag} {mg : Str → Option Value} {base : Heap} {x qual : Str} {params : Arguments} {body : List Stmt} {scope : Scope} {f : Addr} {fd : FuncData} {Γ : Gx}
abbrev NRounds : List Str := ["script", "most", "cells", "cell"]
theorem cal_rounds {k : Nat} {p : He.Defn} (F : FunD K x qual params body scope [] [] (He.fAd K p) fd) (hm : mg x = some (.ref (He.fAd K p))) (S : FnScope NRounds ["script", "most"] scope)
    (hb : ∀ (kV doc pm : Value) (an : Option Addr) (cdv ct : Value) (us : List Value), us.length = 2 → bindArgs (PySem.W.fnOf x qual params body scope .none kV doc pm an cdv ct) ⟨us, []⟩ = pure ((["script", "most"] : List Str).zip us))
    (h : ∀ (A : Around) (outer : List PySem.Env) (s : Shared) (H : Hp) (E : XK), Room k (A.deeper (envOfC qual scope s.heap.objs.size (He.fAd K p) (.ref (He.codeOf K p)))) →
      PSs (cxOf (L2.CX P w) P w K mg base NRounds qual scope (He.fAd K p) (.ref (He.codeOf K p)) A outer s H E) body (tSeq (tAsg (tSl (rSlL K) (tVar 0) tNoPart (tPart (tVar 1))) (gName 2)) (tS K Γ (fun cls d _ H' => E cls d H') cdRest))) : Rnd P w K mg base Γ x (k + 1) := by
  refine ⟨_, fd, ["script", "most"], rfl, hm, F.kp, F.bindsN hb, ?_⟩
  obtain ⟨oc, od, dV, kV, doc, pm, an, cdv, ct, osl, rfl, lk, hcd, _, _⟩ := F.ex
  obtain ⟨c, rfl⟩ := He.codeIn_ref hcd
  have ec : He.codeOf K p = c := He.codeOf_eq lk rfl
  subst ec
  refine fn_of lk hcd S (fun vs H Q E q => ?_) fun A outer s H vs Q E hr hsp => ⟨_, h A outer s H E hr, ?_⟩
  · obtain ⟨a, ns, m, rfl, _⟩ := q
    rfl
  · obtain ⟨a, ns, m, rfl, hS, hl, ht, hQ⟩ := hsp
    refine ⟨.ref a, rfl, .int m, rfl, m, rfl, a, ns.map V.int, rfl, hS, fun q hq => ?_⟩
    obtain ⟨xs, hx, hxl⟩ : ∃ xs : List Int, cutV (ns.map V.int) none (some m) = xs.map V.int ∧ xs.length ≤ 63 := by
      refine ⟨(ns.drop (HT.sIx (ns.map V.int).length 0 none)).take (HT.sIx (ns.map V.int).length (ns.map V.int).length (some m) - HT.sIx (ns.map V.int).length 0 none), ?_, ?_⟩
      · unfold cutV
        rw [List.map_take, List.map_drop]
      · rw [List.length_take, List.length_drop]
        omega
    obtain ⟨n, env', er⟩ := rest_run m xs hxl
    have t1 : TabsOk Γ (upd H q (.lst (cutV (ns.map V.int) none (some m)))) := tabs_new ht hq
    rw [hx] at t1 ⊢
    refine ⟨fun _ => False, [], [none, some (.int m), some (.lst (xs.map D.int)), none], [], ⟨⟨fun b z => z.elim, t1, List.nodup_nil, fun a z => (by cases z), rfl, fun n c a z => (by cases z)⟩, fun j d e => ?_, rfl⟩, ?_⟩
    · match j, e with
      | 0, e => cases e
      | 1, e => cases e; exact ⟨_, rfl, .int m⟩
      | 2, e =>
        cases e
        exact ⟨_, rfl, .lst (fun z => z) (by simp) upd_same (rel_ints xs)⟩
      | 3, e => cases e
      | j + 4, e => cases e
    · rw [er]
      intro ρ' σ' H' xe a' v rv
      exact hQ n v H' (fun b o e nt => xe.obj b o (by rw [upd_ne (ne_of_none e hq)]; exact e) (by simp) nt) a'.w.tabs (frzD_out a'.w (x := .lst (List.replicate n .dice)) (by
        have := noLs_dice n
        show (if noLs (List.replicate n D.dice) = true then _ else _) = _
        rw [if_pos this]) rv)
end
end L2.Th

set_option Elab.async false
set_option linter.all false
set_option maxRecDepth 100000
set_option maxHeartbeats 4000000
/-! Layer TiB: the law's own def. -/
namespace L2.Th
open PySem PySem.Spec PyProof.Rows
def iRounds (K : PySem.W.Frag) (Γ : Gx) : TI := fun σ H R => ∃ (a : Addr) (ns : List Int), σ[0]? = some (some (.ref a)) ∧ SqL K H a (ns.map V.int) ∧ ns.length ≤ 63 ∧ TabsOk Γ H ∧
  ∀ (n : Nat) (p : Addr) H', LamX.ExtN H H' → TabsOk Γ H' → RelD K Γ.cl (fun _ => False) [] H' (.lst (List.replicate n .dice)) (.ref p) → R (Itl K p) H'
section
variable {X : Cx} {Γ : Gx} {W : WX} {tg : Expr}
theorem pi_rounds {k j : Nat} {m : Int} {x y : Str} {p p1 p2 pos : Pos} (C : Rnd X.prog X.w X.K X.mg X.base Γ x k) (hr : Room k X.A) (hg : Gl X x) (tk : Takes X W) (hN : X.N[0]? = some y) (hv : Vis X.env.scope y)
    (hdb : (x == ("__debug__" : Str)) = false := by decide) (hyd : (y == ("__debug__" : Str)) = false := by decide) (hcd : (y == ("__classdict__" : Str)) = false := by decide) :
    PI X tg (.Call (.Name x p) [.Name y p1, .Constant (.int m) j p2] [] pos) (iRounds X.K Γ) := by
  obtain ⟨f, fd, ps, h1, h2, h3, h4, h5⟩ := C.ex
  refine pi_of (pi_seqA (pe_callS h5 hr hg h2 h3 h4 (fun σ => passAt tk σ) (pa_cons (pe_var hN hv hyd hcd) (pa_cons pe_int pa_nil)) hdb)) fun σ H R ⟨a, ns, e0, hS, hl, ht, hR⟩ => ?_
  refine ⟨.ref a, e0, a, ns, m, rfl, hS, hl, ht, fun n v H' hx ht' r => ?_⟩
  cases r with
  | lst hM hρ h r => exact ⟨_, rfl, .inl ⟨_, .inl (.inl h), hR n _ H' hx ht' (.lst hM hρ h r)⟩⟩
end
/-- the law: True at every script -/
def spLaw (K : PySem.W.Frag) (Γ : Gx) : Sp := fun vs H Q _ => ∃ (a : Addr) (ns : List Int), vs = [.ref a] ∧ SqL K H a (ns.map V.int) ∧ ns.length ≤ 63 ∧ TabsOk Γ H ∧ ∀ H', Q (.bl true) H'
def env0 (n : Nat) : Env := (List.replicate n none).set 1 (some .dice)
theorem rep_dice {K : PySem.W.Frag} {cl : Nat → Addr} {M : Addr → Prop} {ρ : List Addr} {H : Hp} : ∀ {n : Nat} {vs : List V}, RelDs K cl M ρ H (List.replicate n .dice) vs → vs.length = n ∧ ∀ (i : Nat) (v : V), vs[i]? = some v → ∃ b, v = V.ref b ∧ H b = some (diceO b)
  | 0, _, .nil => ⟨rfl, fun i v e => by simp at e⟩
  | n + 1, _, .cons (.dice h) r => by
    obtain ⟨h1, h2⟩ := rep_dice r
    refine ⟨by rw [List.length_cons, h1], fun i v e => ?_⟩
    cases i with
    | zero => cases e; exact ⟨_, rfl, h⟩
    | succ i => exact h2 i v e
theorem pss_len {X : Cx} {l : List Stmt} {t : TS} (h : PSs X l t) : PSs X l fun D σ H => t { D with nx := fun σ' H' => σ'.length = X.N.length → D.nx σ' H' } σ H :=
  ⟨fun pins s σ H D I q => by
    refine wpAny_mono (h.run pins s σ _ _ I q) (fun f s' z => ?_) fun _ _ z => z
    cases f with
    | next => obtain ⟨σ', H', J, z⟩ := z; exact ⟨σ', H', J, z J.len⟩
    | brk => exact z
    | cont => exact z
    | ret u => exact z⟩
theorem law_read {K : PySem.W.Frag} {Γ : Gx} {W : WX} {b : SCode} {n : Nat} (hb : (b (env0 n) []).Sat (fun r => r.1 = .nx) fun _ => False) {σ : L2.St} {H : Hp} {D : Ends} {a : Addr} {ns : List Int} (hn : 2 ≤ n) (hσ : σ.length = n) (e0 : σ[0]? = some (some (.ref a))) (hS : SqL K H a (ns.map V.int)) (hl : ns.length ≤ 63) (ht : TabsOk Γ H)
    (hD : ∀ σ' H', D.nx σ' H') : tFor (iRounds K Γ) (tG K Γ [1] (gNm 1)) (fun D σ H => tS K Γ W b { D with nx := fun σ' H' => σ'.length = n → D.nx σ' H' } σ H) D σ H := by
  refine ⟨a, ns, e0, hS, hl, ht, fun m p H1 x1 t1 r1 => ?_⟩
  cases r1 with
  | lst hM hρ hp rs =>
    rename_i vs
    obtain ⟨hlen, hdi⟩ := rep_dice rs
    refine ⟨fun i q σ' H' => q = m - i ∧ i ≤ m ∧ LamX.ExtN H1 H' ∧ TabsOk Γ H' ∧ σ'.length = n, ⟨m, rfl, Nat.zero_le _, .refl _, t1, hσ⟩, ?_⟩
    rintro i q σ' H' ⟨rfl, hi, x2, t2, hs⟩
    have hp2 : H' p = some (.lst vs) := x2 p _ hp (fun _ z => nomatch z)
    by_cases hlt : i < m
    · right
      have hv : vs[i]? = some vs[i] := List.getElem?_eq_getElem (by omega)
      refine ⟨⟨vs, vs[i], .inl (.inl hp2), hv⟩, fun σ3 H3 => LamX.ExtN H1 H3 ∧ TabsOk Γ H3 ∧ σ3.length = n, fun σ3 H3 ⟨z1, z2, z3⟩ => ⟨m - (i + 1), by omega, rfl, hlt, z1, z2, z3⟩, fun y H3 hy => ?_⟩
      obtain ⟨eh, hy⟩ := hy
      subst eh
      have ey := hy vs (.inl (.inl hp2))
      obtain ⟨b', eb, hb'⟩ := hdi i y ey
      subst eb
      have hb2 : H3 b' = some (diceO b') := x2 b' _ hb' (fun _ z => nomatch z)
      have at0 : At K Γ (fun _ => False) [] (List.replicate n none) [] σ' H3 := ⟨⟨fun b z => z.elim, t2, List.nodup_nil, fun a z => (by cases z), rfl, fun n c a z => (by cases z)⟩, fun j d e => (by
        rw [List.getElem?_replicate] at e
        split at e <;> cases e), by rw [List.length_replicate, hs]⟩
      refine ⟨_, _, _, _, .dice, at0, .dice hb2, fun σ3 a3 df => ?_⟩
      refine ⟨_, _, _, _, a3, hb.mono (fun r er ρ' σ4 H4 xe a4 => ?_) fun _ z => z.elim⟩
      obtain ⟨fl, env4, S4⟩ := r
      obtain rfl : fl = .nx := er
      exact fun hn4 => ⟨x2.trans (fun b o e nt => xe.obj b o e (by simp) nt), a4.w.tabs, hn4⟩
    · left
      exact ⟨⟨vs, .inl (.inl hp2), by omega⟩, hD σ' H'⟩
section
variable {P : Program} {w : World} {K : PySem.W.Frag} {mg : Str → Option Value} {base : Heap} {x qual : Str} {params : Arguments} {body : List Stmt} {scope : Scope} {f : Addr} {fd : FuncData} {Γ : Gx}
/-- the law's def keeps its promise -/
theorem law_fn {N : List Str} {y : Str} {k : Nat} {b : SCode} {p : He.Defn} (F : FunD K x qual params body scope [] [] (He.fAd K p) fd) (S : FnScope N [y] scope) (hN : 2 ≤ N.length) (hb : (b (env0 N.length) []).Sat (fun r => r.1 = .nx) fun _ => False)
    (h : ∀ (A : Around) (outer : List PySem.Env) (s : Shared) (H : Hp) (E : XK), Room k (A.deeper (envOfC qual scope s.heap.objs.size (He.fAd K p) (.ref (He.codeOf K p)))) →
      PSs (cxOf (L2.CX P w) P w K mg base N qual scope (He.fAd K p) (.ref (He.codeOf K p)) A outer s H E) body
        (tSeq (tFor (iRounds K Γ) (tG K Γ [1] (gNm 1)) (fun D σ H => tS K Γ (fun cls d _ H' => E cls d H') b { D with nx := fun σ' H' => σ'.length = N.length → D.nx σ' H' } σ H)) (tRet (tC (.bl true))))) :
    FnOk P w K mg base (L2.CX P w) (k + 1) (He.fAd K p) fd [y] (spLaw K Γ) := by
  obtain ⟨oc, od, dV, kV, doc, pm, an, cdv, ct, osl, rfl, lk, hcd, _, _⟩ := F.ex
  obtain ⟨c, rfl⟩ := He.codeIn_ref hcd
  have ec : He.codeOf K p = c := He.codeOf_eq lk rfl
  subst ec
  refine fn_of lk hcd S (fun vs H Q E ⟨a, ns, e, _⟩ => by rw [e]; rfl) fun A outer s H vs Q E hr ⟨a, ns, e, hS, hl, ht, hQ⟩ => ⟨_, h A outer s H E hr, ?_⟩
  subst e
  refine law_read hb hN ?_ rfl hS hl ht fun σ' H' => hQ H'
  unfold L2.start
  rw [List.length_append, List.length_map, List.length_replicate]
  show 1 + (N.length - 1) = N.length
  omega
end
end L2.Th
namespace L2.Th
theorem Rnd.mono {P : PySem.Program} {w : PySem.World} {K : PySem.W.Frag} {mg : PySem.Str → Option PySem.Value} {base : PySem.Heap} {Γ : Gx} {x : PySem.Str} {j k : Nat} (c : Rnd P w K mg base Γ x j) (h : j ≤ k) : Rnd P w K mg base Γ x k := by
  obtain ⟨f, fd, ps, h1, h2, h3, h4, h5⟩ := c.ex
  exact ⟨f, fd, ps, h1, h2, h3, h4, h5.mono h⟩
end L2.Th

set_option Elab.async false
set_option linter.all false
set_option maxRecDepth 100000
set_option maxHeartbeats 4000000
/-! Layer TiC: what the head tells. -/
namespace L2.Th
open PySem PySem.Spec PyProof.Rows
def strOkD : D → Bool := fun _ => true
mutual
/-- a constant of the text as it stands in the written part -/
def constB (K : PySem.W.Frag) : D → Value → Bool
  | .non, .none => true
  | .bl b, .bool c => b == c
  | .int i, .int j _ => decide (i = j)
  | .str x, .str y _ => decide (x = y)
  | .tup xs, .ref a => match K.lookup a with
    | some ⟨.type c, _, .seq its _, _⟩ => decide (c = "tuple") && (decide (its.size ≤ sizeLine) && constBs K xs its.toList)
    | _ => false
  | _, _ => false
def constBs (K : PySem.W.Frag) : List D → List Value → Bool
  | [], [] => true
  | x :: xs, u :: us => constB K x u && constBs K xs us
  | _, _ => false
end
mutual
theorem constB_ok {K : PySem.W.Frag} {cl : Nat → Addr} : ∀ {d : D} {u : Value}, constB K d u = true → ∃ v, RelV v u ∧ ∀ (M : Addr → Prop) (ρ : List Addr) (H : Hp), RelD K cl M ρ H d v
  | .non, .none, _ => ⟨.non, rfl, fun _ _ _ => .non⟩
  | .bl b, .bool c, h => ⟨.bl b, by rw [show b = c from eq_of_beq (by simpa only [constB] using h)]; rfl, fun _ _ _ => .bl b⟩
  | .int i, .int j t, h => ⟨.int i, ⟨t, by rw [show i = j from of_decide_eq_true (by simpa only [constB] using h)]⟩, fun _ _ _ => .int i⟩
  | .str x, .str y t, h => ⟨.str x, ⟨t, by rw [show x = y from of_decide_eq_true (by simpa only [constB] using h)]⟩, fun _ _ _ => .str x⟩
  | .tup xs, .ref a, h => by
    unfold constB at h
    split at h
    · rename_i c od its n sl e
      obtain ⟨h1, h2⟩ := He.ba h
      obtain ⟨h3, h4⟩ := He.ba h2
      obtain ⟨vs, r, q⟩ := constBs_ok h4
      refine ⟨.ref a, rfl, fun M ρ H => .tupK (vs := vs) ⟨_, its, n, e, by rw [of_decide_eq_true h1], rfl, of_decide_eq_true h3, r⟩ (q M ρ H)⟩
    · cases h
theorem constBs_ok {K : PySem.W.Frag} {cl : Nat → Addr} : ∀ {ds : List D} {us : List Value}, constBs K ds us = true → ∃ vs, Vals vs us ∧ ∀ (M : Addr → Prop) (ρ : List Addr) (H : Hp), RelDs K cl M ρ H ds vs
  | [], [], _ => ⟨[], .nil, fun _ _ _ => .nil⟩
  | d :: ds, u :: us, h => by
    obtain ⟨h1, h2⟩ := He.ba (show (constB K d u && constBs K ds us) = true by simpa only [constBs] using h)
    obtain ⟨v, r, q⟩ := constB_ok h1
    obtain ⟨vs, r2, q2⟩ := constBs_ok h2
    exact ⟨v :: vs, .cons r r2, fun M ρ H => .cons (q M ρ H) (q2 M ρ H)⟩
end
def globB (K : PySem.W.Frag) (x : Str) (d : D) : Bool := match PySem.W.nsIn K mainGlobals x with
  | some (some u) => constB K d u
  | _ => false
theorem globB_ok {K : PySem.W.Frag} {Γ : Gx} {h : Heap} {mg : Str → Option Value} {x : Str} {d : D} (X : K.In h) (G : h.Ns mainGlobals mg) (e : globB K x d = true) : GlobK K Γ mg x d := by
  unfold globB at e
  split at e
  · rename_i u q
    obtain ⟨v, r, z⟩ := constB_ok e
    exact ⟨v, u, PySem.W.mg_of X G q, r, z⟩
  · cases e
/-- the classes by their numbers, the tables -/
def GxOf (K : PySem.W.Frag) (cls : List Str) (tl : List (He.Defn × Str)) (tg : List He.Defn) : Gx := ⟨fun n => He.ga K (cls.getD n "x"), tl.map fun p => ((He.cT K p.1).2, p.2), tg.map fun p => (He.cT K p).2⟩
def distB (K : PySem.W.Frag) (tl : List (He.Defn × Str)) (tg : List He.Defn) : Bool := (tl.all fun p => tg.all fun q => decide ((He.cT K p.1).2 ≠ (He.cT K q).2)) && tl.all fun p => tl.all fun q => !decide ((He.cT K p.1).2 = (He.cT K q.1).2) || decide (p.2 = q.2)
theorem dist_gl {K : PySem.W.Frag} {cls : List Str} {tl : List (He.Defn × Str)} {tg : List He.Defn} (h : distB K tl tg = true) {q : He.Defn} (hq : q ∈ tg) : ∀ p ∈ (GxOf K cls tl tg).tl, p.1 ≠ (He.cT K q).2 := fun p hp => by
  obtain ⟨z, hz, rfl⟩ := List.mem_map.mp hp
  exact of_decide_eq_true (List.all_eq_true.mp (List.all_eq_true.mp (He.ba h).1 z hz) q hq)
theorem dist_lg {K : PySem.W.Frag} {cls : List Str} {tl : List (He.Defn × Str)} {tg : List He.Defn} (h : distB K tl tg = true) {q : He.Defn × Str} (hq : q ∈ tl) : ∀ z ∈ (GxOf K cls tl tg).tg, z ≠ (He.cT K q.1).2 := fun p hp => by
  obtain ⟨z, hz, rfl⟩ := List.mem_map.mp hp
  exact fun e => of_decide_eq_true (List.all_eq_true.mp (List.all_eq_true.mp (He.ba h).1 q hq) z hz) e.symm
theorem dist_ll {K : PySem.W.Frag} {cls : List Str} {tl : List (He.Defn × Str)} {tg : List He.Defn} (h : distB K tl tg = true) {q : He.Defn × Str} (hq : q ∈ tl) : ∀ p ∈ (GxOf K cls tl tg).tl, p.1 = (He.cT K q.1).2 → p.2 = q.2 := fun p hp e => by
  obtain ⟨z, hz, rfl⟩ := List.mem_map.mp hp
  have := List.all_eq_true.mp (List.all_eq_true.mp (He.ba h).2 z hz) q hq
  rcases Bool.or_eq_true_iff.mp this with y | y
  · rw [decide_eq_true e] at y
    cases y
  · exact of_decide_eq_true y
theorem mem_tl {K : PySem.W.Frag} {cls : List Str} {tl : List (He.Defn × Str)} {tg : List He.Defn} {q : He.Defn × Str} (hq : q ∈ tl) : ((He.cT K q.1).2, q.2) ∈ (GxOf K cls tl tg).tl := List.mem_map.mpr ⟨q, hq, rfl⟩
theorem mem_tg {K : PySem.W.Frag} {cls : List Str} {tl : List (He.Defn × Str)} {tg : List He.Defn} {q : He.Defn} (hq : q ∈ tg) : (He.cT K q).2 ∈ (GxOf K cls tl tg).tg := List.mem_map.mpr ⟨q, hq, rfl⟩
theorem exc_of {K : PySem.W.Frag} {Γ : Gx} {h : Heap} {mg : Str → Option Value} {x : Str} {c : Nat} (X : K.In h) (G : h.Ns mainGlobals mg) (hc : Γ.cl c = He.ga K x) (e1 : (He.Fa.glo x).ok K = true) (e2 : (He.Fa.exc x).ok K = true) : Exc K Γ mg x c := by
  obtain ⟨h1, h2, h3, h4⟩ := He.exc_ok e2
  refine ⟨"ValueError", "ValueError.__new__", "ValueError.__init__", He.veBase, PySem.F.excBase_ValueError, ?_, ?_, ?_, ?_, ?_⟩
  · rw [hc]; exact h1
  · rw [hc]; exact He.glo_ok X G e1
  · rw [hc]; exact h2
  · rw [hc]; exact h3
  · rw [hc]; exact h4
def toldAll (K : PySem.W.Frag) (cl : Nat → Addr) (tab : Nat → Option Str) (cs : List (Addr × Str)) (n : Nat) : Bool := (List.range n).all fun c => match tab c with
  | some t => toldB K (cl c) t cs
  | none => true
theorem tabs0 {K : PySem.W.Frag} {cls : List Str} {tl : List (He.Defn × Str)} {tg : List He.Defn} {H : Hp} (h : ∀ p ∈ tl.map (fun p => He.cT K p.1) ++ tg.map (He.cT K), H p.2 = some (.tbl #[])) : TabsOk (GxOf K cls tl tg) H := by
  refine ⟨fun p hp => ?_, fun P hP => ?_⟩
  · obtain ⟨z, hz, rfl⟩ := List.mem_map.mp hp
    exact .nil (h _ (List.mem_append_left _ (List.mem_map.mpr ⟨z, hz, rfl⟩)))
  · obtain ⟨z, hz, rfl⟩ := List.mem_map.mp hP
    exact ⟨#[], h _ (List.mem_append_right _ (List.mem_map.mpr ⟨z, hz, rfl⟩)), True.intro⟩
theorem tabG {base : Heap} {mg : Str → Option Value} {c P : Addr} (h : LamX.TabB base mg c P) : GxR.TabB base mg c P := ⟨h.code, h.bm, h.gP⟩
end L2.Th

set_option Elab.async false
set_option linter.all false
set_option maxRecDepth 100000
set_option maxHeartbeats 4000000
namespace L2.Th.K14
open PySem PySem.Spec PyProof.Rows
def top (i : Nat) : Stmt := PySem.Challenge.pw_threadhall_k14_repeats.main.body.getD i (.Pass ⟨0, 0, 0, 0⟩)
abbrev FnT (K : PySem.W.Frag) (x : Str) (st : Stmt) (fd : FuncData) : Prop := FunD K x x (defArgs st) (defBody st) (defScope st) [] [] (He.fAd K (x, none)) fd

structure Free (mg : Str → Option Value) : Prop where
  b_abs : mg "abs" = none
  b_any : mg "any" = none
  b_int : mg "int" = none
  b_len : mg "len" = none
  b_list : mg "list" = none
  b_min : mg "min" = none
  b_range : mg "range" = none
  b_reversed : mg "reversed" = none
  b_tuple : mg "tuple" = none
def d_SORTS : D := .tup [.str "steps", .str "glides", .str "uprights", .str "half turns", .str "uprights and glides", .str "midline", .str "all"]
section
variable {P : Program} {w : World} {K : PySem.W.Frag} {mg : Str → Option Value} {base : Heap} {Γ : Gx} {fd : FuncData}
/-! ### check_picture -/
abbrev s_check_picture : Stmt := top 10
abbrev N_check_picture : List Str := ["picture"]
def c_check_picture : SCode :=
  (sIf (tOrC (tVal (cOp2 opEq (cOpN (op1 fLen) (aCons (cVar 0) aNil)) (cK (.int 0)))) (tOrC (tVal (cOp2 opEq (cOpN (op1 fLen) (aCons (cOp2 opIx (cVar 0) (cK (.int 0))) aNil)) (cK (.int 0)))) (tTru (cGenC fAnyG (cGen 1 [0] (iSeq (cVar 0)) fun env S => itR (gNm 0) tYesC (cOp2 opNe (cOpN (op1 fLen) (aCons (cVar 0) aNil)) (cOpN (op1 fLen) (aCons (cOp2 opIx (cVar 1) (cK (.int 0))) aNil))) env S)))))
  (sRaise 1)
  sNext)
def F_check_picture : Fn := runB 1 c_check_picture
theorem sc_check_picture : FnScope N_check_picture ["picture"] (defScope s_check_picture) := ⟨rfl, rfl, rfl, by decide +kernel, rfl, by decide +kernel, by decide +kernel⟩
theorem gen_check_picture_0 : GenOk ["picture"] (defScope s_check_picture) ({ kind := .function, names := [(".0", .local), ("row", .local), ("picture", .free), ("len", .globalImplicit)], isGenerator := true, isCoroutine := false, more := [] } : PySem.Scope) ["row", "picture"] 1 [0] := ⟨rfl, rfl, by decide +kernel, rfl, by decide +kernel, by decide +kernel, rfl, fun j i h => match j, h with | 0, h => ⟨"picture", rfl, by cases h; rfl, rfl⟩ | _ + 1, h => by simp at h⟩
theorem ok_check_picture (F : FnT K "check_picture" s_check_picture fd) (hm : mg "check_picture" = some (.ref (He.fAd K ("check_picture", none)))) (B : Free mg) (X_BadDraft : Exc K Γ mg "BadDraft" 1) (TB : GxR.TabB base mg (He.codeOf K ("check_picture", none)) (He.tabOf K (He.codeOf K ("check_picture", none)))) (hP : He.tabOf K (He.codeOf K ("check_picture", none)) ∈ Γ.tg) (hPl : ∀ p ∈ Γ.tl, p.1 ≠ He.tabOf K (He.codeOf K ("check_picture", none))) : Cal P w K mg base Γ "check_picture" 2 1 F_check_picture :=
  cal_of F hm sc_check_picture rfl (fun _ _ _ _ _ _ us hl => match us, hl with | [_], _ => rfl) fun A outer s H E hr0 =>
  have nd_ := sc_check_picture.nd
  (pss_oneC (ps_ifC (PW.pt (pw_orC (pt_cmpC (c_eq hr0) (pc_callB call_lenC nx_len (by rfl) B.b_len (by rfl) (pa_consC (pc_var (i := 0) (by rfl) (Or.inr (Or.inl rfl))) pa_nilC)) pc_int) (pw_orC (pt_cmpC (c_eq hr0) (pc_callB call_lenC nx_len (by rfl) B.b_len (by rfl) (pa_consC (pc_ix hr0 (pc_var (i := 0) (by rfl) (Or.inr (Or.inl rfl))) pc_int) pa_nilC)) pc_int) (pw_or1C (pt_tru (pc_gen gc_any (by rfl) B.b_any (by rfl) hr0 TB hP hPl rfl gen_check_picture_0 (pi_seqC (pc_var (i := 0) (by rfl) (Or.inr (Or.inl rfl)))) (by decide) (fun s H C cl code A fp => (pg_nameC (i := 0) gen_check_picture_0.nd (by rfl) (Or.inl rfl))) (fun s H C cl code A fp hr1 => pts_nilC) (fun s H C cl code A fp hr1 => (pc_cmp (c_ne hr1) (pc_callB call_lenC nx_len (by rfl) B.b_len (by rfl) (pa_consC (pc_var (i := 0) (by rfl) (Or.inl rfl)) pa_nilC)) (pc_callB call_lenC nx_len (by rfl) B.b_len (by rfl) (pa_consC (pc_ix hr1 (pc_var (i := 1) (by rfl) (Or.inr (Or.inr rfl))) pc_int) pa_nilC))))))))))
  (pss_oneC (ps_raiseK rfl X_BadDraft (takes_of rfl rfl rfl rfl) (by rfl)))
  pss_nilC))
/-! ### shifted -/
abbrev s_shifted : Stmt := top 13
abbrev N_shifted : List Str := ["band", "steps", "wide", "row", "k"]
def c_shifted : SCode :=
  (sSeq (sAsg (cOpN (op1 fLen) (aCons (cOp2 opIx (cVar 0) (cK (.int 0))) aNil)) (gNm 2))
  (sRet (cOpN (op1 fTuple) (aCons (cLc [3] (iSeq (cVar 0)) (gNm 3) tYesC (cOpN (op1 fTuple) (aCons (cLc [4] (iRange1 (aCons (cVar 2) aNil)) (gNm 4) tYesC (cOp2 opIx (cVar 3) (cOp2 opMod (cOp2 opSub (cVar 4) (cVar 1)) (cVar 2)))) aNil))) aNil))))
def F_shifted : Fn := runB 5 c_shifted
theorem sc_shifted : FnScope N_shifted ["band", "steps"] (defScope s_shifted) := ⟨rfl, rfl, rfl, by decide +kernel, rfl, by decide +kernel, by decide +kernel⟩
theorem blk_shifted_0 : BlkOk ["band", "steps", "wide", "row", "k"] (defScope s_shifted) ({ kind := .function, names := [(".0", .local), ("row", .cell), ("tuple", .globalImplicit), ("range", .globalImplicit), ("steps", .free), ("wide", .free)], isGenerator := false, isCoroutine := false, more := [] } : PySem.Scope) [("row", 3)] := ⟨rfl, by decide +kernel, by decide +kernel, by decide +kernel, by decide +kernel⟩
theorem blk_shifted_1 : BlkOk ["band", "steps", "wide", "row", "k"] ({ kind := .function, names := [(".0", .local), ("row", .cell), ("tuple", .globalImplicit), ("range", .globalImplicit), ("steps", .cell), ("wide", .cell)], isGenerator := false, isCoroutine := false, more := [] } : PySem.Scope) ({ kind := .function, names := [(".0", .local), ("k", .local), ("row", .free), ("steps", .free), ("wide", .free)], isGenerator := false, isCoroutine := false, more := [] } : PySem.Scope) [("k", 4)] := ⟨rfl, by decide +kernel, by decide +kernel, by decide +kernel, by decide +kernel⟩
theorem ok_shifted (F : FnT K "shifted" s_shifted fd) (hm : mg "shifted" = some (.ref (He.fAd K ("shifted", none)))) (B : Free mg) : Cal P w K mg base Γ "shifted" 1 2 F_shifted :=
  cal_of F hm sc_shifted rfl (fun _ _ _ _ _ _ us hl => match us, hl with | [_, _], _ => rfl) fun A outer s H E hr0 =>
  have nd_ := sc_shifted.nd
  (pss_consC (ps_setC (i := 2) nd_ (by rfl) (Or.inr rfl) (pc_callB call_lenC nx_len (by rfl) B.b_len (by rfl) (pa_consC (pc_ix hr0 (pc_var (i := 0) (by rfl) (Or.inl rfl)) pc_int) pa_nilC)))
  (pss_oneC (ps_retC (pc_callTy call_tupleC nx_tuple (by rfl) B.b_tuple (by rfl) (pa_consC (pc_lc (own := [("row", 3)]) rfl nd_ (pi_seqC (pc_var (i := 0) (by rfl) (Or.inl rfl))) blk_shifted_0 (by decide) (fun s H C cl fp => (pg_nameC (i := 3) nd_ (by rfl) (Or.inr rfl))) (fun s H C cl fp => pts_nilC) (fun s H C cl fp => (pc_callTy call_tupleC nx_tuple (by rfl) B.b_tuple (by rfl) (pa_consC (pc_lc (own := [("k", 4)]) rfl nd_ (pi_range1C (by rfl) B.b_range (pa_consC (pc_var (i := 2) (by rfl) (Or.inr (Or.inl rfl))) pa_nilC)) blk_shifted_1 (by decide) (fun s H C cl fp => (pg_nameC (i := 4) nd_ (by rfl) (Or.inl rfl))) (fun s H C cl fp => pts_nilC) (fun s H C cl fp => (pc_ix hr0 (pc_var (i := 3) (by rfl) (Or.inr (Or.inl rfl))) (pc_mod (pc_sub (pc_var (i := 4) (by rfl) (Or.inl rfl)) (pc_var (i := 1) (by rfl) (Or.inr (Or.inl rfl)))) (pc_var (i := 2) (by rfl) (Or.inr (Or.inl rfl))))))) pa_nilC)))) pa_nilC)))))
/-! ### left_right -/
abbrev s_left_right : Stmt := top 14
abbrev N_left_right : List Str := ["band", "row"]
def c_left_right : SCode :=
  (sRet (cOpN (op1 fTuple) (aCons (cLc [1] (iSeq (cVar 0)) (gNm 1) tYesC (cTupRev (cVar 1))) aNil)))
def F_left_right : Fn := runB 2 c_left_right
theorem sc_left_right : FnScope N_left_right ["band"] (defScope s_left_right) := ⟨rfl, rfl, rfl, by decide +kernel, rfl, by decide +kernel, by decide +kernel⟩
theorem blk_left_right_0 : BlkOk ["band", "row"] (defScope s_left_right) ({ kind := .function, names := [(".0", .local), ("row", .local), ("tuple", .globalImplicit), ("reversed", .globalImplicit)], isGenerator := false, isCoroutine := false, more := [] } : PySem.Scope) [("row", 1)] := ⟨rfl, by decide +kernel, by decide +kernel, by decide +kernel, by decide +kernel⟩
theorem ok_left_right (F : FnT K "left_right" s_left_right fd) (hm : mg "left_right" = some (.ref (He.fAd K ("left_right", none)))) (B : Free mg) : Cal P w K mg base Γ "left_right" 1 1 F_left_right :=
  cal_of F hm sc_left_right rfl (fun _ _ _ _ _ _ us hl => match us, hl with | [_], _ => rfl) fun A outer s H E hr0 =>
  have nd_ := sc_left_right.nd
  (pss_oneC (ps_retC (pc_callTy call_tupleC nx_tuple (by rfl) B.b_tuple (by rfl) (pa_consC (pc_lc (own := [("row", 1)]) rfl nd_ (pi_seqC (pc_var (i := 0) (by rfl) (Or.inl rfl))) blk_left_right_0 (by decide) (fun s H C cl fp => (pg_nameC (i := 1) nd_ (by rfl) (Or.inl rfl))) (fun s H C cl fp => pts_nilC) (fun s H C cl fp => (pc_tupRev rfl (by rfl) B.b_tuple (by rfl) B.b_reversed (pc_var (i := 1) (by rfl) (Or.inl rfl))))) pa_nilC))))
/-! ### up_down -/
abbrev s_up_down : Stmt := top 15
abbrev N_up_down : List Str := ["band"]
def c_up_down : SCode :=
  (sRet (cTupRev (cVar 0)))
def F_up_down : Fn := runB 1 c_up_down
theorem sc_up_down : FnScope N_up_down ["band"] (defScope s_up_down) := ⟨rfl, rfl, rfl, by decide +kernel, rfl, by decide +kernel, by decide +kernel⟩
theorem ok_up_down (F : FnT K "up_down" s_up_down fd) (hm : mg "up_down" = some (.ref (He.fAd K ("up_down", none)))) (B : Free mg) : Cal P w K mg base Γ "up_down" 1 1 F_up_down :=
  cal_of F hm sc_up_down rfl (fun _ _ _ _ _ _ us hl => match us, hl with | [_], _ => rfl) fun A outer s H E hr0 =>
  have nd_ := sc_up_down.nd
  (pss_oneC (ps_retC (pc_tupRev rfl (by rfl) B.b_tuple (by rfl) B.b_reversed (pc_var (i := 0) (by rfl) (Or.inl rfl)))))
/-! ### step_of -/
abbrev s_step_of : Stmt := top 16
abbrev N_step_of : List Str := ["band", "wide", "steps"]
def c_step_of : SCode :=
  (sSeq (sExpr (cCall 1 F_check_picture (aCons (cVar 0) aNil)))
  (sSeq (sAsg (cOpN (op1 fLen) (aCons (cOp2 opIx (cVar 0) (cK (.int 0))) aNil)) (gNm 1))
  (sRet (cOpN (op1 fMin) (aCons (cLc [2] (iRange2 (aCons (cK (.int 1)) (aCons (cOp2 opAdd (cVar 1) (cK (.int 1))) aNil))) (gNm 2) (tVal (cOp2 opEq (cCall 2 F_shifted (aCons (cVar 0) (aCons (cVar 2) aNil))) (cVar 0))) (cVar 2)) aNil)))))
def F_step_of : Fn := runB 3 c_step_of
theorem sc_step_of : FnScope N_step_of ["band"] (defScope s_step_of) := ⟨rfl, rfl, rfl, by decide +kernel, rfl, by decide +kernel, by decide +kernel⟩
theorem blk_step_of_0 : BlkOk ["band", "wide", "steps"] (defScope s_step_of) ({ kind := .function, names := [(".0", .local), ("steps", .local), ("shifted", .globalImplicit), ("band", .free)], isGenerator := false, isCoroutine := false, more := [] } : PySem.Scope) [("steps", 2)] := ⟨rfl, by decide +kernel, by decide +kernel, by decide +kernel, by decide +kernel⟩
theorem ok_step_of (F : FnT K "step_of" s_step_of fd) (hm : mg "step_of" = some (.ref (He.fAd K ("step_of", none)))) (B : Free mg) (C_check_picture : Cal P w K mg base Γ "check_picture" 2 1 F_check_picture) (C_shifted : Cal P w K mg base Γ "shifted" 1 2 F_shifted) : Cal P w K mg base Γ "step_of" 3 1 F_step_of :=
  cal_of F hm sc_step_of rfl (fun _ _ _ _ _ _ us hl => match us, hl with | [_], _ => rfl) fun A outer s H E hr0 =>
  have nd_ := sc_step_of.nd
  (pss_consC (ps_exprC (pc_call (C_check_picture.mono (k := 2) (by decide)) hr0 (by rfl) (takes_of rfl rfl rfl rfl) (pa_consC (pc_var (i := 0) (by rfl) (Or.inr (Or.inl rfl))) pa_nilC)))
  (pss_consC (ps_setC (i := 1) nd_ (by rfl) (Or.inl rfl) (pc_callB call_lenC nx_len (by rfl) B.b_len (by rfl) (pa_consC (pc_ix hr0 (pc_var (i := 0) (by rfl) (Or.inr (Or.inl rfl))) pc_int) pa_nilC)))
  (pss_oneC (ps_retC (pc_callB (call_minC rfl) nx_min (by rfl) B.b_min (by rfl) (pa_consC (pc_lc (own := [("steps", 2)]) rfl nd_ (pi_range2C (by rfl) B.b_range (pa_consC pc_int (pa_consC (pc_add (pc_var (i := 1) (by rfl) (Or.inl rfl)) pc_int) pa_nilC))) blk_step_of_0 (by decide) (fun s H C cl fp => (pg_nameC (i := 2) nd_ (by rfl) (Or.inl rfl))) (fun s H C cl fp => (pts_oneC (pt_cmpC (c_eq hr0) (pc_call (C_shifted.mono (k := 2) (by decide)) hr0 (by rfl) takes0 (pa_consC (pc_var (i := 0) (by rfl) (Or.inr (Or.inl rfl))) (pa_consC (pc_var (i := 2) (by rfl) (Or.inl rfl)) pa_nilC))) (pc_var (i := 0) (by rfl) (Or.inr (Or.inl rfl)))))) (fun s H C cl fp => (pc_var (i := 2) (by rfl) (Or.inl rfl)))) pa_nilC))))))
/-! ### homes -/
abbrev s_homes : Stmt := top 17
abbrev N_homes : List Str := ["band", "turned", "steps"]
def c_homes : SCode :=
  (sRet (cOpN (op1 fTuple) (aCons (cLc [2] (iRange1 (aCons (cOpN (op1 fLen) (aCons (cOp2 opIx (cVar 0) (cK (.int 0))) aNil)) aNil)) (gNm 2) (tVal (cOp2 opEq (cCall 2 F_shifted (aCons (cVar 1) (aCons (cVar 2) aNil))) (cVar 0))) (cVar 2)) aNil)))
def F_homes : Fn := runB 3 c_homes
theorem sc_homes : FnScope N_homes ["band", "turned"] (defScope s_homes) := ⟨rfl, rfl, rfl, by decide +kernel, rfl, by decide +kernel, by decide +kernel⟩
theorem blk_homes_0 : BlkOk ["band", "turned", "steps"] (defScope s_homes) ({ kind := .function, names := [(".0", .local), ("steps", .local), ("shifted", .globalImplicit), ("band", .free), ("turned", .free)], isGenerator := false, isCoroutine := false, more := [] } : PySem.Scope) [("steps", 2)] := ⟨rfl, by decide +kernel, by decide +kernel, by decide +kernel, by decide +kernel⟩
theorem ok_homes (F : FnT K "homes" s_homes fd) (hm : mg "homes" = some (.ref (He.fAd K ("homes", none)))) (B : Free mg) (C_shifted : Cal P w K mg base Γ "shifted" 1 2 F_shifted) : Cal P w K mg base Γ "homes" 2 2 F_homes :=
  cal_of F hm sc_homes rfl (fun _ _ _ _ _ _ us hl => match us, hl with | [_, _], _ => rfl) fun A outer s H E hr0 =>
  have nd_ := sc_homes.nd
  (pss_oneC (ps_retC (pc_callTy call_tupleC nx_tuple (by rfl) B.b_tuple (by rfl) (pa_consC (pc_lc (own := [("steps", 2)]) rfl nd_ (pi_range1C (by rfl) B.b_range (pa_consC (pc_callB call_lenC nx_len (by rfl) B.b_len (by rfl) (pa_consC (pc_ix hr0 (pc_var (i := 0) (by rfl) (Or.inr (Or.inl rfl))) pc_int) pa_nilC)) pa_nilC)) blk_homes_0 (by decide) (fun s H C cl fp => (pg_nameC (i := 2) nd_ (by rfl) (Or.inl rfl))) (fun s H C cl fp => (pts_oneC (pt_cmpC (c_eq hr0) (pc_call (C_shifted.mono (k := 1) (by decide)) hr0 (by rfl) takes0 (pa_consC (pc_var (i := 1) (by rfl) (Or.inr (Or.inl rfl))) (pa_consC (pc_var (i := 2) (by rfl) (Or.inl rfl)) pa_nilC))) (pc_var (i := 0) (by rfl) (Or.inr (Or.inl rfl)))))) (fun s H C cl fp => (pc_var (i := 2) (by rfl) (Or.inl rfl)))) pa_nilC))))
/-! ### turns -/
abbrev s_turns : Stmt := top 18
abbrev N_turns : List Str := ["band", "glides", "is_glide", "found", "step"]
def c_turns : SCode :=
  (sSeq (sExpr (cCall 1 F_check_picture (aCons (cVar 0) aNil)))
  (sSeq (sAsg (cCall 1 F_step_of (aCons (cVar 0) aNil)) (gNm 4))
  (sSeq (sAsg (cCall 2 F_homes (aCons (cVar 0) (aCons (cCall 1 F_up_down (aCons (cVar 0) aNil)) aNil))) (gNm 1))
  (sSeq (sAsg (cAnd (cGenC fAnyG (cGen 1 [4] (iSeq (cVar 1)) fun env S => itR (gNm 0) tYesC (cOp2 opNe (cOp2 opMod (cVar 0) (cVar 1)) (cK (.int 0))) env S)) (cOp2 opNotIn (cK (.int 0)) (cVar 1))) (gNm 2))
  (sSeq (sNew 3 (cDisp (kCons (cK (.str "upright")) (cOp2 opNe (cCall 2 F_homes (aCons (cVar 0) (aCons (cCall 1 F_left_right (aCons (cVar 0) aNil)) aNil))) (cTup aNil)) (kCons (cK (.str "midline")) (cOp2 opIn (cK (.int 0)) (cVar 1)) (kCons (cK (.str "glide")) (cVar 2) kNil)))))
  (sSeq (sDput (cVar 3) (cK (.str "half turn")) (cOp2 opNe (cCall 2 F_homes (aCons (cVar 0) (aCons (cCall 1 F_up_down (aCons (cCall 1 F_left_right (aCons (cVar 0) aNil)) aNil)) aNil))) (cTup aNil)))
  (sRet (cVar 3))))))))
def F_turns : Fn := runB 5 c_turns
theorem sc_turns : FnScope N_turns ["band"] (defScope s_turns) := ⟨rfl, rfl, rfl, by decide +kernel, rfl, by decide +kernel, by decide +kernel⟩
theorem gen_turns_0 : GenOk ["band", "glides", "is_glide", "found", "step"] (defScope s_turns) ({ kind := .function, names := [(".0", .local), ("one", .local), ("step", .free)], isGenerator := true, isCoroutine := false, more := [] } : PySem.Scope) ["one", "step"] 1 [4] := ⟨rfl, rfl, by decide +kernel, rfl, by decide +kernel, by decide +kernel, rfl, fun j i h => match j, h with | 0, h => ⟨"step", rfl, by cases h; rfl, rfl⟩ | _ + 1, h => by simp at h⟩
theorem ok_turns (F : FnT K "turns" s_turns fd) (hm : mg "turns" = some (.ref (He.fAd K ("turns", none)))) (B : Free mg) (C_check_picture : Cal P w K mg base Γ "check_picture" 2 1 F_check_picture) (C_homes : Cal P w K mg base Γ "homes" 2 2 F_homes) (C_left_right : Cal P w K mg base Γ "left_right" 1 1 F_left_right) (C_step_of : Cal P w K mg base Γ "step_of" 3 1 F_step_of) (C_up_down : Cal P w K mg base Γ "up_down" 1 1 F_up_down) (TB : GxR.TabB base mg (He.codeOf K ("turns", none)) (He.tabOf K (He.codeOf K ("turns", none)))) (hP : He.tabOf K (He.codeOf K ("turns", none)) ∈ Γ.tg) (hPl : ∀ p ∈ Γ.tl, p.1 ≠ He.tabOf K (He.codeOf K ("turns", none))) : Cal P w K mg base Γ "turns" 4 1 F_turns :=
  cal_of F hm sc_turns rfl (fun _ _ _ _ _ _ us hl => match us, hl with | [_], _ => rfl) fun A outer s H E hr0 =>
  have nd_ := sc_turns.nd
  (pss_consC (ps_exprC (pc_call (C_check_picture.mono (k := 3) (by decide)) hr0 (by rfl) (takes_of rfl rfl rfl rfl) (pa_consC (pc_var (i := 0) (by rfl) (Or.inl rfl)) pa_nilC)))
  (pss_consC (ps_setC (i := 4) nd_ (by rfl) (Or.inr rfl) (pc_call (C_step_of.mono (k := 3) (by decide)) hr0 (by rfl) (takes_of rfl rfl rfl rfl) (pa_consC (pc_var (i := 0) (by rfl) (Or.inl rfl)) pa_nilC)))
  (pss_consC (ps_setC (i := 1) nd_ (by rfl) (Or.inl rfl) (pc_call (C_homes.mono (k := 3) (by decide)) hr0 (by rfl) (takes_of rfl rfl rfl rfl) (pa_consC (pc_var (i := 0) (by rfl) (Or.inl rfl)) (pa_consC (pc_call (C_up_down.mono (k := 3) (by decide)) hr0 (by rfl) (takes_of rfl rfl rfl rfl) (pa_consC (pc_var (i := 0) (by rfl) (Or.inl rfl)) pa_nilC)) pa_nilC))))
  (pss_consC (ps_setC (i := 2) nd_ (by rfl) (Or.inl rfl) (pc_and (pc_gen gc_any (by rfl) B.b_any (by rfl) hr0 TB hP hPl rfl gen_turns_0 (pi_seqC (pc_var (i := 1) (by rfl) (Or.inl rfl))) (by decide) (fun s H C cl code A fp => (pg_nameC (i := 0) gen_turns_0.nd (by rfl) (Or.inl rfl))) (fun s H C cl code A fp hr1 => pts_nilC) (fun s H C cl code A fp hr1 => (pc_cmp (c_ne hr1) (pc_mod (pc_var (i := 0) (by rfl) (Or.inl rfl)) (pc_var (i := 1) (by rfl) (Or.inr (Or.inr rfl)))) pc_int))) (pc_one (pc_cmp (c_notIn hr0) pc_int (pc_var (i := 1) (by rfl) (Or.inl rfl))))))
  (pss_consC (ps_newC (i := 3) nd_ (by rfl) (Or.inl rfl) (pf_disp (pp_cons pc_str (pc_cmp (c_ne hr0) (pc_call (C_homes.mono (k := 3) (by decide)) hr0 (by rfl) (takes_of rfl rfl rfl rfl) (pa_consC (pc_var (i := 0) (by rfl) (Or.inl rfl)) (pa_consC (pc_call (C_left_right.mono (k := 3) (by decide)) hr0 (by rfl) (takes_of rfl rfl rfl rfl) (pa_consC (pc_var (i := 0) (by rfl) (Or.inl rfl)) pa_nilC)) pa_nilC))) (pc_tup pa_nilC)) (pp_cons pc_str (pc_cmp (c_in hr0) pc_int (pc_var (i := 1) (by rfl) (Or.inl rfl))) (pp_cons pc_str (pc_var (i := 2) (by rfl) (Or.inl rfl)) pp_nil)))))
  (pss_consC (ps_dputC hr0 (pc_var (i := 3) (by rfl) (Or.inl rfl)) pc_str (pc_cmp (c_ne hr0) (pc_call (C_homes.mono (k := 3) (by decide)) hr0 (by rfl) (takes_of rfl rfl rfl rfl) (pa_consC (pc_var (i := 0) (by rfl) (Or.inl rfl)) (pa_consC (pc_call (C_up_down.mono (k := 3) (by decide)) hr0 (by rfl) (takes_of rfl rfl rfl rfl) (pa_consC (pc_call (C_left_right.mono (k := 3) (by decide)) hr0 (by rfl) (takes_of rfl rfl rfl rfl) (pa_consC (pc_var (i := 0) (by rfl) (Or.inl rfl)) pa_nilC)) pa_nilC)) pa_nilC))) (pc_tup pa_nilC)))
  (pss_oneC (ps_retC (pc_var (i := 3) (by rfl) (Or.inl rfl))))))))))
/-! ### sort_of -/
abbrev s_sort_of : Stmt := top 19
abbrev N_sort_of : List Str := ["band", "has"]
def c_sort_of : SCode :=
  (sSeq (sAsg (cCall 1 F_turns (aCons (cVar 0) aNil)) (gNm 1))
  (sSeq (sIf (tTru (cOp2 opIx (cVar 1) (cK (.str "midline"))))
  (sRet (cIf (tTru (cOp2 opIx (cVar 1) (cK (.str "upright")))) (cK (.str "all")) (cK (.str "midline"))))
  sNext)
  (sSeq (sIf (tTru (cOp2 opIx (cVar 1) (cK (.str "upright"))))
  (sRet (cIf (tTru (cOp2 opIx (cVar 1) (cK (.str "half turn")))) (cK (.str "uprights and glides")) (cK (.str "uprights"))))
  sNext)
  (sSeq (sIf (tTru (cOp2 opIx (cVar 1) (cK (.str "half turn"))))
  (sRet (cK (.str "half turns")))
  sNext)
  (sRet (cIf (tTru (cOp2 opIx (cVar 1) (cK (.str "glide")))) (cK (.str "glides")) (cK (.str "steps"))))))))
def F_sort_of : Fn := runB 2 c_sort_of
theorem sc_sort_of : FnScope N_sort_of ["band"] (defScope s_sort_of) := ⟨rfl, rfl, rfl, by decide +kernel, rfl, by decide +kernel, by decide +kernel⟩
theorem ok_sort_of (F : FnT K "sort_of" s_sort_of fd) (hm : mg "sort_of" = some (.ref (He.fAd K ("sort_of", none)))) (B : Free mg) (C_turns : Cal P w K mg base Γ "turns" 4 1 F_turns) : Cal P w K mg base Γ "sort_of" 5 1 F_sort_of :=
  cal_of F hm sc_sort_of rfl (fun _ _ _ _ _ _ us hl => match us, hl with | [_], _ => rfl) fun A outer s H E hr0 =>
  have nd_ := sc_sort_of.nd
  (pss_consC (ps_setC (i := 1) nd_ (by rfl) (Or.inl rfl) (pc_call (C_turns.mono (k := 4) (by decide)) hr0 (by rfl) (takes_of rfl rfl rfl rfl) (pa_consC (pc_var (i := 0) (by rfl) (Or.inl rfl)) pa_nilC)))
  (pss_consC (ps_ifC (pt_tru (pc_ix hr0 (pc_var (i := 1) (by rfl) (Or.inl rfl)) pc_str))
  (pss_oneC (ps_retC (pc_ifExp (pt_tru (pc_ix hr0 (pc_var (i := 1) (by rfl) (Or.inl rfl)) pc_str)) pc_str pc_str)))
  pss_nilC)
  (pss_consC (ps_ifC (pt_tru (pc_ix hr0 (pc_var (i := 1) (by rfl) (Or.inl rfl)) pc_str))
  (pss_oneC (ps_retC (pc_ifExp (pt_tru (pc_ix hr0 (pc_var (i := 1) (by rfl) (Or.inl rfl)) pc_str)) pc_str pc_str)))
  pss_nilC)
  (pss_consC (ps_ifC (pt_tru (pc_ix hr0 (pc_var (i := 1) (by rfl) (Or.inl rfl)) pc_str))
  (pss_oneC (ps_retC pc_str))
  pss_nilC)
  (pss_oneC (ps_retC (pc_ifExp (pt_tru (pc_ix hr0 (pc_var (i := 1) (by rfl) (Or.inl rfl)) pc_str)) pc_str pc_str)))))))
/-! ### beside -/
abbrev s_beside : Stmt := top 21
abbrev N_beside : List Str := ["pieces", "j", "piece", "one"]
def c_beside : SCode :=
  (sRet (cOpN (op1 fTuple) (aCons (cLc [1] (iRange1 (aCons (cOpN (op1 fLen) (aCons (cOp2 opIx (cVar 0) (cK (.int 0))) aNil)) aNil)) (gNm 1) tYesC (cOpN (op1 fTuple) (aCons (cLc2 [2, 3] [3] (iSeq (cVar 0)) (gNm 2) tYesC (iSeq (cOp2 opIx (cVar 2) (cVar 1))) (gNm 3) tYesC (cVar 3)) aNil))) aNil)))
def F_beside : Fn := runB 4 c_beside
theorem sc_beside : FnScope N_beside ["pieces"] (defScope s_beside) := ⟨rfl, rfl, rfl, by decide +kernel, rfl, by decide +kernel, by decide +kernel⟩
theorem blk_beside_0 : BlkOk ["pieces", "j", "piece", "one"] (defScope s_beside) ({ kind := .function, names := [(".0", .local), ("j", .cell), ("tuple", .globalImplicit), ("pieces", .free)], isGenerator := false, isCoroutine := false, more := [] } : PySem.Scope) [("j", 1)] := ⟨rfl, by decide +kernel, by decide +kernel, by decide +kernel, by decide +kernel⟩
theorem blk_beside_1 : BlkOk ["pieces", "j", "piece", "one"] ({ kind := .function, names := [(".0", .local), ("j", .cell), ("tuple", .globalImplicit), ("pieces", .cell)], isGenerator := false, isCoroutine := false, more := [] } : PySem.Scope) ({ kind := .function, names := [(".0", .local), ("piece", .local), ("one", .local), ("j", .free)], isGenerator := false, isCoroutine := false, more := [] } : PySem.Scope) [("piece", 2), ("one", 3)] := ⟨rfl, by decide +kernel, by decide +kernel, by decide +kernel, by decide +kernel⟩
theorem ok_beside (F : FnT K "beside" s_beside fd) (hm : mg "beside" = some (.ref (He.fAd K ("beside", none)))) (B : Free mg) : Cal P w K mg base Γ "beside" 1 1 F_beside :=
  cal_of F hm sc_beside rfl (fun _ _ _ _ _ _ us hl => match us, hl with | [_], _ => rfl) fun A outer s H E hr0 =>
  have nd_ := sc_beside.nd
  (pss_oneC (ps_retC (pc_callTy call_tupleC nx_tuple (by rfl) B.b_tuple (by rfl) (pa_consC (pc_lc (own := [("j", 1)]) rfl nd_ (pi_range1C (by rfl) B.b_range (pa_consC (pc_callB call_lenC nx_len (by rfl) B.b_len (by rfl) (pa_consC (pc_ix hr0 (pc_var (i := 0) (by rfl) (Or.inr (Or.inl rfl))) pc_int) pa_nilC)) pa_nilC)) blk_beside_0 (by decide) (fun s H C cl fp => (pg_nameC (i := 1) nd_ (by rfl) (Or.inr rfl))) (fun s H C cl fp => pts_nilC) (fun s H C cl fp => (pc_callTy call_tupleC nx_tuple (by rfl) B.b_tuple (by rfl) (pa_consC (pc_lc2 (own := [("piece", 2), ("one", 3)]) rfl nd_ (pi_seqC (pc_var (i := 0) (by rfl) (Or.inr (Or.inl rfl)))) blk_beside_1 (own1 := [3]) (by decide) (by decide) (by decide) (fun s H C cl fp => (pg_nameC (i := 2) nd_ (by rfl) (Or.inl rfl))) (fun s H C cl fp => pts_nilC) (fun s H C cl fp => (pi_seqC (pc_ix hr0 (pc_var (i := 2) (by rfl) (Or.inl rfl)) (pc_var (i := 1) (by rfl) (Or.inr (Or.inl rfl)))))) (fun s H C cl fp => (pg_nameC (i := 3) nd_ (by rfl) (Or.inl rfl))) (fun s H C cl fp => pts_nilC) (fun s H C cl fp => (pc_var (i := 3) (by rfl) (Or.inl rfl)))) pa_nilC)))) pa_nilC))))
/-! ### below -/
abbrev s_below : Stmt := top 22
abbrev N_below : List Str := ["one", "other"]
def c_below : SCode :=
  (sRet (cOp2 opAdd (cOpN (op1 fTuple) (aCons (cVar 0) aNil)) (cOpN (op1 fTuple) (aCons (cVar 1) aNil))))
def F_below : Fn := runB 2 c_below
theorem sc_below : FnScope N_below ["one", "other"] (defScope s_below) := ⟨rfl, rfl, rfl, by decide +kernel, rfl, by decide +kernel, by decide +kernel⟩
theorem ok_below (F : FnT K "below" s_below fd) (hm : mg "below" = some (.ref (He.fAd K ("below", none)))) (B : Free mg) : Cal P w K mg base Γ "below" 1 2 F_below :=
  cal_of F hm sc_below rfl (fun _ _ _ _ _ _ us hl => match us, hl with | [_, _], _ => rfl) fun A outer s H E hr0 =>
  have nd_ := sc_below.nd
  (pss_oneC (ps_retC (pc_add (pc_callTy call_tupleC nx_tuple (by rfl) B.b_tuple (by rfl) (pa_consC (pc_var (i := 0) (by rfl) (Or.inl rfl)) pa_nilC)) (pc_callTy call_tupleC nx_tuple (by rfl) B.b_tuple (by rfl) (pa_consC (pc_var (i := 1) (by rfl) (Or.inl rfl)) pa_nilC)))))
/-! ### made -/
abbrev s_made : Stmt := top 20
abbrev N_made : List Str := ["piece", "sort", "mirror", "under", "turn", "bare"]
def c_made : SCode :=
  (sSeq (sExpr (cCall 1 F_check_picture (aCons (cVar 0) aNil)))
  (sSeq (sIf (tVal (cOp2 opNotIn (cVar 1) (cK d_SORTS)))
  (sRaise 1)
  sNext)
  (sSeq (sPar3N 2 3 4 (nPlain (cCall 1 F_left_right (aCons (cVar 0) aNil)) (nPlain (cCall 1 F_up_down (aCons (cVar 0) aNil)) (nPlain (cCall 1 F_up_down (aCons (cCall 1 F_left_right (aCons (cVar 0) aNil)) aNil)) nNil))))
  (sSeq (sAsg (cOpN (op1 fTuple) (aCons (cOp2 opMul (cLst (aCons (cOpN (op1 fTuple) (aCons (cOp2 opMul (cLst (aCons (cK (.bl false)) aNil)) (cOpN (op1 fLen) (aCons (cOp2 opIx (cVar 0) (cK (.int 0))) aNil))) aNil)) aNil)) (cOpN (op1 fLen) (aCons (cVar 0) aNil))) aNil)) (gNm 5))
  (sSeq (sIf (tVal (cOp2 opEq (cVar 1) (cK (.str "steps"))))
  (sRet (cCall 1 F_beside (aCons (cLst (aCons (cVar 0) (aCons (cVar 5) aNil))) aNil)))
  sNext)
  (sSeq (sIf (tVal (cOp2 opEq (cVar 1) (cK (.str "uprights"))))
  (sRet (cCall 1 F_beside (aCons (cLst (aCons (cVar 0) (aCons (cVar 2) aNil))) aNil)))
  sNext)
  (sSeq (sIf (tVal (cOp2 opEq (cVar 1) (cK (.str "midline"))))
  (sRet (cCall 2 F_below (aCons (cCall 1 F_beside (aCons (cLst (aCons (cVar 0) (aCons (cVar 5) aNil))) aNil)) (aCons (cCall 1 F_beside (aCons (cLst (aCons (cVar 3) (aCons (cVar 5) aNil))) aNil)) aNil))))
  sNext)
  (sSeq (sIf (tVal (cOp2 opEq (cVar 1) (cK (.str "all"))))
  (sRet (cCall 2 F_below (aCons (cCall 1 F_beside (aCons (cLst (aCons (cVar 0) (aCons (cVar 2) aNil))) aNil)) (aCons (cCall 1 F_beside (aCons (cLst (aCons (cVar 3) (aCons (cVar 4) aNil))) aNil)) aNil))))
  sNext)
  (sSeq (sIf (tVal (cOp2 opEq (cVar 1) (cK (.str "glides"))))
  (sRet (cCall 2 F_below (aCons (cCall 1 F_beside (aCons (cLst (aCons (cVar 0) (aCons (cVar 5) aNil))) aNil)) (aCons (cCall 1 F_beside (aCons (cLst (aCons (cVar 5) (aCons (cVar 3) aNil))) aNil)) aNil))))
  sNext)
  (sSeq (sIf (tVal (cOp2 opEq (cVar 1) (cK (.str "half turns"))))
  (sRet (cCall 2 F_below (aCons (cCall 1 F_beside (aCons (cLst (aCons (cVar 0) (aCons (cVar 5) aNil))) aNil)) (aCons (cCall 1 F_beside (aCons (cLst (aCons (cVar 5) (aCons (cVar 4) aNil))) aNil)) aNil))))
  sNext)
  (sRet (cCall 2 F_below (aCons (cCall 1 F_beside (aCons (cLst (aCons (cVar 0) (aCons (cVar 2) (aCons (cVar 5) (aCons (cVar 5) aNil))))) aNil)) (aCons (cCall 1 F_beside (aCons (cLst (aCons (cVar 5) (aCons (cVar 5) (aCons (cVar 3) (aCons (cVar 4) aNil))))) aNil)) aNil))))))))))))))
def F_made : Fn := runB 6 c_made
theorem sc_made : FnScope N_made ["piece", "sort"] (defScope s_made) := ⟨rfl, rfl, rfl, by decide +kernel, rfl, by decide +kernel, by decide +kernel⟩
theorem ok_made (F : FnT K "made" s_made fd) (hm : mg "made" = some (.ref (He.fAd K ("made", none)))) (B : Free mg) (C_below : Cal P w K mg base Γ "below" 1 2 F_below) (C_beside : Cal P w K mg base Γ "beside" 1 1 F_beside) (C_check_picture : Cal P w K mg base Γ "check_picture" 2 1 F_check_picture) (C_left_right : Cal P w K mg base Γ "left_right" 1 1 F_left_right) (C_up_down : Cal P w K mg base Γ "up_down" 1 1 F_up_down) (G_SORTS : GlobK K Γ mg "SORTS" d_SORTS) (X_BadDraft : Exc K Γ mg "BadDraft" 1) : Cal P w K mg base Γ "made" 3 2 F_made :=
  cal_of F hm sc_made rfl (fun _ _ _ _ _ _ us hl => match us, hl with | [_, _], _ => rfl) fun A outer s H E hr0 =>
  have nd_ := sc_made.nd
  (pss_consC (ps_exprC (pc_call (C_check_picture.mono (k := 2) (by decide)) hr0 (by rfl) (takes_of rfl rfl rfl rfl) (pa_consC (pc_var (i := 0) (by rfl) (Or.inl rfl)) pa_nilC)))
  (pss_consC (ps_ifC (pt_cmpC (c_notIn hr0) (pc_var (i := 1) (by rfl) (Or.inl rfl)) (pc_globK (by rfl) G_SORTS))
  (pss_oneC (ps_raiseK rfl X_BadDraft (takes_of rfl rfl rfl rfl) (by rfl)))
  pss_nilC)
  (pss_consC (ps_par3N (i := 2) (j := 3) (l := 4) rfl nd_ (by rfl) (by rfl) (by rfl) (by decide) (by decide) (by decide) (by rfl) (by rfl) (by rfl) (pn_plain (pc_call (C_left_right.mono (k := 2) (by decide)) hr0 (by rfl) (takes_of rfl rfl rfl rfl) (pa_consC (pc_var (i := 0) (by rfl) (Or.inl rfl)) pa_nilC)) (pn_plain (pc_call (C_up_down.mono (k := 2) (by decide)) hr0 (by rfl) (takes_of rfl rfl rfl rfl) (pa_consC (pc_var (i := 0) (by rfl) (Or.inl rfl)) pa_nilC)) (pn_plain (pc_call (C_up_down.mono (k := 2) (by decide)) hr0 (by rfl) (takes_of rfl rfl rfl rfl) (pa_consC (pc_call (C_left_right.mono (k := 2) (by decide)) hr0 (by rfl) (takes_of rfl rfl rfl rfl) (pa_consC (pc_var (i := 0) (by rfl) (Or.inl rfl)) pa_nilC)) pa_nilC)) pn_nil))))
  (pss_consC (ps_setC (i := 5) nd_ (by rfl) (Or.inl rfl) (pc_callTy call_tupleC nx_tuple (by rfl) B.b_tuple (by rfl) (pa_consC (pc_mul (pc_lst (pa_consC (pc_callTy call_tupleC nx_tuple (by rfl) B.b_tuple (by rfl) (pa_consC (pc_mul (pc_lst (pa_consC pc_bl pa_nilC)) (pc_callB call_lenC nx_len (by rfl) B.b_len (by rfl) (pa_consC (pc_ix hr0 (pc_var (i := 0) (by rfl) (Or.inl rfl)) pc_int) pa_nilC))) pa_nilC)) pa_nilC)) (pc_callB call_lenC nx_len (by rfl) B.b_len (by rfl) (pa_consC (pc_var (i := 0) (by rfl) (Or.inl rfl)) pa_nilC))) pa_nilC)))
  (pss_consC (ps_ifC (pt_cmpC (c_eq hr0) (pc_var (i := 1) (by rfl) (Or.inl rfl)) pc_str)
  (pss_oneC (ps_retC (pc_call (C_beside.mono (k := 2) (by decide)) hr0 (by rfl) (takes_of rfl rfl rfl rfl) (pa_consC (pc_lst (pa_consC (pc_var (i := 0) (by rfl) (Or.inl rfl)) (pa_consC (pc_var (i := 5) (by rfl) (Or.inl rfl)) pa_nilC))) pa_nilC))))
  pss_nilC)
  (pss_consC (ps_ifC (pt_cmpC (c_eq hr0) (pc_var (i := 1) (by rfl) (Or.inl rfl)) pc_str)
  (pss_oneC (ps_retC (pc_call (C_beside.mono (k := 2) (by decide)) hr0 (by rfl) (takes_of rfl rfl rfl rfl) (pa_consC (pc_lst (pa_consC (pc_var (i := 0) (by rfl) (Or.inl rfl)) (pa_consC (pc_var (i := 2) (by rfl) (Or.inl rfl)) pa_nilC))) pa_nilC))))
  pss_nilC)
  (pss_consC (ps_ifC (pt_cmpC (c_eq hr0) (pc_var (i := 1) (by rfl) (Or.inl rfl)) pc_str)
  (pss_oneC (ps_retC (pc_call (C_below.mono (k := 2) (by decide)) hr0 (by rfl) (takes_of rfl rfl rfl rfl) (pa_consC (pc_call (C_beside.mono (k := 2) (by decide)) hr0 (by rfl) (takes_of rfl rfl rfl rfl) (pa_consC (pc_lst (pa_consC (pc_var (i := 0) (by rfl) (Or.inl rfl)) (pa_consC (pc_var (i := 5) (by rfl) (Or.inl rfl)) pa_nilC))) pa_nilC)) (pa_consC (pc_call (C_beside.mono (k := 2) (by decide)) hr0 (by rfl) (takes_of rfl rfl rfl rfl) (pa_consC (pc_lst (pa_consC (pc_var (i := 3) (by rfl) (Or.inl rfl)) (pa_consC (pc_var (i := 5) (by rfl) (Or.inl rfl)) pa_nilC))) pa_nilC)) pa_nilC)))))
  pss_nilC)
  (pss_consC (ps_ifC (pt_cmpC (c_eq hr0) (pc_var (i := 1) (by rfl) (Or.inl rfl)) pc_str)
  (pss_oneC (ps_retC (pc_call (C_below.mono (k := 2) (by decide)) hr0 (by rfl) (takes_of rfl rfl rfl rfl) (pa_consC (pc_call (C_beside.mono (k := 2) (by decide)) hr0 (by rfl) (takes_of rfl rfl rfl rfl) (pa_consC (pc_lst (pa_consC (pc_var (i := 0) (by rfl) (Or.inl rfl)) (pa_consC (pc_var (i := 2) (by rfl) (Or.inl rfl)) pa_nilC))) pa_nilC)) (pa_consC (pc_call (C_beside.mono (k := 2) (by decide)) hr0 (by rfl) (takes_of rfl rfl rfl rfl) (pa_consC (pc_lst (pa_consC (pc_var (i := 3) (by rfl) (Or.inl rfl)) (pa_consC (pc_var (i := 4) (by rfl) (Or.inl rfl)) pa_nilC))) pa_nilC)) pa_nilC)))))
  pss_nilC)
  (pss_consC (ps_ifC (pt_cmpC (c_eq hr0) (pc_var (i := 1) (by rfl) (Or.inl rfl)) pc_str)
  (pss_oneC (ps_retC (pc_call (C_below.mono (k := 2) (by decide)) hr0 (by rfl) (takes_of rfl rfl rfl rfl) (pa_consC (pc_call (C_beside.mono (k := 2) (by decide)) hr0 (by rfl) (takes_of rfl rfl rfl rfl) (pa_consC (pc_lst (pa_consC (pc_var (i := 0) (by rfl) (Or.inl rfl)) (pa_consC (pc_var (i := 5) (by rfl) (Or.inl rfl)) pa_nilC))) pa_nilC)) (pa_consC (pc_call (C_beside.mono (k := 2) (by decide)) hr0 (by rfl) (takes_of rfl rfl rfl rfl) (pa_consC (pc_lst (pa_consC (pc_var (i := 5) (by rfl) (Or.inl rfl)) (pa_consC (pc_var (i := 3) (by rfl) (Or.inl rfl)) pa_nilC))) pa_nilC)) pa_nilC)))))
  pss_nilC)
  (pss_consC (ps_ifC (pt_cmpC (c_eq hr0) (pc_var (i := 1) (by rfl) (Or.inl rfl)) pc_str)
  (pss_oneC (ps_retC (pc_call (C_below.mono (k := 2) (by decide)) hr0 (by rfl) (takes_of rfl rfl rfl rfl) (pa_consC (pc_call (C_beside.mono (k := 2) (by decide)) hr0 (by rfl) (takes_of rfl rfl rfl rfl) (pa_consC (pc_lst (pa_consC (pc_var (i := 0) (by rfl) (Or.inl rfl)) (pa_consC (pc_var (i := 5) (by rfl) (Or.inl rfl)) pa_nilC))) pa_nilC)) (pa_consC (pc_call (C_beside.mono (k := 2) (by decide)) hr0 (by rfl) (takes_of rfl rfl rfl rfl) (pa_consC (pc_lst (pa_consC (pc_var (i := 5) (by rfl) (Or.inl rfl)) (pa_consC (pc_var (i := 4) (by rfl) (Or.inl rfl)) pa_nilC))) pa_nilC)) pa_nilC)))))
  pss_nilC)
  (pss_oneC (ps_retC (pc_call (C_below.mono (k := 2) (by decide)) hr0 (by rfl) (takes_of rfl rfl rfl rfl) (pa_consC (pc_call (C_beside.mono (k := 2) (by decide)) hr0 (by rfl) (takes_of rfl rfl rfl rfl) (pa_consC (pc_lst (pa_consC (pc_var (i := 0) (by rfl) (Or.inl rfl)) (pa_consC (pc_var (i := 2) (by rfl) (Or.inl rfl)) (pa_consC (pc_var (i := 5) (by rfl) (Or.inl rfl)) (pa_consC (pc_var (i := 5) (by rfl) (Or.inl rfl)) pa_nilC))))) pa_nilC)) (pa_consC (pc_call (C_beside.mono (k := 2) (by decide)) hr0 (by rfl) (takes_of rfl rfl rfl rfl) (pa_consC (pc_lst (pa_consC (pc_var (i := 5) (by rfl) (Or.inl rfl)) (pa_consC (pc_var (i := 5) (by rfl) (Or.inl rfl)) (pa_consC (pc_var (i := 3) (by rfl) (Or.inl rfl)) (pa_consC (pc_var (i := 4) (by rfl) (Or.inl rfl)) pa_nilC))))) pa_nilC)) pa_nilC)))))))))))))))
/-! ### least_piece -/
abbrev s_least_piece : Stmt := top 23
abbrev N_least_piece : List Str := ["band", "step", "row"]
def c_least_piece : SCode :=
  (sSeq (sAsg (cCall 1 F_step_of (aCons (cVar 0) aNil)) (gNm 1))
  (sRet (cOpN (op1 fTuple) (aCons (cLc [2] (iSeq (cVar 0)) (gNm 2) tYesC (cSl (cVar 2) oNone (oSome (cVar 1)))) aNil))))
def F_least_piece : Fn := runB 3 c_least_piece
theorem sc_least_piece : FnScope N_least_piece ["band"] (defScope s_least_piece) := ⟨rfl, rfl, rfl, by decide +kernel, rfl, by decide +kernel, by decide +kernel⟩
theorem blk_least_piece_0 : BlkOk ["band", "step", "row"] (defScope s_least_piece) ({ kind := .function, names := [(".0", .local), ("row", .local), ("step", .free)], isGenerator := false, isCoroutine := false, more := [] } : PySem.Scope) [("row", 2)] := ⟨rfl, by decide +kernel, by decide +kernel, by decide +kernel, by decide +kernel⟩
theorem ok_least_piece (F : FnT K "least_piece" s_least_piece fd) (hm : mg "least_piece" = some (.ref (He.fAd K ("least_piece", none)))) (B : Free mg) (C_step_of : Cal P w K mg base Γ "step_of" 3 1 F_step_of) : Cal P w K mg base Γ "least_piece" 4 1 F_least_piece :=
  cal_of F hm sc_least_piece rfl (fun _ _ _ _ _ _ us hl => match us, hl with | [_], _ => rfl) fun A outer s H E hr0 =>
  have nd_ := sc_least_piece.nd
  (pss_consC (ps_setC (i := 1) nd_ (by rfl) (Or.inr rfl) (pc_call (C_step_of.mono (k := 3) (by decide)) hr0 (by rfl) (takes_of rfl rfl rfl rfl) (pa_consC (pc_var (i := 0) (by rfl) (Or.inl rfl)) pa_nilC)))
  (pss_oneC (ps_retC (pc_callTy call_tupleC nx_tuple (by rfl) B.b_tuple (by rfl) (pa_consC (pc_lc (own := [("row", 2)]) rfl nd_ (pi_seqC (pc_var (i := 0) (by rfl) (Or.inl rfl))) blk_least_piece_0 (by decide) (fun s H C cl fp => (pg_nameC (i := 2) nd_ (by rfl) (Or.inl rfl))) (fun s H C cl fp => pts_nilC) (fun s H C cl fp => (pc_slice (pc_var (i := 2) (by rfl) (Or.inl rfl)) po_noneC (po_someC (pc_var (i := 1) (by rfl) (Or.inr (Or.inl rfl))))))) pa_nilC)))))
/-! ### copies_in -/
abbrev s_copies_in : Stmt := top 24
abbrev N_copies_in : List Str := ["band", "count", "name", "there"]
def c_copies_in : SCode :=
  (sSeq (sAsg (cK (.int 1)) (gNm 1))
  (sSeq (sFor (iItemsCall 1 F_turns (aCons (cVar 0) aNil)) (gTupC 2 (gMore (gNm 2) (gMore (gNm 3) gNone)))
  (sIf (tAndC (tTru (cVar 3)) (tVal (cOp2 opIn (cVar 2) (cTup (aCons (cK (.str "upright")) (aCons (cK (.str "midline")) (aCons (cK (.str "glide")) aNil)))))))
  (sAug 1 opMulI (cK (.int 2)))
  sNext))
  (sSeq (sIf (tAndC (tVal (cOp2 opEq (cVar 1) (cK (.int 1)))) (tTru (cOp2 opIx (cCall 1 F_turns (aCons (cVar 0) aNil)) (cK (.str "half turn")))))
  (sAsg (cK (.int 2)) (gNm 1))
  sNext)
  (sRet (cVar 1)))))
def F_copies_in : Fn := runB 4 c_copies_in
theorem sc_copies_in : FnScope N_copies_in ["band"] (defScope s_copies_in) := ⟨rfl, rfl, rfl, by decide +kernel, rfl, by decide +kernel, by decide +kernel⟩
theorem ok_copies_in (F : FnT K "copies_in" s_copies_in fd) (hm : mg "copies_in" = some (.ref (He.fAd K ("copies_in", none)))) (B : Free mg) (C_turns : Cal P w K mg base Γ "turns" 4 1 F_turns) : Cal P w K mg base Γ "copies_in" 5 1 F_copies_in :=
  cal_of F hm sc_copies_in rfl (fun _ _ _ _ _ _ us hl => match us, hl with | [_], _ => rfl) fun A outer s H E hr0 =>
  have nd_ := sc_copies_in.nd
  (pss_consC (ps_setC (i := 1) nd_ (by rfl) (Or.inl rfl) pc_int)
  (pss_consC (ps_forC (passes_of rfl) rfl (pi_itemsC (C_turns.mono (k := 4) (by decide)) hr0 (by rfl) (takes_of rfl rfl rfl rfl) (pa_consC (pc_var (i := 0) (by rfl) (Or.inl rfl)) pa_nilC)) (pg_tupC rfl (pgs_consC (pg_nameC (i := 2) nd_ (by rfl) (Or.inl rfl)) (pgs_consC (pg_nameC (i := 3) nd_ (by rfl) (Or.inl rfl)) pgs_nilC))) (nx_gtup (nx_gmore nx_nm (nx_gmore nx_nm nx_gnone)))
  (pss_oneC (ps_ifC (PW.pt (pw_andC (pt_tru (pc_var (i := 3) (by rfl) (Or.inl rfl))) (pw_and1C (pt_cmpC (c_in hr0) (pc_var (i := 2) (by rfl) (Or.inl rfl)) (pc_tup (pa_consC pc_str (pa_consC pc_str (pa_consC pc_str pa_nilC))))))))
  (pss_oneC (ps_augC (i := 1) nd_ (by rfl) (Or.inl rfl) pc_int iop_mulC nx_mulI))
  pss_nilC)))
  (pss_consC (ps_ifC (PW.pt (pw_andC (pt_cmpC (c_eq hr0) (pc_var (i := 1) (by rfl) (Or.inl rfl)) pc_int) (pw_and1C (pt_tru (pc_ix hr0 (pc_call (C_turns.mono (k := 4) (by decide)) hr0 (by rfl) (takes_of rfl rfl rfl rfl) (pa_consC (pc_var (i := 0) (by rfl) (Or.inl rfl)) pa_nilC)) pc_str)))))
  (pss_oneC (ps_setC (i := 1) nd_ (by rfl) (Or.inl rfl) pc_int))
  pss_nilC)
  (pss_oneC (ps_retC (pc_var (i := 1) (by rfl) (Or.inl rfl)))))))
/-! ### corner -/
abbrev s_corner : Stmt := top 25
abbrev N_corner : List Str := ["band", "many", "step"]
def c_corner : SCode :=
  (sSeq (sAsg (cCall 1 F_step_of (aCons (cVar 0) aNil)) (gNm 2))
  (sSeq (sIf (tOrC (tVal (cOp2 opLt (cVar 1) (cVar 2))) (tVal (cOp2 opNe (cOp2 opMod (cVar 1) (cVar 2)) (cK (.int 0)))))
  (sRaise 5)
  sNext)
  (sRet (cOp2 opDiv (cVar 1) (cVar 2)))))
def F_corner : Fn := runB 3 c_corner
theorem sc_corner : FnScope N_corner ["band", "many"] (defScope s_corner) := ⟨rfl, rfl, rfl, by decide +kernel, rfl, by decide +kernel, by decide +kernel⟩
theorem ok_corner (F : FnT K "corner" s_corner fd) (hm : mg "corner" = some (.ref (He.fAd K ("corner", none)))) (B : Free mg) (C_step_of : Cal P w K mg base Γ "step_of" 3 1 F_step_of) (X_NoCloth : Exc K Γ mg "NoCloth" 5) : Cal P w K mg base Γ "corner" 4 2 F_corner :=
  cal_of F hm sc_corner rfl (fun _ _ _ _ _ _ us hl => match us, hl with | [_, _], _ => rfl) fun A outer s H E hr0 =>
  have nd_ := sc_corner.nd
  (pss_consC (ps_setC (i := 2) nd_ (by rfl) (Or.inl rfl) (pc_call (C_step_of.mono (k := 3) (by decide)) hr0 (by rfl) (takes_of rfl rfl rfl rfl) (pa_consC (pc_var (i := 0) (by rfl) (Or.inl rfl)) pa_nilC)))
  (pss_consC (ps_ifC (PW.pt (pw_orC (pt_cmpC c_lt (pc_var (i := 1) (by rfl) (Or.inl rfl)) (pc_var (i := 2) (by rfl) (Or.inl rfl))) (pw_or1C (pt_cmpC (c_ne hr0) (pc_mod (pc_var (i := 1) (by rfl) (Or.inl rfl)) (pc_var (i := 2) (by rfl) (Or.inl rfl))) pc_int))))
  (pss_oneC (ps_raiseK rfl X_NoCloth (takes_of rfl rfl rfl rfl) (by rfl)))
  pss_nilC)
  (pss_oneC (ps_retC (pc_div (pc_var (i := 1) (by rfl) (Or.inl rfl)) (pc_var (i := 2) (by rfl) (Or.inl rfl)))))))
/-! ### both_sides -/
abbrev s_both_sides : Stmt := top 26
abbrev N_both_sides : List Str := ["band", "row", "one"]
def c_both_sides : SCode :=
  (sRet (cCall 1 F_sort_of (aCons (cCall 1 F_left_right (aCons (cOpN (op1 fTuple) (aCons (cLc [1] (iSeq (cVar 0)) (gNm 1) tYesC (cOpN (op1 fTuple) (aCons (cLc [2] (iSeq (cVar 1)) (gNm 2) tYesC (cNot (cVar 2))) aNil))) aNil)) aNil)) aNil)))
def F_both_sides : Fn := runB 3 c_both_sides
theorem sc_both_sides : FnScope N_both_sides ["band"] (defScope s_both_sides) := ⟨rfl, rfl, rfl, by decide +kernel, rfl, by decide +kernel, by decide +kernel⟩
theorem blk_both_sides_0 : BlkOk ["band", "row", "one"] (defScope s_both_sides) ({ kind := .function, names := [(".0", .local), ("row", .local), ("tuple", .globalImplicit)], isGenerator := false, isCoroutine := false, more := [] } : PySem.Scope) [("row", 1)] := ⟨rfl, by decide +kernel, by decide +kernel, by decide +kernel, by decide +kernel⟩
theorem blk_both_sides_1 : BlkOk ["band", "row", "one"] ({ kind := .function, names := [(".0", .local), ("row", .local), ("tuple", .globalImplicit)], isGenerator := false, isCoroutine := false, more := [] } : PySem.Scope) ({ kind := .function, names := [(".0", .local), ("one", .local)], isGenerator := false, isCoroutine := false, more := [] } : PySem.Scope) [("one", 2)] := ⟨rfl, by decide +kernel, by decide +kernel, by decide +kernel, by decide +kernel⟩
theorem ok_both_sides (F : FnT K "both_sides" s_both_sides fd) (hm : mg "both_sides" = some (.ref (He.fAd K ("both_sides", none)))) (B : Free mg) (C_left_right : Cal P w K mg base Γ "left_right" 1 1 F_left_right) (C_sort_of : Cal P w K mg base Γ "sort_of" 5 1 F_sort_of) : Cal P w K mg base Γ "both_sides" 6 1 F_both_sides :=
  cal_of F hm sc_both_sides rfl (fun _ _ _ _ _ _ us hl => match us, hl with | [_], _ => rfl) fun A outer s H E hr0 =>
  have nd_ := sc_both_sides.nd
  (pss_oneC (ps_retC (pc_call (C_sort_of.mono (k := 5) (by decide)) hr0 (by rfl) (takes_of rfl rfl rfl rfl) (pa_consC (pc_call (C_left_right.mono (k := 5) (by decide)) hr0 (by rfl) (takes_of rfl rfl rfl rfl) (pa_consC (pc_callTy call_tupleC nx_tuple (by rfl) B.b_tuple (by rfl) (pa_consC (pc_lc (own := [("row", 1)]) rfl nd_ (pi_seqC (pc_var (i := 0) (by rfl) (Or.inl rfl))) blk_both_sides_0 (by decide) (fun s H C cl fp => (pg_nameC (i := 1) nd_ (by rfl) (Or.inl rfl))) (fun s H C cl fp => pts_nilC) (fun s H C cl fp => (pc_callTy call_tupleC nx_tuple (by rfl) B.b_tuple (by rfl) (pa_consC (pc_lc (own := [("one", 2)]) rfl nd_ (pi_seqC (pc_var (i := 1) (by rfl) (Or.inl rfl))) blk_both_sides_1 (by decide) (fun s H C cl fp => (pg_nameC (i := 2) nd_ (by rfl) (Or.inl rfl))) (fun s H C cl fp => pts_nilC) (fun s H C cl fp => (pc_not (pc_var (i := 2) (by rfl) (Or.inl rfl))))) pa_nilC)))) pa_nilC)) pa_nilC)) pa_nilC))))
/-! ### same_bands -/
abbrev s_same_bands : Stmt := top 27
abbrev N_same_bands : List Str := ["one", "other", "turned"]
def c_same_bands : SCode :=
  (sSeq (sIf (tOrC (tVal (cOp2 opNe (cOpN (op1 fLen) (aCons (cVar 0) aNil)) (cOpN (op1 fLen) (aCons (cVar 1) aNil)))) (tVal (cOp2 opNe (cOpN (op1 fLen) (aCons (cOp2 opIx (cVar 0) (cK (.int 0))) aNil)) (cOpN (op1 fLen) (aCons (cOp2 opIx (cVar 1) (cK (.int 0))) aNil)))))
  (sRet (cK (.bl false)))
  sNext)
  (sSeq (sFor (iSeq (cTup (aCons (cVar 0) (aCons (cCall 1 F_left_right (aCons (cVar 0) aNil)) (aCons (cCall 1 F_up_down (aCons (cVar 0) aNil)) (aCons (cCall 1 F_up_down (aCons (cCall 1 F_left_right (aCons (cVar 0) aNil)) aNil)) aNil)))))) (gNm 2)
  (sIf (tVal (cOp2 opNe (cCall 2 F_homes (aCons (cVar 1) (aCons (cVar 2) aNil))) (cTup aNil)))
  (sRet (cK (.bl true)))
  sNext))
  (sRet (cK (.bl false)))))
def F_same_bands : Fn := runB 3 c_same_bands
theorem sc_same_bands : FnScope N_same_bands ["one", "other"] (defScope s_same_bands) := ⟨rfl, rfl, rfl, by decide +kernel, rfl, by decide +kernel, by decide +kernel⟩
theorem ok_same_bands (F : FnT K "same_bands" s_same_bands fd) (hm : mg "same_bands" = some (.ref (He.fAd K ("same_bands", none)))) (B : Free mg) (C_homes : Cal P w K mg base Γ "homes" 2 2 F_homes) (C_left_right : Cal P w K mg base Γ "left_right" 1 1 F_left_right) (C_up_down : Cal P w K mg base Γ "up_down" 1 1 F_up_down) : Cal P w K mg base Γ "same_bands" 3 2 F_same_bands :=
  cal_of F hm sc_same_bands rfl (fun _ _ _ _ _ _ us hl => match us, hl with | [_, _], _ => rfl) fun A outer s H E hr0 =>
  have nd_ := sc_same_bands.nd
  (pss_consC (ps_ifC (PW.pt (pw_orC (pt_cmpC (c_ne hr0) (pc_callB call_lenC nx_len (by rfl) B.b_len (by rfl) (pa_consC (pc_var (i := 0) (by rfl) (Or.inl rfl)) pa_nilC)) (pc_callB call_lenC nx_len (by rfl) B.b_len (by rfl) (pa_consC (pc_var (i := 1) (by rfl) (Or.inl rfl)) pa_nilC))) (pw_or1C (pt_cmpC (c_ne hr0) (pc_callB call_lenC nx_len (by rfl) B.b_len (by rfl) (pa_consC (pc_ix hr0 (pc_var (i := 0) (by rfl) (Or.inl rfl)) pc_int) pa_nilC)) (pc_callB call_lenC nx_len (by rfl) B.b_len (by rfl) (pa_consC (pc_ix hr0 (pc_var (i := 1) (by rfl) (Or.inl rfl)) pc_int) pa_nilC))))))
  (pss_oneC (ps_retC pc_bl))
  pss_nilC)
  (pss_consC (ps_forC (passes_of rfl) rfl (pi_seqC (pc_tup (pa_consC (pc_var (i := 0) (by rfl) (Or.inl rfl)) (pa_consC (pc_call (C_left_right.mono (k := 2) (by decide)) hr0 (by rfl) (takes_of rfl rfl rfl rfl) (pa_consC (pc_var (i := 0) (by rfl) (Or.inl rfl)) pa_nilC)) (pa_consC (pc_call (C_up_down.mono (k := 2) (by decide)) hr0 (by rfl) (takes_of rfl rfl rfl rfl) (pa_consC (pc_var (i := 0) (by rfl) (Or.inl rfl)) pa_nilC)) (pa_consC (pc_call (C_up_down.mono (k := 2) (by decide)) hr0 (by rfl) (takes_of rfl rfl rfl rfl) (pa_consC (pc_call (C_left_right.mono (k := 2) (by decide)) hr0 (by rfl) (takes_of rfl rfl rfl rfl) (pa_consC (pc_var (i := 0) (by rfl) (Or.inl rfl)) pa_nilC)) pa_nilC)) pa_nilC)))))) (pg_nameC (i := 2) nd_ (by rfl) (Or.inl rfl)) nx_nm
  (pss_oneC (ps_ifC (pt_cmpC (c_ne hr0) (pc_call (C_homes.mono (k := 2) (by decide)) hr0 (by rfl) (takes_of rfl rfl rfl rfl) (pa_consC (pc_var (i := 1) (by rfl) (Or.inl rfl)) (pa_consC (pc_var (i := 2) (by rfl) (Or.inl rfl)) pa_nilC))) (pc_tup pa_nilC))
  (pss_oneC (ps_retC pc_bl))
  pss_nilC)))
  (pss_oneC (ps_retC pc_bl))))
/-! ### law_flat -/
abbrev s_law_flat : Stmt := top 29
abbrev N_law_flat : List Str := ["rows", "found", "row"]
def c_law_flat : SCode :=
  (sSeq (sAsg (cLst aNil) (gNm 1))
  (sSeq (sFor (iSeq (cVar 0)) (gNm 2)
  (sAsg (cOp2 opAdd (cVar 1) (cVar 2)) (gNm 1)))
  (sRet (cVar 1))))
def F_law_flat : Fn := runB 3 c_law_flat
theorem sc_law_flat : FnScope N_law_flat ["rows"] (defScope s_law_flat) := ⟨rfl, rfl, rfl, by decide +kernel, rfl, by decide +kernel, by decide +kernel⟩
theorem ok_law_flat (F : FnT K "_law_flat" s_law_flat fd) (hm : mg "_law_flat" = some (.ref (He.fAd K ("_law_flat", none)))) (B : Free mg) : Cal P w K mg base Γ "_law_flat" 1 1 F_law_flat :=
  cal_of F hm sc_law_flat rfl (fun _ _ _ _ _ _ us hl => match us, hl with | [_], _ => rfl) fun A outer s H E hr0 =>
  have nd_ := sc_law_flat.nd
  (pss_consC (ps_setC (i := 1) nd_ (by rfl) (Or.inl rfl) (pc_lst pa_nilC))
  (pss_consC (ps_forC (passes_of rfl) rfl (pi_seqC (pc_var (i := 0) (by rfl) (Or.inl rfl))) (pg_nameC (i := 2) nd_ (by rfl) (Or.inl rfl)) nx_nm
  (pss_oneC (ps_setC (i := 1) nd_ (by rfl) (Or.inl rfl) (pc_add (pc_var (i := 1) (by rfl) (Or.inl rfl)) (pc_var (i := 2) (by rfl) (Or.inl rfl))))))
  (pss_oneC (ps_retC (pc_var (i := 1) (by rfl) (Or.inl rfl))))))
/-! ### law_dice -/
abbrev s_law_dice : Stmt := top 30
abbrev N_law_dice : List Str := ["cell"]
theorem sc_law_dice : FnScope N_law_dice ["cell"] (defScope s_law_dice) := ⟨rfl, rfl, rfl, by decide +kernel, rfl, by decide +kernel, by decide +kernel⟩
theorem ok_law_dice (F : FnT K "_law_dice" s_law_dice fd) (hm : mg "_law_dice" = some (.ref (He.fAd K ("_law_dice", none)))) (B : Free mg) : Cal P w K mg base Γ "_law_dice" 1 1 fDice :=
  cal_dice F hm sc_law_dice (fun _ _ _ _ _ _ us hl => match us, hl with | [_], _ => rfl) fun A outer s H E hr0 =>
  have nd_ := sc_law_dice.nd
  (pss_consC (ps_ifC (pt_chainC c_lt c_lt (pc_sub pc_int pc_int) (pc_var (i := 0) (by rfl) (Or.inl rfl)) pc_int)
  (pss_oneC (ps_retC (pc_lst (pa_consC (pc_callB call_absC nx_abs (by rfl) B.b_abs (by rfl) (pa_consC (pc_var (i := 0) (by rfl) (Or.inl rfl)) pa_nilC)) (pa_consC pc_int (pa_consC pc_int pa_nilC))))))
  pss_nilC)
  (pss_oneC (ps_retC (pc_lst (pa_consC (pc_var (i := 0) (by rfl) (Or.inl rfl)) (pa_consC (pc_add pc_int (pc_mod (pc_callTy call_intC nx_int (by rfl) B.b_int (by rfl) (pa_consC (pc_var (i := 0) (by rfl) (Or.inl rfl)) pa_nilC)) pc_int)) (pa_consC (pc_callTy call_intC nx_int (by rfl) B.b_int (by rfl) (pa_consC (pc_cmp c_ge (pc_var (i := 0) (by rfl) (Or.inl rfl)) (pc_pow pc_int pc_int)) pa_nilC)) pa_nilC)))))))
/-! ### law_roll -/
abbrev s_law_roll : Stmt := top 31
abbrev N_law_roll : List Str := ["dice", "many", "found"]
theorem sc_law_roll : FnScope N_law_roll ["dice", "many"] (defScope s_law_roll) := ⟨rfl, rfl, rfl, by decide +kernel, rfl, by decide +kernel, by decide +kernel⟩
theorem ok_law_roll (F : FnT K "_law_roll" s_law_roll fd) (hm : mg "_law_roll" = some (.ref (He.fAd K ("_law_roll", none)))) (B : Free mg) : Cal P w K mg base Γ "_law_roll" 1 2 fRoll :=
  cal_roll F hm sc_law_roll (fun _ _ _ _ _ _ us hl => match us, hl with | [_, _], _ => rfl) fun A outer s H E hr0 =>
  have nd_ := sc_law_roll.nd
  (pss_consC (ps_ifC (PW.pt (pw_orC (pt_cmpC (c_eq hr0) (pc_ix hr0 (pc_var (i := 0) (by rfl) (Or.inl rfl)) pc_int) pc_int) (pw_or1C (PW.pt (pw_andC (pt_cmpC (c_eq hr0) (pc_ix hr0 (pc_var (i := 0) (by rfl) (Or.inl rfl)) pc_int) pc_int) (pw_and1C (pt_cmpC c_gt (pc_ix hr0 (pc_var (i := 0) (by rfl) (Or.inl rfl)) pc_int) pc_int)))))))
  (pss_consC (ps_setC (i := 2) nd_ (by rfl) (Or.inl rfl) (pc_mod (pc_callTy call_intC nx_int (by rfl) B.b_int (by rfl) (pa_consC (pc_ix hr0 (pc_var (i := 0) (by rfl) (Or.inl rfl)) pc_int) pa_nilC)) (pc_var (i := 1) (by rfl) (Or.inl rfl))))
  (pss_consC (ps_lputC (pc_var (i := 0) (by rfl) (Or.inl rfl)) pc_int (pc_div (pc_ix hr0 (pc_var (i := 0) (by rfl) (Or.inl rfl)) pc_int) (pc_var (i := 1) (by rfl) (Or.inl rfl))))
  (pss_oneC (ps_retC (pc_var (i := 2) (by rfl) (Or.inl rfl))))))
  pss_nilC)
  (pss_consC (ps_lputC (pc_var (i := 0) (by rfl) (Or.inl rfl)) pc_int pc_int)
  (pss_consC (ps_lputC (pc_var (i := 0) (by rfl) (Or.inl rfl)) pc_int (pc_mod (pc_callTy call_intC nx_int (by rfl) B.b_int (by rfl) (pa_consC (pc_add (pc_add (pc_mul (pc_ix hr0 (pc_var (i := 0) (by rfl) (Or.inl rfl)) pc_int) pc_int) (pc_mul (pc_ix hr0 (pc_var (i := 0) (by rfl) (Or.inl rfl)) pc_int) pc_int)) pc_int) pa_nilC)) pc_int))
  (pss_consC (ps_lputC (pc_var (i := 0) (by rfl) (Or.inl rfl)) pc_int (pc_add (pc_ix hr0 (pc_var (i := 0) (by rfl) (Or.inl rfl)) pc_int) pc_int))
  (pss_oneC (ps_retC (pc_mod (pc_callTy call_intC nx_int (by rfl) B.b_int (by rfl) (pa_consC (pc_add (pc_div (pc_ix hr0 (pc_var (i := 0) (by rfl) (Or.inl rfl)) pc_int) pc_int) (pc_ix hr0 (pc_var (i := 0) (by rfl) (Or.inl rfl)) pc_int)) pa_nilC)) (pc_var (i := 1) (by rfl) (Or.inl rfl)))))))))
/-! ### law_rounds -/
abbrev s_law_rounds : Stmt := top 32
abbrev N_law_rounds : List Str := ["script", "most", "cells", "cell"]
theorem sc_law_rounds : FnScope N_law_rounds ["script", "most"] (defScope s_law_rounds) := ⟨rfl, rfl, rfl, by decide +kernel, rfl, by decide +kernel, by decide +kernel⟩
theorem blk_law_rounds_0 : BlkOk ["script", "most", "cells", "cell"] (defScope s_law_rounds) ({ kind := .function, names := [(".0", .local), ("cell", .local), ("_law_dice", .globalImplicit)], isGenerator := false, isCoroutine := false, more := [] } : PySem.Scope) [("cell", 3)] := ⟨rfl, by decide +kernel, by decide +kernel, by decide +kernel, by decide +kernel⟩
theorem ok_law_rounds (F : FnT K "_law_rounds" s_law_rounds fd) (hm : mg "_law_rounds" = some (.ref (He.fAd K ("_law_rounds", none)))) (B : Free mg) (C_law_dice : Cal P w K mg base Γ "_law_dice" 1 1 fDice) : Rnd P w K mg base Γ "_law_rounds" 2 :=
  cal_rounds F hm sc_law_rounds (fun _ _ _ _ _ _ us hl => match us, hl with | [_, _], _ => rfl) fun A outer s H E hr0 =>
  have nd_ := sc_law_rounds.nd
  (pss_cons (ps_set (i := 2) nd_ (by rfl) (Or.inl rfl) (pe_slice sl_list (pe_var (i := 0) (by rfl) (Or.inl rfl)) po_none (po_some (pe_var (i := 1) (by rfl) (Or.inl rfl)))))
  (pss_consC (ps_ifC (pt_cmpC (c_eq hr0) (pc_var (i := 2) (by rfl) (Or.inl rfl)) (pc_lst pa_nilC))
  (pss_oneC (ps_setC (i := 2) nd_ (by rfl) (Or.inl rfl) (pc_lst (pa_consC pc_int pa_nilC))))
  pss_nilC)
  (pss_oneC (ps_retC (pc_lc (own := [("cell", 3)]) rfl nd_ (pi_seqC (pc_var (i := 2) (by rfl) (Or.inl rfl))) blk_law_rounds_0 (by decide) (fun s H C cl fp => (pg_nameC (i := 3) nd_ (by rfl) (Or.inl rfl))) (fun s H C cl fp => pts_nilC) (fun s H C cl fp => (pc_call (C_law_dice.mono (k := 1) (by decide)) hr0 (by rfl) takes0 (pa_consC (pc_var (i := 3) (by rfl) (Or.inl rfl)) pa_nilC))))))))
/-! ### law_told -/
abbrev s_law_told : Stmt := top 33
def tabTold (c : Nat) : Option Str := if c = 1 then some "draft" else if c = 2 then some "word" else if c = 3 then some "chart" else if c = 4 then some "knot" else if c = 5 then some "no cloth" else if c = 6 then some "large" else if c = 7 then some "text" else none
def csTold (cl : Nat → Addr) : List (Addr × Str) := [(cl 1, "draft"), (cl 2, "word"), (cl 3, "chart"), (cl 4, "knot"), (cl 5, "no cloth"), (cl 6, "large"), (cl 7, "text")]
theorem sc_law_told : FnScope ["what"] ["what"] (defScope s_law_told) := ⟨rfl, rfl, rfl, by decide +kernel, rfl, by decide +kernel, by decide +kernel⟩
theorem ok_law_told (F : FnT K "_law_told" s_law_told fd) (hm : mg "_law_told" = some (.ref (He.fAd K ("_law_told", none)))) (h_BadDraft : mg "BadDraft" = some (.ref (Γ.cl 1))) (h_BadWord : mg "BadWord" = some (.ref (Γ.cl 2))) (h_BadChart : mg "BadChart" = some (.ref (Γ.cl 3))) (h_BadKnot : mg "BadKnot" = some (.ref (Γ.cl 4))) (h_NoCloth : mg "NoCloth" = some (.ref (Γ.cl 5))) (h_TooLarge : mg "TooLarge" = some (.ref (Γ.cl 6))) (h_BadText : mg "BadText" = some (.ref (Γ.cl 7))) (ht : ∀ c t, tabTold c = some t → toldB K (Γ.cl c) t (csTold Γ.cl) = true) : TolD K mg Γ "_law_told" tabTold := by
  have hb : Binds K fd ["what"] [] := F.bindsN (ps := ["what"]) (fun _ _ _ _ _ _ us hl => match us, hl with | [_], _ => rfl)
  have kp := F.kp
  obtain ⟨oc, od, dV, kV, doc, pm, an, cdv, ct, osl, rfl, lk, hcd, _, _⟩ := F.ex
  exact ⟨_, oc, od, _, _, dV, kV, doc, pm, cdv, ct, an, osl, "what", _, _, _, _, _, _, csTold Γ.cl, hm, kp, lk, hcd, hb, sc_law_told, Or.inl rfl, by decide, by decide, .cons rfl h_BadDraft (by decide) (.cons rfl h_BadWord (by decide) (.cons rfl h_BadChart (by decide) (.cons rfl h_BadKnot (by decide) (.cons rfl h_NoCloth (by decide) (.cons rfl h_TooLarge (by decide) (.cons rfl h_BadText (by decide) (.nil))))))), ht⟩
/-! ### law_picture -/
abbrev s_law_picture : Stmt := top 34
abbrev N_law_picture : List Str := ["dice", "high", "wide", "j", "k"]
def c_law_picture : SCode :=
  (sRet (cOpN (op1 fTuple) (aCons (cLc [3] (iRange1 (aCons (cVar 1) aNil)) (gNm 3) tYesC (cOpN (op1 fTuple) (aCons (cLc [4] (iRange1 (aCons (cVar 2) aNil)) (gNm 4) tYesC (cOp2 opEq (cCall 2 fRoll (aCons (cVar 0) (aCons (cK (.int 2)) aNil))) (cK (.int 1)))) aNil))) aNil)))
def F_law_picture : Fn := runB 5 c_law_picture
theorem sc_law_picture : FnScope N_law_picture ["dice", "high", "wide"] (defScope s_law_picture) := ⟨rfl, rfl, rfl, by decide +kernel, rfl, by decide +kernel, by decide +kernel⟩
theorem blk_law_picture_0 : BlkOk ["dice", "high", "wide", "j", "k"] (defScope s_law_picture) ({ kind := .function, names := [(".0", .local), ("j", .local), ("tuple", .globalImplicit), ("range", .globalImplicit), ("dice", .free), ("wide", .free)], isGenerator := false, isCoroutine := false, more := [] } : PySem.Scope) [("j", 3)] := ⟨rfl, by decide +kernel, by decide +kernel, by decide +kernel, by decide +kernel⟩
theorem blk_law_picture_1 : BlkOk ["dice", "high", "wide", "j", "k"] ({ kind := .function, names := [(".0", .local), ("j", .local), ("tuple", .globalImplicit), ("range", .globalImplicit), ("dice", .cell), ("wide", .cell)], isGenerator := false, isCoroutine := false, more := [] } : PySem.Scope) ({ kind := .function, names := [(".0", .local), ("k", .local), ("_law_roll", .globalImplicit), ("dice", .free)], isGenerator := false, isCoroutine := false, more := [] } : PySem.Scope) [("k", 4)] := ⟨rfl, by decide +kernel, by decide +kernel, by decide +kernel, by decide +kernel⟩
theorem ok_law_picture (F : FnT K "_law_picture" s_law_picture fd) (hm : mg "_law_picture" = some (.ref (He.fAd K ("_law_picture", none)))) (B : Free mg) (C_law_roll : Cal P w K mg base Γ "_law_roll" 1 2 fRoll) : Cal P w K mg base Γ "_law_picture" 2 3 F_law_picture :=
  cal_of F hm sc_law_picture rfl (fun _ _ _ _ _ _ us hl => match us, hl with | [_, _, _], _ => rfl) fun A outer s H E hr0 =>
  have nd_ := sc_law_picture.nd
  (pss_oneC (ps_retC (pc_callTy call_tupleC nx_tuple (by rfl) B.b_tuple (by rfl) (pa_consC (pc_lc (own := [("j", 3)]) rfl nd_ (pi_range1C (by rfl) B.b_range (pa_consC (pc_var (i := 1) (by rfl) (Or.inl rfl)) pa_nilC)) blk_law_picture_0 (by decide) (fun s H C cl fp => (pg_nameC (i := 3) nd_ (by rfl) (Or.inl rfl))) (fun s H C cl fp => pts_nilC) (fun s H C cl fp => (pc_callTy call_tupleC nx_tuple (by rfl) B.b_tuple (by rfl) (pa_consC (pc_lc (own := [("k", 4)]) rfl nd_ (pi_range1C (by rfl) B.b_range (pa_consC (pc_var (i := 2) (by rfl) (Or.inr (Or.inl rfl))) pa_nilC)) blk_law_picture_1 (by decide) (fun s H C cl fp => (pg_nameC (i := 4) nd_ (by rfl) (Or.inl rfl))) (fun s H C cl fp => pts_nilC) (fun s H C cl fp => (pc_cmp (c_eq hr0) (pc_call (C_law_roll.mono (k := 1) (by decide)) hr0 (by rfl) takes0 (pa_consC (pc_var (i := 0) (by rfl) (Or.inr (Or.inl rfl))) (pa_consC pc_int pa_nilC))) pc_int))) pa_nilC)))) pa_nilC))))
/-! ### law_home -/
abbrev s_law_home : Stmt := top 35
abbrev N_law_home : List Str := ["band", "other", "wide", "steps", "j", "k"]
def c_law_home : SCode :=
  (sSeq (sAsg (cOpN (op1 fLen) (aCons (cOp2 opIx (cVar 0) (cK (.int 0))) aNil)) (gNm 2))
  (sRet (cLc [3] (iRange1 (aCons (cVar 2) aNil)) (gNm 3) (tVal (cOp2 opEq (cCall 1 F_law_flat (aCons (cLc [4] (iRange1 (aCons (cOpN (op1 fLen) (aCons (cVar 0) aNil)) aNil)) (gNm 4) tYesC (cLc [5] (iRange1 (aCons (cVar 2) aNil)) (gNm 5) (tVal (cOp2 opNe (cOp2 opIx (cOp2 opIx (cVar 1) (cVar 4)) (cOp2 opMod (cOp2 opSub (cVar 5) (cVar 3)) (cVar 2))) (cOp2 opIx (cOp2 opIx (cVar 0) (cVar 4)) (cVar 5)))) (cK (.int 1)))) aNil)) (cLst aNil))) (cVar 3))))
def F_law_home : Fn := runB 6 c_law_home
theorem sc_law_home : FnScope N_law_home ["band", "other"] (defScope s_law_home) := ⟨rfl, rfl, rfl, by decide +kernel, rfl, by decide +kernel, by decide +kernel⟩
theorem blk_law_home_0 : BlkOk ["band", "other", "wide", "steps", "j", "k"] (defScope s_law_home) ({ kind := .function, names := [(".0", .local), ("steps", .cell), ("_law_flat", .globalImplicit), ("range", .globalImplicit), ("len", .globalImplicit), ("band", .free), ("other", .free), ("wide", .free)], isGenerator := false, isCoroutine := false, more := [] } : PySem.Scope) [("steps", 3)] := ⟨rfl, by decide +kernel, by decide +kernel, by decide +kernel, by decide +kernel⟩
theorem blk_law_home_1 : BlkOk ["band", "other", "wide", "steps", "j", "k"] ({ kind := .function, names := [(".0", .local), ("steps", .cell), ("_law_flat", .globalImplicit), ("range", .globalImplicit), ("len", .globalImplicit), ("band", .cell), ("other", .cell), ("wide", .cell)], isGenerator := false, isCoroutine := false, more := [] } : PySem.Scope) ({ kind := .function, names := [(".0", .local), ("j", .cell), ("range", .globalImplicit), ("band", .free), ("other", .free), ("steps", .free), ("wide", .free)], isGenerator := false, isCoroutine := false, more := [] } : PySem.Scope) [("j", 4)] := ⟨rfl, by decide +kernel, by decide +kernel, by decide +kernel, by decide +kernel⟩
theorem blk_law_home_2 : BlkOk ["band", "other", "wide", "steps", "j", "k"] ({ kind := .function, names := [(".0", .local), ("j", .cell), ("range", .globalImplicit), ("band", .cell), ("other", .cell), ("steps", .cell), ("wide", .cell)], isGenerator := false, isCoroutine := false, more := [] } : PySem.Scope) ({ kind := .function, names := [(".0", .local), ("k", .local), ("band", .free), ("j", .free), ("other", .free), ("steps", .free), ("wide", .free)], isGenerator := false, isCoroutine := false, more := [] } : PySem.Scope) [("k", 5)] := ⟨rfl, by decide +kernel, by decide +kernel, by decide +kernel, by decide +kernel⟩
theorem ok_law_home (F : FnT K "_law_home" s_law_home fd) (hm : mg "_law_home" = some (.ref (He.fAd K ("_law_home", none)))) (B : Free mg) (C_law_flat : Cal P w K mg base Γ "_law_flat" 1 1 F_law_flat) : Cal P w K mg base Γ "_law_home" 2 2 F_law_home :=
  cal_of F hm sc_law_home rfl (fun _ _ _ _ _ _ us hl => match us, hl with | [_, _], _ => rfl) fun A outer s H E hr0 =>
  have nd_ := sc_law_home.nd
  (pss_consC (ps_setC (i := 2) nd_ (by rfl) (Or.inr rfl) (pc_callB call_lenC nx_len (by rfl) B.b_len (by rfl) (pa_consC (pc_ix hr0 (pc_var (i := 0) (by rfl) (Or.inr (Or.inl rfl))) pc_int) pa_nilC)))
  (pss_oneC (ps_retC (pc_lc (own := [("steps", 3)]) rfl nd_ (pi_range1C (by rfl) B.b_range (pa_consC (pc_var (i := 2) (by rfl) (Or.inr (Or.inl rfl))) pa_nilC)) blk_law_home_0 (by decide) (fun s H C cl fp => (pg_nameC (i := 3) nd_ (by rfl) (Or.inr rfl))) (fun s H C cl fp => (pts_oneC (pt_cmpC (c_eq hr0) (pc_call (C_law_flat.mono (k := 1) (by decide)) hr0 (by rfl) takes0 (pa_consC (pc_lc (own := [("j", 4)]) rfl nd_ (pi_range1C (by rfl) B.b_range (pa_consC (pc_callB call_lenC nx_len (by rfl) B.b_len (by rfl) (pa_consC (pc_var (i := 0) (by rfl) (Or.inr (Or.inl rfl))) pa_nilC)) pa_nilC)) blk_law_home_1 (by decide) (fun s H C cl fp => (pg_nameC (i := 4) nd_ (by rfl) (Or.inr rfl))) (fun s H C cl fp => pts_nilC) (fun s H C cl fp => (pc_lc (own := [("k", 5)]) rfl nd_ (pi_range1C (by rfl) B.b_range (pa_consC (pc_var (i := 2) (by rfl) (Or.inr (Or.inl rfl))) pa_nilC)) blk_law_home_2 (by decide) (fun s H C cl fp => (pg_nameC (i := 5) nd_ (by rfl) (Or.inl rfl))) (fun s H C cl fp => (pts_oneC (pt_cmpC (c_ne hr0) (pc_ix hr0 (pc_ix hr0 (pc_var (i := 1) (by rfl) (Or.inr (Or.inl rfl))) (pc_var (i := 4) (by rfl) (Or.inr (Or.inl rfl)))) (pc_mod (pc_sub (pc_var (i := 5) (by rfl) (Or.inl rfl)) (pc_var (i := 3) (by rfl) (Or.inr (Or.inl rfl)))) (pc_var (i := 2) (by rfl) (Or.inr (Or.inl rfl))))) (pc_ix hr0 (pc_ix hr0 (pc_var (i := 0) (by rfl) (Or.inr (Or.inl rfl))) (pc_var (i := 4) (by rfl) (Or.inr (Or.inl rfl)))) (pc_var (i := 5) (by rfl) (Or.inl rfl)))))) (fun s H C cl fp => pc_int)))) pa_nilC)) (pc_lst pa_nilC)))) (fun s H C cl fp => (pc_var (i := 3) (by rfl) (Or.inr (Or.inl rfl))))))))
/-! ### law_rest1 -/
abbrev s_law_rest1 : Stmt := top 36
abbrev N_law_rest1 : List Str := ["band", "steps", "piece", "row", "one"]
def c_law_rest1 : SCode :=
  (sSeq (sIf (tVal (cOp2 opNe (cCall 1 F_both_sides (aCons (cVar 0) aNil)) (cCall 1 F_sort_of (aCons (cOpN (op1 fTuple) (aCons (cLc [3] (iSeq (cVar 0)) (gNm 3) tYesC (cOpN (op1 fTuple) (aCons (cLc [4] (iSeq (cVar 3)) (gNm 4) tYesC (cNot (cVar 4))) aNil))) aNil)) aNil))))
  (sRet (cK (.bl false)))
  sNext)
  (sSeq (sAsg (cTup (aCons (cTup (aCons (cK (.bl true)) (aCons (cK (.bl true)) (aCons (cK (.bl false)) aNil)))) (aCons (cTup (aCons (cK (.bl true)) (aCons (cK (.bl false)) (aCons (cK (.bl false)) aNil)))) aNil))) (gNm 2))
  (sSeq (sIf (tOrC (tVal (cOp2 opNe (cLc [4] (iSeq (cK d_SORTS)) (gNm 4) tYesC (cCall 1 F_sort_of (aCons (cCall 2 F_made (aCons (cVar 2) (aCons (cVar 4) aNil))) aNil))) (cOpN (op1 fList) (aCons (cK d_SORTS) aNil)))) (tVal (cOp2 opNe (cCall 2 F_below (aCons (cVar 2) (aCons (cVar 2) aNil))) (cOp2 opAdd (cVar 2) (cVar 2)))))
  (sRet (cK (.bl false)))
  sNext)
  (sSeq (sIf (tVal (cOp2 opNe (cCall 2 F_corner (aCons (cVar 0) (aCons (cOp2 opMul (cK (.int 3)) (cOp2 opIx (cVar 1) (cK (.int 0)))) aNil))) (cK (.int 3))))
  (sRet (cK (.bl false)))
  sNext)
  (sSeq (sIf (tVal (cOp2 opNe (cTold tabTold (cCall 2 F_made (aCons (cVar 2) (aCons (cK (.str "x")) aNil)))) (cK (.str "draft"))))
  (sRet (cK (.bl false)))
  sNext)
  (sSeq (sIf (tAndC (tVal (cOp2 opGt (cOp2 opIx (cVar 1) (cK (.int 0))) (cK (.int 1)))) (tVal (cOp2 opNe (cTold tabTold (cCall 2 F_corner (aCons (cVar 0) (aCons (cOp2 opAdd (cOp2 opIx (cVar 1) (cK (.int 0))) (cK (.int 1))) aNil)))) (cK (.str "no cloth")))))
  (sRet (cK (.bl false)))
  sNext)
  (sRet (cK (.bl true)))))))))
def F_law_rest1 : Fn := runB 5 c_law_rest1
theorem sc_law_rest1 : FnScope N_law_rest1 ["band", "steps"] (defScope s_law_rest1) := ⟨rfl, rfl, rfl, by decide +kernel, rfl, by decide +kernel, by decide +kernel⟩
theorem lam_law_rest1_0 : LamX.LamS (defScope s_law_rest1) ({ kind := .function, names := [("piece", .free), ("made", .globalImplicit)], isGenerator := false, isCoroutine := false, more := [] } : PySem.Scope) := LamX.lamS_by (by decide +kernel)
theorem lam_law_rest1_1 : LamX.LamS (defScope s_law_rest1) ({ kind := .function, names := [("band", .free), ("steps", .free), ("corner", .globalImplicit)], isGenerator := false, isCoroutine := false, more := [] } : PySem.Scope) := LamX.lamS_by (by decide +kernel)
theorem blk_law_rest1_0 : BlkOk ["band", "steps", "piece", "row", "one"] (defScope s_law_rest1) ({ kind := .function, names := [(".0", .local), ("row", .local), ("tuple", .globalImplicit)], isGenerator := false, isCoroutine := false, more := [] } : PySem.Scope) [("row", 3)] := ⟨rfl, by decide +kernel, by decide +kernel, by decide +kernel, by decide +kernel⟩
theorem blk_law_rest1_1 : BlkOk ["band", "steps", "piece", "row", "one"] ({ kind := .function, names := [(".0", .local), ("row", .local), ("tuple", .globalImplicit)], isGenerator := false, isCoroutine := false, more := [] } : PySem.Scope) ({ kind := .function, names := [(".0", .local), ("one", .local)], isGenerator := false, isCoroutine := false, more := [] } : PySem.Scope) [("one", 4)] := ⟨rfl, by decide +kernel, by decide +kernel, by decide +kernel, by decide +kernel⟩
theorem blk_law_rest1_2 : BlkOk ["band", "steps", "piece", "row", "one"] (defScope s_law_rest1) ({ kind := .function, names := [(".0", .local), ("one", .local), ("sort_of", .globalImplicit), ("made", .globalImplicit), ("piece", .free)], isGenerator := false, isCoroutine := false, more := [] } : PySem.Scope) [("one", 4)] := ⟨rfl, by decide +kernel, by decide +kernel, by decide +kernel, by decide +kernel⟩
theorem ok_law_rest1 (F : FnT K "_law_rest1" s_law_rest1 fd) (hm : mg "_law_rest1" = some (.ref (He.fAd K ("_law_rest1", none)))) (B : Free mg) (C_below : Cal P w K mg base Γ "below" 1 2 F_below) (C_both_sides : Cal P w K mg base Γ "both_sides" 6 1 F_both_sides) (C_corner : Cal P w K mg base Γ "corner" 4 2 F_corner) (C_made : Cal P w K mg base Γ "made" 3 2 F_made) (C_sort_of : Cal P w K mg base Γ "sort_of" 5 1 F_sort_of) (G_SORTS : GlobK K Γ mg "SORTS" d_SORTS) (T_law_told : TolD K mg Γ "_law_told" tabTold) (TBL : LamX.TabB base mg (He.codeOf K ("_law_rest1", none)) (He.tabOf K (He.codeOf K ("_law_rest1", none)))) (hmT : (He.tabOf K (He.codeOf K ("_law_rest1", none)), ("_law_rest1.<locals>.<lambda>" : Str)) ∈ Γ.tl) (hu : ∀ p ∈ Γ.tl, p.1 = He.tabOf K (He.codeOf K ("_law_rest1", none)) → p.2 = ("_law_rest1.<locals>.<lambda>" : Str)) (hng : ∀ z ∈ Γ.tg, z ≠ He.tabOf K (He.codeOf K ("_law_rest1", none))) : Cal P w K mg base Γ "_law_rest1" 7 2 F_law_rest1 :=
  cal_of F hm sc_law_rest1 rfl (fun _ _ _ _ _ _ us hl => match us, hl with | [_, _], _ => rfl) fun A outer s H E hr0 =>
  have nd_ := sc_law_rest1.nd
  (pss_consC (ps_ifC (pt_cmpC (c_ne hr0) (pc_call (C_both_sides.mono (k := 6) (by decide)) hr0 (by rfl) (takes_of rfl rfl rfl rfl) (pa_consC (pc_var (i := 0) (by rfl) (Or.inr (Or.inl rfl))) pa_nilC)) (pc_call (C_sort_of.mono (k := 6) (by decide)) hr0 (by rfl) (takes_of rfl rfl rfl rfl) (pa_consC (pc_callTy call_tupleC nx_tuple (by rfl) B.b_tuple (by rfl) (pa_consC (pc_lc (own := [("row", 3)]) rfl nd_ (pi_seqC (pc_var (i := 0) (by rfl) (Or.inr (Or.inl rfl)))) blk_law_rest1_0 (by decide) (fun s H C cl fp => (pg_nameC (i := 3) nd_ (by rfl) (Or.inl rfl))) (fun s H C cl fp => pts_nilC) (fun s H C cl fp => (pc_callTy call_tupleC nx_tuple (by rfl) B.b_tuple (by rfl) (pa_consC (pc_lc (own := [("one", 4)]) rfl nd_ (pi_seqC (pc_var (i := 3) (by rfl) (Or.inl rfl))) blk_law_rest1_1 (by decide) (fun s H C cl fp => (pg_nameC (i := 4) nd_ (by rfl) (Or.inl rfl))) (fun s H C cl fp => pts_nilC) (fun s H C cl fp => (pc_not (pc_var (i := 4) (by rfl) (Or.inl rfl))))) pa_nilC)))) pa_nilC)) pa_nilC)))
  (pss_oneC (ps_retC pc_bl))
  pss_nilC)
  (pss_consC (ps_setC (i := 2) nd_ (by rfl) (Or.inr rfl) (pc_tup (pa_consC (pc_tup (pa_consC pc_bl (pa_consC pc_bl (pa_consC pc_bl pa_nilC)))) (pa_consC (pc_tup (pa_consC pc_bl (pa_consC pc_bl (pa_consC pc_bl pa_nilC)))) pa_nilC))))
  (pss_consC (ps_ifC (PW.pt (pw_orC (pt_cmpC (c_ne hr0) (pc_lc (own := [("one", 4)]) rfl nd_ (pi_seqC (pc_globK (by rfl) G_SORTS)) blk_law_rest1_2 (by decide) (fun s H C cl fp => (pg_nameC (i := 4) nd_ (by rfl) (Or.inl rfl))) (fun s H C cl fp => pts_nilC) (fun s H C cl fp => (pc_call (C_sort_of.mono (k := 6) (by decide)) hr0 (by rfl) takes0 (pa_consC (pc_call (C_made.mono (k := 6) (by decide)) hr0 (by rfl) takes0 (pa_consC (pc_var (i := 2) (by rfl) (Or.inr (Or.inl rfl))) (pa_consC (pc_var (i := 4) (by rfl) (Or.inl rfl)) pa_nilC))) pa_nilC)))) (pc_callTy call_listC nx_list (by rfl) B.b_list (by rfl) (pa_consC (pc_globK (by rfl) G_SORTS) pa_nilC))) (pw_or1C (pt_cmpC (c_ne hr0) (pc_call (C_below.mono (k := 6) (by decide)) hr0 (by rfl) (takes_of rfl rfl rfl rfl) (pa_consC (pc_var (i := 2) (by rfl) (Or.inr (Or.inl rfl))) (pa_consC (pc_var (i := 2) (by rfl) (Or.inr (Or.inl rfl))) pa_nilC))) (pc_add (pc_var (i := 2) (by rfl) (Or.inr (Or.inl rfl))) (pc_var (i := 2) (by rfl) (Or.inr (Or.inl rfl))))))))
  (pss_oneC (ps_retC pc_bl))
  pss_nilC)
  (pss_consC (ps_ifC (pt_cmpC (c_ne hr0) (pc_call (C_corner.mono (k := 6) (by decide)) hr0 (by rfl) (takes_of rfl rfl rfl rfl) (pa_consC (pc_var (i := 0) (by rfl) (Or.inr (Or.inl rfl))) (pa_consC (pc_mul pc_int (pc_ix hr0 (pc_var (i := 1) (by rfl) (Or.inr (Or.inl rfl))) pc_int)) pa_nilC))) pc_int)
  (pss_oneC (ps_retC pc_bl))
  pss_nilC)
  (pss_consC (ps_ifC (pt_cmpC (c_ne hr0) (pc_told T_law_told (by rfl) TBL rfl hmT hu hng hr0 lam_law_rest1_0 (fun A outer s H E f c hr2 => (pc_call (C_made.mono (k := 4) (by decide)) hr2 (by rfl) (takes_of rfl rfl rfl rfl) (pa_consC (pc_var (i := 2) (by rfl) (Or.inr (Or.inr rfl))) (pa_consC pc_str pa_nilC))))) pc_str)
  (pss_oneC (ps_retC pc_bl))
  pss_nilC)
  (pss_consC (ps_ifC (PW.pt (pw_andC (pt_cmpC c_gt (pc_ix hr0 (pc_var (i := 1) (by rfl) (Or.inr (Or.inl rfl))) pc_int) pc_int) (pw_and1C (pt_cmpC (c_ne hr0) (pc_told T_law_told (by rfl) TBL rfl hmT hu hng hr0 lam_law_rest1_1 (fun A outer s H E f c hr2 => (pc_call (C_corner.mono (k := 4) (by decide)) hr2 (by rfl) (takes_of rfl rfl rfl rfl) (pa_consC (pc_var (i := 0) (by rfl) (Or.inr (Or.inr rfl))) (pa_consC (pc_add (pc_ix hr2 (pc_var (i := 1) (by rfl) (Or.inr (Or.inr rfl))) pc_int) pc_int) pa_nilC))))) pc_str))))
  (pss_oneC (ps_retC pc_bl))
  pss_nilC)
  (pss_oneC (ps_retC pc_bl))))))))
/-! ### law -/
abbrev s_law : Stmt := top 37
abbrev N_law : List Str := ["script", "dice", "high", "wide", "band", "steps", "mirror", "under", "turned", "glide", "due", "sort", "small", "n", "row", "one"]
def c_law : SCode :=
  (sSeq (sAsg (cTup (aCons (cOp2 opAdd (cK (.int 1)) (cCall 2 fRoll (aCons (cVar 1) (aCons (cK (.int 3)) aNil)))) (aCons (cOp2 opAdd (cK (.int 1)) (cCall 2 fRoll (aCons (cVar 1) (aCons (cK (.int 6)) aNil)))) aNil))) (gTupC 2 (gMore (gNm 2) (gMore (gNm 3) gNone))))
  (sSeq (sAsg (cCall 3 F_law_picture (aCons (cVar 1) (aCons (cVar 2) (aCons (cVar 3) aNil)))) (gNm 4))
  (sSeq (sAsg (cLc [13] (iRange2 (aCons (cK (.int 1)) (aCons (cOp2 opAdd (cVar 3) (cK (.int 1))) aNil))) (gNm 13) (tVal (cOp2 opIn (cOp2 opMod (cVar 13) (cVar 3)) (cCall 2 F_law_home (aCons (cVar 4) (aCons (cVar 4) aNil))))) (cVar 13)) (gNm 5))
  (sSeq (sPar 6 7 (aCons (cOpN (op1 fTuple) (aCons (cLc [14] (iSeq (cVar 4)) (gNm 14) tYesC (cOpN (op1 fTuple) (aCons (cLstRev (cVar 14)) aNil))) aNil)) (aCons (cOpN (op1 fTuple) (aCons (cLstRev (cVar 4)) aNil)) aNil)))
  (sSeq (sAsg (cOpN (op1 fTuple) (aCons (cLstRev (cVar 6)) aNil)) (gNm 8))
  (sSeq (sIf (tOrC (tVal (cOp2 opNe (cCall 1 F_step_of (aCons (cVar 4) aNil)) (cOp2 opIx (cVar 5) (cK (.int 0))))) (tOrC (tVal (cOp2 opNe (cCall 1 F_left_right (aCons (cVar 4) aNil)) (cVar 6))) (tVal (cOp2 opNe (cCall 1 F_up_down (aCons (cVar 4) aNil)) (cVar 7)))))
  (sRet (cK (.bl false)))
  sNext)
  (sSeq (sIf (tVal (cOp2 opNe (cOpN (op1 fList) (aCons (cCall 2 F_homes (aCons (cVar 4) (aCons (cVar 6) aNil))) aNil)) (cCall 2 F_law_home (aCons (cVar 4) (aCons (cVar 6) aNil)))))
  (sRet (cK (.bl false)))
  sNext)
  (sSeq (sAsg (cCall 2 F_law_home (aCons (cVar 4) (aCons (cVar 7) aNil))) (gNm 9))
  (sSeq (sAsg (cDisp (kCons (cK (.str "upright")) (cOp2 opNe (cCall 2 F_law_home (aCons (cVar 4) (aCons (cVar 6) aNil))) (cLst aNil)) (kCons (cK (.str "midline")) (cOp2 opIn (cK (.int 0)) (cVar 9)) (kCons (cK (.str "glide")) (cAnd (cOp2 opNe (cVar 9) (cLst aNil)) (cOp2 opNotIn (cK (.int 0)) (cVar 9))) (kCons (cK (.str "half turn")) (cOp2 opNe (cCall 2 F_law_home (aCons (cVar 4) (aCons (cVar 8) aNil))) (cLst aNil)) kNil))))) (gNm 10))
  (sSeq (sIf (tVal (cOp2 opNe (cCall 1 F_turns (aCons (cVar 4) aNil)) (cVar 10)))
  (sRet (cK (.bl false)))
  sNext)
  (sSeq (sAsg (cCall 1 F_sort_of (aCons (cVar 4) aNil)) (gNm 11))
  (sSeq (sIf (tVal (cOp2 opNotIn (cVar 11) (cK d_SORTS)))
  (sRet (cK (.bl false)))
  sNext)
  (sSeq (sIf (tVal (cOp2 opNe (cLc [15] (iSeq (cLst (aCons (cVar 6) (aCons (cVar 7) (aCons (cVar 8) (aCons (cCall 2 F_shifted (aCons (cVar 4) (aCons (cK (.int 1)) aNil))) aNil)))))) (gNm 15) (tOrC (tVal (cOp2 opNe (cCall 1 F_sort_of (aCons (cVar 15) aNil)) (cVar 11))) (tNotC (tTru (cCall 2 F_same_bands (aCons (cVar 15) (aCons (cVar 4) aNil)))))) (cVar 15)) (cLst aNil)))
  (sRet (cK (.bl false)))
  sNext)
  (sSeq (sAsg (cCall 1 F_least_piece (aCons (cVar 4) aNil)) (gNm 12))
  (sSeq (sIf (tOrC (tVal (cOp2 opNe (cOpN (op1 fLen) (aCons (cOp2 opIx (cVar 12) (cK (.int 0))) aNil)) (cOp2 opIx (cVar 5) (cK (.int 0))))) (tOrC (tVal (cOp2 opNe (cOp2 opMod (cVar 3) (cOp2 opIx (cVar 5) (cK (.int 0)))) (cK (.int 0)))) (tVal (cOp2 opNe (cCall 1 F_beside (aCons (cOp2 opMul (cLst (aCons (cVar 12) aNil)) (cOp2 opDiv (cVar 3) (cOp2 opIx (cVar 5) (cK (.int 0))))) aNil)) (cVar 4)))))
  (sRet (cK (.bl false)))
  sNext)
  (sSeq (sIf (tOrC (tVal (cOp2 opNotIn (cCall 1 F_copies_in (aCons (cVar 4) aNil)) (cLst (aCons (cK (.int 1)) (aCons (cK (.int 2)) (aCons (cK (.int 4)) aNil)))))) (tVal (cOp2 opNe (cOp2 opEq (cCall 1 F_copies_in (aCons (cVar 4) aNil)) (cK (.int 1))) (cOp2 opEq (cVar 11) (cK (.str "steps"))))))
  (sRet (cK (.bl false)))
  sNext)
  (sSeq (sIf (tAndC (tTru (cOp2 opIx (cVar 10) (cK (.str "upright")))) (tAndC (tTru (cOp2 opIx (cVar 10) (cK (.str "half turn")))) (tAndC (tNotC (tTru (cOp2 opIx (cVar 10) (cK (.str "midline"))))) (tNotC (tTru (cOp2 opIx (cVar 10) (cK (.str "glide"))))))))
  (sRet (cK (.bl false)))
  sNext)
  (sIf (tNotC (tTru (cCall 2 F_law_rest1 (aCons (cVar 4) (aCons (cVar 5) aNil)))))
  (sRet (cK (.bl false)))
  sNext))))))))))))))))))
theorem sc_law : FnScope N_law ["script"] (defScope s_law) := ⟨rfl, rfl, rfl, by decide +kernel, rfl, by decide +kernel, by decide +kernel⟩
theorem blk_law_0 : BlkOk ["script", "dice", "high", "wide", "band", "steps", "mirror", "under", "turned", "glide", "due", "sort", "small", "n", "row", "one"] (defScope s_law) ({ kind := .function, names := [(".0", .local), ("n", .local), ("_law_home", .globalImplicit), ("band", .free), ("wide", .free)], isGenerator := false, isCoroutine := false, more := [] } : PySem.Scope) [("n", 13)] := ⟨rfl, by decide +kernel, by decide +kernel, by decide +kernel, by decide +kernel⟩
theorem blk_law_1 : BlkOk ["script", "dice", "high", "wide", "band", "steps", "mirror", "under", "turned", "glide", "due", "sort", "small", "n", "row", "one"] (defScope s_law) ({ kind := .function, names := [(".0", .local), ("row", .local), ("tuple", .globalImplicit), ("list", .globalImplicit), ("reversed", .globalImplicit)], isGenerator := false, isCoroutine := false, more := [] } : PySem.Scope) [("row", 14)] := ⟨rfl, by decide +kernel, by decide +kernel, by decide +kernel, by decide +kernel⟩
theorem blk_law_2 : BlkOk ["script", "dice", "high", "wide", "band", "steps", "mirror", "under", "turned", "glide", "due", "sort", "small", "n", "row", "one"] (defScope s_law) ({ kind := .function, names := [(".0", .local), ("one", .local), ("sort_of", .globalImplicit), ("same_bands", .globalImplicit), ("band", .free), ("sort", .free)], isGenerator := false, isCoroutine := false, more := [] } : PySem.Scope) [("one", 15)] := ⟨rfl, by decide +kernel, by decide +kernel, by decide +kernel, by decide +kernel⟩
theorem ok_law (hb : (c_law (env0 N_law.length) []).Sat (fun r => r.1 = .nx) fun _ => False) (F : FnT K "law" s_law fd) (hm : mg "law" = some (.ref (He.fAd K ("law", none)))) (B : Free mg) (C_law_home : Cal P w K mg base Γ "_law_home" 2 2 F_law_home) (C_law_picture : Cal P w K mg base Γ "_law_picture" 2 3 F_law_picture) (C_law_rest1 : Cal P w K mg base Γ "_law_rest1" 7 2 F_law_rest1) (C_law_roll : Cal P w K mg base Γ "_law_roll" 1 2 fRoll) (C_law_rounds : Rnd P w K mg base Γ "_law_rounds" 2) (C_beside : Cal P w K mg base Γ "beside" 1 1 F_beside) (C_copies_in : Cal P w K mg base Γ "copies_in" 5 1 F_copies_in) (C_homes : Cal P w K mg base Γ "homes" 2 2 F_homes) (C_least_piece : Cal P w K mg base Γ "least_piece" 4 1 F_least_piece) (C_left_right : Cal P w K mg base Γ "left_right" 1 1 F_left_right) (C_same_bands : Cal P w K mg base Γ "same_bands" 3 2 F_same_bands) (C_shifted : Cal P w K mg base Γ "shifted" 1 2 F_shifted) (C_sort_of : Cal P w K mg base Γ "sort_of" 5 1 F_sort_of) (C_step_of : Cal P w K mg base Γ "step_of" 3 1 F_step_of) (C_turns : Cal P w K mg base Γ "turns" 4 1 F_turns) (C_up_down : Cal P w K mg base Γ "up_down" 1 1 F_up_down) (G_SORTS : GlobK K Γ mg "SORTS" d_SORTS) : FnOk P w K mg base (L2.CX P w) 8 (He.fAd K ("law", none)) fd ["script"] (spLaw K Γ) :=
  law_fn F sc_law (by decide) hb fun A outer s H E hr0 =>
  have nd_ := sc_law.nd
  (pss_cons (ps_for (passes_of rfl) rfl (pi_rounds (C_law_rounds.mono (k := 7) (by decide)) hr0 (by rfl) (takes_of rfl rfl rfl rfl) (by rfl) (Or.inl rfl)) (pg_nameC (i := 1) nd_ (by rfl) (Or.inl rfl)) (pss_len
  (pss_consC (ps_asgC (pc_tup (pa_consC (pc_add pc_int (pc_call (C_law_roll.mono (k := 7) (by decide)) hr0 (by rfl) (takes_of rfl rfl rfl rfl) (pa_consC (pc_var (i := 1) (by rfl) (Or.inl rfl)) (pa_consC pc_int pa_nilC)))) (pa_consC (pc_add pc_int (pc_call (C_law_roll.mono (k := 7) (by decide)) hr0 (by rfl) (takes_of rfl rfl rfl rfl) (pa_consC (pc_var (i := 1) (by rfl) (Or.inl rfl)) (pa_consC pc_int pa_nilC)))) pa_nilC))) (pg_tupC rfl (pgs_consC (pg_nameC (i := 2) nd_ (by rfl) (Or.inl rfl)) (pgs_consC (pg_nameC (i := 3) nd_ (by rfl) (Or.inr rfl)) pgs_nilC))) (nx_gtup (nx_gmore nx_nm (nx_gmore nx_nm nx_gnone))))
  (pss_consC (ps_setC (i := 4) nd_ (by rfl) (Or.inr rfl) (pc_call (C_law_picture.mono (k := 7) (by decide)) hr0 (by rfl) (takes_of rfl rfl rfl rfl) (pa_consC (pc_var (i := 1) (by rfl) (Or.inl rfl)) (pa_consC (pc_var (i := 2) (by rfl) (Or.inl rfl)) (pa_consC (pc_var (i := 3) (by rfl) (Or.inr (Or.inl rfl))) pa_nilC)))))
  (pss_consC (ps_setLcC (i := 5) (own := [("n", 13)]) rfl nd_ (by rfl) (by rfl) (by rfl) (pi_range2C (by rfl) B.b_range (pa_consC pc_int (pa_consC (pc_add (pc_var (i := 3) (by rfl) (Or.inr (Or.inl rfl))) pc_int) pa_nilC))) blk_law_0 (by decide) (fun s H C cl fp => (pg_nameC (i := 13) nd_ (by rfl) (Or.inl rfl))) (fun s H C cl fp => (pts_oneC (pt_cmpC (c_in hr0) (pc_mod (pc_var (i := 13) (by rfl) (Or.inl rfl)) (pc_var (i := 3) (by rfl) (Or.inr (Or.inl rfl)))) (pc_call (C_law_home.mono (k := 7) (by decide)) hr0 (by rfl) takes0 (pa_consC (pc_var (i := 4) (by rfl) (Or.inr (Or.inl rfl))) (pa_consC (pc_var (i := 4) (by rfl) (Or.inr (Or.inl rfl))) pa_nilC)))))) (fun s H C cl fp => (pc_var (i := 13) (by rfl) (Or.inl rfl))))
  (pss_consC (ps_parC (i := 6) (j := 7) rfl nd_ (by rfl) (by rfl) (by decide) (by rfl) (by rfl) (pa_consC (pc_callTy call_tupleC nx_tuple (by rfl) B.b_tuple (by rfl) (pa_consC (pc_lc (own := [("row", 14)]) rfl nd_ (pi_seqC (pc_var (i := 4) (by rfl) (Or.inr (Or.inl rfl)))) blk_law_1 (by decide) (fun s H C cl fp => (pg_nameC (i := 14) nd_ (by rfl) (Or.inl rfl))) (fun s H C cl fp => pts_nilC) (fun s H C cl fp => (pc_callTy call_tupleC nx_tuple (by rfl) B.b_tuple (by rfl) (pa_consC (pc_lstRev rfl (by rfl) B.b_list (by rfl) B.b_reversed (pc_var (i := 14) (by rfl) (Or.inl rfl))) pa_nilC)))) pa_nilC)) (pa_consC (pc_callTy call_tupleC nx_tuple (by rfl) B.b_tuple (by rfl) (pa_consC (pc_lstRev rfl (by rfl) B.b_list (by rfl) B.b_reversed (pc_var (i := 4) (by rfl) (Or.inr (Or.inl rfl)))) pa_nilC)) pa_nilC)))
  (pss_consC (ps_setC (i := 8) nd_ (by rfl) (Or.inl rfl) (pc_callTy call_tupleC nx_tuple (by rfl) B.b_tuple (by rfl) (pa_consC (pc_lstRev rfl (by rfl) B.b_list (by rfl) B.b_reversed (pc_var (i := 6) (by rfl) (Or.inl rfl))) pa_nilC)))
  (pss_consC (ps_ifC (PW.pt (pw_orC (pt_cmpC (c_ne hr0) (pc_call (C_step_of.mono (k := 7) (by decide)) hr0 (by rfl) (takes_of rfl rfl rfl rfl) (pa_consC (pc_var (i := 4) (by rfl) (Or.inr (Or.inl rfl))) pa_nilC)) (pc_ix hr0 (pc_var (i := 5) (by rfl) (Or.inl rfl)) pc_int)) (pw_orC (pt_cmpC (c_ne hr0) (pc_call (C_left_right.mono (k := 7) (by decide)) hr0 (by rfl) (takes_of rfl rfl rfl rfl) (pa_consC (pc_var (i := 4) (by rfl) (Or.inr (Or.inl rfl))) pa_nilC)) (pc_var (i := 6) (by rfl) (Or.inl rfl))) (pw_or1C (pt_cmpC (c_ne hr0) (pc_call (C_up_down.mono (k := 7) (by decide)) hr0 (by rfl) (takes_of rfl rfl rfl rfl) (pa_consC (pc_var (i := 4) (by rfl) (Or.inr (Or.inl rfl))) pa_nilC)) (pc_var (i := 7) (by rfl) (Or.inl rfl)))))))
  (pss_oneC (ps_retC pc_bl))
  pss_nilC)
  (pss_consC (ps_ifC (pt_cmpC (c_ne hr0) (pc_callTy call_listC nx_list (by rfl) B.b_list (by rfl) (pa_consC (pc_call (C_homes.mono (k := 7) (by decide)) hr0 (by rfl) (takes_of rfl rfl rfl rfl) (pa_consC (pc_var (i := 4) (by rfl) (Or.inr (Or.inl rfl))) (pa_consC (pc_var (i := 6) (by rfl) (Or.inl rfl)) pa_nilC))) pa_nilC)) (pc_call (C_law_home.mono (k := 7) (by decide)) hr0 (by rfl) (takes_of rfl rfl rfl rfl) (pa_consC (pc_var (i := 4) (by rfl) (Or.inr (Or.inl rfl))) (pa_consC (pc_var (i := 6) (by rfl) (Or.inl rfl)) pa_nilC))))
  (pss_oneC (ps_retC pc_bl))
  pss_nilC)
  (pss_consC (ps_setC (i := 9) nd_ (by rfl) (Or.inl rfl) (pc_call (C_law_home.mono (k := 7) (by decide)) hr0 (by rfl) (takes_of rfl rfl rfl rfl) (pa_consC (pc_var (i := 4) (by rfl) (Or.inr (Or.inl rfl))) (pa_consC (pc_var (i := 7) (by rfl) (Or.inl rfl)) pa_nilC))))
  (pss_consC (ps_setC (i := 10) nd_ (by rfl) (Or.inl rfl) (pc_fresh (pf_disp (pp_cons pc_str (pc_cmp (c_ne hr0) (pc_call (C_law_home.mono (k := 7) (by decide)) hr0 (by rfl) (takes_of rfl rfl rfl rfl) (pa_consC (pc_var (i := 4) (by rfl) (Or.inr (Or.inl rfl))) (pa_consC (pc_var (i := 6) (by rfl) (Or.inl rfl)) pa_nilC))) (pc_lst pa_nilC)) (pp_cons pc_str (pc_cmp (c_in hr0) pc_int (pc_var (i := 9) (by rfl) (Or.inl rfl))) (pp_cons pc_str (pc_and (pc_cmp (c_ne hr0) (pc_var (i := 9) (by rfl) (Or.inl rfl)) (pc_lst pa_nilC)) (pc_one (pc_cmp (c_notIn hr0) pc_int (pc_var (i := 9) (by rfl) (Or.inl rfl))))) (pp_cons pc_str (pc_cmp (c_ne hr0) (pc_call (C_law_home.mono (k := 7) (by decide)) hr0 (by rfl) (takes_of rfl rfl rfl rfl) (pa_consC (pc_var (i := 4) (by rfl) (Or.inr (Or.inl rfl))) (pa_consC (pc_var (i := 8) (by rfl) (Or.inl rfl)) pa_nilC))) (pc_lst pa_nilC)) pp_nil)))))))
  (pss_consC (ps_ifC (pt_cmpC (c_ne hr0) (pc_call (C_turns.mono (k := 7) (by decide)) hr0 (by rfl) (takes_of rfl rfl rfl rfl) (pa_consC (pc_var (i := 4) (by rfl) (Or.inr (Or.inl rfl))) pa_nilC)) (pc_var (i := 10) (by rfl) (Or.inl rfl)))
  (pss_oneC (ps_retC pc_bl))
  pss_nilC)
  (pss_consC (ps_setC (i := 11) nd_ (by rfl) (Or.inr rfl) (pc_call (C_sort_of.mono (k := 7) (by decide)) hr0 (by rfl) (takes_of rfl rfl rfl rfl) (pa_consC (pc_var (i := 4) (by rfl) (Or.inr (Or.inl rfl))) pa_nilC)))
  (pss_consC (ps_ifC (pt_cmpC (c_notIn hr0) (pc_var (i := 11) (by rfl) (Or.inr (Or.inl rfl))) (pc_globK (by rfl) G_SORTS))
  (pss_oneC (ps_retC pc_bl))
  pss_nilC)
  (pss_consC (ps_ifC (pt_cmpC (c_ne hr0) (pc_lc (own := [("one", 15)]) rfl nd_ (pi_seqC (pc_lst (pa_consC (pc_var (i := 6) (by rfl) (Or.inl rfl)) (pa_consC (pc_var (i := 7) (by rfl) (Or.inl rfl)) (pa_consC (pc_var (i := 8) (by rfl) (Or.inl rfl)) (pa_consC (pc_call (C_shifted.mono (k := 7) (by decide)) hr0 (by rfl) (takes_of rfl rfl rfl rfl) (pa_consC (pc_var (i := 4) (by rfl) (Or.inr (Or.inl rfl))) (pa_consC pc_int pa_nilC))) pa_nilC)))))) blk_law_2 (by decide) (fun s H C cl fp => (pg_nameC (i := 15) nd_ (by rfl) (Or.inl rfl))) (fun s H C cl fp => (pts_oneC (PW.pt (pw_orC (pt_cmpC (c_ne hr0) (pc_call (C_sort_of.mono (k := 7) (by decide)) hr0 (by rfl) takes0 (pa_consC (pc_var (i := 15) (by rfl) (Or.inl rfl)) pa_nilC)) (pc_var (i := 11) (by rfl) (Or.inr (Or.inl rfl)))) (pw_or1C (pt_notC (pt_tru (pc_call (C_same_bands.mono (k := 7) (by decide)) hr0 (by rfl) takes0 (pa_consC (pc_var (i := 15) (by rfl) (Or.inl rfl)) (pa_consC (pc_var (i := 4) (by rfl) (Or.inr (Or.inl rfl))) pa_nilC)))))))))) (fun s H C cl fp => (pc_var (i := 15) (by rfl) (Or.inl rfl)))) (pc_lst pa_nilC))
  (pss_oneC (ps_retC pc_bl))
  pss_nilC)
  (pss_consC (ps_setC (i := 12) nd_ (by rfl) (Or.inl rfl) (pc_call (C_least_piece.mono (k := 7) (by decide)) hr0 (by rfl) (takes_of rfl rfl rfl rfl) (pa_consC (pc_var (i := 4) (by rfl) (Or.inr (Or.inl rfl))) pa_nilC)))
  (pss_consC (ps_ifC (PW.pt (pw_orC (pt_cmpC (c_ne hr0) (pc_callB call_lenC nx_len (by rfl) B.b_len (by rfl) (pa_consC (pc_ix hr0 (pc_var (i := 12) (by rfl) (Or.inl rfl)) pc_int) pa_nilC)) (pc_ix hr0 (pc_var (i := 5) (by rfl) (Or.inl rfl)) pc_int)) (pw_orC (pt_cmpC (c_ne hr0) (pc_mod (pc_var (i := 3) (by rfl) (Or.inr (Or.inl rfl))) (pc_ix hr0 (pc_var (i := 5) (by rfl) (Or.inl rfl)) pc_int)) pc_int) (pw_or1C (pt_cmpC (c_ne hr0) (pc_call (C_beside.mono (k := 7) (by decide)) hr0 (by rfl) (takes_of rfl rfl rfl rfl) (pa_consC (pc_mul (pc_lst (pa_consC (pc_var (i := 12) (by rfl) (Or.inl rfl)) pa_nilC)) (pc_div (pc_var (i := 3) (by rfl) (Or.inr (Or.inl rfl))) (pc_ix hr0 (pc_var (i := 5) (by rfl) (Or.inl rfl)) pc_int))) pa_nilC)) (pc_var (i := 4) (by rfl) (Or.inr (Or.inl rfl))))))))
  (pss_oneC (ps_retC pc_bl))
  pss_nilC)
  (pss_consC (ps_ifC (PW.pt (pw_orC (pt_cmpC (c_notIn hr0) (pc_call (C_copies_in.mono (k := 7) (by decide)) hr0 (by rfl) (takes_of rfl rfl rfl rfl) (pa_consC (pc_var (i := 4) (by rfl) (Or.inr (Or.inl rfl))) pa_nilC)) (pc_lst (pa_consC pc_int (pa_consC pc_int (pa_consC pc_int pa_nilC))))) (pw_or1C (pt_cmpC (c_ne hr0) (pc_cmp (c_eq hr0) (pc_call (C_copies_in.mono (k := 7) (by decide)) hr0 (by rfl) (takes_of rfl rfl rfl rfl) (pa_consC (pc_var (i := 4) (by rfl) (Or.inr (Or.inl rfl))) pa_nilC)) pc_int) (pc_cmp (c_eq hr0) (pc_var (i := 11) (by rfl) (Or.inr (Or.inl rfl))) pc_str)))))
  (pss_oneC (ps_retC pc_bl))
  pss_nilC)
  (pss_consC (ps_ifC (PW.pt (pw_andC (pt_tru (pc_ix hr0 (pc_var (i := 10) (by rfl) (Or.inl rfl)) pc_str)) (pw_andC (pt_tru (pc_ix hr0 (pc_var (i := 10) (by rfl) (Or.inl rfl)) pc_str)) (pw_andC (pt_notC (pt_tru (pc_ix hr0 (pc_var (i := 10) (by rfl) (Or.inl rfl)) pc_str))) (pw_and1C (pt_notC (pt_tru (pc_ix hr0 (pc_var (i := 10) (by rfl) (Or.inl rfl)) pc_str))))))))
  (pss_oneC (ps_retC pc_bl))
  pss_nilC)
  (pss_oneC (ps_ifC (pt_notC (pt_tru (pc_call (C_law_rest1.mono (k := 7) (by decide)) hr0 (by rfl) (takes_of rfl rfl rfl rfl) (pa_consC (pc_var (i := 4) (by rfl) (Or.inr (Or.inl rfl))) (pa_consC (pc_var (i := 5) (by rfl) (Or.inl rfl)) pa_nilC)))))
  (pss_oneC (ps_retC pc_bl))
  pss_nilC)))))))))))))))))))))
  (pss_one (ps_ret pe_bl)))
end
def df_check_picture : He.DefD := ⟨("check_picture", none), "check_picture", "check_picture", defArgs s_check_picture, defBody s_check_picture, defScope s_check_picture, [], []⟩
def df_shifted : He.DefD := ⟨("shifted", none), "shifted", "shifted", defArgs s_shifted, defBody s_shifted, defScope s_shifted, [], []⟩
def df_left_right : He.DefD := ⟨("left_right", none), "left_right", "left_right", defArgs s_left_right, defBody s_left_right, defScope s_left_right, [], []⟩
def df_up_down : He.DefD := ⟨("up_down", none), "up_down", "up_down", defArgs s_up_down, defBody s_up_down, defScope s_up_down, [], []⟩
def df_step_of : He.DefD := ⟨("step_of", none), "step_of", "step_of", defArgs s_step_of, defBody s_step_of, defScope s_step_of, [], []⟩
def df_homes : He.DefD := ⟨("homes", none), "homes", "homes", defArgs s_homes, defBody s_homes, defScope s_homes, [], []⟩
def df_turns : He.DefD := ⟨("turns", none), "turns", "turns", defArgs s_turns, defBody s_turns, defScope s_turns, [], []⟩
def df_sort_of : He.DefD := ⟨("sort_of", none), "sort_of", "sort_of", defArgs s_sort_of, defBody s_sort_of, defScope s_sort_of, [], []⟩
def df_beside : He.DefD := ⟨("beside", none), "beside", "beside", defArgs s_beside, defBody s_beside, defScope s_beside, [], []⟩
def df_below : He.DefD := ⟨("below", none), "below", "below", defArgs s_below, defBody s_below, defScope s_below, [], []⟩
def df_made : He.DefD := ⟨("made", none), "made", "made", defArgs s_made, defBody s_made, defScope s_made, [], []⟩
def df_least_piece : He.DefD := ⟨("least_piece", none), "least_piece", "least_piece", defArgs s_least_piece, defBody s_least_piece, defScope s_least_piece, [], []⟩
def df_copies_in : He.DefD := ⟨("copies_in", none), "copies_in", "copies_in", defArgs s_copies_in, defBody s_copies_in, defScope s_copies_in, [], []⟩
def df_corner : He.DefD := ⟨("corner", none), "corner", "corner", defArgs s_corner, defBody s_corner, defScope s_corner, [], []⟩
def df_both_sides : He.DefD := ⟨("both_sides", none), "both_sides", "both_sides", defArgs s_both_sides, defBody s_both_sides, defScope s_both_sides, [], []⟩
def df_same_bands : He.DefD := ⟨("same_bands", none), "same_bands", "same_bands", defArgs s_same_bands, defBody s_same_bands, defScope s_same_bands, [], []⟩
def df_law_flat : He.DefD := ⟨("_law_flat", none), "_law_flat", "_law_flat", defArgs s_law_flat, defBody s_law_flat, defScope s_law_flat, [], []⟩
def df_law_dice : He.DefD := ⟨("_law_dice", none), "_law_dice", "_law_dice", defArgs s_law_dice, defBody s_law_dice, defScope s_law_dice, [], []⟩
def df_law_roll : He.DefD := ⟨("_law_roll", none), "_law_roll", "_law_roll", defArgs s_law_roll, defBody s_law_roll, defScope s_law_roll, [], []⟩
def df_law_rounds : He.DefD := ⟨("_law_rounds", none), "_law_rounds", "_law_rounds", defArgs s_law_rounds, defBody s_law_rounds, defScope s_law_rounds, [], []⟩
def df_law_told : He.DefD := ⟨("_law_told", none), "_law_told", "_law_told", defArgs s_law_told, defBody s_law_told, defScope s_law_told, [], []⟩
def df_law_picture : He.DefD := ⟨("_law_picture", none), "_law_picture", "_law_picture", defArgs s_law_picture, defBody s_law_picture, defScope s_law_picture, [], []⟩
def df_law_home : He.DefD := ⟨("_law_home", none), "_law_home", "_law_home", defArgs s_law_home, defBody s_law_home, defScope s_law_home, [], []⟩
def df_law_rest1 : He.DefD := ⟨("_law_rest1", none), "_law_rest1", "_law_rest1", defArgs s_law_rest1, defBody s_law_rest1, defScope s_law_rest1, [], []⟩
def df_law : He.DefD := ⟨("law", none), "law", "law", defArgs s_law, defBody s_law, defScope s_law, [], []⟩
def fn : List He.DefD := [df_check_picture, df_shifted, df_left_right, df_up_down, df_step_of, df_homes, df_turns, df_sort_of, df_beside, df_below, df_made, df_least_piece, df_copies_in, df_corner, df_both_sides, df_same_bands, df_law_flat, df_law_dice, df_law_roll, df_law_rounds, df_law_told, df_law_picture, df_law_home, df_law_rest1, df_law]
def fa : List He.Fa := [.glo "check_picture", .glo "shifted", .glo "left_right", .glo "up_down", .glo "step_of", .glo "homes", .glo "turns", .glo "sort_of", .glo "beside", .glo "below", .glo "made", .glo "least_piece", .glo "copies_in", .glo "corner", .glo "both_sides", .glo "same_bands", .glo "_law_flat", .glo "_law_dice", .glo "_law_roll", .glo "_law_rounds", .glo "_law_told", .glo "_law_picture", .glo "_law_home", .glo "_law_rest1", .glo "law", .free "abs", .free "any", .free "int", .free "len", .free "list", .free "min", .free "range", .free "reversed", .free "tuple", .glo "BadChart", .glo "BadDraft", .glo "BadKnot", .glo "BadText", .glo "BadWord", .glo "NoCloth", .glo "TooLarge", .exc "BadDraft", .exc "NoCloth"]
def clsL : List Str := ["ThreadFault", "BadDraft", "BadWord", "BadChart", "BadKnot", "NoCloth", "TooLarge", "BadText"]
def tlL : List (He.Defn × Str) := [(("_law_rest1", none), "_law_rest1.<locals>.<lambda>")]
def tgL : List He.Defn := [("check_picture", none), ("turns", none)]
def tf : List He.Defn := tlL.map (·.1) ++ tgL
abbrev ΓK (K : PySem.W.Frag) : Gx := GxOf K clsL tlL tgL
def ex (K : PySem.W.Frag) : Bool := globB K "SORTS" d_SORTS && (distB K tlL tgL && (toldAll K (ΓK K).cl tabTold (csTold (ΓK K).cl) 8))
abbrev R : PySem.W.OpenRow := PySem.W.OpenLaw.row PySem.Challenge.rw_threadhall_k14_repeats
abbrev hk : PySem.W.Hook := He.hookX 4 fa fn [] tf ex
def ob (s : PySem.W.SharedT) : He.AlX := He.obsX 4 fa fn [] tf ex (HandSHeadRun.getT s)
theorem ob_eq (s : PySem.W.SharedT) : ob s = hk.obs s.abs := He.obsX_eq (HandSHeadRun.getT_eq s)
def names0 : List Str := ["ThreadFault", "BadDraft", "BadWord", "BadChart", "BadKnot", "NoCloth", "TooLarge", "BadText", "check_picture", "SORTS", "shifted", "left_right", "up_down", "step_of", "homes", "turns", "sort_of", "made", "beside", "below"]
def names1 : List Str := ["least_piece", "copies_in", "corner", "both_sides", "same_bands", "_law_flat", "_law_dice", "_law_roll", "_law_rounds", "_law_told", "_law_picture", "_law_home", "_law_rest1"]
def names : List Str := names0 ++ names1
theorem run (w : World) : HandSHeadRun.RunEq R (PySem.W.view R.prog [37]) hk ob 4280 names w := by
  intro os
  kernel_rfl
theorem facts (hb : (c_law (env0 N_law.length) []).Sat (fun r => r.1 = .nx) fun _ => False) {w : World} {K : PySem.W.Frag} {h : Heap} {mg : Str → Option Value} {f : Addr} (X : K.In h) (G : h.Ns mainGlobals mg) (hfa : mg ("law" : Str) = some (.ref f)) (c : He.SaysX fa fn [] tf ex w h K) : LamX.LawAtS PySem.Challenge.rw_threadhall_k14_repeats w K (L2.CX (PySem.Challenge.rw_threadhall_k14_repeats).prog w) 8 63 "script" mg f h := by
  have cd := c.t.d
  obtain ⟨fd_check_picture, H_check_picture⟩ := cd.def_ 0 (d := df_check_picture) rfl
  obtain ⟨fd_shifted, H_shifted⟩ := cd.def_ 1 (d := df_shifted) rfl
  obtain ⟨fd_left_right, H_left_right⟩ := cd.def_ 2 (d := df_left_right) rfl
  obtain ⟨fd_up_down, H_up_down⟩ := cd.def_ 3 (d := df_up_down) rfl
  obtain ⟨fd_step_of, H_step_of⟩ := cd.def_ 4 (d := df_step_of) rfl
  obtain ⟨fd_homes, H_homes⟩ := cd.def_ 5 (d := df_homes) rfl
  obtain ⟨fd_turns, H_turns⟩ := cd.def_ 6 (d := df_turns) rfl
  obtain ⟨fd_sort_of, H_sort_of⟩ := cd.def_ 7 (d := df_sort_of) rfl
  obtain ⟨fd_beside, H_beside⟩ := cd.def_ 8 (d := df_beside) rfl
  obtain ⟨fd_below, H_below⟩ := cd.def_ 9 (d := df_below) rfl
  obtain ⟨fd_made, H_made⟩ := cd.def_ 10 (d := df_made) rfl
  obtain ⟨fd_least_piece, H_least_piece⟩ := cd.def_ 11 (d := df_least_piece) rfl
  obtain ⟨fd_copies_in, H_copies_in⟩ := cd.def_ 12 (d := df_copies_in) rfl
  obtain ⟨fd_corner, H_corner⟩ := cd.def_ 13 (d := df_corner) rfl
  obtain ⟨fd_both_sides, H_both_sides⟩ := cd.def_ 14 (d := df_both_sides) rfl
  obtain ⟨fd_same_bands, H_same_bands⟩ := cd.def_ 15 (d := df_same_bands) rfl
  obtain ⟨fd_law_flat, H_law_flat⟩ := cd.def_ 16 (d := df_law_flat) rfl
  obtain ⟨fd_law_dice, H_law_dice⟩ := cd.def_ 17 (d := df_law_dice) rfl
  obtain ⟨fd_law_roll, H_law_roll⟩ := cd.def_ 18 (d := df_law_roll) rfl
  obtain ⟨fd_law_rounds, H_law_rounds⟩ := cd.def_ 19 (d := df_law_rounds) rfl
  obtain ⟨fd_law_told, H_law_told⟩ := cd.def_ 20 (d := df_law_told) rfl
  obtain ⟨fd_law_picture, H_law_picture⟩ := cd.def_ 21 (d := df_law_picture) rfl
  obtain ⟨fd_law_home, H_law_home⟩ := cd.def_ 22 (d := df_law_home) rfl
  obtain ⟨fd_law_rest1, H_law_rest1⟩ := cd.def_ 23 (d := df_law_rest1) rfl
  obtain ⟨fd_law, H_law⟩ := cd.def_ 24 (d := df_law) rfl
  have more := c.more
  obtain ⟨x0, more⟩ := He.ba more
  obtain ⟨x1, more⟩ := He.ba more
  have x2 := more
  have G_SORTS : GlobK K (ΓK K) mg "SORTS" d_SORTS := globB_ok X G x0
  have g_BadChart := He.glo_ok X G (cd.fact 34 (f := .glo "BadChart") rfl)
  have g_BadDraft := He.glo_ok X G (cd.fact 35 (f := .glo "BadDraft") rfl)
  have g_BadKnot := He.glo_ok X G (cd.fact 36 (f := .glo "BadKnot") rfl)
  have g_BadText := He.glo_ok X G (cd.fact 37 (f := .glo "BadText") rfl)
  have g_BadWord := He.glo_ok X G (cd.fact 38 (f := .glo "BadWord") rfl)
  have g_NoCloth := He.glo_ok X G (cd.fact 39 (f := .glo "NoCloth") rfl)
  have g_TooLarge := He.glo_ok X G (cd.fact 40 (f := .glo "TooLarge") rfl)
  have X_BadDraft : Exc K (ΓK K) mg "BadDraft" 1 := exc_of X G rfl (cd.fact 35 (f := .glo "BadDraft") rfl) (cd.fact 41 (f := .exc "BadDraft") rfl)
  have X_NoCloth : Exc K (ΓK K) mg "NoCloth" 5 := exc_of X G rfl (cd.fact 39 (f := .glo "NoCloth") rfl) (cd.fact 42 (f := .exc "NoCloth") rfl)
  have B : Free mg := ⟨He.free_ok X G (cd.fact 25 (f := .free "abs") rfl), He.free_ok X G (cd.fact 26 (f := .free "any") rfl), He.free_ok X G (cd.fact 27 (f := .free "int") rfl), He.free_ok X G (cd.fact 28 (f := .free "len") rfl), He.free_ok X G (cd.fact 29 (f := .free "list") rfl), He.free_ok X G (cd.fact 30 (f := .free "min") rfl), He.free_ok X G (cd.fact 31 (f := .free "range") rfl), He.free_ok X G (cd.fact 32 (f := .free "reversed") rfl), He.free_ok X G (cd.fact 33 (f := .free "tuple") rfl)⟩
  have e := hfa.symm.trans (He.glo_ok X G (cd.fact 24 (f := .glo "law") rfl))
  cases e
  refine ⟨fd_law, tlL.map (fun p => He.cT K p.1) ++ tgL.map (He.cT K), spLaw K (ΓK K), fun p hp => ?_, fun p hp => ?_, fun p hp => ?_, fun s u => FunD.bindsA (ps := ["script"]) H_law (fun _ _ _ _ _ _ us hl => match us, hl with | [_], _ => rfl) s [u] rfl, fun H a ns hl _ ht hS => ⟨a, ns, rfl, hS, hl, tabs0 ht, fun _ => rfl⟩, fun base KB GB TB => ?_⟩
  · have hp2 : p ∈ tf.map (He.cT K) := by rw [show tf = tlL.map (·.1) ++ tgL from rfl, List.map_append, List.map_map]; exact hp
    obtain ⟨z, hz, rfl⟩ := List.mem_map.mp hp2
    exact c.empty z hz
  · have hp2 : p ∈ tf.map (He.cT K) := by rw [show tf = tlL.map (·.1) ++ tgL from rfl, List.map_append, List.map_map]; exact hp
    obtain ⟨z, hz, rfl⟩ := List.mem_map.mp hp2
    exact c.out z hz
  · have hp2 : p ∈ tf.map (He.cT K) := by rw [show tf = tlL.map (·.1) ++ tgL from rfl, List.map_append, List.map_map]; exact hp
    obtain ⟨z, hz, rfl⟩ := List.mem_map.mp hp2
    exact PySem.W.codeHd_of_K X (c.hd z hz)
  have C_check_picture : Cal (PySem.Challenge.rw_threadhall_k14_repeats).prog w K mg base (ΓK K) "check_picture" 2 1 F_check_picture := ok_check_picture H_check_picture (He.glo_ok X G (cd.fact 0 (f := .glo "check_picture") rfl)) B X_BadDraft (tabG (TB _ (List.mem_append_right _ (List.mem_map.mpr ⟨("check_picture", none), (List.Mem.head _), rfl⟩)))) (mem_tg (q := ("check_picture", none)) (List.Mem.head _)) (dist_gl x1 (q := ("check_picture", none)) (List.Mem.head _))
  have C_shifted : Cal (PySem.Challenge.rw_threadhall_k14_repeats).prog w K mg base (ΓK K) "shifted" 1 2 F_shifted := ok_shifted H_shifted (He.glo_ok X G (cd.fact 1 (f := .glo "shifted") rfl)) B
  have C_left_right : Cal (PySem.Challenge.rw_threadhall_k14_repeats).prog w K mg base (ΓK K) "left_right" 1 1 F_left_right := ok_left_right H_left_right (He.glo_ok X G (cd.fact 2 (f := .glo "left_right") rfl)) B
  have C_up_down : Cal (PySem.Challenge.rw_threadhall_k14_repeats).prog w K mg base (ΓK K) "up_down" 1 1 F_up_down := ok_up_down H_up_down (He.glo_ok X G (cd.fact 3 (f := .glo "up_down") rfl)) B
  have C_step_of : Cal (PySem.Challenge.rw_threadhall_k14_repeats).prog w K mg base (ΓK K) "step_of" 3 1 F_step_of := ok_step_of H_step_of (He.glo_ok X G (cd.fact 4 (f := .glo "step_of") rfl)) B C_check_picture C_shifted
  have C_homes : Cal (PySem.Challenge.rw_threadhall_k14_repeats).prog w K mg base (ΓK K) "homes" 2 2 F_homes := ok_homes H_homes (He.glo_ok X G (cd.fact 5 (f := .glo "homes") rfl)) B C_shifted
  have C_turns : Cal (PySem.Challenge.rw_threadhall_k14_repeats).prog w K mg base (ΓK K) "turns" 4 1 F_turns := ok_turns H_turns (He.glo_ok X G (cd.fact 6 (f := .glo "turns") rfl)) B C_check_picture C_homes C_left_right C_step_of C_up_down (tabG (TB _ (List.mem_append_right _ (List.mem_map.mpr ⟨("turns", none), (List.Mem.tail _ (List.Mem.head _)), rfl⟩)))) (mem_tg (q := ("turns", none)) (List.Mem.tail _ (List.Mem.head _))) (dist_gl x1 (q := ("turns", none)) (List.Mem.tail _ (List.Mem.head _)))
  have C_sort_of : Cal (PySem.Challenge.rw_threadhall_k14_repeats).prog w K mg base (ΓK K) "sort_of" 5 1 F_sort_of := ok_sort_of H_sort_of (He.glo_ok X G (cd.fact 7 (f := .glo "sort_of") rfl)) B C_turns
  have C_beside : Cal (PySem.Challenge.rw_threadhall_k14_repeats).prog w K mg base (ΓK K) "beside" 1 1 F_beside := ok_beside H_beside (He.glo_ok X G (cd.fact 8 (f := .glo "beside") rfl)) B
  have C_below : Cal (PySem.Challenge.rw_threadhall_k14_repeats).prog w K mg base (ΓK K) "below" 1 2 F_below := ok_below H_below (He.glo_ok X G (cd.fact 9 (f := .glo "below") rfl)) B
  have C_made : Cal (PySem.Challenge.rw_threadhall_k14_repeats).prog w K mg base (ΓK K) "made" 3 2 F_made := ok_made H_made (He.glo_ok X G (cd.fact 10 (f := .glo "made") rfl)) B C_below C_beside C_check_picture C_left_right C_up_down G_SORTS X_BadDraft
  have C_least_piece : Cal (PySem.Challenge.rw_threadhall_k14_repeats).prog w K mg base (ΓK K) "least_piece" 4 1 F_least_piece := ok_least_piece H_least_piece (He.glo_ok X G (cd.fact 11 (f := .glo "least_piece") rfl)) B C_step_of
  have C_copies_in : Cal (PySem.Challenge.rw_threadhall_k14_repeats).prog w K mg base (ΓK K) "copies_in" 5 1 F_copies_in := ok_copies_in H_copies_in (He.glo_ok X G (cd.fact 12 (f := .glo "copies_in") rfl)) B C_turns
  have C_corner : Cal (PySem.Challenge.rw_threadhall_k14_repeats).prog w K mg base (ΓK K) "corner" 4 2 F_corner := ok_corner H_corner (He.glo_ok X G (cd.fact 13 (f := .glo "corner") rfl)) B C_step_of X_NoCloth
  have C_both_sides : Cal (PySem.Challenge.rw_threadhall_k14_repeats).prog w K mg base (ΓK K) "both_sides" 6 1 F_both_sides := ok_both_sides H_both_sides (He.glo_ok X G (cd.fact 14 (f := .glo "both_sides") rfl)) B C_left_right C_sort_of
  have C_same_bands : Cal (PySem.Challenge.rw_threadhall_k14_repeats).prog w K mg base (ΓK K) "same_bands" 3 2 F_same_bands := ok_same_bands H_same_bands (He.glo_ok X G (cd.fact 15 (f := .glo "same_bands") rfl)) B C_homes C_left_right C_up_down
  have C_law_flat : Cal (PySem.Challenge.rw_threadhall_k14_repeats).prog w K mg base (ΓK K) "_law_flat" 1 1 F_law_flat := ok_law_flat H_law_flat (He.glo_ok X G (cd.fact 16 (f := .glo "_law_flat") rfl)) B
  have C_law_dice : Cal (PySem.Challenge.rw_threadhall_k14_repeats).prog w K mg base (ΓK K) "_law_dice" 1 1 fDice := ok_law_dice H_law_dice (He.glo_ok X G (cd.fact 17 (f := .glo "_law_dice") rfl)) B
  have C_law_roll : Cal (PySem.Challenge.rw_threadhall_k14_repeats).prog w K mg base (ΓK K) "_law_roll" 1 2 fRoll := ok_law_roll H_law_roll (He.glo_ok X G (cd.fact 18 (f := .glo "_law_roll") rfl)) B
  have C_law_rounds : Rnd (PySem.Challenge.rw_threadhall_k14_repeats).prog w K mg base (ΓK K) "_law_rounds" 2 := ok_law_rounds H_law_rounds (He.glo_ok X G (cd.fact 19 (f := .glo "_law_rounds") rfl)) B C_law_dice
  have T_law_told : TolD K mg (ΓK K) "_law_told" tabTold := ok_law_told H_law_told (He.glo_ok X G (cd.fact 20 (f := .glo "_law_told") rfl)) g_BadDraft g_BadWord g_BadChart g_BadKnot g_NoCloth g_TooLarge g_BadText (fun c t e => by
    have hc : c < 8 := by
      unfold tabTold at e
      repeat (split at e; omega)
      cases e
    have z := List.all_eq_true.mp x2 c (List.mem_range.mpr hc)
    rw [e] at z
    exact z)
  have C_law_picture : Cal (PySem.Challenge.rw_threadhall_k14_repeats).prog w K mg base (ΓK K) "_law_picture" 2 3 F_law_picture := ok_law_picture H_law_picture (He.glo_ok X G (cd.fact 21 (f := .glo "_law_picture") rfl)) B C_law_roll
  have C_law_home : Cal (PySem.Challenge.rw_threadhall_k14_repeats).prog w K mg base (ΓK K) "_law_home" 2 2 F_law_home := ok_law_home H_law_home (He.glo_ok X G (cd.fact 22 (f := .glo "_law_home") rfl)) B C_law_flat
  have C_law_rest1 : Cal (PySem.Challenge.rw_threadhall_k14_repeats).prog w K mg base (ΓK K) "_law_rest1" 7 2 F_law_rest1 := ok_law_rest1 H_law_rest1 (He.glo_ok X G (cd.fact 23 (f := .glo "_law_rest1") rfl)) B C_below C_both_sides C_corner C_made C_sort_of G_SORTS T_law_told (TB _ (List.mem_append_left _ (List.mem_map.mpr ⟨(("_law_rest1", none), "_law_rest1.<locals>.<lambda>"), (List.Mem.head _), rfl⟩))) (mem_tl (q := (("_law_rest1", none), "_law_rest1.<locals>.<lambda>")) (List.Mem.head _)) (dist_ll x1 (q := (("_law_rest1", none), "_law_rest1.<locals>.<lambda>")) (List.Mem.head _)) (dist_lg x1 (q := (("_law_rest1", none), "_law_rest1.<locals>.<lambda>")) (List.Mem.head _))
  exact ok_law (P := (PySem.Challenge.rw_threadhall_k14_repeats).prog) (w := w) (K := K) (mg := mg) (base := base) (Γ := ΓK K) hb H_law (He.glo_ok X G (cd.fact 24 (f := .glo "law") rfl)) B C_law_home C_law_picture C_law_rest1 C_law_roll C_law_rounds C_beside C_copies_in C_homes C_least_piece C_left_right C_same_bands C_shifted C_sort_of C_step_of C_turns C_up_down G_SORTS
end L2.Th.K14
open PySem PySem.W PySem.Calls PyProof.Rows
set_option maxHeartbeats 0 in
theorem PySem.Challenge.cw_threadhall_k14_repeats_of (hb : (L2.Th.K14.c_law (L2.Th.env0 L2.Th.K14.N_law.length) []).Sat (fun r => r.1 = .nx) fun _ => False) : PySem.Challenge.rw_threadhall_k14_repeats.Holds := by
  w_on; o_law
  refine HandSHeadRun.head_any (r := OpenLaw.row PySem.Challenge.rw_threadhall_k14_repeats) (q := view (OpenLaw.row PySem.Challenge.rw_threadhall_k14_repeats).prog [37]) (H := L2.Th.K14.hk) (ob := L2.Th.K14.ob) (M := 4280) (loose := L2.Th.K14.names) (d := HandSHeadRun.topDef (OpenLaw.row PySem.Challenge.rw_threadhall_k14_repeats).prog 37) (kwd := []) L2.Th.K14.ob_eq
    (by kernel_rfl) (fun s => by kernel_rfl) L2.Th.K14.run (by kernel_rfl) (by kernel_rfl) (by kernel_rfl) (by rfl) (by first | assumption | decide +kernel) (by decide +kernel) ⟨rfl, rfl, rfl, rfl, rfl, by decide +kernel⟩ ?hw ?hc
  case hw => w_witness2
  case hc =>
    refine LamX.walk_ofTsE (l := PySem.Challenge.rw_threadhall_k14_repeats) (n := 63) (k := 8) (x := "script") (CX := fun w => L2.CX (PySem.Challenge.rw_threadhall_k14_repeats).prog w) rfl (by decide) (by kernel_rfl) ⟨rfl, by decide, by decide⟩ ?F (fun w H s e s' ⟨_, _, _, _, _, _, _, _, _, _, _, _, z⟩ => z)
    intro w mg fa h Y G hmg0
    obtain ⟨K, KX, c⟩ := Y
    have hmg : mg ("law" : PySem.Str) = some (.ref fa) := by
      have e : (HandSHeadRun.topDef (OpenLaw.row PySem.Challenge.rw_threadhall_k14_repeats).prog 37).name = ("law" : PySem.Str) := by kernel_rfl
      rw [← e]
      exact hmg0
    exact ⟨K, KX, L2.Th.K14.facts hb KX G hmg c⟩

set_option Elab.async false
set_option linter.all false
set_option maxRecDepth 100000
set_option maxHeartbeats 4000000
namespace L2.Th.K14
open PySem PySem.Spec PyProof.Rows
def pieceD : D := .tup [.tup [.bl true, .bl true, .bl false], .tup [.bl true, .bl false, .bl false]]
def sortsL : List D := match d_SORTS with
  | .tup xs => xs
  | _ => []
theorem closed1 (a b c : Option D) : cLc [4] (iSeq (cK d_SORTS)) (gNm 4) tYesC (cCall 1 F_sort_of (aCons (cCall 2 F_made (aCons (cVar 2) (aCons (cVar 4) aNil))) aNil)) [a, b, some pieceD, c, none] [] = .ok (.lst sortsL) := by
  kernel_rfl
theorem closed2 : F_made [pieceD, .str "x"] = .exn ⟨1, none⟩ := by kernel_rfl
theorem closed3 : F_below [pieceD, pieceD] = .ok (.tup [.tup [.bl true, .bl true, .bl false], .tup [.bl true, .bl false, .bl false], .tup [.bl true, .bl true, .bl false], .tup [.bl true, .bl false, .bl false]]) := by kernel_rfl
end L2.Th.K14

set_option Elab.async false
set_option linter.all false
set_option maxRecDepth 100000
set_option maxHeartbeats 4000000
/-! Layer TiD: codes evaluated (plain). -/
namespace L2.Th
open PySem PySem.Spec PyProof.Rows
section
variable {env : Env} {S : Store} {a b c : Code} {x y z : D} {i : Nat} {op : Op2} {f : Store → D → Res D} {F : Fn}
theorem ev_var (h : env[i]? = some (some x)) : cVar i env S = .ok x := by unfold cVar; rw [h]
theorem ev_op2 {r : Res D} (h1 : a env S = .ok x) (h2 : b env S = .ok y) (h : op S x y = r) : cOp2 op a b env S = r := cOp2_eq h1 h2 h
theorem ev_1 {r : Res D} (h1 : a env S = .ok x) (h : f S x = r) : cOpN (op1 f) (aCons a aNil) env S = r := by
  unfold cOpN aCons aNil
  rw [h1]
  exact h
theorem ev_2 {g : Store → D → D → Res D} {r : Res D} (h1 : a env S = .ok x) (h2 : b env S = .ok y) (h : g S x y = r) : cOpN (op2N g) (aCons a (aCons b aNil)) env S = r := by
  unfold cOpN aCons aNil
  rw [h1, Res.ok_bind, h2]
  exact h
theorem callF_ok {ds : List D} (h : noLs ds = true) : callF F S ds = F ds := by unfold callF; rw [if_pos h]
theorem ev_c1 {r : Res D} (h1 : a env S = .ok x) (n1 : noL x = true) (h : F [x] = r) : cCall 1 F (aCons a aNil) env S = r := by
  unfold cCall aCons aNil
  rw [h1]
  show callF F S [x] = _
  rw [callF_ok (by simp [noLs, n1]), h]
theorem ev_c2 {r : Res D} (h1 : a env S = .ok x) (h2 : b env S = .ok y) (n1 : noL x = true) (n2 : noL y = true) (h : F [x, y] = r) : cCall 2 F (aCons a (aCons b aNil)) env S = r := by
  unfold cCall aCons aNil
  rw [h1, Res.ok_bind, h2]
  show callF F S [x, y] = _
  rw [callF_ok (by simp [noLs, n1, n2]), h]
theorem ev_c3 {r : Res D} (h1 : a env S = .ok x) (h2 : b env S = .ok y) (h3 : c env S = .ok z) (n1 : noL x = true) (n2 : noL y = true) (n3 : noL z = true) (h : F [x, y, z] = r) : cCall 3 F (aCons a (aCons b (aCons c aNil))) env S = r := by
  unfold cCall aCons aNil
  rw [h1, Res.ok_bind, h2, Res.ok_bind, h3]
  show callF F S [x, y, z] = _
  rw [callF_ok (by simp [noLs, n1, n2, n3]), h]
theorem ev_seqT {xs : List D} (h : a env S = .ok (.tup xs)) : iSeq a env S = .ok (.seq xs) := by unfold iSeq; rw [h]; rfl
theorem ev_seqL {xs : List D} (h : a env S = .ok (.lst xs)) : iSeq a env S = .ok (.seq xs) := by unfold iSeq; rw [h]; rfl
theorem fits_nat {n : Nat} (h : n < 4096) : fits62 (n : Int) = true := by unfold fits62; rw [decide_eq_true (by omega), decide_eq_true (by omega)]; rfl
theorem rng_nat (n : Nat) : rngD 0 n = (List.range n).map fun (i : Nat) => D.int i := by
  unfold rngD
  rw [Int.sub_zero, Int.toNat_natCast]
  exact List.map_congr_left fun i _ => by rw [Int.zero_add]
theorem rng_nat2 (m n : Nat) : rngD m n = (List.range (n - m)).map fun (i : Nat) => D.int ((m + i : Nat) : Int) := by
  unfold rngD
  rw [Int.toNat_sub]
  exact List.map_congr_left fun i _ => by rw [Int.natCast_add]
theorem ev_rngI {j : Int} (h : a env S = .ok (.int j)) (hj : fits62 j = true) : iRange1 (aCons a aNil) env S = .ok (.seq (rngD 0 j)) := by
  unfold iRange1 aCons aNil
  rw [h]
  have e : need (fits62 j) = .ok () := by rw [hj]; rfl
  exact (congrArg (fun z : Res Unit => z >>= fun _ => Res.ok (ItD.seq (rngD 0 j))) e)
theorem ev_rngI2 {k j : Int} (h1 : a env S = .ok (.int k)) (h2 : b env S = .ok (.int j)) (hk : fits62 k = true) (hj : fits62 j = true) : iRange2 (aCons a (aCons b aNil)) env S = .ok (.seq (rngD k j)) := by
  unfold iRange2 aCons aNil
  rw [h1, Res.ok_bind, h2]
  have e : need (fits62 k && fits62 j) = .ok () := by rw [hj, hk]; rfl
  exact (congrArg (fun z : Res Unit => z >>= fun _ => Res.ok (ItD.seq (rngD k j))) e)
theorem ev_rng1 {n : Nat} (h : a env S = .ok (.int n)) (hn : n < 4096) : iRange1 (aCons a aNil) env S = .ok (.seq ((List.range n).map fun (i : Nat) => D.int i)) := by
  rw [← rng_nat]
  exact ev_rngI h (fits_nat hn)
theorem ev_rng2 {m n : Nat} (h1 : a env S = .ok (.int m)) (h2 : b env S = .ok (.int n)) (hm : m < 4096) (hn : n < 4096) : iRange2 (aCons a (aCons b aNil)) env S = .ok (.seq ((List.range (n - m)).map fun (i : Nat) => D.int ((m + i : Nat) : Int))) := by
  rw [← rng_nat2]
  exact ev_rngI2 h1 h2 (fits_nat hm) (fits_nat hn)
theorem line_big : (4096 : Nat) ≤ sizeLine := by decide
/-- a comprehension over known data, all steps ok -/
theorem lcSeq_ok {α : Type} {g : GCode} {t : TCode} {e : Code} {G : α → D} {p : α → Bool} {V : α → D} {E : α → Env} : ∀ {xs : List α}, (∀ q ∈ xs, g (G q) env = .ok (E q)) → (∀ q ∈ xs, t (E q) S = .ok (p q)) → (∀ q ∈ xs, p q = true → e (E q) S = .ok (V q)) →
    lcSeq g t e env S (xs.map G) = .ok ((xs.filter p).map V)
  | [], _, _, _ => rfl
  | q :: xs, h1, h2, h3 => by
    have ih := lcSeq_ok (xs := xs) (fun r hr => h1 r (List.mem_cons_of_mem _ hr)) (fun r hr => h2 r (List.mem_cons_of_mem _ hr)) fun r hr => h3 r (List.mem_cons_of_mem _ hr)
    rw [List.map_cons]
    unfold lcSeq
    rw [h1 q List.mem_cons_self, Res.ok_bind, h2 q List.mem_cons_self, Res.ok_bind]
    cases hp : p q with
    | true =>
      rw [if_pos rfl, h3 q List.mem_cons_self hp, Res.ok_bind, ih, List.filter_cons_of_pos hp]
      rfl
    | false => rw [if_neg (by decide), ih, List.filter_cons_of_neg (by rw [hp]; decide)]
theorem ev_lcF {α : Type} {own : List Nat} {ic : ICode} {t : TCode} {e : Code} {xs : List α} {G : α → D} {p : α → Bool} {V : α → D} (hi : ic env S = .ok (.seq (xs.map G))) (hl : xs.length ≤ 4096) (h2 : ∀ q ∈ xs, t ((wipeE env own).set i (some (G q))) S = .ok (p q)) (h3 : ∀ q ∈ xs, p q = true → e ((wipeE env own).set i (some (G q))) S = .ok (V q)) :
    cLc own ic (gNm i) t e env S = .ok (.lst ((xs.filter p).map V)) := by
  unfold cLc
  rw [hi]
  show (do need (decide ((xs.map G).length ≤ sizeLine)); let ys ← noX (lcSeq (gNm i) t e (wipeE env own) S (xs.map G)); Res.ok (D.lst ys)) = _
  rw [decide_eq_true (by rw [List.length_map]; exact Nat.le_trans hl line_big), lcSeq_ok (E := fun q => (wipeE env own).set i (some (G q))) (fun _ _ => rfl) h2 h3]
  rfl
theorem ev_lc {α : Type} {own : List Nat} {ic : ICode} {e : Code} {xs : List α} {G : α → D} {V : α → D} (hi : ic env S = .ok (.seq (xs.map G))) (hl : xs.length ≤ 4096) (h3 : ∀ q ∈ xs, e ((wipeE env own).set i (some (G q))) S = .ok (V q)) :
    cLc own ic (gNm i) tYesC e env S = .ok (.lst (xs.map V)) := by
  rw [ev_lcF (p := fun _ => true) hi hl (fun _ _ => rfl) fun q hq _ => h3 q hq, List.filter_eq_self.mpr fun _ _ => rfl]
theorem ev_lst0 : cLst aNil env S = .ok (.lst []) := rfl
/-- statements -/
theorem ev_set {r : Res SRes} {c2 : SCode} (h : a env S = .ok x) (k : c2 (env.set i (some x)) S = r) : sSeq (sAsg a (gNm i)) c2 env S = r := by
  unfold sSeq sAsg
  rw [h]
  exact k
theorem ev_ret (h : a env S = .ok x) : sRet a env S = .ok (.rt x, env, S) := by unfold sRet; rw [h]; rfl
theorem ev_ifS {r : Res SRes} {t : TCode} {p q c2 : SCode} {k : Bool} (h : t env S = .ok k) (h1 : k = true → sSeq p c2 env S = r) (h2 : k = false → sSeq q c2 env S = r) : sSeq (sIf t p q) c2 env S = r := by
  cases k with
  | true =>
    rw [← h1 rfl]
    unfold sSeq sIf
    rw [h]
    rfl
  | false =>
    rw [← h2 rfl]
    unfold sSeq sIf
    rw [h]
    rfl
theorem ev_if {r : Res SRes} {t : TCode} {p q : SCode} {k : Bool} (h : t env S = .ok k) (h1 : k = true → p env S = r) (h2 : k = false → q env S = r) : sIf t p q env S = r := by
  cases k with
  | true =>
    rw [← h1 rfl]
    unfold sIf
    rw [h]
    rfl
  | false =>
    rw [← h2 rfl]
    unfold sIf
    rw [h]
    rfl
theorem ev_nextS {r : Res SRes} {c2 : SCode} (h : c2 env S = r) : sSeq sNext c2 env S = r := h
theorem ev_retS {r : SRes} {c2 : SCode} (h : sRet a env S = .ok (.rt x, r.2)) : sSeq (sRet a) c2 env S = .ok (.rt x, r.2) := by unfold sSeq; rw [h]; rfl
theorem run_rt {N : Nat} {b : SCode} {ds : List D} {r : Env × Store} (h : b (ds.map some ++ List.replicate (N - ds.length) none) [] = .ok (.rt x, r)) (hn : noL x = true) (hx : isLoc x = none) : runB N b ds = .ok x := by
  unfold runB
  rw [h]
  show opt (frzD r.2 x) = _
  have : frzD r.2 x = some x := by
    unfold frzD
    split
    · cases hx
    · rw [if_pos hn]
  rw [this]
  rfl
/-- tests -/
theorem ev_val {k : Bool} (h : a env S = .ok (.bl k)) : tVal a env S = .ok k := by unfold tVal; rw [h]; rfl
theorem ev_tru {k : Bool} (h : a env S = .ok x) (hk : truD S x = some k) : tTru a env S = .ok k := by unfold tTru; rw [h, Res.ok_bind, hk]; rfl
theorem ev_notT {t : TCode} {k : Bool} (h : t env S = .ok k) : tNotC t env S = .ok (!k) := by unfold tNotC; rw [h]; rfl
theorem ev_andT {s t : TCode} {k l : Bool} (h : s env S = .ok k) (h2 : k = true → t env S = .ok l) : tAndC s t env S = .ok (k && l) := by
  unfold tAndC
  rw [h, Res.ok_bind]
  cases k with
  | true => rw [if_pos rfl, h2 rfl]; rfl
  | false => rfl
theorem ev_orT {s t : TCode} {k l : Bool} (h : s env S = .ok k) (h2 : k = false → t env S = .ok l) : tOrC s t env S = .ok (k || l) := by
  unfold tOrC
  rw [h, Res.ok_bind]
  cases k with
  | true => rfl
  | false => rw [if_neg (by decide), h2 rfl]; rfl
end
end L2.Th

set_option Elab.async false
set_option linter.all false
set_option maxRecDepth 100000
set_option maxHeartbeats 4000000
namespace L2.Th.K14
open PySem PySem.Spec PyProof.Rows
/-! bands as functions -/
abbrev Bd := Nat → Int → Bool
def rowD (w : Nat) (r : Int → Bool) : D := .tup ((List.range w).map fun (k : Nat) => .bl (r k))
def bandD (h w : Nat) (f : Bd) : D := .tup ((List.range h).map fun j => rowD w (f j))
def sh (s : Int) (f : Bd) : Bd := fun j k => f j (k - s)
def lr (w : Nat) (f : Bd) : Bd := fun j k => f j (w - 1 - k)
def ud (h : Nat) (f : Bd) : Bd := fun j k => f (h - 1 - j) k
def Per (w : Nat) (f : Bd) : Prop := ∀ j k, f j (k + w) = f j k
theorem atI_map {α : Type} {g : Nat → α} {n : Nat} {i : Int} (h0 : 0 ≤ i) (h1 : i < n) : atI ((List.range n).map g) i = some (g i.toNat) := by
  unfold atI ixN
  rw [List.length_map, List.length_range, if_pos h0, if_pos h1]
  show ((List.range n).map g)[i.toNat]? = _
  rw [List.getElem?_map, List.getElem?_range (by omega)]
  rfl
theorem noL_row {w : Nat} {r : Int → Bool} : noL (rowD w r) = true := by
  unfold rowD noL
  generalize List.range w = l
  induction l with
  | nil => rfl
  | cons a l ih => rw [List.map_cons]; unfold noLs; rw [ih]; rfl
theorem noL_band {h w : Nat} {f : Bd} : noL (bandD h w f) = true := by
  unfold bandD noL
  generalize List.range h = l
  induction l with
  | nil => rfl
  | cons a l ih => rw [List.map_cons]; unfold noLs; rw [ih, noL_row]; rfl
theorem Per.mul {w : Nat} {f : Bd} (p : Per w f) (j : Nat) (k : Int) (n : Nat) : f j (k + w * n) = f j k := by
  induction n with
  | zero => simp
  | succ n ih =>
    rw [show k + (w : Int) * ((n + 1 : Nat) : Int) = (k + w * n) + w by rw [Int.natCast_add, Int.mul_add]; simp; omega, p, ih]
theorem Per.mulZ {w : Nat} {f : Bd} (p : Per w f) (j : Nat) (k n : Int) : f j (k + w * n) = f j k := by
  cases n with
  | ofNat n => exact p.mul j k n
  | negSucc n =>
    have := p.mul j (k + w * Int.negSucc n) (n + 1)
    rw [← this]
    congr 1
    rw [Int.negSucc_eq, Int.add_assoc, ← Int.mul_add, show -((n : Int) + 1) + ((n + 1 : Nat) : Int) = 0 by omega, Int.mul_zero, Int.add_zero]
theorem Per.mod {w : Nat} {f : Bd} (p : Per w f) (j : Nat) (k : Int) : f j (k % w) = f j k := by
  have e := Int.emod_add_mul_ediv k w
  calc f j (k % w) = f j (k % w + w * (k / w)) := (p.mulZ j _ _).symm
    _ = f j k := by rw [e]
theorem Per.sh {w : Nat} {f : Bd} (p : Per w f) (s : Int) : Per w (sh s f) := fun j k => by
  unfold K14.sh
  rw [show k + (w : Int) - s = (k - s) + w by omega, p]
theorem Per.lr {w : Nat} {f : Bd} (p : Per w f) : Per w (lr w f) := fun j k => by
  unfold K14.lr
  rw [← p j ((w : Int) - 1 - (k + w))]
  congr 1
  omega
theorem Per.ud {w h : Nat} {f : Bd} (p : Per w f) : Per w (ud h f) := fun j k => p _ _
section
variable {h w : Nat} {f : Bd}
theorem E_shifted (hh : 1 ≤ h) (hw : 1 ≤ w) (h2 : h ≤ 60) (w2 : w ≤ 60) (p : Per w f) (s : Int) : F_shifted [bandD h w f, .int s] = .ok (bandD h w (sh s f)) := by
  refine run_rt (r := ([some (bandD h w f), some (.int s), some (.int w), none, none], [])) ?_ noL_band rfl
  unfold c_shifted
  refine ev_set (x := .int w) (ev_1 (x := rowD w (f 0)) (ev_op2 (ev_var rfl) rfl ?_) ?_) ?_
  · show opt (atI ((List.range h).map fun j => rowD w (f j)) 0) = _
    rw [atI_map (by omega) (by omega)]
    rfl
  · show Res.ok (D.int (((List.range w).map fun (k : Nat) => D.bl (f 0 k)).length)) = _
    rw [List.length_map, List.length_range]
  · refine ev_ret (ev_1 (x := .lst ((List.range h).map fun j => rowD w (sh s f j))) ?_ rfl)
    refine ev_lc (ev_seqT (ev_var rfl)) (by rw [List.length_range]; omega) fun j hj => ?_
    refine ev_1 (x := .lst ((List.range w).map fun (k : Nat) => .bl (sh s f j k))) ?_ rfl
    refine ev_lc (ev_rng1 (n := w) (ev_var rfl) (by omega)) (by rw [List.length_range]; omega) fun k hk => ?_
    refine ev_op2 (ev_var rfl) (ev_op2 (x := .int (k - s)) (ev_op2 (ev_var rfl) (ev_var rfl) rfl) (ev_var rfl) (r := .ok (.int ((k - s) % w))) ?_) ?_
    · show (do need (decide (0 < (w : Int))); Res.ok (D.int ((k - s) % w))) = _
      rw [need_dec (by omega)]
      rfl
    · show opt (atI ((List.range w).map fun (k : Nat) => D.bl (f j k)) (((k : Int) - s) % w)) = _
      have e0 : 0 ≤ ((k : Int) - s) % w := Int.emod_nonneg _ (by omega)
      rw [atI_map e0 (Int.emod_lt_of_pos _ (by omega))]
      show Res.ok (D.bl (f j (((((k : Int) - s) % w).toNat : Nat) : Int))) = Res.ok (D.bl (f j ((k : Int) - s)))
      rw [Int.toNat_of_nonneg e0, p.mod]
end
end L2.Th.K14

set_option Elab.async false
set_option linter.all false
set_option maxRecDepth 100000
set_option maxHeartbeats 4000000
namespace L2.Th
open PySem PySem.Spec PyProof.Rows
theorem eqDs_map {α : Type} {F G : α → D} : ∀ l : List α, eqDs (l.map F) (l.map G) = l.all fun x => eqD (F x) (G x)
  | [] => rfl
  | x :: l => by rw [List.map_cons, List.map_cons, List.all_cons, ← eqDs_map l]; rfl
theorem rev_rng {α : Type} {g : Nat → α} {n : Nat} : ((List.range n).map g).reverse = (List.range n).map fun k => g (n - 1 - k) := by
  refine List.ext_getElem (by simp) fun i h1 h2 => ?_
  simp at h1 h2
  simp [List.getElem_reverse]
section
variable {env : Env} {S : Store} {a b c : Code} {x y z : D} {i : Nat}
theorem ev_any {α : Type} {own : Nat} {cap : List Nat} {ic : ICode} {e : Code} {xs : List α} {G : α → D} {V : α → Bool} (hi : ic env S = .ok (.seq (xs.map G))) (he : ∀ q ∈ xs, e ((genS own cap env).set i (some (G q))) S = .ok (.bl (V q))) :
    cGenC fAnyG (cGen own cap ic fun env S => itR (gNm i) tYesC e env S) env S = .ok (.bl (xs.any V)) := by
  have key : ∀ ys : List α, (∀ q ∈ ys, e ((genS own cap env).set i (some (G q))) S = .ok (.bl (V q))) → anyL (gList (itR (gNm i) tYesC e (genS own cap env) S) (ys.map G)).1 (gList (itR (gNm i) tYesC e (genS own cap env) S) (ys.map G)).2 = .ok (ys.any V) := by
    intro ys
    induction ys with
    | nil => intro _; rfl
    | cons q ys ih =>
      intro h
      have e1 : itR (gNm i) tYesC e (genS own cap env) S (G q) = .ok (some (.bl (V q))) := by
        show (do let x ← e ((genS own cap env).set i (some (G q))) S; Res.ok (some x)) = _
        rw [h q List.mem_cons_self]
        rfl
      rw [List.map_cons]
      unfold gList
      rw [e1]
      show (if V q = true then Res.ok true else anyL _ _) = _
      rw [ih fun r hr => h r (List.mem_cons_of_mem _ hr), List.any_cons]
      cases V q <;> rfl
  unfold cGenC cGen
  rw [hi]
  show fAnyG (gList (itR (gNm i) tYesC e (genS own cap env) S) (xs.map G)) = _
  unfold fAnyG
  rw [key xs he]
  rfl
theorem ev_expr {r : Res SRes} {c2 : SCode} (h : a env S = .ok x) (k : c2 env S = r) : sSeq (sExpr a) c2 env S = r := by
  unfold sSeq sExpr
  rw [h]
  exact k
theorem ev_lenT {xs : List D} : fLen S (.tup xs) = .ok (.int xs.length) := rfl
theorem run_nx {N : Nat} {b : SCode} {ds : List D} {r : Env × Store} (h : b (ds.map some ++ List.replicate (N - ds.length) none) [] = .ok (.nx, r)) : runB N b ds = .ok .non := by
  unfold runB
  rw [h]
  rfl
theorem run_exn {N : Nat} {b : SCode} {ds : List D} {e : Exn} (h : b (ds.map some ++ List.replicate (N - ds.length) none) [] = .exn e) : runB N b ds = .exn e := by
  unfold runB
  rw [h]
  rfl
theorem ev_mod {m n : Int} (h : 0 < n) : opMod S (.int m) (.int n) = .ok (.int (m % n)) := by
  show (do need (decide (0 < n)); Res.ok (D.int (m % n))) = _
  rw [need_dec h]
  rfl
theorem ev_div {m n : Int} (h : 0 < n) (h2 : n < 1073741824) : opDiv S (.int m) (.int n) = .ok (.int (m / n)) := by
  show (do need (decide (0 < n) && decide (n < 1073741824)); Res.ok (D.int (m / n))) = _
  rw [decide_eq_true h, decide_eq_true h2]
  rfl
theorem ev_eqL (h1 : lay 60 (deref S x) = true) (h2 : lay 60 (deref S y) = true) : opEq S x y = .ok (.bl (eqD (deref S x) (deref S y))) := by
  unfold opEq
  rw [lay_nd h1, h1, h2]
  rfl
theorem ev_neL (h1 : lay 60 (deref S x) = true) (h2 : lay 60 (deref S y) = true) : opNe S x y = .ok (.bl (!eqD (deref S x) (deref S y))) := by
  unfold opNe
  rw [lay_nd h1, h1, h2]
  rfl
theorem nl_ints : ∀ xs : List Int, noLs (xs.map D.int) = true
  | [] => rfl
  | x :: xs => by rw [List.map_cons]; unfold noLs; rw [nl_ints xs]; rfl
theorem nl_nats : ∀ xs : List Nat, noLs (xs.map fun (i : Nat) => D.int (i : Int)) = true
  | [] => rfl
  | x :: xs => by rw [List.map_cons]; unfold noLs; rw [nl_nats xs]; rfl
theorem lay_nats (n : Nat) : ∀ xs : List Nat, (xs.map fun (i : Nat) => D.int (i : Int)).all (lay (n + 1)) = true
  | [] => rfl
  | x :: xs => by rw [List.map_cons, List.all_cons, lay_nats n xs]; rfl
theorem flat_nats : ∀ xs : List Nat, (xs.map fun (i : Nat) => D.int (i : Int)).all flatD = true
  | [] => rfl
  | x :: xs => by rw [List.map_cons, List.all_cons, flat_nats xs]; rfl
theorem ints_nats : ∀ xs : List Nat, intsOf (xs.map fun (i : Nat) => D.int (i : Int)) = some (xs.map fun (i : Nat) => (i : Int))
  | [] => rfl
  | x :: xs => by
    rw [List.map_cons]
    unfold intsOf
    rw [ints_nats xs]
    rfl
end
namespace K14
def eqB (h w : Nat) (f g : Bd) : Bool := (List.range h).all fun j => (List.range w).all fun k => f j k == g j k
theorem eqD_band {h w : Nat} {f g : Bd} : eqD (bandD h w f) (bandD h w g) = eqB h w f g := by
  unfold bandD eqB
  show eqDs _ _ = _
  rw [eqDs_map]
  congr 1
  funext j
  unfold rowD
  show eqDs _ _ = _
  rw [eqDs_map]
  rfl
theorem lay_row {w n : Nat} {r : Int → Bool} : lay (n + 2) (rowD w r) = true := by
  unfold rowD
  show List.all _ (lay (n + 1)) = true
  rw [List.all_map, List.all_eq_true]
  exact fun _ _ => rfl
theorem lay_band {h w n : Nat} {f : Bd} : lay (n + 3) (bandD h w f) = true := by
  unfold bandD
  show List.all _ (lay (n + 2)) = true
  rw [List.all_map, List.all_eq_true]
  exact fun _ _ => lay_row
theorem ev_eqBd {h w : Nat} {f g : Bd} {S : Store} : opEq S (bandD h w f) (bandD h w g) = .ok (.bl (eqB h w f g)) := by
  refine (ev_eqL (S := S) (x := bandD h w f) (y := bandD h w g) lay_band lay_band).trans ?_
  show Res.ok (D.bl (eqD (bandD h w f) (bandD h w g))) = _
  rw [eqD_band]
theorem ev_neBd {h w : Nat} {f g : Bd} {S : Store} : opNe S (bandD h w f) (bandD h w g) = .ok (.bl (!eqB h w f g)) := by
  refine (ev_neL (S := S) (x := bandD h w f) (y := bandD h w g) lay_band lay_band).trans ?_
  show Res.ok (D.bl (!eqD (bandD h w f) (bandD h w g))) = _
  rw [eqD_band]
def homesL (h w : Nat) (f t : Bd) : List Nat := (List.range w).filter fun s => eqB h w (sh s t) f
def homesT (h w : Nat) (f t : Bd) : D := .tup ((homesL h w f t).map fun (i : Nat) => .int i)
structure Ok (h w : Nat) (f : Bd) : Prop where
  h1 : 1 ≤ h
  w1 : 1 ≤ w
  h2 : h ≤ 60
  w2 : w ≤ 60
  p : Per w f
section
variable {h w : Nat} {f t : Bd}
theorem Ok.sh (o : Ok h w f) (s : Int) : Ok h w (sh s f) := ⟨o.h1, o.w1, o.h2, o.w2, o.p.sh s⟩
theorem Ok.lr (o : Ok h w f) : Ok h w (lr w f) := ⟨o.h1, o.w1, o.h2, o.w2, o.p.lr⟩
theorem Ok.ud (o : Ok h w f) : Ok h w (ud h f) := ⟨o.h1, o.w1, o.h2, o.w2, o.p.ud⟩
theorem ev_row0 (o : Ok h w f) {env : Env} {S : Store} {i : Nat} (e : env[i]? = some (some (bandD h w f))) : cOpN (op1 fLen) (aCons (cOp2 opIx (cVar i) (cK (.int 0))) aNil) env S = .ok (.int w) := by
  refine ev_1 (x := rowD w (f 0)) (ev_op2 (ev_var e) rfl ?_) ?_
  · show opt (atI ((List.range h).map fun j => rowD w (f j)) 0) = _
    rw [atI_map (by omega) (by have := o.h1; omega)]
    rfl
  · show Res.ok (D.int (((List.range w).map fun (k : Nat) => D.bl (f 0 k)).length)) = _
    rw [List.length_map, List.length_range]
theorem ev_high {env : Env} {S : Store} {i : Nat} (e : env[i]? = some (some (bandD h w f))) : cOpN (op1 fLen) (aCons (cVar i) aNil) env S = .ok (.int h) := by
  refine ev_1 (ev_var e) ?_
  show Res.ok (D.int (((List.range h).map fun j => rowD w (f j)).length)) = _
  rw [List.length_map, List.length_range]
theorem E_sh (o : Ok h w f) (s : Int) : F_shifted [bandD h w f, .int s] = .ok (bandD h w (K14.sh s f)) := E_shifted o.h1 o.w1 o.h2 o.w2 o.p s
theorem E_lr (o : Ok h w f) : F_left_right [bandD h w f] = .ok (bandD h w (K14.lr w f)) := by
  refine run_rt (r := ([some (bandD h w f), none], [])) ?_ noL_band rfl
  unfold c_left_right
  refine ev_ret (ev_1 (x := .lst ((List.range h).map fun j => rowD w (K14.lr w f j))) ?_ rfl)
  refine ev_lc (ev_seqT (ev_var rfl)) (by rw [List.length_range]; have := o.h2; omega) fun j hj => ?_
  show Res.ok (D.tup ((List.range w).map fun (k : Nat) => D.bl (f j k)).reverse) = _
  rw [rev_rng]
  unfold rowD K14.lr
  refine congrArg (fun l => Res.ok (D.tup l)) (List.map_congr_left fun k hk => ?_)
  have := List.mem_range.mp hk
  rw [show ((w - 1 - k : Nat) : Int) = (w : Int) - 1 - k by omega]
theorem E_ud (o : Ok h w f) : F_up_down [bandD h w f] = .ok (bandD h w (K14.ud h f)) := by
  refine run_rt (r := ([some (bandD h w f)], [])) ?_ noL_band rfl
  unfold c_up_down
  refine ev_ret ?_
  show Res.ok (D.tup ((List.range h).map fun j => rowD w (f j)).reverse) = _
  rw [rev_rng]
  rfl
theorem E_check (o : Ok h w f) : F_check_picture [bandD h w f] = .ok .non := by
  refine run_nx (r := ([some (bandD h w f)], [])) ?_
  unfold c_check_picture
  have h1 := o.h1
  have w1 := o.w1
  refine ev_if (k := false) (ev_orT (k := false) (l := false) (ev_val (ev_op2 (ev_high rfl) rfl ?_)) fun _ => ev_orT (k := false) (l := false) (ev_val (ev_op2 (ev_row0 o rfl) rfl ?_)) fun _ => ev_tru (x := .bl ((List.range h).any fun _ => false)) (ev_any (ev_seqT (ev_var rfl)) fun j hj => ?_) ?_) (fun z => by cases z) fun _ => rfl
  · show Res.ok (D.bl ((h : Int) == 0)) = _
    rw [show ((h : Int) == 0) = false by simp; omega]
  · show Res.ok (D.bl ((w : Int) == 0)) = _
    rw [show ((w : Int) == 0) = false by simp; omega]
  · refine ev_op2 (x := .int w) (ev_1 (ev_var rfl) ?_) (ev_row0 o rfl) ?_
    · show Res.ok (D.int (((List.range w).map fun (k : Nat) => D.bl (f j k)).length)) = _
      rw [List.length_map, List.length_range]
    · show Res.ok (D.bl (!((w : Int) == (w : Int)))) = _
      simp
  · show some ((List.range h).any fun _ => false) = some false
    simp
theorem E_homes (o : Ok h w f) (o2 : Ok h w t) : F_homes [bandD h w f, bandD h w t] = .ok (homesT h w f t) := by
  have hn : noL (homesT h w f t) = true := by
    unfold homesT noL
    exact nl_nats _
  refine run_rt (r := ([some (bandD h w f), some (bandD h w t), none], [])) ?_ hn rfl
  unfold c_homes
  have w2 := o.w2
  refine ev_ret (ev_1 (x := .lst ((homesL h w f t).map fun (i : Nat) => .int i)) ?_ rfl)
  refine ev_lcF (ev_rng1 (ev_row0 o rfl) (by omega)) (by rw [List.length_range]; omega) (fun s hs => ?_) fun s hs _ => ev_var rfl
  exact ev_val (ev_op2 (ev_c2 (ev_var rfl) (ev_var rfl) noL_band rfl (E_sh o2 s)) (ev_var rfl) ev_eqBd)
end
end K14
end L2.Th

set_option Elab.async false
set_option linter.all false
set_option maxRecDepth 100000
set_option maxHeartbeats 4000000
namespace L2.Th
open PySem PySem.Spec PyProof.Rows
namespace K14
theorem eqB_iff {h w : Nat} {f g : Bd} (w1 : 1 ≤ w) (pf : Per w f) (pg : Per w g) : eqB h w f g = true ↔ ∀ j, j < h → ∀ k : Int, f j k = g j k := by
  unfold eqB
  simp only [List.all_eq_true, List.mem_range, beq_iff_eq]
  refine ⟨fun q j hj k => ?_, fun q j hj k _ => q j hj k⟩
  have e0 : 0 ≤ k % (w : Int) := Int.emod_nonneg _ (by omega)
  have e1 : k % (w : Int) < w := Int.emod_lt_of_pos _ (by omega)
  have := q j hj (k % (w : Int)).toNat (by omega)
  rw [Int.toNat_of_nonneg e0, pf.mod, pg.mod] at this
  exact this
def stepsN (h w : Nat) (f : Bd) : List Nat := ((List.range w).filter fun i => eqB h w (sh ((1 + i : Nat) : Int) f) f).map (1 + ·)
def st (h w : Nat) (f : Bd) : Nat := (stepsN h w f).headD 0
section
variable {h w : Nat} {f t : Bd}
theorem mem_steps (o : Ok h w f) {n : Nat} : n ∈ stepsN h w f ↔ 1 ≤ n ∧ n ≤ w ∧ ∀ j, j < h → ∀ k : Int, f j (k - n) = f j k := by
  unfold stepsN
  simp only [List.mem_map, List.mem_filter, List.mem_range]
  constructor
  · rintro ⟨i, ⟨h1, h2⟩, rfl⟩
    exact ⟨by omega, by omega, (eqB_iff o.w1 (o.p.sh _) o.p).mp h2⟩
  · rintro ⟨h1, h2, h3⟩
    refine ⟨n - 1, ⟨by omega, ?_⟩, by omega⟩
    rw [show 1 + (n - 1) = n by omega]
    exact (eqB_iff o.w1 (o.p.sh _) o.p).mpr h3
theorem w_mem (o : Ok h w f) : w ∈ stepsN h w f := (mem_steps o).mpr ⟨o.w1, Nat.le_refl _, fun j _ k => by
  have := o.p j (k - w)
  rw [show k - (w : Int) + w = k by omega] at this
  exact this.symm⟩
theorem steps_sorted : (stepsN h w f).Pairwise (· < ·) := by
  unfold stepsN
  refine List.Pairwise.map _ (fun a b (q : a < b) => (by omega : 1 + a < 1 + b)) ?_
  exact List.Pairwise.filter _ List.pairwise_lt_range
theorem st_cons (o : Ok h w f) : ∃ r, stepsN h w f = st h w f :: r := by
  have := w_mem o
  unfold st
  cases e : stepsN h w f with
  | nil => rw [e] at this; cases this
  | cons x r => exact ⟨r, rfl⟩
theorem st_mem (o : Ok h w f) : st h w f ∈ stepsN h w f := by
  obtain ⟨r, e⟩ := st_cons o
  rw [e]
  exact List.mem_cons_self
theorem st_least (o : Ok h w f) {n : Nat} (hn : n ∈ stepsN h w f) : st h w f ≤ n := by
  obtain ⟨r, e⟩ := st_cons o
  have s := steps_sorted (h := h) (w := w) (f := f)
  rw [e] at s hn
  rcases List.mem_cons.mp hn with z | z
  · omega
  · exact Nat.le_of_lt ((List.pairwise_cons.mp s).1 n z)
theorem min_nats : ∀ {x : Nat} {xs : List Nat}, (∀ y ∈ xs, x ≤ y) → (xs.map fun (i : Nat) => (i : Int)).foldl min (x : Int) = x
  | _, [], _ => rfl
  | x, y :: xs, hx => by
    rw [List.map_cons, List.foldl_cons, Int.min_eq_left (by have := hx y List.mem_cons_self; omega)]
    exact min_nats fun z hz => hx z (List.mem_cons_of_mem _ hz)
theorem E_step_of (o : Ok h w f) : F_step_of [bandD h w f] = .ok (.int (st h w f)) := by
  refine run_rt (r := ([some (bandD h w f), some (.int w), none], [])) ?_ rfl rfl
  unfold c_step_of
  have w2 := o.w2
  refine ev_expr (ev_c1 (ev_var rfl) noL_band (E_check o)) (ev_set (ev_row0 o rfl) (ev_ret (ev_1 (x := .lst ((stepsN h w f).map fun (i : Nat) => .int i)) ?_ ?_)))
  · have := ev_lcF (own := [2]) (i := 2) (S := []) (env := [some (bandD h w f), some (.int w), none]) (ic := iRange2 (aCons (cK (.int 1)) (aCons (cOp2 opAdd (cVar 1) (cK (.int 1))) aNil)))
      (t := tVal (cOp2 opEq (cCall 2 F_shifted (aCons (cVar 0) (aCons (cVar 2) aNil))) (cVar 0))) (e := cVar 2) (p := fun i => eqB h w (sh ((1 + i : Nat) : Int) f) f) (V := fun (i : Nat) => .int ((1 + i : Nat) : Int))
      (ev_rng2 (m := 1) (n := w + 1) rfl rfl (by omega) (by omega)) (by rw [List.length_range]; omega) (fun i hi => ev_val (ev_op2 (ev_c2 (ev_var rfl) (ev_var rfl) noL_band rfl (E_sh o _)) (ev_var rfl) ev_eqBd)) fun i hi _ => ev_var rfl
    refine this.trans ?_
    unfold stepsN
    rw [List.map_map, Nat.add_sub_cancel]
    rfl
  · obtain ⟨r, e⟩ := st_cons o
    have hm : ∀ y ∈ r, st h w f ≤ y := fun y hy => st_least o (by rw [e]; exact List.mem_cons_of_mem _ hy)
    show (do let ns ← opt (intsOf ((stepsN h w f).map fun (i : Nat) => D.int (i : Int))); let m ← opt (minI ns); Res.ok (D.int m)) = _
    rw [ints_nats, e]
    show Res.ok (D.int ((r.map fun (i : Nat) => (i : Int)).foldl min ((st h w f : Nat) : Int))) = _
    rw [min_nats hm]
/-! the law's own -/
theorem loop_flat : ∀ (l : List (List D)) (acc : List D) (x : D) (o : Option D), acc.length + l.flatten.length ≤ 4096 →
    ∃ o', loopSeq (gNm 2) (sAsg (cOp2 opAdd (cVar 1) (cVar 2)) (gNm 1)) (l.map D.lst) [some x, some (.lst acc), o] [] = .ok (.nx, [some x, some (.lst (acc ++ l.flatten)), o'], [])
  | [], acc, x, o, _ => ⟨o, by rw [List.flatten_nil, List.append_nil]; rfl⟩
  | y :: l, acc, x, o, hl => by
    rw [List.flatten_cons, List.length_append] at hl
    obtain ⟨o', ih⟩ := loop_flat l (acc ++ y) x (some (.lst y)) (by rw [List.length_append]; omega)
    refine ⟨o', ?_⟩
    have e1 : sAsg (cOp2 opAdd (cVar 1) (cVar 2)) (gNm 1) [some x, some (.lst acc), some (.lst y)] [] = .ok (.nx, [some x, some (.lst (acc ++ y)), some (.lst y)], []) := by
      have : cOp2 opAdd (cVar 1) (cVar 2) [some x, some (.lst acc), some (.lst y)] [] = .ok (.lst (acc ++ y)) := by
        refine ev_op2 (ev_var rfl) (ev_var rfl) ?_
        show (do need (decide (acc.length + y.length ≤ sizeLine)); Res.ok (D.lst (acc ++ y))) = _
        rw [need_dec (Nat.le_trans (show acc.length + y.length ≤ 4096 by omega) line_big)]
        rfl
      unfold sAsg
      rw [this]
      rfl
    rw [List.map_cons]
    unfold loopSeq
    show (sAsg (cOp2 opAdd (cVar 1) (cVar 2)) (gNm 1) [some x, some (.lst acc), some (.lst y)] [] >>= _) = _
    rw [e1]
    show loopSeq _ _ (l.map D.lst) [some x, some (.lst (acc ++ y)), some (.lst y)] [] = _
    rw [ih, List.flatten_cons, List.append_assoc]
theorem nl_flat : ∀ {l : List (List D)}, noLs (l.map D.lst) = true → noLs l.flatten = true
  | [], _ => rfl
  | y :: l, q => by
    rw [List.map_cons] at q
    unfold noLs at q
    obtain ⟨q1, q2⟩ := b2 q
    have ih := nl_flat q2
    rw [List.flatten_cons]
    unfold noL at q1
    have app : ∀ a b : List D, noLs a = true → noLs b = true → noLs (a ++ b) = true := fun a b ha hb => by
      induction a with
      | nil => exact hb
      | cons x a ia =>
        unfold noLs at ha
        obtain ⟨z1, z2⟩ := b2 ha
        rw [List.cons_append]
        unfold noLs
        rw [z1, ia z2]
        rfl
    exact app _ _ q1 ih
theorem E_flat {l : List (List D)} (hl : l.flatten.length ≤ 4096) (hn : noLs (l.map D.lst) = true) : F_law_flat [.lst (l.map D.lst)] = .ok (.lst l.flatten) := by
  obtain ⟨o', e⟩ := loop_flat l [] (.lst (l.map D.lst)) none (by simpa using hl)
  have hN : noL (.lst l.flatten) = true := by
    unfold noL
    exact nl_flat hn
  refine run_rt (r := ([some (.lst (l.map D.lst)), some (.lst l.flatten), o'], [])) ?_ hN rfl
  unfold c_law_flat
  refine ev_set ev_lst0 ?_
  unfold sSeq sFor
  show (loopSeq (gNm 2) (sAsg (cOp2 opAdd (cVar 1) (cVar 2)) (gNm 1)) (l.map D.lst) [some (.lst (l.map D.lst)), some (.lst []), none] [] >>= _) = _
  rw [e]
  rfl
end
end K14
end L2.Th

set_option Elab.async false
set_option linter.all false
set_option maxRecDepth 100000
set_option maxHeartbeats 4000000
namespace L2.Th
open PySem PySem.Spec PyProof.Rows
namespace K14
section
variable {h w : Nat} {f t : Bd}
/-- where row j of t, moved, differs from f -/
def dif (w : Nat) (f t : Bd) (s j : Nat) : List Nat := (List.range w).filter fun k => t j ((k : Int) - s) != f j k
def ones (l : List Nat) : List D := l.map fun _ => .int 1
theorem flat_le {α : Type} {m : Nat} : ∀ {l : List (List α)}, (∀ x ∈ l, x.length ≤ m) → l.flatten.length ≤ l.length * m
  | [], _ => by simp
  | x :: l, q => by
    have := flat_le fun y hy => q y (List.mem_cons_of_mem _ hy)
    have := q x List.mem_cons_self
    rw [List.flatten_cons, List.length_append, List.length_cons, Nat.succ_mul]
    omega
theorem nl_ones : ∀ l : List Nat, noLs (ones l) = true
  | [] => rfl
  | x :: l => by
    show noLs (.int 1 :: ones l) = true
    unfold noLs
    rw [nl_ones l]
    rfl
theorem nl_rows (g : Nat → List Nat) : ∀ l : List Nat, noLs ((l.map fun j => ones (g j)).map D.lst) = true
  | [] => rfl
  | x :: l => by
    rw [List.map_cons, List.map_cons]
    unfold noLs
    rw [nl_rows g l]
    show (noLs (ones (g x)) && true) = true
    rw [nl_ones]
    rfl
theorem lay_ones {n : Nat} : ∀ l : List (List D), (∀ x ∈ l, ∃ m, x = ones m) → l.flatten.all (lay (n + 1)) = true := fun l q => by
  rw [List.all_eq_true]
  intro d hd
  obtain ⟨x, hx, hd⟩ := List.mem_flatten.mp hd
  obtain ⟨m, rfl⟩ := q x hx
  unfold ones at hd
  obtain ⟨_, _, rfl⟩ := List.mem_map.mp hd
  rfl
theorem emp_flat (o : Ok h w f) (o2 : Ok h w t) (s : Nat) : ((List.range h).map fun j => ones (dif w f t s j)).flatten.isEmpty = eqB h w (sh s t) f := by
  rw [Bool.eq_iff_iff]
  constructor
  · intro e
    unfold eqB
    simp only [List.all_eq_true, List.mem_range, beq_iff_eq]
    intro j hj k hk
    have e := List.isEmpty_iff.mp e
    rw [List.flatten_eq_nil_iff] at e
    have := e _ (List.mem_map.mpr ⟨j, List.mem_range.mpr hj, rfl⟩)
    unfold ones at this
    have := List.map_eq_nil_iff.mp this
    unfold dif at this
    rw [List.filter_eq_nil_iff] at this
    have := this k (List.mem_range.mpr hk)
    simpa [sh] using this
  · intro e
    unfold eqB at e
    simp only [List.all_eq_true, List.mem_range, beq_iff_eq] at e
    rw [List.isEmpty_iff, List.flatten_eq_nil_iff]
    intro l hl
    obtain ⟨j, hj, rfl⟩ := List.mem_map.mp hl
    have hj := List.mem_range.mp hj
    have : dif w f t s j = [] := by
      unfold dif
      rw [List.filter_eq_nil_iff]
      intro k hk
      have := e j hj k (List.mem_range.mp hk)
      simpa [sh] using this
    rw [this]
    rfl
theorem ev_cell (o : Ok h w f) {env : Env} {S : Store} {i : Nat} {a b : Code} {j : Nat} {k : Int} (e : env[i]? = some (some (bandD h w f))) (ha : a env S = .ok (.int j)) (hb : b env S = .ok (.int k)) (hj : j < h) (h0 : 0 ≤ k) (h1 : k < w) :
    cOp2 opIx (cOp2 opIx (cVar i) a) b env S = .ok (.bl (f j k)) := by
  refine ev_op2 (x := rowD w (f j)) (ev_op2 (ev_var e) ha ?_) hb ?_
  · show opt (atI ((List.range h).map fun j => rowD w (f j)) (j : Int)) = _
    rw [atI_map (by omega) (by omega), Int.toNat_natCast]
    rfl
  · show opt (atI ((List.range w).map fun (k : Nat) => D.bl (f j k)) k) = _
    rw [atI_map h0 h1]
    show Res.ok (D.bl (f j ((k.toNat : Nat) : Int))) = _
    rw [Int.toNat_of_nonneg h0]
theorem E_law_home (o : Ok h w f) (o2 : Ok h w t) : F_law_home [bandD h w f, bandD h w t] = .ok (.lst ((homesL h w f t).map fun (i : Nat) => .int i)) := by
  have hn : noL (.lst ((homesL h w f t).map fun (i : Nat) => .int i)) = true := by
    unfold noL
    exact nl_nats _
  have w1 := o.w1
  have w2 := o.w2
  have h2 := o.h2
  refine run_rt (r := ([some (bandD h w f), some (bandD h w t), some (.int w), none, none, none], [])) ?_ hn rfl
  unfold c_law_home
  refine ev_set (ev_row0 o rfl) (ev_ret ?_)
  refine ev_lcF (ev_rng1 (ev_var rfl) (by omega)) (by rw [List.length_range]; omega) (fun s hs => ?_) fun s hs _ => ev_var rfl
  refine ev_val (ev_op2 (x := .lst ((List.range h).map fun j => ones (dif w f t s j)).flatten) (ev_c1 (x := .lst (((List.range h).map fun j => ones (dif w f t s j)).map D.lst)) ?_ ?_ ?_) ev_lst0 ?_)
  · rw [List.map_map]
    refine ev_lc (ev_rng1 (ev_high rfl) (by omega)) (by rw [List.length_range]; omega) fun j hj => ?_
    have hj := List.mem_range.mp hj
    refine ev_lcF (ev_rng1 (ev_var rfl) (by omega)) (by rw [List.length_range]; omega) (fun k hk => ?_) fun k hk _ => rfl
    have hk := List.mem_range.mp hk
    refine ev_val (ev_op2 (ev_cell o2 rfl (ev_var rfl) (ev_op2 (x := .int ((k : Int) - s)) (ev_op2 (ev_var rfl) (ev_var rfl) rfl) (ev_var rfl) (ev_mod (by omega))) hj (Int.emod_nonneg _ (by omega)) (Int.emod_lt_of_pos _ (by omega))) (ev_cell o rfl (ev_var rfl) (ev_var rfl) hj (by omega) (by omega)) ?_)
    show Res.ok (D.bl (!(t j (((k : Int) - s) % w) == f j k))) = _
    rw [o2.p.mod]
    rfl
  · show noLs _ = true
    exact nl_rows _ _
  · refine E_flat ?_ (nl_rows _ _)
    have := flat_le (m := 60) (l := (List.range h).map fun j => ones (dif w f t s j)) (fun x hx => by
      obtain ⟨j, _, rfl⟩ := List.mem_map.mp hx
      unfold ones dif
      rw [List.length_map]
      exact Nat.le_trans (List.length_filter_le _ _) (by rw [List.length_range]; exact w2))
    rw [List.length_map, List.length_range] at this
    omega
  · refine (ev_eqL (x := .lst ((List.range h).map fun j => ones (dif w f t s j)).flatten) (y := .lst []) ?_ rfl).trans ?_
    · show List.all _ (lay 59) = true
      exact lay_ones _ fun x hx => by
        obtain ⟨j, _, rfl⟩ := List.mem_map.mp hx
        exact ⟨_, rfl⟩
    · show Res.ok (D.bl (eqDs _ [])) = _
      rw [← emp_flat o o2 s]
      cases ((List.range h).map fun j => ones (dif w f t s j)).flatten <;> rfl
end
end K14
end L2.Th

set_option Elab.async false
set_option linter.all false
set_option maxRecDepth 100000
set_option maxHeartbeats 4000000
namespace L2.Th
open PySem PySem.Spec PyProof.Rows
section
variable {env : Env} {S : Store} {a b c : Code} {x y z : D} {i : Nat}
theorem ev_and {k l : Bool} (h : a env S = .ok (.bl k)) (h2 : k = true → b env S = .ok (.bl l)) : cAnd a b env S = .ok (.bl (k && l)) := by
  unfold cAnd
  rw [h]
  show (if k = true then b env S else Res.ok (D.bl k)) = _
  cases k with
  | true => rw [if_pos rfl, h2 rfl]; rfl
  | false => rfl
theorem ev_new {r : Res SRes} {c2 : SCode} {kvs : List (D × D)} (h : a env S = .ok (.dct kvs)) (k : c2 (env.set i (some (.loc S.length))) (S ++ [.dct kvs]) = r) : sSeq (sNew i a) c2 env S = r := by
  unfold sSeq sNew
  rw [h]
  exact k
theorem run_loc {N : Nat} {b : SCode} {ds : List D} {e : Env} {kvs : List (D × D)} (h : b (ds.map some ++ List.replicate (N - ds.length) none) [] = .ok (.rt (.loc 0), e, [.dct kvs])) (hn : noLk kvs = true) : runB N b ds = .ok (.dct kvs) := by
  unfold runB
  rw [h]
  show opt (if noLk kvs = true then some (D.dct kvs) else none) = _
  rw [if_pos hn]
  rfl
end
namespace K14
def turnsK (a b c d : Bool) : List (D × D) := [(.str "upright", .bl a), (.str "midline", .bl b), (.str "glide", .bl c), (.str "half turn", .bl d)]
def turnsD (a b c d : Bool) : D := .dct (turnsK a b c d)
theorem merge_t (a b c : D) : mergeD [] [(.inr "upright", a), (.inr "midline", b), (.inr "glide", c)] = [(.str "upright", a), (.str "midline", b), (.str "glide", c)] := by kernel_rfl
theorem merge_u (a b c d : D) : mergeD [] [(.inr "upright", a), (.inr "midline", b), (.inr "glide", c), (.inr "half turn", d)] = [(.str "upright", a), (.str "midline", b), (.str "glide", c), (.str "half turn", d)] := by kernel_rfl
theorem put_t (a b c d : D) : putD [(.str "upright", a), (.str "midline", b), (.str "glide", c)] (.inr "half turn") d = [(.str "upright", a), (.str "midline", b), (.str "glide", c), (.str "half turn", d)] := by kernel_rfl
theorem ix_up {S : Store} (a b c d : Bool) : opIx S (turnsD a b c d) (.str "upright") = .ok (.bl a) := by kernel_rfl
theorem ix_mi {S : Store} (a b c d : Bool) : opIx S (turnsD a b c d) (.str "midline") = .ok (.bl b) := by kernel_rfl
theorem ix_gl {S : Store} (a b c d : Bool) : opIx S (turnsD a b c d) (.str "glide") = .ok (.bl c) := by kernel_rfl
theorem ix_ht {S : Store} (a b c d : Bool) : opIx S (turnsD a b c d) (.str "half turn") = .ok (.bl d) := by kernel_rfl
section
variable {h w : Nat} {f t : Bd}
def upB (h w : Nat) (f : Bd) : Bool := !(homesL h w f (lr w f)).isEmpty
def miB (h w : Nat) (f : Bd) : Bool := (homesL h w f (ud h f)).any fun (i : Nat) => (i : Int) == 0
def glB (h w : Nat) (f : Bd) : Bool := ((homesL h w f (ud h f)).any fun (i : Nat) => !(((i : Int) % (st h w f : Int)) == 0)) && !miB h w f
def htB (h w : Nat) (f : Bd) : Bool := !(homesL h w f (ud h (lr w f))).isEmpty
theorem ne_homes {S : Store} : opNe S (homesT h w f t) (.tup []) = .ok (.bl (!(homesL h w f t).isEmpty)) := by
  refine (ev_neL (x := homesT h w f t) (y := .tup []) ?_ rfl).trans ?_
  · show List.all _ (lay 59) = true
    exact lay_nats 58 _
  · show Res.ok (D.bl (!eqDs _ [])) = _
    cases homesL h w f t <;> rfl
theorem notin_homes {S : Store} : opNotIn S (.int 0) (homesT h w f t) = .ok (.bl (!((homesL h w f t).any fun (i : Nat) => (i : Int) == 0))) := by
  show (do let b ← (do need (true && ((homesL h w f t).map fun (i : Nat) => D.int (i : Int)).all flatD); Res.ok (((homesL h w f t).map fun (i : Nat) => D.int (i : Int)).any fun z => eqD z (.int 0))); Res.ok (D.bl (!b))) = _
  rw [flat_nats, List.any_map]
  rfl
theorem in_homes {S : Store} : opIn S (.int 0) (homesT h w f t) = .ok (.bl ((homesL h w f t).any fun (i : Nat) => (i : Int) == 0)) := by
  show (do let b ← (do need (true && ((homesL h w f t).map fun (i : Nat) => D.int (i : Int)).all flatD); Res.ok (((homesL h w f t).map fun (i : Nat) => D.int (i : Int)).any fun z => eqD z (.int 0))); Res.ok (D.bl b)) = _
  rw [flat_nats, List.any_map]
  rfl
theorem nl_homes : noL (homesT h w f t) = true := by
  unfold homesT noL
  exact nl_nats _
theorem st_pos (o : Ok h w f) : 1 ≤ st h w f := ((mem_steps o).mp (st_mem o)).1
theorem E_turns (o : Ok h w f) : F_turns [bandD h w f] = .ok (turnsD (upB h w f) (miB h w f) (glB h w f) (htB h w f)) := by
  refine run_loc (kvs := turnsK (upB h w f) (miB h w f) (glB h w f) (htB h w f)) (e := [some (bandD h w f), some (homesT h w f (ud h f)), some (.bl (glB h w f)), some (.loc 0), some (.int (st h w f))]) ?_ rfl
  unfold c_turns
  have hs := st_pos o
  refine ev_expr (ev_c1 (ev_var rfl) noL_band (E_check o)) (ev_set (ev_c1 (ev_var rfl) noL_band (E_step_of o)) (ev_set (ev_c2 (ev_var rfl) (ev_c1 (ev_var rfl) noL_band (E_ud o)) noL_band noL_band (E_homes o o.ud)) (ev_set (x := .bl (glB h w f)) (ev_and (k := (homesL h w f (ud h f)).any fun (i : Nat) => !(((i : Int) % (st h w f : Int)) == 0)) (l := !miB h w f) ?_ fun _ => ev_op2 rfl (ev_var rfl) notin_homes) ?_)))
  · refine ev_any (ev_seqT (ev_var rfl)) fun q hq => ev_op2 (ev_op2 (ev_var rfl) (ev_var rfl) (ev_mod (by omega))) rfl rfl
  · have e1 : (kCons (cK (.str "upright")) (cOp2 opNe (cCall 2 F_homes (aCons (cVar 0) (aCons (cCall 1 F_left_right (aCons (cVar 0) aNil)) aNil))) (cTup aNil)) (kCons (cK (.str "midline")) (cOp2 opIn (cK (.int 0)) (cVar 1)) (kCons (cK (.str "glide")) (cVar 2) kNil)))
        [some (bandD h w f), some (homesT h w f (ud h f)), some (.bl (glB h w f)), none, some (.int (st h w f))] [] = .ok [(.inr "upright", .bl (upB h w f)), (.inr "midline", .bl (miB h w f)), (.inr "glide", .bl (glB h w f))] := by
      have a1 : cOp2 opNe (cCall 2 F_homes (aCons (cVar 0) (aCons (cCall 1 F_left_right (aCons (cVar 0) aNil)) aNil))) (cTup aNil) [some (bandD h w f), some (homesT h w f (ud h f)), some (.bl (glB h w f)), none, some (.int (st h w f))] [] = .ok (.bl (upB h w f)) :=
        ev_op2 (ev_c2 (ev_var rfl) (ev_c1 (ev_var rfl) noL_band (E_lr o)) noL_band noL_band (E_homes o o.lr)) (y := .tup []) rfl ne_homes
      have a2 : cOp2 opIn (cK (.int 0)) (cVar 1) [some (bandD h w f), some (homesT h w f (ud h f)), some (.bl (glB h w f)), none, some (.int (st h w f))] [] = .ok (.bl (miB h w f)) := ev_op2 rfl (ev_var rfl) in_homes
      unfold kCons
      rw [a1, a2]
      rfl
    refine ev_new (kvs := [(.str "upright", .bl (upB h w f)), (.str "midline", .bl (miB h w f)), (.str "glide", .bl (glB h w f))]) ?_ ?_
    · unfold cDisp
      refine (congrArg (fun z => (z >>= fun q => (do need (decide (q.length ≤ 15)); Res.ok (D.dct (mergeD [] q))) : Res D)) e1).trans ?_
      show Res.ok (D.dct (mergeD [] [(.inr "upright", D.bl (upB h w f)), (.inr "midline", .bl (miB h w f)), (.inr "glide", .bl (glB h w f))])) = _
      rw [merge_t]
    · have a3 : cOp2 opNe (cCall 2 F_homes (aCons (cVar 0) (aCons (cCall 1 F_up_down (aCons (cCall 1 F_left_right (aCons (cVar 0) aNil)) aNil)) aNil))) (cTup aNil) [some (bandD h w f), some (homesT h w f (ud h f)), some (.bl (glB h w f)), some (.loc 0), some (.int (st h w f))] [.dct [(.str "upright", .bl (upB h w f)), (.str "midline", .bl (miB h w f)), (.str "glide", .bl (glB h w f))]] = .ok (.bl (htB h w f)) :=
        ev_op2 (ev_c2 (ev_var rfl) (ev_c1 (ev_c1 (ev_var rfl) noL_band (E_lr o)) noL_band (E_ud o.lr)) noL_band noL_band (E_homes o o.lr.ud)) (y := .tup []) rfl ne_homes
      show sSeq (sDput _ _ _) _ [some (bandD h w f), some (homesT h w f (ud h f)), some (.bl (glB h w f)), some (.loc 0), some (.int (st h w f))] [.dct [(.str "upright", .bl (upB h w f)), (.str "midline", .bl (miB h w f)), (.str "glide", .bl (glB h w f))]] = _
      unfold sSeq sDput
      rw [a3]
      show sRet (cVar 3) _ [.dct (putD [(.str "upright", .bl (upB h w f)), (.str "midline", .bl (miB h w f)), (.str "glide", .bl (glB h w f))] (.inr "half turn") (.bl (htB h w f)))] = _
      rw [put_t]
      rfl
def sortX (a b c d : Bool) : Str := if b then (if a then "all" else "midline") else if a then (if d then "uprights and glides" else "uprights") else if d then "half turns" else if c then "glides" else "steps"
theorem sort_code (a b c d : Bool) (x : D) : (sSeq (sIf (tTru (cOp2 opIx (cVar 1) (cK (.str "midline"))))
  (sRet (cIf (tTru (cOp2 opIx (cVar 1) (cK (.str "upright")))) (cK (.str "all")) (cK (.str "midline"))))
  sNext)
  (sSeq (sIf (tTru (cOp2 opIx (cVar 1) (cK (.str "upright"))))
  (sRet (cIf (tTru (cOp2 opIx (cVar 1) (cK (.str "half turn")))) (cK (.str "uprights and glides")) (cK (.str "uprights"))))
  sNext)
  (sSeq (sIf (tTru (cOp2 opIx (cVar 1) (cK (.str "half turn"))))
  (sRet (cK (.str "half turns")))
  sNext)
  (sRet (cIf (tTru (cOp2 opIx (cVar 1) (cK (.str "glide")))) (cK (.str "glides")) (cK (.str "steps"))))))) [some x, some (turnsD a b c d)] [] = .ok (.rt (.str (sortX a b c d)), [some x, some (turnsD a b c d)], []) := by
  cases a <;> cases b <;> cases c <;> cases d <;> kernel_rfl
def sortB (h w : Nat) (f : Bd) : Str := sortX (upB h w f) (miB h w f) (glB h w f) (htB h w f)
theorem E_sort (o : Ok h w f) : F_sort_of [bandD h w f] = .ok (.str (sortB h w f)) := by
  refine run_rt (r := ([some (bandD h w f), some (turnsD (upB h w f) (miB h w f) (glB h w f) (htB h w f))], [])) ?_ rfl rfl
  unfold c_sort_of
  exact ev_set (ev_c1 (ev_var rfl) noL_band (E_turns o)) (sort_code _ _ _ _ _)
end
end K14
end L2.Th

set_option Elab.async false
set_option linter.all false
set_option maxRecDepth 100000
set_option maxHeartbeats 4000000
namespace L2.Th
open PySem PySem.Spec PyProof.Rows
section
variable {env : Env} {S : Store} {a b c : Code} {x y z : D} {i : Nat}
theorem ev_cons {r : ACode} {xs : List D} (h : a env S = .ok x) (h2 : r env S = .ok xs) : aCons a r env S = .ok (x :: xs) := by unfold aCons; rw [h, Res.ok_bind, h2]; rfl
theorem ev_nil : aNil env S = .ok [] := rfl
theorem ev_tupA {ac : ACode} {xs : List D} (h : ac env S = .ok xs) (hl : xs.length ≤ 4096) : cTup ac env S = .ok (.tup xs) := by
  unfold cTup
  rw [h, Res.ok_bind, need_dec (Nat.le_trans hl line_big)]
  rfl
theorem ev_lstA {ac : ACode} {xs : List D} (h : ac env S = .ok xs) (hl : xs.length ≤ 4096) : cLst ac env S = .ok (.lst xs) := by
  unfold cLst
  rw [h, Res.ok_bind, need_dec (Nat.le_trans hl line_big)]
  rfl
theorem ev_for {ic : ICode} {g : GCode} {b : SCode} {ds : List D} {r : Res SRes} (hi : ic env S = .ok (.seq ds)) (h : loopSeq g b ds env S = r) : sFor ic g b env S = r := by
  unfold sFor
  rw [hi]
  exact h
theorem ev_seqS {s t : SCode} {e1 : Env} {S1 : Store} {r : Res SRes} (h : s env S = .ok (.nx, e1, S1)) (k : t e1 S1 = r) : sSeq s t env S = r := by
  unfold sSeq
  rw [h]
  exact k
theorem ev_seqR {s t : SCode} {e1 : Env} {S1 : Store} (h : s env S = .ok (.rt x, e1, S1)) : sSeq s t env S = .ok (.rt x, e1, S1) := by
  unfold sSeq
  rw [h]
  rfl
/-- two clauses, no condition -/
theorem ev_lc2 {α : Type} {own own1 : List Nat} {ic ic1 : ICode} {e : Code} {i1 : Nat} {xs : List α} {G : α → D} {β : Type} {ys : List β} {G1 : β → D} {V : α → β → D} (hi : ic env S = .ok (.seq (xs.map G)))
    (hi1 : ∀ q ∈ xs, ∃ G2 : β → D, ic1 ((wipeE env own).set i (some (G q))) S = .ok (.seq (ys.map G2)) ∧ ∀ r ∈ ys, e ((wipeE ((wipeE env own).set i (some (G q))) own1).set i1 (some (G2 r))) S = .ok (V q r)) (hl : xs.length * ys.length ≤ 4096) :
    cLc2 own own1 ic (gNm i) tYesC ic1 (gNm i1) tYesC e env S = .ok (.lst (xs.flatMap fun q => ys.map (V q))) := by
  have key : ∀ zs : List α, (∀ q ∈ zs, ∃ G2 : β → D, ic1 ((wipeE env own).set i (some (G q))) S = .ok (.seq (ys.map G2)) ∧ ∀ r ∈ ys, e ((wipeE ((wipeE env own).set i (some (G q))) own1).set i1 (some (G2 r))) S = .ok (V q r)) →
      lcSeq2 (gNm i) tYesC ic1 own1 (gNm i1) tYesC e (wipeE env own) S (zs.map G) = .ok (zs.flatMap fun q => ys.map (V q)) := by
    intro zs
    induction zs with
    | nil => intro _; rfl
    | cons q zs ih =>
      intro h
      obtain ⟨G2, h1, h2⟩ := h q List.mem_cons_self
      have l1 := lcSeq_ok (g := gNm i1) (t := tYesC) (e := e) (env := wipeE ((wipeE env own).set i (some (G q))) own1) (S := S) (xs := ys) (G := G2) (p := fun _ => true) (V := V q) (E := fun r => (wipeE ((wipeE env own).set i (some (G q))) own1).set i1 (some (G2 r))) (fun _ _ => rfl) (fun _ _ => rfl) fun r hr _ => h2 r hr
      rw [List.filter_eq_self.mpr fun _ _ => rfl] at l1
      rw [List.map_cons]
      unfold lcSeq2
      show (do let it ← ic1 ((wipeE env own).set i (some (G q))) S; let ws ← opt (itemsOf S it); let us ← lcSeq (gNm i1) tYesC e (wipeE ((wipeE env own).set i (some (G q))) own1) S ws; let rest ← lcSeq2 (gNm i) tYesC ic1 own1 (gNm i1) tYesC e (wipeE env own) S (zs.map G); Res.ok (us ++ rest)) = _
      rw [h1]
      show (do let us ← lcSeq (gNm i1) tYesC e (wipeE ((wipeE env own).set i (some (G q))) own1) S (ys.map G2); let rest ← lcSeq2 (gNm i) tYesC ic1 own1 (gNm i1) tYesC e (wipeE env own) S (zs.map G); Res.ok (us ++ rest)) = _
      rw [l1, ih fun r hr => h r (List.mem_cons_of_mem _ hr), List.flatMap_cons]
      rfl
  unfold cLc2
  rw [hi]
  show (do let ws ← noX (lcSeq2 (gNm i) tYesC ic1 own1 (gNm i1) tYesC e (wipeE env own) S (xs.map G)); need (decide (ws.length ≤ sizeLine)); Res.ok (D.lst ws)) = _
  rw [key xs hi1]
  show (do need (decide ((xs.flatMap fun q => ys.map (V q)).length ≤ sizeLine)); Res.ok (D.lst (xs.flatMap fun q => ys.map (V q)))) = _
  have hlen : (xs.flatMap fun q => ys.map (V q)).length = xs.length * ys.length := by
    clear key hi hi1 hl
    induction xs with
    | nil => simp
    | cons q xs ih => rw [List.flatMap_cons, List.length_append, ih, List.length_map, List.length_cons, Nat.succ_mul, Nat.add_comm]
  rw [need_dec (by rw [hlen]; exact Nat.le_trans hl line_big)]
  rfl
end
namespace K14
section
variable {h w : Nat} {f t : Bd}
def sameB (h w : Nat) (one other : Bd) : Bool := [one, lr w one, ud h one, ud h (lr w one)].any fun t => !(homesL h w other t).isEmpty
theorem loop_any {α : Type} {G : α → D} {V : α → Bool} {b : SCode} {x y : D} : ∀ (xs : List α), (∀ q ∈ xs, b [some x, some y, some (G q)] [] = .ok (if V q = true then (.rt (.bl true), [some x, some y, some (G q)], []) else (.nx, [some x, some y, some (G q)], []))) →
    ∀ o : Option D, ∃ o', loopSeq (gNm 2) b (xs.map G) [some x, some y, o] [] = .ok (if xs.any V = true then (.rt (.bl true), [some x, some y, o'], []) else (.nx, [some x, some y, o'], []))
  | [], _, o => ⟨o, rfl⟩
  | q :: xs, hb, o => by
    have h1 := hb q List.mem_cons_self
    rw [List.map_cons]
    unfold loopSeq
    show ∃ o', (b [some x, some y, some (G q)] [] >>= _) = _
    rw [h1]
    cases hq : V q with
    | true => exact ⟨some (G q), by rw [List.any_cons, hq]; rfl⟩
    | false =>
      obtain ⟨o', ih⟩ := loop_any xs (fun r hr => hb r (List.mem_cons_of_mem _ hr)) (some (G q))
      refine ⟨o', ?_⟩
      rw [List.any_cons, hq, Bool.false_or, ← ih]
      rfl
theorem E_same (o : Ok h w f) (o2 : Ok h w t) : F_same_bands [bandD h w f, bandD h w t] = .ok (.bl (sameB h w f t)) := by
  have hb : ∀ q ∈ [f, lr w f, ud h f, ud h (lr w f)], (sIf (tVal (cOp2 opNe (cCall 2 F_homes (aCons (cVar 1) (aCons (cVar 2) aNil))) (cTup aNil))) (sRet (cK (.bl true))) sNext) [some (bandD h w f), some (bandD h w t), some (bandD h w q)] [] =
      .ok (if (!(homesL h w t q).isEmpty) = true then (.rt (.bl true), [some (bandD h w f), some (bandD h w t), some (bandD h w q)], []) else (.nx, [some (bandD h w f), some (bandD h w t), some (bandD h w q)], [])) := fun q hq => by
    have oq : Ok h w q := by
      simp only [List.mem_cons, List.not_mem_nil, or_false] at hq
      rcases hq with rfl | rfl | rfl | rfl
      · exact o
      · exact o.lr
      · exact o.ud
      · exact o.lr.ud
    refine ev_if (k := !(homesL h w t q).isEmpty) (ev_val (ev_op2 (ev_c2 (ev_var rfl) (ev_var rfl) noL_band noL_band (E_homes o2 oq)) (y := .tup []) rfl ne_homes)) (fun z => ?_) fun z => ?_
    · rw [if_pos z]; rfl
    · rw [if_neg (by rw [z]; decide)]; rfl
  obtain ⟨o', hl⟩ := loop_any (G := bandD h w) [f, lr w f, ud h f, ud h (lr w f)] hb none
  have e0 : (iSeq (cTup (aCons (cVar 0) (aCons (cCall 1 F_left_right (aCons (cVar 0) aNil)) (aCons (cCall 1 F_up_down (aCons (cVar 0) aNil)) (aCons (cCall 1 F_up_down (aCons (cCall 1 F_left_right (aCons (cVar 0) aNil)) aNil)) aNil)))))) [some (bandD h w f), some (bandD h w t), none] [] =
      .ok (.seq ([f, lr w f, ud h f, ud h (lr w f)].map (bandD h w))) := by
    refine ev_seqT ?_
    have a1 : cCall 1 F_left_right (aCons (cVar 0) aNil) [some (bandD h w f), some (bandD h w t), none] [] = .ok (bandD h w (lr w f)) := ev_c1 (ev_var rfl) noL_band (E_lr o)
    have a2 : cCall 1 F_up_down (aCons (cVar 0) aNil) [some (bandD h w f), some (bandD h w t), none] [] = .ok (bandD h w (ud h f)) := ev_c1 (ev_var rfl) noL_band (E_ud o)
    have a3 : cCall 1 F_up_down (aCons (cCall 1 F_left_right (aCons (cVar 0) aNil)) aNil) [some (bandD h w f), some (bandD h w t), none] [] = .ok (bandD h w (ud h (lr w f))) := ev_c1 a1 noL_band (E_ud o.lr)
    exact ev_tupA (ev_cons (ev_var rfl) (ev_cons a1 (ev_cons a2 (ev_cons a3 ev_nil)))) (show 4 ≤ 4096 by decide)
  refine run_rt (r := ([some (bandD h w f), some (bandD h w t), o'], [])) ?_ rfl rfl
  unfold c_same_bands
  refine ev_ifS (k := false) (ev_orT (k := false) (l := false) (ev_val (ev_op2 (ev_high rfl) (ev_high rfl) ?_)) fun _ => ev_val (ev_op2 (ev_row0 o rfl) (ev_row0 o2 rfl) ?_)) (fun z => by cases z) fun _ => ev_nextS ?_
  · show Res.ok (D.bl (!((h : Int) == (h : Int)))) = _
    simp
  · show Res.ok (D.bl (!((w : Int) == (w : Int)))) = _
    simp
  · cases q : ([f, lr w f, ud h f, ud h (lr w f)].any fun t_1 => !(homesL h w t t_1).isEmpty) with
    | true =>
      rw [q, if_pos rfl] at hl
      unfold sameB
      rw [q]
      exact ev_seqR (ev_for e0 hl)
    | false =>
      rw [q, if_neg (by decide)] at hl
      unfold sameB
      rw [q]
      exact ev_seqS (ev_for e0 hl) rfl
end
end K14
end L2.Th

set_option Elab.async false
set_option linter.all false
set_option maxRecDepth 100000
set_option maxHeartbeats 4000000
namespace L2.Th
open PySem PySem.Spec PyProof.Rows
namespace K14
section
variable {h w : Nat} {f t : Bd}
theorem cut_map {α : Type} {g : Nat → α} {n m : Nat} (hm : m ≤ n) : cutD ((List.range n).map g) none (some (m : Int)) = (List.range m).map g := by
  unfold cutD
  rw [List.length_map, List.length_range, HT.sIx_nat, HT.sIx_none, List.drop_zero, Nat.sub_zero, Nat.min_eq_left hm, ← List.map_take, List.take_range, Nat.min_eq_left hm]
theorem st_le (o : Ok h w f) : st h w f ≤ w := ((mem_steps o).mp (st_mem o)).2.1
theorem E_least (o : Ok h w f) : F_least_piece [bandD h w f] = .ok (bandD h (st h w f) f) := by
  refine run_rt (r := ([some (bandD h w f), some (.int (st h w f)), none], [])) ?_ noL_band rfl
  unfold c_least_piece
  have h2 := o.h2
  refine ev_set (ev_c1 (ev_var rfl) noL_band (E_step_of o)) (ev_ret (ev_1 (x := .lst ((List.range h).map fun j => rowD (st h w f) (f j))) ?_ rfl))
  refine ev_lc (ev_seqT (ev_var rfl)) (by rw [List.length_range]; omega) fun j hj => ?_
  show Res.ok (D.tup (cutD ((List.range w).map fun (k : Nat) => D.bl (f j k)) none (some ((st h w f : Nat) : Int)))) = _
  rw [cut_map (st_le o)]
  rfl
theorem rep_row {s n : Nat} {r : Int → Bool} (p : ∀ k : Int, r (k + s) = r k) : (List.replicate n ((List.range s).map fun (k : Nat) => D.bl (r k))).flatten = (List.range (n * s)).map fun (k : Nat) => D.bl (r k) := by
  induction n with
  | zero => simp
  | succ n ih =>
    rw [List.replicate_succ', List.flatten_append, ih, List.flatten_singleton, Nat.succ_mul, List.range_add, List.map_append, List.map_map]
    congr 1
    refine List.map_congr_left fun k _ => ?_
    have m : ∀ n : Nat, r ((k : Int) + (n * s : Nat)) = r k := fun n => by
      induction n with
      | zero => simp
      | succ n ih => rw [Nat.succ_mul, Int.natCast_add, ← Int.add_assoc, p, ih]
    show D.bl (r k) = D.bl (r ((n * s + k : Nat) : Int))
    rw [Int.natCast_add, Int.add_comm, m]
theorem nl_rep {x : D} (hx : noL x = true) : ∀ n : Nat, noLs (List.replicate n x) = true
  | 0 => rfl
  | n + 1 => by
    rw [List.replicate_succ]
    unfold noLs
    rw [hx, nl_rep hx n]
    rfl
theorem E_beside {s n : Nat} (h1 : 1 ≤ h) (h2 : h ≤ 60) (n1 : 1 ≤ n) (hns : n * s ≤ 60) (s1 : 1 ≤ s) (p : ∀ j, j < h → ∀ k : Int, f j (k + s) = f j k) : F_beside [.lst (List.replicate n (bandD h s f))] = .ok (bandD h (n * s) f) := by
  refine run_rt (r := ([some (.lst (List.replicate n (bandD h s f))), none, none, none], [])) ?_ noL_band rfl
  unfold c_beside
  have sn : s ≤ n * s := Nat.le_mul_of_pos_left s n1
  have e0 : cOp2 opIx (cVar 0) (cK (.int 0)) [some (.lst (List.replicate n (bandD h s f))), none, none, none] [] = .ok (bandD h s f) := by
    refine ev_op2 (ev_var rfl) rfl ?_
    show opt (atI (List.replicate n (bandD h s f)) 0) = _
    obtain ⟨m, rfl⟩ : ∃ m, n = m + 1 := ⟨n - 1, by omega⟩
    unfold atI ixN
    rw [List.length_replicate, if_pos (Int.le_refl 0), if_pos (by omega)]
    rfl
  refine ev_ret (ev_1 (x := .lst ((List.range h).map fun j => rowD (n * s) (f j))) ?_ rfl)
  refine ev_lc (ev_rng1 (n := h) (ev_1 e0 ?_) (by omega)) (by rw [List.length_range]; omega) fun j hj => ?_
  · show Res.ok (D.int (((List.range h).map fun j => rowD s (f j)).length)) = _
    rw [List.length_map, List.length_range]
  · have hj := List.mem_range.mp hj
    refine ev_1 (x := .lst ((List.range (n * s)).map fun (k : Nat) => D.bl (f j k))) ?_ rfl
    have key := ev_lc2 (own := [2, 3]) (own1 := [3]) (ic := iSeq (cVar 0)) (ic1 := iSeq (cOp2 opIx (cVar 2) (cVar 1))) (e := cVar 3) (i := 2) (i1 := 3) (S := []) (env := [some (.lst (List.replicate n (bandD h s f))), some (.int j), none, none])
      (xs := List.range n) (G := fun _ => bandD h s f) (ys := List.range s) (G1 := fun k => .bl (f j (k : Nat))) (V := fun _ k => .bl (f j (k : Nat))) (ev_seqL (by
        rw [show (List.range n).map (fun _ => bandD h s f) = List.replicate n (bandD h s f) by rw [List.map_const', List.length_range]]
        exact ev_var rfl)) (fun q hq => ⟨fun k => .bl (f j (k : Nat)), ?_, fun r hr => ev_var rfl⟩) (by rw [List.length_range, List.length_range]; omega)
    · refine key.trans ?_
      rw [← rep_row (p j hj)]
      congr 2
      rw [List.flatMap_def, List.map_const', List.length_range]
    · refine ev_seqT (ev_op2 (ev_var rfl) (ev_var rfl) ?_)
      show opt (atI ((List.range h).map fun j => rowD s (f j)) (j : Int)) = _
      rw [atI_map (by omega) (by omega), Int.toNat_natCast]
      rfl
def cnt (a b c : Bool) : Int := (if a then 2 else 1) * (if b then 2 else 1) * (if c then 2 else 1)
def cop (a b c d : Bool) : Int := if cnt a b c = 1 ∧ d = true then 2 else cnt a b c
theorem lf_row {r : Int → Bool} : lf (rowD w r) = true := by
  unfold rowD lf
  generalize List.range w = l
  induction l with
  | nil => rfl
  | cons a l ih => rw [List.map_cons]; unfold lfs; rw [ih]; rfl
theorem lf_band : lf (bandD h w f) = true := by
  unfold bandD lf
  generalize List.range h = l
  induction l with
  | nil => rfl
  | cons a l ih => rw [List.map_cons]; unfold lfs; rw [ih, lf_row]; rfl
theorem copies_loop (x : D) (a b c d : Bool) : loopSeq (gTupC 2 (gMore (gNm 2) (gMore (gNm 3) gNone))) (sIf (tAndC (tTru (cVar 3)) (tVal (cOp2 opIn (cVar 2) (cTup (aCons (cK (.str "upright")) (aCons (cK (.str "midline")) (aCons (cK (.str "glide")) aNil)))))))
  (sAug 1 opMulI (cK (.int 2)))
  sNext) ((turnsK a b c d).map fun (kv : D × D) => D.tup [kv.1, kv.2]) [some x, some (.int 1), none, none] [] = .ok (.nx, [some x, some (.int (cnt a b c)), some (.str "half turn"), some (.bl d)], []) := by
  cases a <;> cases b <;> cases c <;> cases d <;> kernel_rfl
theorem E_copies (o : Ok h w f) : F_copies_in [bandD h w f] = .ok (.int (cop (upB h w f) (miB h w f) (glB h w f) (htB h w f))) := by
  have ht := E_turns o
  generalize upB h w f = a at *
  generalize miB h w f = b at *
  generalize glB h w f = c at *
  generalize htB h w f = d at *
  have e1 : iItemsCall 1 F_turns (aCons (cVar 0) aNil) [some (bandD h w f), some (.int 1), none, none] [] = .ok (.seq ((turnsK a b c d).map fun (kv : D × D) => D.tup [kv.1, kv.2])) := by
    unfold iItemsCall aCons aNil
    rw [ev_var (x := bandD h w f) rfl]
    show (do need (true && (lf (bandD h w f) && true)); let d ← F_turns [bandD h w f]; let kvs ← opt (isDct d); need (lfk kvs); Res.ok (ItD.seq ((kvs : List (D × D)).map fun (kv : D × D) => D.tup [kv.1, kv.2]))) = _
    rw [lf_band, ht]
    rfl
  have e2 : ∀ (o1 : Option D) (o2 : Option D) (n : Int), cOp2 opIx (cCall 1 F_turns (aCons (cVar 0) aNil)) (cK (.str "half turn")) [some (bandD h w f), some (.int n), o1, o2] [] = .ok (.bl d) := fun o1 o2 n =>
    ev_op2 (ev_c1 (ev_var rfl) noL_band ht) rfl (ix_ht a b c d)
  refine run_rt (r := ([some (bandD h w f), some (.int (cop a b c d)), some (.str "half turn"), some (.bl d)], [])) ?_ rfl rfl
  unfold c_copies_in
  refine ev_set (x := .int 1) rfl (ev_seqS (ev_for e1 (copies_loop _ a b c d)) ?_)
  refine ev_ifS (k := (cnt a b c == 1) && d) (ev_andT (k := cnt a b c == 1) (l := d) (ev_val (ev_op2 (ev_var rfl) rfl rfl)) fun _ => ev_tru (e2 _ _ _) rfl) (fun z => ?_) fun z => ?_
  · have z := Bool.and_eq_true_iff.mp z
    have hc : cop a b c d = 2 := by unfold cop; rw [if_pos ⟨by simpa using z.1, z.2⟩]
    rw [hc]
    rfl
  · have hc : cop a b c d = cnt a b c := by
      unfold cop
      rw [if_neg]
      rintro ⟨z1, z2⟩
      rw [z1, z2] at z
      cases z
    rw [hc]
    rfl
theorem E_corner_ok (o : Ok h w f) {m : Int} (hm : (st h w f : Int) ≤ m) (hd : m % (st h w f : Int) = 0) : F_corner [bandD h w f, .int m] = .ok (.int (m / st h w f)) := by
  have s1 := st_pos o
  have s2 := st_le o
  have w2 := o.w2
  refine run_rt (r := ([some (bandD h w f), some (.int m), some (.int (st h w f))], [])) ?_ rfl rfl
  unfold c_corner
  refine ev_set (ev_c1 (ev_var rfl) noL_band (E_step_of o)) (ev_ifS (k := false) (ev_orT (k := false) (l := false) (ev_val (ev_op2 (ev_var rfl) (ev_var rfl) ?_)) fun _ => ev_val (ev_op2 (ev_op2 (ev_var rfl) (ev_var rfl) (ev_mod (by omega))) rfl ?_)) (fun z => by cases z) fun _ => ev_nextS (ev_ret (ev_op2 (ev_var rfl) (ev_var rfl) (ev_div (by omega) (by omega)))))
  · show Res.ok (D.bl (decide (m < (st h w f : Int)))) = _
    rw [decide_eq_false (by omega)]
  · show Res.ok (D.bl (!(m % (st h w f : Int) == 0))) = _
    rw [hd]
    rfl
theorem E_corner_no (o : Ok h w f) {m : Int} (hm : (st h w f : Int) ≤ m) (hd : m % (st h w f : Int) ≠ 0) : F_corner [bandD h w f, .int m] = .exn ⟨5, none⟩ := by
  have s1 := st_pos o
  refine run_exn ?_
  unfold c_corner
  refine ev_set (ev_c1 (ev_var rfl) noL_band (E_step_of o)) (ev_ifS (k := true) (ev_orT (k := false) (l := true) (ev_val (ev_op2 (ev_var rfl) (ev_var rfl) ?_)) fun _ => ev_val (ev_op2 (ev_op2 (ev_var rfl) (ev_var rfl) (ev_mod (by omega))) rfl ?_)) (fun _ => rfl) fun z => by cases z)
  · show Res.ok (D.bl (decide (m < (st h w f : Int)))) = _
    rw [decide_eq_false (by omega)]
  · show Res.ok (D.bl (!(m % (st h w f : Int) == 0))) = _
    rw [show (m % (st h w f : Int) == 0) = false by simpa using hd]
    rfl
def ng (f : Bd) : Bd := fun j k => !f j k
theorem Ok.ng (o : Ok h w f) : Ok h w (ng f) := ⟨o.h1, o.w1, o.h2, o.w2, fun j k => by unfold K14.ng; rw [o.p]⟩
theorem ev_ng (o : Ok h w f) {env : Env} {i a b : Nat} (e : env[i]? = some (some (bandD h w f))) (e' : ∀ j, ((wipeE env [a]).set a (some (rowD w (f j))))[a]? = some (some (rowD w (f j)))) (e2 : ∀ (j : Nat) x, ((wipeE ((wipeE env [a]).set a (some (rowD w (f j)))) [b]).set b (some x))[b]? = some (some x)) :
    cOpN (op1 fTuple) (aCons (cLc [a] (iSeq (cVar i)) (gNm a) tYesC (cOpN (op1 fTuple) (aCons (cLc [b] (iSeq (cVar a)) (gNm b) tYesC (cNot (cVar b))) aNil))) aNil) env [] = .ok (bandD h w (K14.ng f)) := by
  have h2 := o.h2
  have w2 := o.w2
  refine ev_1 (x := .lst ((List.range h).map fun j => rowD w (K14.ng f j))) ?_ rfl
  refine ev_lc (ev_seqT (ev_var e)) (by rw [List.length_range]; omega) fun j hj => ?_
  refine ev_1 (x := .lst ((List.range w).map fun (k : Nat) => .bl (K14.ng f j k))) ?_ rfl
  refine ev_lc (ev_seqT (ev_var (e' j))) (by rw [List.length_range]; omega) fun k hk => ?_
  unfold cNot
  rw [ev_var (e2 j _)]
  rfl
theorem E_both (o : Ok h w f) : F_both_sides [bandD h w f] = .ok (.str (sortB h w (lr w (ng f)))) := by
  refine run_rt (r := ([some (bandD h w f), none, none], [])) ?_ rfl rfl
  unfold c_both_sides
  exact ev_ret (ev_c1 (ev_c1 (ev_ng o rfl (fun _ => rfl) fun _ _ => rfl) noL_band (E_lr o.ng)) noL_band (E_sort o.ng.lr))
end
end K14
end L2.Th

set_option Elab.async false
set_option linter.all false
set_option maxRecDepth 100000
set_option maxHeartbeats 4000000
namespace L2.Th
open PySem PySem.Spec PyProof.Rows
namespace K14
def fl (b : Bool) (h j : Nat) : Nat := if b then h - 1 - j else j
def sg (b : Bool) (k : Int) : Int := if b then -k else k
/-- f comes home when turned over (τ), sideways (ε) and moved -/
def Rt (h : Nat) (τ ε : Bool) (f : Bd) : Prop := ∃ s : Int, ∀ j, j < h → ∀ k : Int, f (fl τ h j) (sg ε k + s) = f j k
def Mi (h : Nat) (f : Bd) : Prop := ∀ j, j < h → ∀ k : Int, f (h - 1 - j) k = f j k
theorem fl_lt {b : Bool} {h j : Nat} (hj : j < h) : fl b h j < h := by unfold fl; split <;> omega
theorem fl_comm {a b : Bool} {h j : Nat} : fl a h (fl b h j) = fl b h (fl a h j) := by cases a <;> cases b <;> rfl
theorem Rt.tr {h : Nat} {τ ε α β : Bool} {c : Int} {f g : Bd} (e : ∀ j, j < h → ∀ k : Int, g j k = f (fl α h j) (sg β k + c)) (r : Rt h τ ε f) : Rt h τ ε g := by
  obtain ⟨s, hs⟩ := r
  refine ⟨sg β (sg ε c + s - c), fun j hj k => ?_⟩
  rw [e _ (fl_lt hj), e j hj, ← hs _ (fl_lt hj), fl_comm]
  congr 1
  cases β <;> cases ε <;> simp only [sg, if_true, if_false, Bool.false_eq_true] <;> omega
theorem Mi.tr {h : Nat} {α β : Bool} {c : Int} {f g : Bd} (e : ∀ j, j < h → ∀ k : Int, g j k = f (fl α h j) (sg β k + c)) (r : Mi h f) : Mi h g := fun j hj k => by
  rw [e _ (by omega), e j hj, ← r _ (fl_lt hj)]
  congr 1
  show fl α h (fl true h j) = fl true h (fl α h j)
  exact fl_comm
section
variable {h w : Nat} {f t g : Bd}
theorem mem_homes (o : Ok h w f) (o2 : Ok h w t) {s : Nat} : s ∈ homesL h w f t ↔ s < w ∧ ∀ j, j < h → ∀ k : Int, t j (k - s) = f j k := by
  unfold homesL
  rw [List.mem_filter, List.mem_range, eqB_iff o.w1 (o2.p.sh _) o.p]
  rfl
theorem homes_ne (o : Ok h w f) (o2 : Ok h w t) : (!(homesL h w f t).isEmpty) = true ↔ ∃ s : Int, ∀ j, j < h → ∀ k : Int, t j (k - s) = f j k := by
  constructor
  · intro e
    cases q : homesL h w f t with
    | nil => rw [q] at e; cases e
    | cons s r => exact ⟨s, ((mem_homes o o2).mp (by rw [q]; exact List.mem_cons_self)).2⟩
  · rintro ⟨s, hs⟩
    have w1 := o.w1
    have e0 : 0 ≤ s % (w : Int) := Int.emod_nonneg _ (by omega)
    have e1 : s % (w : Int) < w := Int.emod_lt_of_pos _ (by omega)
    have hm : (s % (w : Int)).toNat ∈ homesL h w f t := (mem_homes o o2).mpr ⟨by omega, fun j hj k => by
      rw [Int.toNat_of_nonneg e0, ← hs j hj k]
      have := o2.p.mulZ j (k - s) (s / w)
      rw [← this]
      congr 1
      have := Int.emod_add_mul_ediv s w
      omega⟩
    cases q : homesL h w f t with
    | nil => rw [q] at hm; cases hm
    | cons s r => rfl
theorem up_iff (o : Ok h w f) : upB h w f = true ↔ Rt h false true f := by
  unfold upB
  rw [homes_ne o o.lr]
  constructor
  · rintro ⟨s, hs⟩
    refine ⟨w - 1 + s, fun j hj k => ?_⟩
    rw [← hs j hj k]
    show f j (-k + (w - 1 + s)) = f j (w - 1 - (k - s))
    congr 1
    omega
  · rintro ⟨s, hs⟩
    refine ⟨s - (w - 1), fun j hj k => ?_⟩
    rw [← hs j hj k]
    show f j (w - 1 - (k - (s - (w - 1)))) = f j (-k + s)
    congr 1
    omega
theorem ht_iff (o : Ok h w f) : htB h w f = true ↔ Rt h true true f := by
  unfold htB
  rw [homes_ne o o.lr.ud]
  constructor
  · rintro ⟨s, hs⟩
    refine ⟨w - 1 + s, fun j hj k => ?_⟩
    rw [← hs j hj k]
    show f (h - 1 - j) (-k + (w - 1 + s)) = f (h - 1 - j) (w - 1 - (k - s))
    congr 1
    omega
  · rintro ⟨s, hs⟩
    refine ⟨s - (w - 1), fun j hj k => ?_⟩
    rw [← hs j hj k]
    show f (h - 1 - j) (w - 1 - (k - (s - (w - 1)))) = f (h - 1 - j) (-k + s)
    congr 1
    omega
theorem g_iff (o : Ok h w f) : (!(homesL h w f (ud h f)).isEmpty) = true ↔ Rt h true false f := by
  rw [homes_ne o o.ud]
  constructor
  · rintro ⟨s, hs⟩
    exact ⟨-s, fun j hj k => hs j hj k⟩
  · rintro ⟨s, hs⟩
    refine ⟨-s, fun j hj k => ?_⟩
    rw [← hs j hj k]
    show f (h - 1 - j) (k - -s) = f (h - 1 - j) (k + s)
    rw [Int.sub_neg]
theorem mi_iff (o : Ok h w f) : miB h w f = true ↔ Mi h f := by
  unfold miB
  rw [List.any_eq_true]
  constructor
  · rintro ⟨s, hs, e⟩
    have e : s = 0 := by simpa using e
    subst e
    intro j hj k
    have := ((mem_homes o o.ud).mp hs).2 j hj k
    rw [← this]
    show f (h - 1 - j) k = f (h - 1 - j) (k - 0)
    rw [Int.sub_zero]
  · intro m
    refine ⟨0, (mem_homes o o.ud).mpr ⟨o.w1, fun j hj k => ?_⟩, rfl⟩
    rw [← m j hj k]
    show f (h - 1 - j) (k - 0) = f (h - 1 - j) k
    rw [Int.sub_zero]
theorem mult {a : Int} (p : ∀ j, j < h → ∀ k : Int, f j (k - a) = f j k) : ∀ (n : Nat) (j : Nat), j < h → ∀ k : Int, f j (k - a * n) = f j k
  | 0, j, hj, k => by simp
  | n + 1, j, hj, k => by
    rw [show k - a * ((n + 1 : Nat) : Int) = (k - a * n) - a by rw [Int.natCast_add, Int.mul_add]; simp; omega, p j hj, mult p n j hj]
theorem st_per (o : Ok h w f) : ∀ j, j < h → ∀ k : Int, f j (k - st h w f) = f j k := ((mem_steps o).mp (st_mem o)).2.2
theorem mod_per (o : Ok h w f) {s : Nat} (hs : s % st h w f = 0) : ∀ j, j < h → ∀ k : Int, f j (k - s) = f j k := fun j hj k => by
  have e := Nat.div_add_mod s (st h w f)
  rw [hs, Nat.add_zero] at e
  have := mult (st_per o) (s / st h w f) j hj k
  rw [← this, ← Int.natCast_mul, e]
theorem gl_iff (o : Ok h w f) : glB h w f = true ↔ Rt h true false f ∧ ¬ Mi h f := by
  unfold glB
  rw [Bool.and_eq_true, Bool.not_eq_true', ← Bool.not_eq_true, mi_iff o, ← g_iff o]
  refine ⟨fun ⟨a, b⟩ => ⟨?_, b⟩, fun ⟨a, b⟩ => ⟨?_, b⟩⟩
  · cases q : homesL h w f (ud h f) with
    | nil => rw [q] at a; cases a
    | cons s r => rfl
  · cases q : homesL h w f (ud h f) with
    | nil => rw [q] at a; cases a
    | cons s r =>
      have hs : s ∈ homesL h w f (ud h f) := by rw [q]; exact List.mem_cons_self
      have hm := ((mem_homes o o.ud).mp hs).2
      rw [List.any_cons, Bool.or_eq_true]
      left
      by_cases z : s % st h w f = 0
      · exfalso
        refine b fun j hj k => ?_
        have e1 := hm j hj k
        have e2 := mod_per o z (h - 1 - j) (by omega) k
        exact (e2.symm.trans e1)
      · have : ((s : Int) % (st h w f : Int) == 0) = false := by
          rw [← Int.natCast_emod]
          simp
          omega
        rw [this]
        rfl
/-- the sort stays -/
theorem sort_tr (o : Ok h w f) (o2 : Ok h w g) {α β : Bool} {c α' β'} {c' : Int} (e : ∀ j, j < h → ∀ k : Int, g j k = f (fl α h j) (sg β k + c)) (e' : ∀ j, j < h → ∀ k : Int, f j k = g (fl α' h j) (sg β' k + c')) :
    upB h w g = upB h w f ∧ miB h w g = miB h w f ∧ glB h w g = glB h w f ∧ htB h w g = htB h w f := by
  have m : Mi h g ↔ Mi h f := ⟨Mi.tr e', Mi.tr e⟩
  have r : ∀ τ ε, Rt h τ ε g ↔ Rt h τ ε f := fun τ ε => ⟨Rt.tr e', Rt.tr e⟩
  refine ⟨?_, ?_, ?_, ?_⟩ <;> rw [Bool.eq_iff_iff]
  · rw [up_iff o, up_iff o2, r]
  · rw [mi_iff o, mi_iff o2, m]
  · rw [gl_iff o, gl_iff o2, r, m]
  · rw [ht_iff o, ht_iff o2, r]
theorem sort_eq (o : Ok h w f) (o2 : Ok h w g) {α β : Bool} {c α' β'} {c' : Int} (e : ∀ j, j < h → ∀ k : Int, g j k = f (fl α h j) (sg β k + c)) (e' : ∀ j, j < h → ∀ k : Int, f j k = g (fl α' h j) (sg β' k + c')) : sortB h w g = sortB h w f := by
  obtain ⟨a, b, c, d⟩ := sort_tr o o2 e e'
  unfold sortB
  rw [a, b, c, d]
theorem sort_lr (o : Ok h w f) : sortB h w (lr w f) = sortB h w f := sort_eq o o.lr (α := false) (β := true) (c := w - 1) (α' := false) (β' := true) (c' := w - 1)
  (fun j hj k => by show f j (w - 1 - k) = f j (-k + (w - 1)); congr 1; omega) (fun j hj k => by show f j k = f j (w - 1 - (-k + (w - 1))); congr 1; omega)
theorem sort_ud (o : Ok h w f) : sortB h w (ud h f) = sortB h w f := sort_eq o o.ud (α := true) (β := false) (c := 0) (α' := true) (β' := false) (c' := 0)
  (fun j hj k => by show f (h - 1 - j) k = f (h - 1 - j) (k + 0); rw [Int.add_zero]) (fun j hj k => by show f j k = f (h - 1 - (h - 1 - j)) (k + 0); rw [Int.add_zero, show h - 1 - (h - 1 - j) = j by omega])
theorem sort_sh (o : Ok h w f) (s : Int) : sortB h w (sh s f) = sortB h w f := sort_eq o (o.sh s) (α := false) (β := false) (c := -s) (α' := false) (β' := false) (c' := s)
  (fun j hj k => rfl) (fun j hj k => by show f j k = f j (k + s - s); congr 1; omega)
/-- a band and one made of it by turns are the same -/
theorem same_of (o : Ok h w f) (o2 : Ok h w g) {x : Bd} (hx : x ∈ [g, lr w g, ud h g, ud h (lr w g)]) (ox : Ok h w x) {s : Int} (e : ∀ j, j < h → ∀ k : Int, x j (k - s) = f j k) : sameB h w g f = true := by
  unfold sameB
  rw [List.any_eq_true]
  exact ⟨x, hx, (homes_ne o ox).mpr ⟨s, e⟩⟩
theorem same_lr (o : Ok h w f) : sameB h w (lr w f) f = true := same_of o o.lr (x := lr w (lr w f)) (by simp) o.lr.lr (s := 0) fun j hj k => by
  show f j (w - 1 - (w - 1 - (k - 0))) = f j k
  congr 1
  omega
theorem same_ud (o : Ok h w f) : sameB h w (ud h f) f = true := same_of o o.ud (x := ud h (ud h f)) (by simp) o.ud.ud (s := 0) fun j hj k => by
  show f (h - 1 - (h - 1 - j)) (k - 0) = f j k
  rw [Int.sub_zero, show h - 1 - (h - 1 - j) = j by omega]
theorem same_tu (o : Ok h w f) : sameB h w (ud h (lr w f)) f = true := same_of o o.lr.ud (x := ud h (lr w (ud h (lr w f)))) (by simp) o.lr.ud.lr.ud (s := 0) fun j hj k => by
  show f (h - 1 - (h - 1 - j)) (w - 1 - (w - 1 - (k - 0))) = f j k
  rw [show h - 1 - (h - 1 - j) = j by omega]
  congr 1
  omega
theorem same_sh (o : Ok h w f) : sameB h w (sh 1 f) f = true := same_of o (o.sh 1) (x := sh 1 f) (by simp) (o.sh 1) (s := -1) fun j hj k => by
  show f j (k - -1 - 1) = f j k
  congr 1
  omega
/-- an upright turn and a half turn make a glide or a midline -/
theorem up_ht (o : Ok h w f) (u : upB h w f = true) (t : htB h w f = true) : miB h w f = true ∨ glB h w f = true := by
  obtain ⟨s, hs⟩ := (up_iff o).mp u
  obtain ⟨r, hr⟩ := (ht_iff o).mp t
  have g : Rt h true false f := ⟨s - r, fun j hj k => by
    have h1 : f (h - 1 - j) (-k + r) = f j k := hr j hj k
    have h2 : f (h - 1 - j) (-(-k + r) + s) = f (h - 1 - j) (-k + r) := hs (h - 1 - j) (by omega) (-k + r)
    show f (h - 1 - j) (k + (s - r)) = f j k
    rw [← h1, ← h2]
    congr 1
    omega⟩
  by_cases m : Mi h f
  · exact .inl ((mi_iff o).mpr m)
  · exact .inr ((gl_iff o).mpr ⟨g, m⟩)
/-- the least step parts the width -/
theorem st_dvd (o : Ok h w f) : w % st h w f = 0 := by
  have s1 := st_pos o
  rcases Nat.eq_zero_or_pos (w % st h w f) with z | z
  · exact z
  · exfalso
    have lt := Nat.mod_lt w s1
    have hm : w % st h w f ∈ stepsN h w f := (mem_steps o).mpr ⟨z, Nat.le_trans (Nat.le_of_lt lt) (st_le o), fun j hj k => by
      have e := Nat.div_add_mod w (st h w f)
      have e2 := mult (st_per o) (w / st h w f) j hj (k - (w % st h w f : Nat))
      rw [← e2]
      have e3 := ((mem_steps o).mp (w_mem o)).2.2 j hj k
      rw [← e3]
      congr 1
      rw [← Int.natCast_mul]
      omega⟩
    have := st_least o hm
    omega
end
end K14
end L2.Th

set_option Elab.async false
set_option linter.all false
set_option maxRecDepth 100000
set_option maxHeartbeats 4000000
namespace L2.Th
open PySem PySem.Spec PyProof.Rows
namespace K14
theorem ne_self {S : Store} (a b c d : Bool) : opNe S (.str (sortX a b c d)) (.str (sortX a b c d)) = .ok (.bl false) := by
  cases a <;> cases b <;> cases c <;> cases d <;> kernel_rfl
theorem ne_str {S : Store} {x y : Str} (e : x = y) (h : ∃ a b c d, y = sortX a b c d) : opNe S (.str x) (.str y) = .ok (.bl false) := by
  subst e
  obtain ⟨a, b, c, d, rfl⟩ := h
  exact ne_self a b c d
theorem closed4 (a b c : Option D) : (tOrC (tVal (cOp2 opNe (cLc [4] (iSeq (cK d_SORTS)) (gNm 4) tYesC (cCall 1 F_sort_of (aCons (cCall 2 F_made (aCons (cVar 2) (aCons (cVar 4) aNil))) aNil))) (cOpN (op1 fList) (aCons (cK d_SORTS) aNil)))) (tVal (cOp2 opNe (cCall 2 F_below (aCons (cVar 2) (aCons (cVar 2) aNil))) (cOp2 opAdd (cVar 2) (cVar 2))))) [a, b, some pieceD, c, none] [] = .ok false := by
  refine ev_orT (k := false) (l := false) (ev_val (ev_op2 (closed1 a b c) (show cOpN (op1 fList) (aCons (cK d_SORTS) aNil) [a, b, some pieceD, c, none] [] = .ok (.lst sortsL) by kernel_rfl) (by kernel_rfl))) fun _ => ev_val ?_
  refine ev_op2 (ev_c2 (ev_var rfl) (ev_var rfl) (by kernel_rfl) (by kernel_rfl) closed3) (show cOp2 opAdd (cVar 2) (cVar 2) [a, b, some pieceD, c, none] [] = .ok (.tup [.tup [.bl true, .bl true, .bl false], .tup [.bl true, .bl false, .bl false], .tup [.bl true, .bl true, .bl false], .tup [.bl true, .bl false, .bl false]]) by kernel_rfl) (by kernel_rfl)
theorem closed5 (a b c : Option D) : (tVal (cOp2 opNe (cTold tabTold (cCall 2 F_made (aCons (cVar 2) (aCons (cK (.str "x")) aNil)))) (cK (.str "draft")))) [a, b, some pieceD, c, none] [] = .ok false := by
  refine ev_val (ev_op2 (x := .str "draft") (y := .str "draft") ?_ rfl (by kernel_rfl))
  have e : cCall 2 F_made (aCons (cVar 2) (aCons (cK (.str "x")) aNil)) [a, b, some pieceD, c, none] [] = .exn ⟨1, none⟩ := ev_c2 (ev_var rfl) rfl (by kernel_rfl) rfl closed2
  unfold cTold
  rw [e]
  kernel_rfl
section
variable {h w : Nat} {f t : Bd}
def stepsD (h w : Nat) (f : Bd) : D := .lst ((stepsN h w f).map fun (i : Nat) => .int i)
theorem ix_steps (o : Ok h w f) {S : Store} : opIx S (stepsD h w f) (.int 0) = .ok (.int (st h w f)) := by
  obtain ⟨r, e⟩ := st_cons o
  show opt (atI ((stepsN h w f).map fun (i : Nat) => D.int (i : Int)) 0) = _
  rw [e, List.map_cons]
  unfold atI ixN
  rw [List.length_cons, if_pos (Int.le_refl 0), if_pos (by omega)]
  rfl
theorem E_rest1 (o : Ok h w f) : F_law_rest1 [bandD h w f, stepsD h w f] = .ok (.bl true) := by
  have s1 := st_pos o
  have s2 := st_le o
  have w2 := o.w2
  refine run_rt (r := ([some (bandD h w f), some (stepsD h w f), some pieceD, none, none], [])) ?_ rfl rfl
  unfold c_law_rest1
  refine ev_ifS (k := false) (ev_val (ev_op2 (ev_c1 (ev_var rfl) noL_band (E_both o)) (ev_c1 (ev_ng o rfl (fun _ => rfl) fun _ _ => rfl) noL_band (E_sort o.ng)) (ne_str (sort_lr o.ng) ⟨_, _, _, _, rfl⟩))) (fun z => by cases z) fun _ => ev_nextS ?_
  refine ev_set (x := pieceD) rfl ?_
  refine ev_ifS (k := false) (closed4 _ _ _) (fun z => by cases z) fun _ => ev_nextS ?_
  have hst : ∀ (p q : Option D), cOp2 opIx (cVar 1) (cK (.int 0)) [some (bandD h w f), some (stepsD h w f), some pieceD, p, q] [] = .ok (.int (st h w f)) := fun p q => ev_op2 (ev_var rfl) rfl (ix_steps o)
  refine ev_ifS (k := false) (ev_val (ev_op2 (x := .int 3) (y := .int 3) (ev_c2 (y := .int (3 * (st h w f : Int))) (ev_var rfl) (ev_op2 (x := .int 3) rfl (hst _ _) rfl) noL_band rfl ?_) rfl rfl)) (fun z => by cases z) fun _ => ev_nextS ?_
  · rw [E_corner_ok o (by omega) (Int.mul_emod_left _ _), Int.mul_ediv_cancel _ (by omega)]
  refine ev_ifS (k := false) (closed5 _ _ _) (fun z => by cases z) fun _ => ev_nextS ?_
  refine ev_ifS (k := false) ((ev_andT (k := decide ((st h w f : Int) > 1)) (l := false) (ev_val (ev_op2 (hst _ _) rfl rfl)) fun hk => ev_val ?_).trans (by rw [Bool.and_false])) (fun z => by cases z) fun _ => ev_nextS (ev_ret rfl)
  have hk := of_decide_eq_true hk
  refine ev_op2 (x := .str "no cloth") (y := .str "no cloth") ?_ rfl (by kernel_rfl)
  have e : cCall 2 F_corner (aCons (cVar 0) (aCons (cOp2 opAdd (cOp2 opIx (cVar 1) (cK (.int 0))) (cK (.int 1))) aNil)) [some (bandD h w f), some (stepsD h w f), some pieceD, none, none] [] = .exn ⟨5, none⟩ := by
    refine ev_c2 (y := .int ((st h w f : Int) + 1)) (ev_var rfl) (ev_op2 (hst _ _) rfl rfl) noL_band rfl (E_corner_no o (by omega) ?_)
    rw [Int.add_emod_left, Int.emod_eq_of_lt (by omega) (by omega)]
    decide
  unfold cTold
  rw [e]
  kernel_rfl
end
end K14
end L2.Th

set_option Elab.async false
set_option linter.all false
set_option maxRecDepth 100000
set_option maxHeartbeats 4000000
namespace L2.Th
open PySem PySem.Spec PyProof.Rows
/-- Sat without errors, wrapped -/
structure SatW {α : Type} (x : Res α) (Q : α → Prop) : Prop where
  s : x.Sat Q fun _ => False
section
variable {env : Env} {S : Store} {x : D} {i : Nat}
theorem SatW.bind {α β : Type} {x : Res α} {f : α → Res β} {P : α → Prop} {Q : β → Prop} (h : SatW x P) (k : ∀ a, P a → SatW (f a) Q) : SatW (x >>= f) Q := ⟨Res.sat_bind' (h.s.mono (fun a ha => (k a ha).s) fun _ z => z)⟩
theorem SatW.mono {α : Type} {x : Res α} {P Q : α → Prop} (h : SatW x P) (k : ∀ a, P a → Q a) : SatW x Q := ⟨h.s.mono k fun _ z => z⟩
theorem SatW.ok {α : Type} {a : α} {Q : α → Prop} (h : Q a) : SatW (.ok a) Q := ⟨h⟩
theorem SatW.of {α : Type} {x : Res α} {a : α} {Q : α → Prop} (e : x = .ok a) (h : Q a) : SatW x Q := by rw [e]; exact ⟨h⟩
theorem SatW.roll {α : Type} {n : Int} {k : Int → Res α} {Q : α → Prop} (h : 0 < n) (q : ∀ r, 0 ≤ r → r < n → SatW (k r) Q) : SatW (.roll n k) Q := ⟨⟨h, fun r h0 h1 => (q r h0 h1).s⟩⟩
theorem noX_of {α : Type} {Q : α → Prop} {R : Exn → Prop} : ∀ {x : Res α}, x.Sat Q (fun _ => False) → (noX x).Sat Q R
  | .ok _, h => h
  | .exn _, h => h.elim
  | .stuck, h => h
  | .roll _ _, h => ⟨h.1, fun r h0 h1 => noX_of (h.2 r h0 h1)⟩
theorem SatW.lcSeq {α : Type} {e : Code} {G : α → D} {P : α → D → Prop} : ∀ {xs : List α}, (∀ q ∈ xs, SatW (e (env.set i (some (G q))) S) (P q)) → SatW (lcSeq (gNm i) tYesC e env S (xs.map G)) (fun ds => Paired P xs ds)
  | [], _ => .ok .nil
  | q :: xs, h => by
    rw [List.map_cons]
    exact SatW.bind (f := fun x => (Th.lcSeq (gNm i) tYesC e env S (xs.map G) >>= fun ys => Res.ok (x :: ys))) (h q List.mem_cons_self) fun d hd => SatW.bind (SatW.lcSeq fun r hr => h r (List.mem_cons_of_mem _ hr)) fun ds hds => .ok (.cons hd hds)
theorem SatW.lc {α : Type} {own : List Nat} {ic : ICode} {e : Code} {xs : List α} {G : α → D} {P : α → D → Prop} (hi : ic env S = .ok (.seq (xs.map G))) (hl : xs.length ≤ 4096) (h : ∀ q ∈ xs, SatW (e ((wipeE env own).set i (some (G q))) S) (P q)) :
    SatW (cLc own ic (gNm i) tYesC e env S) (fun d => ∃ ds, d = .lst ds ∧ Paired P xs ds) := by
  unfold cLc
  rw [hi]
  show SatW (do need (decide ((xs.map G).length ≤ sizeLine)); let ys ← noX (Th.lcSeq (gNm i) tYesC e (wipeE env own) S (xs.map G)); Res.ok (D.lst ys)) _
  rw [need_dec (by rw [List.length_map]; exact Nat.le_trans hl line_big)]
  exact SatW.bind (f := fun ys => Res.ok (D.lst ys)) ⟨noX_of (SatW.lcSeq h).s⟩ fun ds hds => .ok ⟨ds, rfl, hds⟩
theorem paired_fun {Y : Type} {F : Nat → Y → D} (y0 : Y) {l : List Nat} {ds : List D} (nd : l.Nodup) (hp : Paired (fun k d => ∃ y, d = F k y) l ds) : ∃ g : Nat → Y, ds = l.map fun k => F k (g k) := by
  induction hp with
  | nil => exact ⟨fun _ => y0, rfl⟩
  | @cons a d l ds h r ih =>
    obtain ⟨y, e⟩ := h
    obtain ⟨g, eg⟩ := ih (List.nodup_cons.mp nd).2
    refine ⟨fun k => if k = a then y else g k, ?_⟩
    rw [List.map_cons, e, eg]
    show F a y :: _ = F a (if a = a then y else g a) :: _
    rw [if_pos rfl]
    congr 1
    refine List.map_congr_left fun k hk => ?_
    show F k (g k) = F k (if k = a then y else g k)
    rw [if_neg (fun z : k = a => (List.nodup_cons.mp nd).1 (by rw [← z]; exact hk))]
theorem SatW.ret {a : Code} {P : SRes → Prop} (h : SatW (a env S) (fun d => P (.rt d, env, S))) : SatW (sRet a env S) P := SatW.bind h fun d hd => .ok hd
theorem SatW.op1 {a : Code} {f : Store → D → Res D} {Q : D → Prop} (h : SatW (a env S) (fun d => SatW (f S d) Q)) : SatW (cOpN (Th.op1 f) (aCons a aNil) env S) Q := SatW.bind (SatW.bind (P := fun d => SatW (f S d) Q) (Q := fun xs => ∃ d, xs = [d] ∧ SatW (f S d) Q) h fun d hd => .ok ⟨d, rfl, hd⟩) fun xs ⟨d, e, hd⟩ => by rw [e]; exact hd
theorem SatW.op2 {op : Op2} {a b : Code} {Q : D → Prop} (h : SatW (a env S) (fun x => SatW (b env S) (fun y => SatW (op S x y) Q))) : SatW (cOp2 op a b env S) Q := SatW.bind h fun x hx => SatW.bind hx fun y hy => hy
theorem SatW.seq {a b : SCode} {P : SRes → Prop} (h : SatW (a env S) (fun r => r.1 = .nx ∧ SatW (b r.2.1 r.2.2) P)) : SatW (sSeq a b env S) P := SatW.bind h fun r ⟨e, z⟩ => by rw [e]; exact z
theorem SatW.asg {a : Code} {P : SRes → Prop} (h : SatW (a env S) (fun d => P (.nx, env.set i (some d), S))) : SatW (sAsg a (gNm i) env S) P := SatW.bind h fun d hd => .ok hd
theorem SatW.run {N : Nat} {b : SCode} {ds : List D} {Q : D → Prop} (h : SatW (b (ds.map some ++ List.replicate (N - ds.length) none) []) (fun r => ∃ d, r.1 = .rt d ∧ noL d = true ∧ isLoc d = none ∧ Q d)) : SatW (runB N b ds) Q :=
  SatW.bind h fun r ⟨d, e, n, l, q⟩ => by
    rw [e]
    show SatW (opt (frzD r.2.2 d)) Q
    have : frzD r.2.2 d = some d := by
      unfold frzD
      split
      · cases l
      · rw [if_pos n]
    rw [this]
    exact .ok q
theorem roll_ok {m : Int} (h : 0 < m) (h2 : m < 1073741824) : fRoll [.dice, .int m] = .roll m fun r => .ok (.int r) := by
  unfold fRoll
  show (do need (decide (0 < m) && decide (m < 1073741824)); Res.roll m fun r => Res.ok (D.int r)) = _
  rw [decide_eq_true h, decide_eq_true h2]
  rfl
end
namespace K14
theorem pic_sat {h w : Nat} (w1 : 1 ≤ w) (h2 : h ≤ 60) (w2 : w ≤ 60) : SatW (F_law_picture [.dice, .int h, .int w]) (fun d => ∃ f, Per w f ∧ d = bandD h w f) := by
  have key : SatW (cLc [3] (iRange1 (aCons (cVar 1) aNil)) (gNm 3) tYesC (cOpN (op1 fTuple) (aCons (cLc [4] (iRange1 (aCons (cVar 2) aNil)) (gNm 4) tYesC (cOp2 opEq (cCall 2 fRoll (aCons (cVar 0) (aCons (cK (.int 2)) aNil))) (cK (.int 1)))) aNil)) [some .dice, some (.int h), some (.int w), none, none] [])
      (fun d => ∃ ds, d = .lst ds ∧ Paired (fun (j : Nat) d => ∃ r : Nat → Bool, d = .tup ((List.range w).map fun k => .bl (r k))) (List.range h) ds) := by
    refine SatW.lc (ev_rng1 (ev_var rfl) (by omega)) (by rw [List.length_range]; omega) fun j hj => ?_
    refine SatW.op1 ((SatW.lc (P := fun _ d => ∃ b : Bool, d = .bl b) (xs := List.range w) (ev_rng1 (ev_var rfl) (by omega)) (by rw [List.length_range]; omega) fun k hk => ?_).mono fun d hd => ?_)
    · have e : cCall 2 fRoll (aCons (cVar 0) (aCons (cK (.int 2)) aNil)) ((wipeE ((wipeE [some .dice, some (.int h), some (.int w), none, none] [3]).set 3 (some (.int j))) [4]).set 4 (some (.int k))) [] = .roll 2 fun r => .ok (.int r) := ev_c2 (ev_var rfl) rfl rfl rfl (roll_ok (by decide) (by decide))
      refine SatW.op2 ?_
      rw [e]
      exact .roll (by decide) fun r _ _ => .ok (.ok (.of (a := .bl (r == 1)) rfl ⟨r == 1, rfl⟩))
    · obtain ⟨ds, rfl, hp⟩ := hd
      obtain ⟨g, eg⟩ := paired_fun (F := fun _ b => .bl b) false List.nodup_range hp
      exact .of (a := .tup ds) rfl ⟨g, by rw [eg]⟩
  unfold F_law_picture c_law_picture
  refine SatW.run (SatW.ret (SatW.op1 (key.mono fun d hd => ?_)))
  obtain ⟨ds, rfl, hp⟩ := hd
  obtain ⟨g, eg⟩ := paired_fun (F := fun _ (r : Nat → Bool) => .tup ((List.range w).map fun k => .bl (r k))) (fun _ => false) List.nodup_range hp
  have eb : D.tup ds = bandD h w fun j k => g j (k % w).toNat := by
    rw [eg]
    unfold bandD rowD
    refine congrArg D.tup (List.map_congr_left fun j hj => congrArg D.tup (List.map_congr_left fun k hk => ?_))
    have hk := List.mem_range.mp hk
    show D.bl (g j k) = D.bl (g j ((k : Int) % w).toNat)
    rw [Int.emod_eq_of_lt (by omega) (by omega), Int.toNat_natCast]
  refine .of (a := .tup ds) rfl ⟨bandD h w fun j k => g j (k % w).toNat, by rw [← eb], noL_band, rfl, _, fun j k => ?_, rfl⟩
  show g j ((k + w) % w).toNat = g j (k % w).toNat
  rw [Int.add_emod_right]
def lawRest : SCode :=
  (sSeq (sAsg (cLc [13] (iRange2 (aCons (cK (.int 1)) (aCons (cOp2 opAdd (cVar 3) (cK (.int 1))) aNil))) (gNm 13) (tVal (cOp2 opIn (cOp2 opMod (cVar 13) (cVar 3)) (cCall 2 F_law_home (aCons (cVar 4) (aCons (cVar 4) aNil))))) (cVar 13)) (gNm 5))
  (sSeq (sPar 6 7 (aCons (cOpN (op1 fTuple) (aCons (cLc [14] (iSeq (cVar 4)) (gNm 14) tYesC (cOpN (op1 fTuple) (aCons (cLstRev (cVar 14)) aNil))) aNil)) (aCons (cOpN (op1 fTuple) (aCons (cLstRev (cVar 4)) aNil)) aNil)))
  (sSeq (sAsg (cOpN (op1 fTuple) (aCons (cLstRev (cVar 6)) aNil)) (gNm 8))
  (sSeq (sIf (tOrC (tVal (cOp2 opNe (cCall 1 F_step_of (aCons (cVar 4) aNil)) (cOp2 opIx (cVar 5) (cK (.int 0))))) (tOrC (tVal (cOp2 opNe (cCall 1 F_left_right (aCons (cVar 4) aNil)) (cVar 6))) (tVal (cOp2 opNe (cCall 1 F_up_down (aCons (cVar 4) aNil)) (cVar 7)))))
  (sRet (cK (.bl false)))
  sNext)
  (sSeq (sIf (tVal (cOp2 opNe (cOpN (op1 fList) (aCons (cCall 2 F_homes (aCons (cVar 4) (aCons (cVar 6) aNil))) aNil)) (cCall 2 F_law_home (aCons (cVar 4) (aCons (cVar 6) aNil)))))
  (sRet (cK (.bl false)))
  sNext)
  (sSeq (sAsg (cCall 2 F_law_home (aCons (cVar 4) (aCons (cVar 7) aNil))) (gNm 9))
  (sSeq (sAsg (cDisp (kCons (cK (.str "upright")) (cOp2 opNe (cCall 2 F_law_home (aCons (cVar 4) (aCons (cVar 6) aNil))) (cLst aNil)) (kCons (cK (.str "midline")) (cOp2 opIn (cK (.int 0)) (cVar 9)) (kCons (cK (.str "glide")) (cAnd (cOp2 opNe (cVar 9) (cLst aNil)) (cOp2 opNotIn (cK (.int 0)) (cVar 9))) (kCons (cK (.str "half turn")) (cOp2 opNe (cCall 2 F_law_home (aCons (cVar 4) (aCons (cVar 8) aNil))) (cLst aNil)) kNil))))) (gNm 10))
  (sSeq (sIf (tVal (cOp2 opNe (cCall 1 F_turns (aCons (cVar 4) aNil)) (cVar 10)))
  (sRet (cK (.bl false)))
  sNext)
  (sSeq (sAsg (cCall 1 F_sort_of (aCons (cVar 4) aNil)) (gNm 11))
  (sSeq (sIf (tVal (cOp2 opNotIn (cVar 11) (cK d_SORTS)))
  (sRet (cK (.bl false)))
  sNext)
  (sSeq (sIf (tVal (cOp2 opNe (cLc [15] (iSeq (cLst (aCons (cVar 6) (aCons (cVar 7) (aCons (cVar 8) (aCons (cCall 2 F_shifted (aCons (cVar 4) (aCons (cK (.int 1)) aNil))) aNil)))))) (gNm 15) (tOrC (tVal (cOp2 opNe (cCall 1 F_sort_of (aCons (cVar 15) aNil)) (cVar 11))) (tNotC (tTru (cCall 2 F_same_bands (aCons (cVar 15) (aCons (cVar 4) aNil)))))) (cVar 15)) (cLst aNil)))
  (sRet (cK (.bl false)))
  sNext)
  (sSeq (sAsg (cCall 1 F_least_piece (aCons (cVar 4) aNil)) (gNm 12))
  (sSeq (sIf (tOrC (tVal (cOp2 opNe (cOpN (op1 fLen) (aCons (cOp2 opIx (cVar 12) (cK (.int 0))) aNil)) (cOp2 opIx (cVar 5) (cK (.int 0))))) (tOrC (tVal (cOp2 opNe (cOp2 opMod (cVar 3) (cOp2 opIx (cVar 5) (cK (.int 0)))) (cK (.int 0)))) (tVal (cOp2 opNe (cCall 1 F_beside (aCons (cOp2 opMul (cLst (aCons (cVar 12) aNil)) (cOp2 opDiv (cVar 3) (cOp2 opIx (cVar 5) (cK (.int 0))))) aNil)) (cVar 4)))))
  (sRet (cK (.bl false)))
  sNext)
  (sSeq (sIf (tOrC (tVal (cOp2 opNotIn (cCall 1 F_copies_in (aCons (cVar 4) aNil)) (cLst (aCons (cK (.int 1)) (aCons (cK (.int 2)) (aCons (cK (.int 4)) aNil)))))) (tVal (cOp2 opNe (cOp2 opEq (cCall 1 F_copies_in (aCons (cVar 4) aNil)) (cK (.int 1))) (cOp2 opEq (cVar 11) (cK (.str "steps"))))))
  (sRet (cK (.bl false)))
  sNext)
  (sSeq (sIf (tAndC (tTru (cOp2 opIx (cVar 10) (cK (.str "upright")))) (tAndC (tTru (cOp2 opIx (cVar 10) (cK (.str "half turn")))) (tAndC (tNotC (tTru (cOp2 opIx (cVar 10) (cK (.str "midline"))))) (tNotC (tTru (cOp2 opIx (cVar 10) (cK (.str "glide"))))))))
  (sRet (cK (.bl false)))
  sNext)
  (sIf (tNotC (tTru (cCall 2 F_law_rest1 (aCons (cVar 4) (aCons (cVar 5) aNil)))))
  (sRet (cK (.bl false)))
  sNext))))))))))))))))
end K14
end L2.Th

set_option Elab.async false
set_option linter.all false
set_option maxRecDepth 100000
set_option maxHeartbeats 4000000
namespace L2.Th
open PySem PySem.Spec PyProof.Rows
section
variable {env : Env} {S : Store} {a b c : Code} {x y z : D} {i j : Nat}
theorem ev_par {r : Res SRes} {ac : ACode} {c2 : SCode} (h : ac env S = .ok [x, y]) (k : c2 ((env.set i (some x)).set j (some y)) S = r) : sSeq (sPar i j ac) c2 env S = r := by
  unfold sSeq sPar
  rw [h]
  exact k
theorem ev_lstRev {xs : List D} (h : a env S = .ok (.tup xs)) : cLstRev a env S = .ok (.lst xs.reverse) := by
  unfold cLstRev
  rw [h]
  rfl
theorem eqDs_nats : ∀ l : List Nat, eqDs (l.map fun (i : Nat) => D.int (i : Int)) (l.map fun (i : Nat) => D.int (i : Int)) = true := fun l => by
  rw [eqDs_map, List.all_eq_true]
  intro i _
  show ((i : Int) == (i : Int)) = true
  simp
theorem ne_nats (l : List Nat) : opNe S (.lst (l.map fun (i : Nat) => D.int (i : Int))) (.lst (l.map fun (i : Nat) => D.int (i : Int))) = .ok (.bl false) := by
  refine (ev_neL (x := .lst (l.map fun (i : Nat) => D.int (i : Int))) (y := .lst (l.map fun (i : Nat) => D.int (i : Int))) (lay_nats 58 l) (lay_nats 58 l)).trans ?_
  show Res.ok (D.bl (!eqDs _ _)) = _
  rw [eqDs_nats]
  rfl
theorem ne_nil (l : List Nat) : opNe S (.lst (l.map fun (i : Nat) => D.int (i : Int))) (.lst []) = .ok (.bl (!l.isEmpty)) := by
  refine (ev_neL (x := .lst (l.map fun (i : Nat) => D.int (i : Int))) (y := .lst []) (lay_nats 58 l) rfl).trans ?_
  show Res.ok (D.bl (!eqDs _ [])) = _
  cases l <;> rfl
theorem in_nats (m : Int) (l : List Nat) : opIn S (.int m) (.lst (l.map fun (i : Nat) => D.int (i : Int))) = .ok (.bl (l.any fun (i : Nat) => (i : Int) == m)) := by
  show (do let b ← (do need (true && (l.map fun (i : Nat) => D.int (i : Int)).all (lay 59)); Res.ok ((l.map fun (i : Nat) => D.int (i : Int)).any fun z => eqD z (.int m))); Res.ok (D.bl b)) = _
  rw [lay_nats 58 l, List.any_map]
  rfl
theorem notin_nats (m : Int) (l : List Nat) : opNotIn S (.int m) (.lst (l.map fun (i : Nat) => D.int (i : Int))) = .ok (.bl (!(l.any fun (i : Nat) => (i : Int) == m))) := by
  show (do let b ← (do need (true && (l.map fun (i : Nat) => D.int (i : Int)).all (lay 59)); Res.ok ((l.map fun (i : Nat) => D.int (i : Int)).any fun z => eqD z (.int m))); Res.ok (D.bl (!b))) = _
  rw [lay_nats 58 l, List.any_map]
  rfl
end
theorem mul_lst {S : Store} {xs : List D} {k : Int} (h : (decide (-(2 ^ 63) ≤ k) && decide (k < 2 ^ 63) && decide (xs.length * k.toNat ≤ sizeLine)) = true) : opMul S (.lst xs) (.int k) = .ok (.lst (List.replicate k.toNat xs).flatten) := by
  show (do need (decide (-(2 ^ 63) ≤ k) && decide (k < 2 ^ 63) && decide (xs.length * k.toNat ≤ sizeLine)); Res.ok (D.lst (List.replicate k.toNat xs).flatten)) = _
  rw [h]
  rfl
theorem mul_one {S : Store} {x : D} {n : Nat} (h : n ≤ 4096) : opMul S (.lst [x]) (.int (n : Int)) = .ok (.lst (List.replicate n x)) := by
  rw [mul_lst (by
    rw [decide_eq_true (show -(2 ^ 63) ≤ (n : Int) by omega), decide_eq_true (show (n : Int) < 2 ^ 63 by omega), decide_eq_true (by rw [List.length_singleton, Int.toNat_natCast, Nat.one_mul]; exact Nat.le_trans h line_big)]
    rfl), Int.toNat_natCast, List.flatten_replicate_singleton]
namespace K14
theorem ne_turns {S : Store} (a b c d : Bool) : opNe S (turnsD a b c d) (turnsD a b c d) = .ok (.bl false) := by
  cases a <;> cases b <;> cases c <;> cases d <;> kernel_rfl
theorem notin_sorts {S : Store} (a b c d : Bool) : opNotIn S (.str (sortX a b c d)) d_SORTS = .ok (.bl false) := by
  cases a <;> cases b <;> cases c <;> cases d <;> kernel_rfl
theorem eq_steps {S : Store} (a b c d : Bool) : opEq S (.str (sortX a b c d)) (.str "steps") = .ok (.bl (!a && !b && !c && !d)) := by
  cases a <;> cases b <;> cases c <;> cases d <;> kernel_rfl
theorem notin_124 {S : Store} (a b c d : Bool) (h : (b && c) = false) : opNotIn S (.int (cop a b c d)) (.lst [.int 1, .int 2, .int 4]) = .ok (.bl false) := by
  cases a <;> cases b <;> cases c <;> cases d <;> first | exact absurd h (by decide) | kernel_rfl
theorem cop_one (a b c d : Bool) : (cop a b c d == 1) = (!a && !b && !c && !d) := by
  cases a <;> cases b <;> cases c <;> cases d <;> decide
section
variable {h w : Nat} {f t : Bd}
theorem eqB_self : eqB h w f f = true := by
  unfold eqB
  simp
theorem in_law (o : Ok h w f) (i : Nat) : ((homesL h w f f).any fun (k : Nat) => (k : Int) == ((1 + i : Nat) : Int) % w) = eqB h w (sh ((1 + i : Nat) : Int) f) f := by
  have w1 := o.w1
  rw [Bool.eq_iff_iff, List.any_eq_true, eqB_iff o.w1 (o.p.sh _) o.p]
  have e0 : 0 ≤ ((1 + i : Nat) : Int) % w := Int.emod_nonneg _ (by omega)
  have e1 : ((1 + i : Nat) : Int) % w < w := Int.emod_lt_of_pos _ (by omega)
  have key : ∀ j (k : Int), f j (k - ((1 + i : Nat) : Int) % w) = f j (k - ((1 + i : Nat) : Int)) := fun j k => by
    rw [← o.p.mulZ j (k - ((1 + i : Nat) : Int)) (((1 + i : Nat) : Int) / w)]
    congr 1
    have := Int.emod_add_mul_ediv ((1 + i : Nat) : Int) w
    omega
  constructor
  · rintro ⟨s, hs, e⟩ j hj k
    have e : (s : Int) = ((1 + i : Nat) : Int) % w := by simpa using e
    have := ((mem_homes o o).mp hs).2 j hj k
    rw [e, key] at this
    exact this
  · intro q
    refine ⟨(((1 + i : Nat) : Int) % w).toNat, (mem_homes o o).mpr ⟨by omega, fun j hj k => ?_⟩, by rw [Int.toNat_of_nonneg e0]; simp⟩
    rw [Int.toNat_of_nonneg e0, key]
    exact q j hj k
theorem gl_alt (o : Ok h w f) : (!(homesL h w f (ud h f)).isEmpty && !miB h w f) = glB h w f := by
  rw [Bool.eq_iff_iff, gl_iff o, Bool.and_eq_true, g_iff o, Bool.not_eq_true', ← Bool.not_eq_true, mi_iff o]
theorem mi_gl (o : Ok h w f) : (miB h w f && glB h w f) = false := by
  rw [← gl_alt o]
  cases miB h w f
  · rfl
  · simp
theorem ev_rows (o : Ok h w f) {env : Env} {i : Nat} (e : env[i]? = some (some (bandD h w f))) : cOpN (op1 fTuple) (aCons (cLstRev (cVar i)) aNil) env [] = .ok (bandD h w (ud h f)) := by
  refine ev_1 (ev_lstRev (ev_var e)) ?_
  show Res.ok (D.tup ((List.range h).map fun j => rowD w (f j)).reverse) = _
  rw [rev_rng]
  rfl
theorem ev_mirror (o : Ok h w f) {env : Env} (e : env[4]? = some (some (bandD h w f))) (e' : ∀ x : D, ((wipeE env [14]).set 14 (some x))[14]? = some (some x)) :
    cOpN (op1 fTuple) (aCons (cLc [14] (iSeq (cVar 4)) (gNm 14) tYesC (cOpN (op1 fTuple) (aCons (cLstRev (cVar 14)) aNil))) aNil) env [] = .ok (bandD h w (lr w f)) := by
  have h2 := o.h2
  refine ev_1 (x := .lst ((List.range h).map fun j => rowD w (lr w f j))) ?_ rfl
  refine ev_lc (ev_seqT (ev_var e)) (by rw [List.length_range]; omega) fun j hj => ?_
  refine ev_1 (ev_lstRev (ev_var (e' _))) ?_
  show Res.ok (D.tup ((List.range w).map fun (k : Nat) => D.bl (f j k)).reverse) = _
  rw [rev_rng]
  unfold rowD lr
  refine congrArg (fun l => Res.ok (D.tup l)) (List.map_congr_left fun k hk => ?_)
  have := List.mem_range.mp hk
  rw [show ((w - 1 - k : Nat) : Int) = (w : Int) - 1 - k by omega]
theorem nl_steps : noL (stepsD h w f) = true := by
  unfold stepsD noL
  exact nl_nats _
theorem main_run (o : Ok h w f) : ∃ e, lawRest [none, some .dice, some (.int h), some (.int w), some (bandD h w f), none, none, none, none, none, none, none, none, none, none, none] [] = .ok (.nx, e, []) := by
  have s1 := st_pos o
  have s2 := st_le o
  have w1 := o.w1
  have w2 := o.w2
  have h1 := o.h1
  have h2 := o.h2
  refine ⟨[none, some .dice, some (.int h), some (.int w), some (bandD h w f), some (stepsD h w f), some (bandD h w (lr w f)), some (bandD h w (ud h f)), some (bandD h w (ud h (lr w f))), some (.lst ((homesL h w f (ud h f)).map fun (i : Nat) => .int i)), some (turnsD (upB h w f) (miB h w f) (glB h w f) (htB h w f)), some (.str (sortB h w f)), some (bandD h (st h w f) f), none, none, none], ?_⟩
  unfold lawRest
  refine ev_set (x := stepsD h w f) ?_ ?_
  · refine (ev_lcF (own := [13]) (i := 13) (S := []) (xs := List.range (w + 1 - 1)) (G := fun (i : Nat) => .int ((1 + i : Nat) : Int)) (p := fun i => eqB h w (sh ((1 + i : Nat) : Int) f) f) (V := fun (i : Nat) => .int ((1 + i : Nat) : Int))
      (ev_rng2 (m := 1) (n := w + 1) rfl rfl (by omega) (by omega)) (by rw [List.length_range]; omega) (fun i hi => ev_val (ev_op2 (ev_op2 (ev_var rfl) (ev_var rfl) (ev_mod (by omega))) (ev_c2 (ev_var rfl) (ev_var rfl) noL_band noL_band (E_law_home o o)) ?_)) fun i hi _ => ev_var rfl).trans ?_
    · rw [in_nats, in_law o]
    · unfold stepsD stepsN
      rw [List.map_map, Nat.add_sub_cancel]
      rfl
  refine ev_par (ev_cons (ev_mirror o rfl fun _ => rfl) (ev_cons (ev_rows o rfl) ev_nil)) ?_
  refine ev_set (ev_rows o.lr rfl) ?_
  refine ev_ifS (k := false) (ev_orT (k := false) (l := false) (ev_val (ev_op2 (ev_c1 (ev_var rfl) noL_band (E_step_of o)) (ev_op2 (ev_var rfl) rfl (ix_steps o)) ?_)) fun _ => ev_orT (k := false) (l := false) (ev_val (ev_op2 (ev_c1 (ev_var rfl) noL_band (E_lr o)) (ev_var rfl) (by rw [ev_neBd, eqB_self]; rfl))) fun _ => ev_val (ev_op2 (ev_c1 (ev_var rfl) noL_band (E_ud o)) (ev_var rfl) (by rw [ev_neBd, eqB_self]; rfl))) (fun z => by cases z) fun _ => ev_nextS ?_
  · show Res.ok (D.bl (!((st h w f : Int) == (st h w f : Int)))) = _
    simp
  refine ev_ifS (k := false) (ev_val (ev_op2 (x := .lst ((homesL h w f (lr w f)).map fun (i : Nat) => .int i)) (ev_1 (ev_c2 (ev_var rfl) (ev_var rfl) noL_band noL_band (E_homes o o.lr)) rfl) (ev_c2 (ev_var rfl) (ev_var rfl) noL_band noL_band (E_law_home o o.lr)) (ne_nats _))) (fun z => by cases z) fun _ => ev_nextS ?_
  refine ev_set (ev_c2 (ev_var rfl) (ev_var rfl) noL_band noL_band (E_law_home o o.ud)) ?_
  refine ev_set (x := turnsD (upB h w f) (miB h w f) (glB h w f) (htB h w f)) ?_ ?_
  · let en : Env := [none, some .dice, some (.int h), some (.int w), some (bandD h w f), some (stepsD h w f), some (bandD h w (lr w f)), some (bandD h w (ud h f)), some (bandD h w (ud h (lr w f))), some (.lst ((homesL h w f (ud h f)).map fun (i : Nat) => .int i)), none, none, none, none, none, none]
    have a1 : cOp2 opNe (cCall 2 F_law_home (aCons (cVar 4) (aCons (cVar 6) aNil))) (cLst aNil) en [] = .ok (.bl (upB h w f)) := ev_op2 (ev_c2 (ev_var rfl) (ev_var rfl) noL_band noL_band (E_law_home o o.lr)) ev_lst0 (ne_nil _)
    have a2 : cOp2 opIn (cK (.int 0)) (cVar 9) en [] = .ok (.bl (miB h w f)) := ev_op2 rfl (ev_var rfl) (in_nats 0 _)
    have a3 : cAnd (cOp2 opNe (cVar 9) (cLst aNil)) (cOp2 opNotIn (cK (.int 0)) (cVar 9)) en [] = .ok (.bl (glB h w f)) := by
      rw [← gl_alt o]
      exact ev_and (ev_op2 (ev_var rfl) ev_lst0 (ne_nil _)) fun _ => ev_op2 rfl (ev_var rfl) (notin_nats 0 _)
    have a4 : cOp2 opNe (cCall 2 F_law_home (aCons (cVar 4) (aCons (cVar 8) aNil))) (cLst aNil) en [] = .ok (.bl (htB h w f)) := ev_op2 (ev_c2 (ev_var rfl) (ev_var rfl) noL_band noL_band (E_law_home o o.lr.ud)) ev_lst0 (ne_nil _)
    show cDisp _ en [] = _
    unfold cDisp kCons
    rw [a1, a2, a3, a4]
    show Res.ok (D.dct (mergeD [] [(.inr "upright", .bl (upB h w f)), (.inr "midline", .bl (miB h w f)), (.inr "glide", .bl (glB h w f)), (.inr "half turn", .bl (htB h w f))])) = _
    rw [merge_u]
    rfl
  refine ev_ifS (k := false) (ev_val (ev_op2 (ev_c1 (ev_var rfl) noL_band (E_turns o)) (ev_var rfl) (ne_turns _ _ _ _))) (fun z => by cases z) fun _ => ev_nextS ?_
  refine ev_set (ev_c1 (ev_var rfl) noL_band (E_sort o)) ?_
  refine ev_ifS (k := false) (ev_val (ev_op2 (ev_var rfl) rfl (notin_sorts _ _ _ _))) (fun z => by cases z) fun _ => ev_nextS ?_
  refine ev_ifS (k := false) (ev_val (ev_op2 (x := .lst []) ?_ ev_lst0 rfl)) (fun z => by cases z) fun _ => ev_nextS ?_
  · refine (ev_lcF (own := [15]) (i := 15) (S := []) (xs := [lr w f, ud h f, ud h (lr w f), sh 1 f]) (G := bandD h w) (p := fun _ => false) (V := bandD h w) (ev_seqL (ev_lstA (ev_cons (ev_var rfl) (ev_cons (ev_var rfl) (ev_cons (ev_var rfl) (ev_cons (ev_c2 (ev_var rfl) rfl noL_band rfl (E_sh o 1)) ev_nil)))) (show 4 ≤ 4096 by decide))) (show 4 ≤ 4096 by decide) (fun g hg => ?_) fun _ _ z => by cases z).trans rfl
    have hq : Ok h w g ∧ sortB h w g = sortB h w f ∧ sameB h w g f = true := by
      simp only [List.mem_cons, List.not_mem_nil, or_false] at hg
      rcases hg with rfl | rfl | rfl | rfl
      · exact ⟨o.lr, sort_lr o, same_lr o⟩
      · exact ⟨o.ud, sort_ud o, same_ud o⟩
      · exact ⟨o.lr.ud, (sort_ud o.lr).trans (sort_lr o), same_tu o⟩
      · exact ⟨o.sh 1, sort_sh o 1, same_sh o⟩
    refine ev_orT (k := false) (l := false) (ev_val (ev_op2 (ev_c1 (ev_var rfl) noL_band (E_sort hq.1)) (ev_var rfl) (ne_str hq.2.1 ⟨_, _, _, _, rfl⟩))) fun _ => ?_
    refine (ev_notT (ev_tru (x := .bl true) (ev_c2 (ev_var rfl) (ev_var rfl) noL_band noL_band ((E_same hq.1 o).trans (by rw [hq.2.2]))) rfl))
  refine ev_set (ev_c1 (ev_var rfl) noL_band (E_least o)) ?_
  have hst : ∀ (p q r : Option D) (y z : Option D) (dd ee : Option D), cOp2 opIx (cVar 5) (cK (.int 0)) [none, some .dice, some (.int h), some (.int w), some (bandD h w f), some (stepsD h w f), p, q, r, y, z, dd, ee, none, none, none] [] = .ok (.int (st h w f)) := fun p q r y z dd ee => ev_op2 (ev_var rfl) rfl (ix_steps o)
  have hdv : w / st h w f * st h w f = w := Nat.div_mul_cancel (Nat.dvd_of_mod_eq_zero (st_dvd o))
  have hq1 : 1 ≤ w / st h w f := Nat.div_pos s2 s1
  refine ev_ifS (k := false) (ev_orT (k := false) (l := false) (ev_val (ev_op2 (x := .int (st h w f)) (ev_1 (x := rowD (st h w f) (f 0)) (ev_op2 (ev_var rfl) rfl ?_) ?_) (hst _ _ _ _ _ _ _) ?_)) fun _ => ev_orT (k := false) (l := false) (ev_val (ev_op2 (ev_op2 (ev_var rfl) (hst _ _ _ _ _ _ _) (ev_mod (by omega))) rfl ?_)) fun _ => ev_val (ev_op2 (x := bandD h w f) (ev_c1 (x := .lst (List.replicate (w / st h w f) (bandD h (st h w f) f))) (ev_op2 (x := .lst [bandD h (st h w f) f]) (y := .int ((w / st h w f : Nat) : Int)) (ev_lstA (ev_cons (ev_var rfl) ev_nil) (show 1 ≤ 4096 by decide)) (ev_op2 (ev_var rfl) (hst _ _ _ _ _ _ _) (ev_div (by omega) (by omega))) ?_) (by unfold noL; exact nl_rep noL_band _) ((E_beside h1 h2 hq1 (by omega) s1 ?_).trans (by rw [hdv]))) (ev_var rfl) (by rw [ev_neBd, eqB_self]; rfl))) (fun z => by cases z) fun _ => ev_nextS ?_
  · show opt (atI ((List.range h).map fun j => rowD (st h w f) (f j)) 0) = _
    rw [atI_map (by omega) (by omega)]
    rfl
  · show Res.ok (D.int (((List.range (st h w f)).map fun (k : Nat) => D.bl (f 0 k)).length)) = _
    rw [List.length_map, List.length_range]
  · show Res.ok (D.bl (!((st h w f : Int) == (st h w f : Int)))) = _
    simp
  · show Res.ok (D.bl (!((w : Int) % (st h w f : Int) == 0))) = _
    rw [← Int.natCast_emod, st_dvd o]
    rfl
  · exact mul_one (Nat.le_trans (Nat.div_le_self _ _) (by omega))
  · intro j hj k
    have := st_per o j hj (k + st h w f)
    rw [← this]
    congr 1
    omega
  refine ev_ifS (k := false) (ev_orT (k := false) (l := false) (ev_val (ev_op2 (ev_c1 (ev_var rfl) noL_band (E_copies o)) (ev_lstA (ev_cons rfl (ev_cons rfl (ev_cons rfl ev_nil))) (show 3 ≤ 4096 by decide)) (notin_124 _ _ _ _ (mi_gl o)))) fun _ => ev_val (ev_op2 (ev_op2 (ev_c1 (ev_var rfl) noL_band (E_copies o)) rfl (r := .ok (.bl (cop (upB h w f) (miB h w f) (glB h w f) (htB h w f) == 1))) rfl) (ev_op2 (ev_var rfl) rfl (eq_steps _ _ _ _)) ?_)) (fun z => by cases z) fun _ => ev_nextS ?_
  · rw [cop_one]
    cases (!upB h w f && !miB h w f && !glB h w f && !htB h w f) <;> rfl
  refine ev_ifS (k := false) ((ev_andT (ev_tru (ev_op2 (ev_var rfl) rfl (ix_up _ _ _ _)) rfl) fun _ => ev_andT (ev_tru (ev_op2 (ev_var rfl) rfl (ix_ht _ _ _ _)) rfl) fun _ => ev_andT (ev_notT (ev_tru (ev_op2 (ev_var rfl) rfl (ix_mi _ _ _ _)) rfl)) fun _ => ev_notT (ev_tru (ev_op2 (ev_var rfl) rfl (ix_gl _ _ _ _)) rfl)).trans ?_) (fun z => by cases z) fun _ => ev_nextS ?_
  · have hu := up_ht o
    congr 1
    cases hU : upB h w f <;> cases hT : htB h w f <;> cases hM : miB h w f <;> cases hG : glB h w f <;> first | rfl | (rcases hu hU hT with z | z <;> (first | (rw [hM] at z; cases z) | (rw [hG] at z; cases z)))
  exact ev_if (k := false) (ev_notT (k := true) (ev_tru (x := .bl true) (ev_c2 (ev_var rfl) (ev_var rfl) noL_band nl_steps (E_rest1 o)) rfl)) (fun z => by cases z) fun _ => rfl
end
end K14
end L2.Th

set_option Elab.async false
set_option linter.all false
set_option maxRecDepth 100000
set_option maxHeartbeats 4000000
namespace L2.Th
open PySem PySem.Spec PyProof.Rows
namespace K14
theorem draw1 {env : Env} {S : Store} {m : Int} (e : env[1]? = some (some .dice)) (h : 0 < m) (h2 : m < 1073741824) : cOp2 opAdd (cK (.int 1)) (cCall 2 fRoll (aCons (cVar 1) (aCons (cK (.int m)) aNil))) env S = .roll m fun r => .ok (.int (1 + r)) := by
  have q : cCall 2 fRoll (aCons (cVar 1) (aCons (cK (.int m)) aNil)) env S = .roll m fun r => .ok (.int r) := ev_c2 (ev_var e) rfl rfl rfl (roll_ok h h2)
  unfold cOp2
  rw [q]
  rfl
theorem law_w : SatW (c_law [none, some .dice, none, none, none, none, none, none, none, none, none, none, none, none, none, none] []) (fun r => r.1 = .nx) := by
  have eA : sAsg (cTup (aCons (cOp2 opAdd (cK (.int 1)) (cCall 2 fRoll (aCons (cVar 1) (aCons (cK (.int 3)) aNil)))) (aCons (cOp2 opAdd (cK (.int 1)) (cCall 2 fRoll (aCons (cVar 1) (aCons (cK (.int 6)) aNil)))) aNil))) (gTupC 2 (gMore (gNm 2) (gMore (gNm 3) gNone)))
      [none, some .dice, none, none, none, none, none, none, none, none, none, none, none, none, none, none] [] = .roll 3 fun r1 => .roll 6 fun r2 => .ok (.nx, [none, some .dice, some (.int (1 + r1)), some (.int (1 + r2)), none, none, none, none, none, none, none, none, none, none, none, none], []) := by
    have a1 := draw1 (env := [none, some .dice, none, none, none, none, none, none, none, none, none, none, none, none, none, none]) (S := []) (m := 3) rfl (by decide) (by decide)
    have a2 := draw1 (env := [none, some .dice, none, none, none, none, none, none, none, none, none, none, none, none, none, none]) (S := []) (m := 6) rfl (by decide) (by decide)
    generalize cOp2 opAdd (cK (.int 1)) (cCall 2 fRoll (aCons (cVar 1) (aCons (cK (.int 3)) aNil))) = x1 at a1 ⊢
    generalize cOp2 opAdd (cK (.int 1)) (cCall 2 fRoll (aCons (cVar 1) (aCons (cK (.int 6)) aNil))) = x2 at a2 ⊢
    unfold sAsg cTup aCons aNil
    rw [a1, a2]
    rfl
  unfold c_law
  refine SatW.seq ?_
  rw [eA]
  refine .roll (by decide) fun r1 h0 h1 => .roll (by decide) fun r2 h2 h3 => .ok ⟨rfl, ?_⟩
  show SatW (sSeq (sAsg (cCall 3 F_law_picture (aCons (cVar 1) (aCons (cVar 2) (aCons (cVar 3) aNil)))) (gNm 4)) lawRest [none, some .dice, some (.int (1 + r1)), some (.int (1 + r2)), none, none, none, none, none, none, none, none, none, none, none, none] []) _
  obtain ⟨h, eh⟩ : ∃ h : Nat, 1 + r1 = (h : Int) := ⟨(1 + r1).toNat, by omega⟩
  obtain ⟨w, ew⟩ : ∃ w : Nat, 1 + r2 = (w : Int) := ⟨(1 + r2).toNat, by omega⟩
  rw [eh, ew]
  have e3 : cCall 3 F_law_picture (aCons (cVar 1) (aCons (cVar 2) (aCons (cVar 3) aNil))) [none, some .dice, some (.int h), some (.int w), none, none, none, none, none, none, none, none, none, none, none, none] [] = F_law_picture [.dice, .int h, .int w] := ev_c3 (ev_var rfl) (ev_var rfl) (ev_var rfl) rfl rfl rfl rfl
  refine SatW.seq (SatW.asg ?_)
  rw [e3]
  refine (pic_sat (by omega) (by omega) (by omega)).mono fun d hd => ?_
  obtain ⟨f, pf, rfl⟩ := hd
  obtain ⟨e, he⟩ := main_run (f := f) (h := h) (w := w) ⟨by omega, by omega, by omega, by omega, pf⟩
  exact ⟨rfl, .of he rfl⟩
end K14
end L2.Th
open PySem PySem.W PySem.Calls PyProof.Rows
theorem PySem.Challenge.cw_threadhall_k14_repeats_holds : PySem.Challenge.rw_threadhall_k14_repeats.Holds :=
  PySem.Challenge.cw_threadhall_k14_repeats_of L2.Th.K14.law_w.s
