import PyProof.Rows.All
import Wide.All
import OpenK.AllK
import Wide.FinOn
import HandS.ForMost
import HandS.ForExc
import PyProof.PureStr
import HandS.IsInst
import HandS.DictComp
import HandS.HeadWalk
import HandS.More
import HandS.SetFor
import HandS.SetTxt0
import HandS.Strs
import HandS.Zip
import HandS.Zip0
import HandS.TupAny
import HandS.ExcInit
import HandS.ExcSuper
import HandS.FStr
import KE.KExcSuper
import HandS.ExcIs
import HandS.ExcField
import KE.KExcIs
import HandS.Small
import HandS.Style
import HandS.TryMany
import HandS.Defaults
import HandS.HeadHook1
import HandS.HeadHook2
import HandS.HeadHook3
import HandS.HeadHook4
import HandS.Head0
import HandS.Head1
import HandS.Head2
import HandS.HeadEnd
import PySem.Challenge.RW_meansback_k01_books_refused
section
set_option Elab.async false
set_option linter.all false
set_option maxRecDepth 100000
/-! The Sim layer, A: data, the live store, what stands for what. -/
namespace Sim
open PySem PySem.Spec PyProof.Rows L2

/-- immutable data -/
inductive PD where
  | non | bl (b : Bool) | int (i : Int) | str (x : Str)
  | tup (xs : List PD) | lst (xs : List PD) | dct (kvs : List (PD × PD)) | obj (c : Nat) (fs : List (Str × PD))
  /-- the script -/
  | scr (ns : List Int)
  deriving Inhabited
/-- a value: data, or a live object -/
inductive LV where
  | p (v : PD) | ref (n : Nat)
  deriving Inhabited
/-- a live object -/
inductive LO where
  | lst (xs : List PD) | dct (kvs : List (PD × LV)) | ins (c : Nat) (fs : List (Str × LV))
abbrev LH := List (Option LO)
structure Exn where
  c : Nat
  fs : List (Str × PD)
inductive R (α : Type) where
  | ok (a : α) (h : LH) | exc (e : Exn) (h : LH) | bad

/-- where classes stand -/
structure Ct where
  P : Program
  w : World
  K : PySem.W.Frag
  ct : Nat → Addr
  xt : Nat → Addr

/-- a dict of the written part -/
def KDk (c : Ct) (a : Addr) (kws : List (Key × V)) : Prop := kws.length ≤ sizeLine ∧ (a == sysModules) = false ∧ (∃ o es ep, c.K.lookup a = some o ∧ o.ExactDict ∧ o.data = .dict es ep) ∧
  ∀ h : Heap, c.K.In h → ∃ vs, KV kws vs ∧ h.DictOf (mixKind c.P c.w) a vs
/-- a dict that is read: tracked, or written -/
def DRd (c : Ct) (G : Hp) (a : Addr) (kws : List (Key × V)) : Prop := Rd G a (.dK kws) ∨ KDk c a kws
def kOf : PD → Option Key
  | .int i => some (.inl i)
  | .str x => some (.inr x)
  | _ => none

mutual
inductive RP (c : Ct) (G : Hp) : PD → V → Prop
  | non : RP c G .non .non
  | bl (b : Bool) : RP c G (.bl b) (.bl b)
  | int (i : Int) : RP c G (.int i) (.int i)
  | str (x : Str) : RP c G (.str x) (.str x)
  | tup {a : Addr} {xs : List PD} {vs : List V} : SqT c.K G a vs → RPs c G xs vs → RP c G (.tup xs) (.ref a)
  | lst {a : Addr} {xs : List PD} {vs : List V} : G a = some (.lst vs) → RPs c G xs vs → RP c G (.lst xs) (.ref a)
  | dct {a : Addr} {kvs : List (PD × PD)} {kws : List (Key × V)} : DRd c G a kws → RKs c G kvs kws → RP c G (.dct kvs) (.ref a)
  | scr {a : Addr} {ns : List Int} : SqL c.K G a (ns.map V.int) → RP c G (.scr ns) (.ref a)
  | obj {a dx : Addr} {i : Nat} {fs : List (Str × PD)} {gs : List (Str × V)} : G a = some (.ins (c.ct i) dx gs) → RFs c G fs gs → RP c G (.obj i fs) (.ref a)
inductive RPs (c : Ct) (G : Hp) : List PD → List V → Prop
  | nil : RPs c G [] []
  | cons {x : PD} {v : V} {xs : List PD} {vs : List V} : RP c G x v → RPs c G xs vs → RPs c G (x :: xs) (v :: vs)
inductive RKs (c : Ct) (G : Hp) : List (PD × PD) → List (Key × V) → Prop
  | nil : RKs c G [] []
  | cons {k : PD} {k' : Key} {x : PD} {v : V} {r : List (PD × PD)} {r' : List (Key × V)} : kOf k = some k' → RP c G x v → RKs c G r r' → RKs c G ((k, x) :: r) ((k', v) :: r')
inductive RFs (c : Ct) (G : Hp) : List (Str × PD) → List (Str × V) → Prop
  | nil : RFs c G [] []
  | cons {f : Str} {x : PD} {v : V} {r : List (Str × PD)} {r' : List (Str × V)} : RP c G x v → RFs c G r r' → RFs c G ((f, x) :: r) ((f, v) :: r')
end

/-- what is frozen stays; a dict may be locked -/
def Le (G G' : Hp) : Prop := ∀ b o, G b = some o → G' b = some o ∨ ((∃ kws, o = .dK kws) ∧ ∃ ob, G' b = some (.frz ob o))
theorem Le.refl (G : Hp) : Le G G := fun _ _ h => .inl h
theorem Le.of {G G' : Hp} (s : Same G G') : Le G G' := fun b o h => .inl (s b o h)
theorem Le.trans {G G1 G2 : Hp} (a : Le G G1) (b : Le G1 G2) : Le G G2 := fun x o h => by
  rcases a x o h with h1 | ⟨h1, ob, h2⟩
  · exact b x o h1
  · rcases b x _ h2 with h3 | ⟨⟨k, e⟩, _⟩
    · exact .inr ⟨h1, ob, h3⟩
    · cases e
theorem Le.rd {G G' : Hp} {a : Addr} {u : HO} (s : Le G G') (h : Rd G a u) : Rd G' a u := by
  rcases h with h | ⟨o, h⟩
  · rcases s a u h with h1 | ⟨_, ob, h2⟩
    · exact .inl h1
    · exact .inr ⟨ob, h2⟩
  · rcases s a _ h with h1 | ⟨⟨k, e⟩, _⟩
    · exact .inr ⟨o, h1⟩
    · cases e
theorem Le.seqL {K : PySem.W.Frag} {H H' : Hp} {a : Addr} {xs : List V} (e : Le H H') (h : SqL K H a xs) : SqL K H' a xs := by
  rcases h with h | h
  · exact .inl (e.rd h)
  · exact .inr h
theorem Le.seqT {K : PySem.W.Frag} {H H' : Hp} {a : Addr} {xs : List V} (e : Le H H') (h : SqT K H a xs) : SqT K H' a xs := by
  rcases h with h | h
  · exact .inl (e.rd h)
  · exact .inr h
theorem Le.ins {H H' : Hp} {a C dx : Addr} {fs : List (Str × V)} (e : Le H H') (h : H a = some (.ins C dx fs)) : H' a = some (.ins C dx fs) := by
  rcases e _ _ h with h | ⟨⟨k, z⟩, _⟩
  · exact h
  · cases z
theorem Le.lst {H H' : Hp} {a : Addr} {xs : List V} (e : Le H H') (h : H a = some (.lst xs)) : H' a = some (.lst xs) := by
  rcases e _ _ h with h | ⟨⟨k, z⟩, _⟩
  · exact h
  · cases z
theorem Le.xd {H H' : Hp} {a : Addr} {fs : List (Str × V)} (e : Le H H') (h : H a = some (.xd fs)) : H' a = some (.xd fs) := by
  rcases e _ _ h with h | ⟨⟨k, z⟩, _⟩
  · exact h
  · cases z

section
variable {c : Ct} {G G' : Hp}
mutual
theorem RP.mono (s : Le G G') : ∀ {x : PD} {v : V}, RP c G x v → RP c G' x v
  | _, _, .non => .non
  | _, _, .bl b => .bl b
  | _, _, .int i => .int i
  | _, _, .str x => .str x
  | _, _, .tup h r => .tup (s.seqT h) (RPs.mono s r)
  | _, _, .lst h r => .lst (s.lst h) (RPs.mono s r)
  | _, _, .scr h => .scr (s.seqL h)
  | _, _, .dct h r => .dct (h.imp s.rd id) (RKs.mono s r)
  | _, _, .obj h r => .obj (s.ins h) (RFs.mono s r)
theorem RPs.mono (s : Le G G') : ∀ {x : List PD} {v : List V}, RPs c G x v → RPs c G' x v
  | _, _, .nil => .nil
  | _, _, .cons h r => .cons (RP.mono s h) (RPs.mono s r)
theorem RKs.mono (s : Le G G') : ∀ {x : List (PD × PD)} {v : List (Key × V)}, RKs c G x v → RKs c G' x v
  | _, _, .nil => .nil
  | _, _, .cons e h r => .cons e (RP.mono s h) (RKs.mono s r)
theorem RFs.mono (s : Le G G') : ∀ {x : List (Str × PD)} {v : List (Str × V)}, RFs c G x v → RFs c G' x v
  | _, _, .nil => .nil
  | _, _, .cons h r => .cons (RP.mono s h) (RFs.mono s r)
end
theorem RPs.length : ∀ {x : List PD} {v : List V}, RPs c G x v → x.length = v.length
  | _, _, .nil => rfl
  | _, _, .cons _ r => congrArg (· + 1) r.length
theorem RPs.get : ∀ {xs : List PD} {vs : List V} {i : Nat} {x : PD}, RPs c G xs vs → xs[i]? = some x → ∃ v, vs[i]? = some v ∧ RP c G x v
  | _, _, _, _, .nil, e => by simp at e
  | _, _, 0, _, .cons h _, e => by
    simp at e
    subst e
    exact ⟨_, rfl, h⟩
  | _, _, i + 1, x, .cons _ r, e => by
    obtain ⟨v, h1, h2⟩ := RPs.get (i := i) (x := x) r (by simpa using e)
    exact ⟨v, by simpa using h1, h2⟩
theorem RPs.append : ∀ {xs ys : List PD} {vs ws : List V}, RPs c G xs vs → RPs c G ys ws → RPs c G (xs ++ ys) (vs ++ ws)
  | _, _, _, _, .nil, s => s
  | _, _, _, _, .cons r t, s => .cons r (RPs.append t s)
end

/-! ### the live store -/
def liveA : List Addr → LH → List Addr
  | a :: r, some _ :: l => a :: liveA r l
  | _ :: r, none :: l => liveA r l
  | _, _ => []
def Fz (H : Hp) (L : List Addr) : Hp := fun a => if a ∈ L then none else H a
theorem Fz.sub {H : Hp} {L : List Addr} : Le (Fz H L) H := Le.of fun a o h => by
  unfold Fz at h
  split at h
  · cases h
  · exact h
theorem Fz.of {H : Hp} {L : List Addr} {a : Addr} {o : HO} (h : H a = some o) (n : a ∉ L) : Fz H L a = some o := by
  unfold Fz
  rw [if_neg n]
  exact h
theorem Fz.not {H : Hp} {L : List Addr} {a : Addr} {o : HO} (h : Fz H L a = some o) : a ∉ L ∧ H a = some o := by
  unfold Fz at h
  split at h
  · cases h
  · exact ⟨by assumption, h⟩

/-- a value that may be live -/
def RL (c : Ct) (ρ : List Addr) (G : Hp) : LV → V → Prop
  | .p d, v => RP c G d v
  | .ref n, v => ∃ a, ρ[n]? = some a ∧ v = .ref a
def RLs (c : Ct) (ρ : List Addr) (G : Hp) : List LV → List V → Prop := Paired (RL c ρ G)
def RKL (c : Ct) (ρ : List Addr) (G : Hp) : List (PD × LV) → List (Key × V) → Prop := Paired fun p q => kOf p.1 = some q.1 ∧ RL c ρ G p.2 q.2
def RFL (c : Ct) (ρ : List Addr) (G : Hp) : List (Str × LV) → List (Str × V) → Prop := Paired fun p q => p.1 = q.1 ∧ RL c ρ G p.2 q.2
def RO (c : Ct) (ρ : List Addr) (G : Hp) : LO → HO → Prop
  | .lst xs, .lst vs => RPs c G xs vs
  | .dct kvs, .dK kws => RKL c ρ G kvs kws
  | .ins i fs, .ins C _ gs => C = c.ct i ∧ RFL c ρ G fs gs
  | _, _ => False

/-- what is frozen -/
def Gz (hid ρ : List Addr) (lh : LH) (H : Hp) : Hp := Fz H (hid ++ liveA ρ lh)

structure Stt (c : Ct) (hid ρ : List Addr) (lh : LH) (H : Hp) : Prop where
  len : ρ.length = lh.length
  nd : (liveA ρ lh).Nodup
  nh : ∀ a ∈ liveA ρ lh, a ∉ hid
  tr : ∀ a ∈ hid, ∃ o, H a = some o
  ob : ∀ (i : Nat) (o : LO) (a : Addr), lh[i]? = some (some o) → ρ[i]? = some a → ∃ u, H a = some u ∧ RO c ρ (Gz hid ρ lh H) o u
/-- one state behind another -/
structure Ex (hid ρ : List Addr) (lh : LH) (H : Hp) (ρ' : List Addr) (lh' : LH) (H' : Hp) : Prop where
  pre : ∀ (i : Nat) (a : Addr), ρ[i]? = some a → ρ'[i]? = some a
  keep : Le (Gz hid ρ lh H) (Gz hid ρ' lh' H')
  hk : ∀ a ∈ hid, H' a = H a
theorem Ex.refl {hid ρ : List Addr} {lh : LH} {H : Hp} : Ex hid ρ lh H ρ lh H := ⟨fun _ _ h => h, Le.refl _, fun _ _ => rfl⟩
theorem Ex.trans {hid ρ ρ1 ρ2 : List Addr} {lh lh1 lh2 : LH} {H H1 H2 : Hp} (a : Ex hid ρ lh H ρ1 lh1 H1) (b : Ex hid ρ1 lh1 H1 ρ2 lh2 H2) : Ex hid ρ lh H ρ2 lh2 H2 :=
  ⟨fun i x h => b.pre i x (a.pre i x h), a.keep.trans b.keep, fun x hx => (b.hk x hx).trans (a.hk x hx)⟩

theorem RL.mono {c : Ct} {ρ ρ' : List Addr} {G G' : Hp} (p : ∀ (i : Nat) (a : Addr), ρ[i]? = some a → ρ'[i]? = some a) (s : Le G G') : ∀ {x : LV} {v : V}, RL c ρ G x v → RL c ρ' G' x v
  | .p _, _, h => RP.mono s h
  | .ref _, _, ⟨a, h, e⟩ => ⟨a, p _ _ h, e⟩
theorem RL.ex {c : Ct} {hid ρ ρ' : List Addr} {lh lh' : LH} {H H' : Hp} (e : Ex hid ρ lh H ρ' lh' H') {x : LV} {v : V} (h : RL c ρ (Gz hid ρ lh H) x v) : RL c ρ' (Gz hid ρ' lh' H') x v := RL.mono e.pre e.keep h
theorem RLs.ex {c : Ct} {hid ρ ρ' : List Addr} {lh lh' : LH} {H H' : Hp} (e : Ex hid ρ lh H ρ' lh' H') {x : List LV} {v : List V} (h : RLs c ρ (Gz hid ρ lh H) x v) : RLs c ρ' (Gz hid ρ' lh' H') x v :=
  Paired.mapP h fun _ _ => RL.ex e

/-- the frame's slots -/
abbrev Env0 := List (Option LV)
def REnv (c : Ct) (ρ : List Addr) (G : Hp) (env : Env0) (σ : L2.St) : Prop := env.length = σ.length ∧ ∀ (i : Nat) (d : LV), env[i]? = some (some d) → ∃ v, σ[i]? = some (some v) ∧ RL c ρ G d v
theorem REnv.mono {c : Ct} {ρ ρ' : List Addr} {G G' : Hp} (p : ∀ (i : Nat) (a : Addr), ρ[i]? = some a → ρ'[i]? = some a) (s : Le G G') {env : Env0} {σ : L2.St} (h : REnv c ρ G env σ) : REnv c ρ' G' env σ := ⟨h.1, fun i d z =>
  let ⟨v, h1, h2⟩ := h.2 i d z
  ⟨v, h1, RL.mono p s h2⟩⟩
theorem REnv.ex {c : Ct} {hid ρ ρ' : List Addr} {lh lh' : LH} {H H' : Hp} (e : Ex hid ρ lh H ρ' lh' H') {env : Env0} {σ : L2.St} (h : REnv c ρ (Gz hid ρ lh H) env σ) : REnv c ρ' (Gz hid ρ' lh' H') env σ := h.mono e.pre e.keep

/-- an exception: its class, its own dict -/
def RX (c : Ct) (G : Hp) (e : Exn) (cls : Value) (d : Option Addr) : Prop := cls = .ref (c.xt e.c) ∧ ((d = none ∧ e.fs = []) ∨ ∃ (a : Addr) (gs : List (Str × V)), d = some a ∧ G a = some (.xd gs) ∧ RFs c G e.fs gs)

theorem RX.mono {c : Ct} {G G' : Hp} (s : Le G G') {e : Exn} {cls : Value} {d : Option Addr} (h : RX c G e cls d) : RX c G' e cls d := by
  obtain ⟨h1, h | ⟨a, gs, h2, h3, h4⟩⟩ := h
  · exact ⟨h1, .inl h⟩
  · exact ⟨h1, .inr ⟨a, gs, h2, s.xd h3, RFs.mono s h4⟩⟩

/-! ### what follows -/
def Out (c : Ct) (hid ρ : List Addr) (lh : LH) (H : Hp) (Q : VK) (W : XK) : R LV → Prop
  | .ok d lh' => ∀ (v : V) (H' : Hp) (ρ' : List Addr), Stt c hid ρ' lh' H' → Ex hid ρ lh H ρ' lh' H' → RL c ρ' (Gz hid ρ' lh' H') d v → Q v H'
  | .exc e lh' => ∀ (cls : Value) (d : Option Addr) (H' : Hp) (ρ' : List Addr), Stt c hid ρ' lh' H' → Ex hid ρ lh H ρ' lh' H' → RX c (Gz hid ρ' lh' H') e cls d → W cls d H'
  | .bad => False
theorem Out.after {c : Ct} {hid ρ ρ1 : List Addr} {lh lh1 : LH} {H H1 : Hp} {Q : VK} {W : XK} (e : Ex hid ρ lh H ρ1 lh1 H1) : ∀ {r : R LV}, Out c hid ρ lh H Q W r → Out c hid ρ1 lh1 H1 Q W r
  | .ok _ _, h => fun v H' ρ' s x => h v H' ρ' s (e.trans x)
  | .exc _ _, h => fun cls d H' ρ' s x => h cls d H' ρ' s (e.trans x)
  | .bad, h => h

/-- an expression's wish, by its meaning -/
def WE (X : Cx) (e : Expr) : TE := fun σ H Q => ∀ (pins : List (Addr × Obj)) (s : Shared), Inv X pins σ H s → wpAny (model X.prog X.w) X.A (eval e X.env) (EP X pins σ Q) X.xe s
theorem pe_we {X : Cx} {e : Expr} : PE X e (WE X e) := ⟨fun pins s _ _ _ I h => h pins s I⟩
theorem WE.of {X : Cx} {e : Expr} {t : TE} (h : PE X e t) {σ : L2.St} {H : Hp} {Q : VK} (q : t σ H Q) : WE X e σ H Q := fun pins s I => h.run pins s σ H Q I q
def WT (X : Cx) (e : Expr) : TT := fun σ H Q => ∀ (pins : List (Addr × Obj)) (s : Shared), Inv X pins σ H s → wpAny (model X.prog X.w) X.A (isTrue e X.env (eval e X.env)) (TP X pins σ Q) X.xe s
theorem pt_wt {X : Cx} {e : Expr} : PT X e (WT X e) := ⟨fun pins s _ _ _ I h => h pins s I⟩
theorem WT.of {X : Cx} {e : Expr} {t : TT} (h : PT X e t) {σ : L2.St} {H : Hp} {Q : Bool → Hp → Prop} (q : t σ H Q) : WT X e σ H Q := fun pins s I => h.run pins s σ H Q I q
end Sim
end
section
set_option Elab.async false
set_option linter.all false
set_option maxRecDepth 100000
/-! The Sim layer, B: the small language and its evaluator. -/
namespace Sim
open PySem PySem.Spec PyProof.Rows L2

/-! ### data -/
mutual
/-- == -/
def peq : PD → PD → Bool
  | .non, .non => true
  | .bl a, .bl b => a == b
  | .bl a, .int j => decide ((if a then 1 else 0) = j)
  | .int i, .bl b => decide (i = (if b then 1 else 0))
  | .int i, .int j => decide (i = j)
  | .str x, .str y => decide (x = y)
  | .tup xs, .tup ys => peqs xs ys
  | .lst xs, .lst ys => peqs xs ys
  | _, _ => false
def peqs : List PD → List PD → Bool
  | [], [] => true
  | x :: xs, y :: ys => peq x y && peqs xs ys
  | _, _ => false
end
/-- plain data (no dict, no instance), of depth below n -/
def psh : Nat → PD → Bool
  | 0, _ => false
  | n + 1, d => match d with
    | .non | .bl _ | .int _ => true
    | .str x => PyData.strOk x
    | .tup xs | .lst xs => xs.all (psh n)
    | _ => false
def flat : PD → Bool
  | .non | .bl _ | .int _ | .str _ => true
  | _ => false
/-- a dict's value -/
def pval : List (PD × α) → Key → Option α
  | [], _ => none
  | (k, v) :: r, q => match kOf k with
    | some k' => if k' = q then some v else pval r q
    | none => none
def pput (kvs : List (PD × α)) (k : PD) (q : Key) (v : α) : List (PD × α) :=
  if (kvs.any fun p => decide (kOf p.1 = some q)) = true then kvs.map (fun p => if kOf p.1 = some q then (p.1, v) else p) else kvs ++ [(k, v)]
def pdrop : List (PD × α) → Key → List (PD × α)
  | [], _ => []
  | (k0, v0) :: r, q => if kOf k0 = some q then pdrop r q else (k0, v0) :: pdrop r q
def fget : List (Str × α) → Str → Option α
  | [], _ => none
  | (g, v) :: r, f => if f = g then some v else fget r f
def fput : List (Str × α) → Str → α → List (Str × α)
  | [], f, v => [(f, v)]
  | (g, v0) :: r, f, v => if g = f then (g, v) :: r else (g, v0) :: fput r f v
def pints : List PD → Option (List Int)
  | [] => some []
  | .int i :: r => (pints r).map (i :: ·)
  | _ :: _ => none
def pbools : List PD → Option (List Bool)
  | [] => some []
  | .bl b :: r => (pbools r).map (b :: ·)
  | _ :: _ => none
def pstrs : List PD → Option (List Str)
  | [] => some []
  | .str x :: r => (pstrs r).map (x :: ·)
  | _ :: _ => none
/-- texts one by one into a set -/
def addS : List Str → List Str → List Str
  | l, [] => l
  | l, k :: r => addS (if k ∈ l then l else k :: l) r
def insS (x : Str) : List Str → List Str
  | [] => [x]
  | y :: r => if ltCps y.cps.toList x.cps.toList then y :: insS x r else x :: y :: r
/-- texts in their order -/
def isS : List Str → List Str
  | [] => []
  | x :: r => insS x (isS r)
def rangeD (lo : Int) : Nat → List PD
  | 0 => []
  | n + 1 => .int lo :: rangeD (lo + 1) n
def enumD (i : Nat) : List PD → List PD
  | [] => []
  | x :: r => .tup [.int i, x] :: enumD (i + 1) r
def zipD : List PD → List PD → List PD
  | x :: xs, y :: ys => .tup [x, y] :: zipD xs ys
  | _, _ => []

/-! ### the language -/
inductive Tg where
  | nm (i : Nat) | tp (ts : List Tg)
/-- what is walked: a value; range(a), range(a, b), enumerate(a), zip(a, b), a.items() -/
inductive IK where
  | seq | rng1 | rng2 | enm | zp | itm
/-- binary operators -/
inductive BO where
  | add | sub | mul | fdiv | md | pow
/-- comparisons -/
inductive CO where
  | eq | ne | lt | le | gt | ge | isin | notin | is | isnot
/-- built-in functions -/
inductive BF where
  | len | sum | max2 | min2 | int | str | list | tuple | dict | sorted | sortset | any | all | tupRng | lstRng | listItm
/-- methods of built-in types -/
inductive BM where
  | append | extend | pop | get2 | clear
/-- built-in classes and own ones, for isinstance -/
inductive TY where
  | int | bool | str | list | tuple | dict | own (c : Nat) | exc (c : Nat)

inductive C where
  | var (i : Nat)
  | cst (v : PD)
  | glb (i : Nat)
  | tup (es : List C)
  | lst (live : Bool) (es : List C)
  | star (e : C)
  /-- the value, frozen -/
  | fz (a : C)
  | dct (live : Bool) (ks : List PD) (vs : List C)
  | cat (live : Bool) (a b : C)
  | dctU (live : Bool) (d k v : C)
  | bin (op : BO) (a b : C)
  | neg (a : C)
  | nt (a : C)
  | cmp (op : CO) (a b : C)
  | chn (op op' : CO) (a b c : C)
  | and (a b : C)
  | or (a b : C)
  | ite (c a b : C)
  | att (a : C) (f : Str)
  | idx (a i : C)
  | slc (live : Bool) (a : C) (lo hi : List C)
  | rev (a : C)
  | cal (f : Nat) (pure : Bool) (es : List C)
  | mk (k : Nat) (frz : Bool) (es : List C)
  | met (m : Str) (pure : Bool) (a : C) (es : List C)
  | prp (m : Str) (a : C)
  | bf (b : BF) (live : Bool) (es : List C)
  | bm (m : BM) (a : C) (es : List C)
  /-- sorted(set(a)) -/
  | srt (live : Bool) (a : C)
  | isi (a : C) (t : TY)
  | cmpr (live : Bool) (own : List (Str × Nat)) (tg : Tg) (ik : IK) (ia : List C) (ifs : List C) (e : C)
  | cmpr2 (live : Bool) (own own2 : List (Str × Nat)) (tg : Tg) (ik : IK) (ia : List C) (tg2 : Tg) (ik2 : IK) (ia2 : List C) (e : C)
  | dcmp (live : Bool) (own : List (Str × Nat)) (tg : Tg) (ik : IK) (ia : List C) (k v : C)

/-- what an except suite says: of constants, the exception's fields, its class -/
inductive HE where
  | cst (v : PD) | fld (f : Str) | isx (k : Nat) | lst (es : List HE) | ite (k : Nat) (a b : HE)
/-- an except clause: the class, the name's slot, the slot that is set -/
structure Hd where
  k : Nat
  slot : Option Nat
  tgt : Nat
  e : HE
inductive S where
  | set (tg : Tg) (e : C)
  | par (is : List Nat) (es : List C)
  | setI (o i e : C)
  | setF (o : C) (f : Str) (e : C)
  | aug (i : Nat) (op : BO) (e : C)
  | augF (o : C) (f : Str) (op : BO) (e : C)
  | augI (o i : C) (op : BO) (e : C)
  | ex (e : C)
  | ret (e : C)
  | retN
  | ite (c : C) (a b : List S)
  | forS (tg : Tg) (ik : IK) (ia : List C) (body : List S)
  | whl (c : C) (body : List S)
  | rse (k : Nat) (es : List C)
  | tryS (body : List S) (hs : List Hd)
  | mtch (e : C) (cs : List (Str × List S)) (d : List S)
  | pass | brk | cnt

/-- a def -/
structure Fn where
  name : Str
  qual : Str
  cls : Option Nat
  ps : List Str
  N : List Str
  sc : Scope
  body : List S
  /-- the result stays live -/
  live : Bool := false
/-- a class: its name, its methods (by the defs' places) -/
structure Kl where
  name : Str
  init : Nat
  ms : List (Str × Nat)
  flds : List Str
/-- an exception class: its name, its fields in the order of its parameters, the classes that take it -/
structure Xk where
  name : Str
  fs : List Str
  ups : List Nat
  /-- the fields that its message shows (true: by repr) -/
  sh : List (Str × Bool) := []
  /-- it is raised -/
  rs : Bool := true
structure Tab where
  fns : List Fn
  kls : List Kl
  xks : List Xk
  gs : List (Str × PD)

/-! ### the evaluator -/
def R.bind (r : R α) (f : α → LH → R β) : R β := match r with
  | .ok a h => f a h
  | .exc e h => .exc e h
  | .bad => .bad
def R.of (o : Option α) (h : LH) : R α := match o with
  | some a => .ok a h
  | none => .bad
def peekK (pk : LV → Option PD) : List (κ × LV) → Option (List (κ × PD))
  | [] => some []
  | (k, v) :: r => match pk v, peekK pk r with
    | some v', some r' => some ((k, v') :: r')
    | _, _ => none
/-- a value as it is to be read now -/
def peek : Nat → LV → LH → Option PD
  | _, .p v, _ => some v
  | 0, .ref _, _ => none
  | n + 1, .ref i, h => match h[i]? with
    | some (some (.lst xs)) => some (.lst xs)
    | some (some (.dct kvs)) => (peekK (fun v => peek n v h) kvs).map .dct
    | some (some (.ins c fs)) => (peekK (fun v => peek n v h) fs).map (.obj c)
    | _ => none
def frzK (fz : LV → LH → Option (PD × LH)) : List (κ × LV) → LH → Option (List (κ × PD) × LH)
  | [], h => some ([], h)
  | (k, v) :: r, h => match fz v h with
    | some (v', h1) => match frzK fz r h1 with
      | some (r', h2) => some ((k, v') :: r', h2)
      | none => none
    | none => none
/-- a value is frozen -/
def frz : Nat → LV → LH → Option (PD × LH)
  | _, .p v, h => some (v, h)
  | 0, .ref _, _ => none
  | n + 1, .ref i, h => match h[i]? with
    | some (some (.lst xs)) => some (.lst xs, h.set i none)
    | some (some (.dct kvs)) => match frzK (frz n) kvs h with
      | some (r, h') => match h'[i]? with
        | some (some (.dct _)) => some (.dct r, h'.set i none)
        | _ => none
      | none => none
    | some (some (.ins c fs)) => match frzK (frz n) fs h with
      | some (r, h') => match h'[i]? with
        | some (some (.ins _ _)) => some (.obj c r, h'.set i none)
        | _ => none
      | none => none
    | _ => none
def frzs : List LV → LH → Option (List PD × LH)
  | [], h => some ([], h)
  | v :: r, h => match frz 9 v h with
    | some (v', h1) => match frzs r h1 with
      | some (r', h2) => some (v' :: r', h2)
      | none => none
    | none => none
def R.frz (r : R LV) : R PD := r.bind fun v h => match Sim.frz 9 v h with
  | some (x, h') => .ok x h'
  | none => .bad
def R.frzs (r : R (List LV)) : R (List PD) := r.bind fun v h => match Sim.frzs v h with
  | some (x, h') => .ok x h'
  | none => .bad
/-- a new live object -/
def newO (o : LO) (h : LH) : R LV := .ok (.ref h.length) (h ++ [some o])
def mkLst (live : Bool) (xs : List PD) (h : LH) : R LV := if live then newO (.lst xs) h else .ok (.p (.lst xs)) h
def mkDct (live : Bool) (xs : List (PD × PD)) (h : LH) : R LV := if live then newO (.dct (xs.map fun q => (q.1, .p q.2))) h else .ok (.p (.dct xs)) h

/-- the items of what is walked; a live list is walked by its place -/
inductive ItV where
  | its (xs : List PD) | liv (n : Nat)
def pitems : PD → Option (List PD)
  | .lst xs => some xs
  | .tup xs => some xs
  | .dct kvs => some (kvs.map (·.1))
  | _ => none
def itOf : IK → List LV → LH → Option ItV
  | .seq, [.p d], _ => (pitems d).map .its
  | .seq, [.ref n], h => match h[n]? with
    | some (some (.lst _)) => some (.liv n)
    | _ => none
  | .rng1, [.p (.int j)], _ => if -(2 ^ 62) ≤ j ∧ j < 2 ^ 62 then some (.its (rangeD 0 j.toNat)) else none
  | .rng2, [.p (.int i), .p (.int j)], _ => if (-(2 ^ 62) ≤ i ∧ i < 2 ^ 62) ∧ -(2 ^ 62) ≤ j ∧ j < 2 ^ 62 then some (.its (rangeD i (j - i).toNat)) else none
  | .enm, [.p (.lst xs)], _ => some (.its (enumD 0 xs))
  | .zp, [.p (.lst xs), .p (.lst ys)], _ => some (.its (zipD xs ys))
  | .zp, [.p (.tup xs), .p (.tup ys)], _ => some (.its (zipD xs ys))
  | .itm, [.p (.dct kvs)], _ => some (.its (kvs.map fun q => .tup [q.1, q.2]))
  | _, _, _ => none
mutual
/-- a target takes a value -/
def bindT : Tg → LV → Env0 → Option Env0
  | .nm i, v, env => some (env.set i (some v))
  | .tp ts, .p (.tup xs), env => bindTs ts xs env
  | .tp _, _, _ => none
def bindTs : List Tg → List PD → Env0 → Option Env0
  | [], [], env => some env
  | t :: ts, x :: xs, env => match bindT t (.p x) env with
    | some env' => bindTs ts xs env'
    | none => none
  | _, _, _ => none
end
def wipeE (env : Env0) : List Nat → Env0
  | [] => env
  | v :: vs => (wipeE env vs).set v none

def bop : BO → PD → PD → Option PD
  | .add, .int i, .int j => some (.int (i + j))
  | .add, .str x, .str y => if x.length + y.length ≤ sizeLine then some (.str (x ++ y)) else none
  | .sub, .int i, .int j => some (.int (i - j))
  | .mul, .int i, .int j => if (-(2 ^ 64) < i ∧ i < 2 ^ 64) ∨ (-(2 ^ 64) < j ∧ j < 2 ^ 64) then some (.int (i * j)) else none
  | .fdiv, .int i, .int j => if 0 < j ∧ j < 1073741824 then some (.int (i / j)) else none
  | .md, .int i, .int j => if 0 < j then some (.int (i % j)) else none
  | .pow, .int i, .int j => if 0 ≤ j ∧ j ≤ 1000 ∧ i.natAbs < 2 ^ 64 then some (.int (i ^ j.toNat)) else none
  | _, _, _ => none
def cop : CO → PD → PD → Option Bool
  | .eq, a, b => if psh 50 a && psh 50 b then some (peq a b) else none
  | .ne, a, b => if psh 50 a && psh 50 b then some (!peq a b) else none
  | .lt, .int i, .int j => some (decide (i < j))
  | .lt, .str x, .str y => some (decide (x.cps.toList < y.cps.toList))
  | .le, .int i, .int j => some (decide (i ≤ j))
  | .le, .str x, .str y => some (!decide (y.cps.toList < x.cps.toList))
  | .gt, .int i, .int j => some (decide (j < i))
  | .gt, .str x, .str y => some (decide (y.cps.toList < x.cps.toList))
  | .ge, .int i, .int j => some (decide (j ≤ i))
  | .isin, a, .lst xs => if flat a && xs.all flat then some (xs.any fun y => peq y a) else none
  | .isin, a, .tup xs => if flat a && xs.all flat then some (xs.any fun y => peq y a) else none
  | .isin, a, .dct kvs => match kOf a with
    | some k => some (pval kvs k).isSome
    | none => none
  | .notin, a, .lst xs => if flat a && xs.all flat then some (!xs.any fun y => peq y a) else none
  | .notin, a, .tup xs => if flat a && xs.all flat then some (!xs.any fun y => peq y a) else none
  | .notin, a, .dct kvs => match kOf a with
    | some k => some (!(pval kvs k).isSome)
    | none => none
  | .is, .non, .non => some true
  | .is, _, .non => some false
  | .isnot, .non, .non => some false
  | .isnot, _, .non => some true
  | _, _, _ => none
/-- x[i] -/
def idxD (a : LV) (i : PD) (h : LH) : Option LV := match a with
  | .p (.lst xs) => match i with
    | .int j => (atI xs j).map .p
    | _ => none
  | .p (.tup xs) => match i with
    | .int j => (atI xs j).map .p
    | _ => none
  | .p (.dct kvs) => match kOf i with
    | some k => (pval kvs k).map .p
    | none => none
  | .p _ => none
  | .ref n => match h[n]? with
    | some (some (.lst xs)) => match i with
      | .int j => (atI xs j).map .p
      | _ => none
    | some (some (.dct kvs)) => match kOf i with
      | some k => pval kvs k
      | none => none
    | _ => none
/-- o[i] = v -/
def setD (a : LV) (i : PD) (v : LV) (h : LH) : Option LH := match a with
  | .ref n => match h[n]? with
    | some (some (.lst xs)) => match i, v with
      | .int j, .p x => match ixN xs.length j with
        | some k => some (h.set n (some (.lst (xs.set k x))))
        | none => none
      | _, _ => none
    | some (some (.dct kvs)) => match kOf i with
      | some k => if kvs.length < 1000 then some (h.set n (some (.dct (pput kvs i k v)))) else none
      | none => none
    | _ => none
  | _ => none
/-- the attribute is one of the class's own -/
def fldOk (T : Tab) (k : Nat) (f : Str) : Bool := match T.kls[k]? with
  | some q => decide (f ∈ q.flds)
  | none => false
def clsOf (a : LV) (h : LH) : Option Nat := match a with
  | .p (.obj c _) => some c
  | .ref n => match h[n]? with
    | some (some (.ins c _)) => some c
    | _ => none
  | _ => none
def getF0 (a : LV) (f : Str) (h : LH) : Option LV := match a with
  | .p (.obj _ fs) => (fget fs f).map .p
  | .ref n => match h[n]? with
    | some (some (.ins _ fs)) => fget fs f
    | _ => none
  | _ => none
def getF (T : Tab) (a : LV) (f : Str) (h : LH) : Option LV := match clsOf a h with
  | some k => if fldOk T k f then getF0 a f h else none
  | none => none
def setFd (T : Tab) (a : LV) (f : Str) (v : LV) (h : LH) : Option LH := match a with
  | .ref n => match h[n]? with
    | some (some (.ins c fs)) => if fldOk T c f && decide (fs.length < 100) then some (h.set n (some (.ins c (fput fs f v)))) else none
    | _ => none
  | _ => none
end Sim
end
section
set_option Elab.async false
set_option linter.all false
set_option maxRecDepth 100000
/-! The Sim layer, C: expressions and statements run. -/
namespace Sim
open PySem PySem.Spec PyProof.Rows L2

/-- len, sum, .. of data -/
def bfn : BF → Bool → List PD → LH → R LV
  | .len, _, [.lst xs], h => .ok (.p (.int xs.length)) h
  | .len, _, [.tup xs], h => .ok (.p (.int xs.length)) h
  | .len, _, [.dct kvs], h => .ok (.p (.int kvs.length)) h
  | .len, _, [.str x], h => if x.length ≤ sizeLine then .ok (.p (.int x.length)) h else .bad
  | .sum, _, [.lst xs], h => R.of ((pints xs).map fun ns => .p (.int ns.sum)) h
  | .sum, _, [.tup xs], h => R.of ((pints xs).map fun ns => .p (.int ns.sum)) h
  | .max2, _, [.int i, .int j], h => .ok (.p (.int (if j > i then j else i))) h
  | .min2, _, [.int i, .int j], h => .ok (.p (.int (if j < i then j else i))) h
  | .int, _, [.int i], h => .ok (.p (.int i)) h
  | .int, _, [.bl b], h => .ok (.p (.int (if b then 1 else 0))) h
  | .list, live, [.scr ns], h => mkLst live (ns.map .int) h
  | .list, live, [.lst xs], h => mkLst live xs h
  | .list, live, [.tup xs], h => mkLst live xs h
  | .list, live, [.dct kvs], h => mkLst live (kvs.map (·.1)) h
  | .tuple, _, [.lst xs], h => .ok (.p (.tup xs)) h
  | .tuple, _, [.tup xs], h => .ok (.p (.tup xs)) h
  | .dict, live, [.dct kvs], h => mkDct live kvs h
  | .any, _, [.lst xs], h => R.of ((pbools xs).map fun bs => .p (.bl (bs.any id))) h
  | .all, _, [.lst xs], h => R.of ((pbools xs).map fun bs => .p (.bl (bs.all id))) h
  | .tupRng, _, [.int j], h => if 0 ≤ j ∧ j ≤ 1000 then .ok (.p (.tup (rangeD 0 j.toNat))) h else .bad
  | .lstRng, live, [.int j], h => if 0 ≤ j ∧ j ≤ 1000 then mkLst live (rangeD 0 j.toNat) h else .bad
  | _, _, _, _ => .bad
/-- the built-in class of data -/
inductive Tag where
  | non | bool | int | str | tuple | list | dict
def tagOf : PD → Option Tag
  | .non => some .non
  | .bl _ => some .bool
  | .int _ => some .int
  | .str _ => some .str
  | .tup _ => some .tuple
  | .lst _ => some .list
  | .dct _ => some .dict
  | _ => none
def isiT : TY → Tag → Option Bool
  | .int, .int => some true
  | .int, .bool => some true
  | .int, _ => some false
  | .bool, .bool => some true
  | .bool, _ => some false
  | .str, .str => some true
  | .str, _ => some false
  | .list, .list => some true
  | .list, _ => some false
  | .tuple, .tuple => some true
  | .tuple, _ => some false
  | .dict, .dict => some true
  | .dict, _ => some false
  | .own _, _ => some false
  | .exc _, _ => none
def isiB (t : TY) (d : PD) : Option Bool := match d with
  | .obj k _ => match t with
    | .own j => some (decide (j = k))
    | _ => none
  | d => (tagOf d).bind (isiT t)
/-- a method of a built-in type -/
def bmt : BM → LV → List LV → LH → R LV
  | .append, .ref n, [v], h => match frz 9 v h with
    | some (x, h1) => match h1[n]? with
      | some (some (.lst xs)) => if xs.length < 100000 then .ok (.p .non) (h1.set n (some (.lst (xs ++ [x])))) else .bad
      | _ => .bad
    | none => .bad
  | .get2, .ref n, [.p k, d], h => match h[n]? with
    | some (some (.dct kvs)) => match kOf k with
      | some q => .ok ((pval kvs q).getD d) h
      | none => .bad
    | _ => .bad
  | .get2, .p (.dct kvs), [.p k, d], h => match kOf k with
    | some q => match pval kvs q with
      | some x => .ok (.p x) h
      | none => .ok d h
    | none => .bad
  | _, _, _, _ => .bad

def allPK : List (κ × LV) → Option (List (κ × PD))
  | [] => some []
  | (k, .p v) :: r => (allPK r).map ((k, v) :: ·)
  | (_, .ref _) :: _ => none
/-- a value as it is to be read now, what it holds being frozen -/
def sh : LV → LH → Option PD
  | .p v, _ => some v
  | .ref i, h => match h[i]? with
    | some (some (.lst xs)) => some (.lst xs)
    | some (some (.dct kvs)) => (allPK kvs).map .dct
    | _ => none
/-- what a call goes to: a def's place, its arguments, the store -/
abbrev Cal := Nat → List LV → LH → R LV
/-- a call that sees no live object of the caller's -/
def calP (cal : Cal) (f : Nat) (xs : List PD) (h : LH) : R LV := match cal f (xs.map .p) [] with
  | .ok (.p v) _ => .ok (.p v) h
  | .exc e _ => .exc e h
  | _ => .bad
def allP : List LV → Option (List PD)
  | [] => some []
  | .p v :: r => (allP r).map (v :: ·)
  | .ref _ :: _ => none
def calA (cal : Cal) (pure : Bool) (f : Nat) (ds : List LV) (h : LH) : R LV :=
  if pure then match allP ds with
    | some xs => calP cal f xs h
    | none => .bad
  else cal f ds h
/-- a new instance: __init__ runs over it, then it is frozen, or stays live -/
def mkO (cal : Cal) (k init : Nat) (frzd : Bool) (ds : List LV) (h : LH) : R LV :=
  if frzd then match allP ds with
    | some xs => match cal init (.ref 0 :: xs.map .p) [some (.ins k [])] with
      | .ok (.p .non) h1 => match frz 9 (.ref 0) h1 with
        | some (x, _) => .ok (.p x) h
        | none => .bad
      | .exc e _ => .exc e h
      | _ => .bad
    | none => .bad
  else match cal init (.ref h.length :: ds) (h ++ [some (.ins k [])]) with
    | .ok (.p .non) h1 => .ok (.ref h.length) h1
    | .exc e h1 => .exc e h1
    | _ => .bad
/-- the def of an instance's method -/
def metOf (T : Tab) (x : LV) (m : Str) (h : LH) : Option Nat := match clsOf x h with
  | some k => match T.kls[k]? with
    | some q => match getF0 x m h with
      | none => fget q.ms m
      | some _ => none
    | none => none
  | none => none
/-- no exception leaves a comprehension -/
def R.noX : R α → R α
  | .exc _ _ => .bad
  | r => r
/-- a walk's turns for a comprehension -/
def lcGo (g : PD → LH → R (Option PD)) : List PD → List PD → LH → R (List PD)
  | [], acc, h => .ok acc h
  | x :: r, acc, h => (g x h).noX.bind fun o h1 => match o with
    | some y => if acc.length < 100000 then lcGo g r (acc ++ [y]) h1 else .bad
    | none => lcGo g r acc h1
def dcGo (g : PD → LH → R (PD × PD)) : List PD → List (PD × PD) → LH → R (List (PD × PD))
  | [], acc, h => .ok acc h
  | x :: r, acc, h => (g x h).noX.bind fun y h1 => match kOf y.1 with
    | some q => if acc.length < 1000 then dcGo g r (pput acc y.1 q y.2) h1 else .bad
    | none => .bad
def cutD (xs : List PD) (lo hi : Option Int) : List PD := (xs.drop (HT.sIx xs.length 0 lo)).take (HT.sIx xs.length xs.length hi - HT.sIx xs.length 0 lo)
def part : List LV → Option (Option Int)
  | [] => some none
  | [.p (.int i)] => some (some i)
  | _ => none
/-- keys and values of a display -/
def dKey : List PD → List LV → Option (List (PD × LV))
  | [], [] => some []
  | k :: ks, v :: r => match kOf k, dKey ks r with
    | some _, some r' => some ((k, v) :: r')
    | _, _ => none
  | _, _ => none
def dMerge : List (PD × LV) → List (PD × LV) → List (PD × LV)
  | acc, [] => acc
  | acc, (k, v) :: r => match kOf k with
    | some q => dMerge (pput acc k q v) r
    | none => acc

section
variable (T : Tab) (cal : Cal)
mutual
def ev : C → Env0 → LH → R LV
  | .var i, env, h => match env[i]? with
    | some (some d) => .ok d h
    | _ => .bad
  | .cst v, _, h => .ok (.p v) h
  | .glb i, _, h => match T.gs[i]? with
    | some q => .ok (.p q.2) h
    | none => .bad
  | .tup es, env, h => (evs es env h).frzs.bind fun xs h => .ok (.p (.tup xs)) h
  | .lst live es, env, h => (evs es env h).frzs.bind fun xs h => mkLst live xs h
  | .star _, _, _ => .bad
  | .fz a, env, h => (ev a env h).bind fun x h => match frz 9 x h with
    | some (y, h') => .ok (.p y) h'
    | none => .bad
  | .dct live ks vs, env, h => (evs vs env h).bind fun ds h => match dKey ks ds with
    | some m => if live then newO (.dct (dMerge [] m)) h else match frzK (frz 9) (dMerge [] m) h with
      | some (r, h') => .ok (.p (.dct r)) h'
      | none => .bad
    | none => .bad
  | .cat live a b, env, h => (ev a env h).bind fun x h => (ev b env h).bind fun y h => match sh x h, sh y h with
    | some (.lst xs), some (.lst ys) => if xs.length + ys.length ≤ 100000 then mkLst live (xs ++ ys) h else .bad
    | some (.tup xs), some (.tup ys) => if xs.length + ys.length ≤ 100000 then .ok (.p (.tup (xs ++ ys))) h else .bad
    | _, _ => .bad
  | .dctU _ _ _ _, _, _ => .bad
  | .bin op a b, env, h => (ev a env h).bind fun x h => (ev b env h).bind fun y h => match peek 9 x h, peek 9 y h with
    | some x, some y => R.of ((bop op x y).map .p) h
    | _, _ => .bad
  | .neg a, env, h => (ev a env h).bind fun x h => match x with
    | .p (.int i) => .ok (.p (.int (-i))) h
    | _ => .bad
  | .nt a, env, h => (ev a env h).bind fun x h => match x with
    | .p (.bl b) => .ok (.p (.bl (!b))) h
    | _ => .bad
  | .cmp op a b, env, h => (ev a env h).bind fun x h => (ev b env h).bind fun y h => match peek 9 x h, peek 9 y h with
    | some x, some y => R.of ((cop op x y).map fun b => .p (.bl b)) h
    | _, _ => .bad
  | .chn op op' a b c, env, h => (ev a env h).bind fun x h => (ev b env h).bind fun y h => match x, y with
    | .p x, .p y => match cop op x y with
      | some true => (ev c env h).bind fun z h => match z with
        | .p z => R.of ((cop op' y z).map fun b => .p (.bl b)) h
        | _ => .bad
      | some false => .ok (.p (.bl false)) h
      | none => .bad
    | _, _ => .bad
  | .and a b, env, h => (ev a env h).bind fun x h => match x with
    | .p (.bl true) => ev b env h
    | .p (.bl false) => .ok (.p (.bl false)) h
    | _ => .bad
  | .or a b, env, h => (ev a env h).bind fun x h => match x with
    | .p (.bl false) => ev b env h
    | .p (.bl true) => .ok (.p (.bl true)) h
    | _ => .bad
  | .ite c a b, env, h => (ev c env h).bind fun x h => match x with
    | .p (.bl true) => ev a env h
    | .p (.bl false) => ev b env h
    | _ => .bad
  | .att a f, env, h => (ev a env h).bind fun x h => R.of (getF T x f h) h
  | .idx a i, env, h => (ev a env h).bind fun x h => (ev i env h).bind fun y h => match y with
    | .p y => R.of (idxD x y h) h
    | _ => .bad
  | .slc live a lo hi, env, h => (ev a env h).bind fun x h => (evs lo env h).bind fun l h => match part l with
    | some l => (evs hi env h).bind fun u h => match sh x h, part u with
      | some (.lst xs), some u => mkLst live (cutD xs l u) h
      | some (.tup xs), some u => .ok (.p (.tup (cutD xs l u))) h
      | _, _ => .bad
    | none => .bad
  | .rev _, _, _ => .bad
  | .cal f pure es, env, h => (evs es env h).bind fun ds h => calA cal pure f ds h
  | .mk k frzd es, env, h => (evs es env h).bind fun ds h => match T.kls[k]? with
    | some q => mkO cal k q.init frzd ds h
    | none => .bad
  | .met m pure a es, env, h => (ev a env h).bind fun x h => match metOf T x m h with
    | some f => (evs es env h).bind fun ds h => calA cal pure f (x :: ds) h
    | none => .bad
  | .prp _ _, _, _ => .bad
  | .bf b live es, env, h => (evs es env h).bind fun ds h => match ds with
    | [x] => match sh x h with
      | some x => bfn b live [x] h
      | none => .bad
    | [.p x, .p y] => bfn b live [x, y] h
    | _ => .bad
  | .bm m a es, env, h => (ev a env h).bind fun x h => (evs es env h).bind fun ds h => bmt m x ds h
  | .srt live a, env, h => (ev a env h).bind fun x h => match x with
    | .p (.tup xs) => match pstrs xs with
      | some ss => if ss.length < 64 then mkLst live ((isS (addS [] ss)).map .str) h else .bad
      | none => .bad
    | _ => .bad
  | .isi a t, env, h => (ev a env h).bind fun x h => match peek 9 x h with
    | some x => R.of ((isiB t x).map fun b => .p (.bl b)) h
    | none => .bad
  | .cmpr live own tg ik ia ifs e, env, h => (evs ia env h).bind fun ds h => match itOf ik ds h with
    | some (.its xs) => (lcGo (fun x h => match bindT tg (.p x) (wipeE env (own.map (·.2))) with
        | some env1 => (evAll ifs env1 h).bind fun b h => match b with
          | true => ((ev e env1 h).frz).bind fun y h => .ok (some y) h
          | false => .ok none h
        | none => .bad) xs [] h).bind fun ys h => mkLst live ys h
    | _ => .bad
  | .cmpr2 _ _ _ _ _ _ _ _ _ _, _, _ => .bad
  | .dcmp live own tg ik ia k v, env, h => (evs ia env h).bind fun ds h => match itOf ik ds h with
    | some (.its xs) => (dcGo (fun x h => match bindT tg (.p x) (wipeE env (own.map (·.2))) with
        | some env1 => ((ev k env1 h).frz).bind fun a h => ((ev v env1 h).frz).bind fun b h => .ok (a, b) h
        | none => .bad) xs [] h).bind fun ys h => mkDct live ys h
    | _ => .bad
def evs : List C → Env0 → LH → R (List LV)
  | [], _, h => .ok [] h
  | e :: r, env, h => (ev e env h).bind fun x h => (evs r env h).bind fun xs h => .ok (x :: xs) h
/-- all tests hold -/
def evAll : List C → Env0 → LH → R Bool
  | [], _, h => .ok true h
  | e :: r, env, h => (ev e env h).bind fun x h => match x with
    | .p (.bl true) => evAll r env h
    | .p (.bl false) => .ok false h
    | _ => .bad
end
end

/-! ### statements -/
def upsOf (T : Tab) (c k : Nat) : Option Bool := (T.xks[c]?).map fun q => q.ups.contains k
mutual
def evH (T : Tab) (x : Exn) : HE → Option PD
  | .cst v => some v
  | .fld f => match T.xks[x.c]? with
    | some q => if f ∈ q.fs then fget x.fs f else none
    | none => none
  | .isx k => (upsOf T x.c k).map .bl
  | .lst es => (evHs T x es).map .lst
  | .ite k a b => match upsOf T x.c k with
    | some true => evH T x a
    | some false => evH T x b
    | none => none
def evHs (T : Tab) (x : Exn) : List HE → Option (List PD)
  | [] => some []
  | e :: r => match evH T x e, evHs T x r with
    | some v, some vs => some (v :: vs)
    | _, _ => none
end
inductive Fl where
  | nx | rt (v : LV) | bk | ct
/-- how a statement ends: the flow, the frame, the store; or an exception -/
inductive RS where
  | ok (f : Fl) (env : Env0) (h : LH) | exc (e : Exn) (env : Env0) (h : LH) | bad
def R.then (r : R α) (env : Env0) (f : α → LH → RS) : RS := match r with
  | .ok a h => f a h
  | .exc e h => .exc e env h
  | .bad => .bad
def RS.seq (r : RS) (f : Env0 → LH → RS) : RS := match r with
  | .ok .nx env h => f env h
  | r => r
/-- a loop's turn has ended -/
def RS.loop (r : RS) (f : Env0 → LH → RS) : RS := match r with
  | .ok .nx env h => f env h
  | .ok .ct env h => f env h
  | .ok .bk env h => .ok .nx env h
  | r => r
def forGo (tg : Tg) (body : Env0 → LH → RS) : List PD → Env0 → LH → RS
  | [], env, h => .ok .nx env h
  | x :: r, env, h => match bindT tg (.p x) env with
    | some env1 => (body env1 h).loop (forGo tg body r)
    | none => .bad
def whGo (c : Env0 → LH → R LV) (body : Env0 → LH → RS) : Nat → Env0 → LH → RS
  | 0, _, _ => .bad
  | n + 1, env, h => (c env h).then env fun x h => match x with
    | .p (.bl true) => (body env h).loop (whGo c body n)
    | .p (.bl false) => .ok .nx env h
    | _ => .bad
def whMost : Nat := 100000
/-- its text is shown -/
def shOk (r : Bool) : PD → Bool
  | .str y => decide (y.length ≤ 1000) && decide ((reprText y).length ≤ 10000)
  | .int i => decide (i.natAbs.log2 < 1920) && decide ((Str.ofString (toString i)).length ≤ 1000)
  | .non => r
  | .bl _ => r
  | _ => false
def shAll (l : List (Str × PD)) (sh : List (Str × Bool)) : Bool := sh.all fun p => match fget l p.1 with
  | some v => shOk p.2 v
  | none => false
/-- the first clause that takes it -/
def handle (T : Tab) : List Hd → Exn → Env0 → LH → RS
  | [], x, env, h => .exc x env h
  | d :: r, x, env, h => match upsOf T x.c d.k with
    | some true => match evH T x d.e with
      | some v => .ok .nx (match d.slot with
        | some i => (env.set d.tgt (some (.p v))).set i none
        | none => env.set d.tgt (some (.p v))) h
      | none => .bad
    | some false => handle T r x env h
    | none => .bad
def setAll : List Nat → List LV → Env0 → Env0
  | i :: is, d :: ds, env => setAll is ds (env.set i (some d))
  | _, _, env => env
section
variable (T : Tab) (cal : Cal)
mutual
def exec : S → Env0 → LH → RS
  | .set tg e, env, h => (ev T cal e env h).then env fun v h => match bindT tg v env with
    | some env1 => .ok .nx env1 h
    | none => .bad
  | .par is es, env, h => (evs T cal es env h).then env fun ds h => if ds.length = is.length then .ok .nx (setAll is ds env) h else .bad
  | .setI o i e, env, h => (ev T cal e env h).then env fun v h => (ev T cal o env h).then env fun a h => (ev T cal i env h).then env fun j h => match j with
    | .p j => match setD a j v h with
      | some h1 => .ok .nx env h1
      | none => .bad
    | _ => .bad
  | .setF o f e, env, h => (ev T cal e env h).then env fun v h => (ev T cal o env h).then env fun a h => match setFd T a f v h with
    | some h1 => .ok .nx env h1
    | none => .bad
  | .aug i op e, env, h => match env[i]? with
    | some (some (.p x)) => (ev T cal e env h).then env fun y h => match y with
      | .p y => match bop op x y with
        | some z => .ok .nx (env.set i (some (.p z))) h
        | none => .bad
      | _ => .bad
    | _ => .bad
  | .augF o f op e, env, h => (ev T cal o env h).then env fun a h => match getF T a f h with
    | some (.p x) => (ev T cal e env h).then env fun y h => match y with
      | .p y => match bop op x y with
        | some z => match setFd T a f (.p z) h with
          | some h1 => .ok .nx env h1
          | none => .bad
        | none => .bad
      | _ => .bad
    | _ => .bad
  | .augI o i op e, env, h => (ev T cal o env h).then env fun a h => (ev T cal i env h).then env fun j h => match j with
    | .p j => match idxD a j h with
      | some (.p x) => (ev T cal e env h).then env fun y h => match y with
        | .p y => match bop op x y with
          | some z => match setD a j (.p z) h with
            | some h1 => .ok .nx env h1
            | none => .bad
          | none => .bad
        | _ => .bad
      | _ => .bad
    | _ => .bad
  | .ex e, env, h => (ev T cal e env h).then env fun _ h => .ok .nx env h
  | .ret e, env, h => (ev T cal e env h).then env fun v h => .ok (.rt v) env h
  | .retN, env, h => .ok (.rt (.p .non)) env h
  | .ite c a b, env, h => (ev T cal c env h).then env fun x h => match x with
    | .p (.bl true) => execs a env h
    | .p (.bl false) => execs b env h
    | _ => .bad
  | .forS tg ik ia body, env, h => (evs T cal ia env h).then env fun ds h => match itOf ik ds h with
    | some (.its xs) => forGo tg (execs body) xs env h
    | _ => .bad
  | .whl c body, env, h => whGo (ev T cal c) (execs body) whMost env h
  | .rse k es, env, h => (evs T cal es env h).frzs.then env fun xs h => match T.xks[k]? with
    | some q => if q.rs && decide (xs.length = q.fs.length) && shAll (q.fs.zip xs) q.sh then .exc ⟨k, q.fs.zip xs⟩ env h else .bad
    | none => .bad
  | .tryS body hs, env, h => match execs body env h with
    | .exc e env1 h1 => handle T hs e env1 h1
    | r => r
  | .mtch e cs d, env, h => (ev T cal e env h).then env fun x h => match x with
    | .p (.str x) => cases cs x (execs d) env h
    | _ => .bad
  | .pass, env, h => .ok .nx env h
  | .brk, env, h => .ok .bk env h
  | .cnt, env, h => .ok .ct env h
def execs : List S → Env0 → LH → RS
  | [], env, h => .ok .nx env h
  | s :: r, env, h => (exec s env h).seq (execs r)
def cases : List (Str × List S) → Str → (Env0 → LH → RS) → Env0 → LH → RS
  | [], _, d, env, h => d env h
  | (y, b) :: r, x, d, env, h => if x = y then execs b env h else cases r x d env h
end
end
/-- a def runs -/
def runF (T : Tab) (cal : Cal) (f : Fn) (ds : List LV) (h : LH) : R LV :=
  if ds.length = f.ps.length then match execs T cal f.body (ds.map some ++ List.replicate (f.N.length - ds.length) none) h with
    | .ok (.rt v) _ h1 => if f.live then .ok v h1 else match frz 9 v h1 with
      | some (x, h2) => .ok (.p x) h2
      | none => .bad
    | .ok .nx _ h1 => .ok (.p .non) h1
    | .exc e _ h1 => .exc e h1
    | _ => .bad
  else .bad
def callD (T : Tab) : Nat → Cal
  | 0, _, _, _ => .bad
  | 1, _, _, _ => .bad
  | 2, _, _, _ => .bad
  | k + 3, i, ds, h => match T.fns[i]? with
    | some f => runF T (callD T k) f ds h
    | none => .bad
end Sim
end
section
set_option Elab.async false
set_option linter.all false
set_option maxRecDepth 100000
/-! The Sim layer, D: what the store's steps keep. -/
namespace Sim
open PySem PySem.Spec PyProof.Rows L2

theorem mem_liveA {a : Addr} : ∀ {ρ : List Addr} {lh : LH}, a ∈ liveA ρ lh ↔ ∃ (i : Nat) (o : LO), ρ[i]? = some a ∧ lh[i]? = some (some o)
  | [], lh => by
    cases lh <;> simp [liveA]
  | b :: r, [] => by simp [liveA]
  | b :: r, none :: l => by
    simp only [liveA]
    rw [mem_liveA]
    constructor
    · rintro ⟨i, o, h1, h2⟩
      exact ⟨i + 1, o, by simpa using h1, by simpa using h2⟩
    · rintro ⟨i, o, h1, h2⟩
      cases i with
      | zero => simp at h2
      | succ i => exact ⟨i, o, by simpa using h1, by simpa using h2⟩
  | b :: r, some q :: l => by
    simp only [liveA, List.mem_cons]
    rw [mem_liveA]
    constructor
    · rintro (h | ⟨i, o, h1, h2⟩)
      · exact ⟨0, q, by simp [h], by simp⟩
      · exact ⟨i + 1, o, by simpa using h1, by simpa using h2⟩
    · rintro ⟨i, o, h1, h2⟩
      cases i with
      | zero => left; simp at h1; exact h1.symm
      | succ i => right; exact ⟨i, o, by simpa using h1, by simpa using h2⟩

section
variable {c : Ct} {hid ρ : List Addr} {lh : LH} {H : Hp} {p : Addr}
theorem Stt.live (st : Stt c hid ρ lh H) {a : Addr} (h : a ∈ liveA ρ lh) : ∃ u, H a = some u := by
  obtain ⟨i, o, h1, h2⟩ := mem_liveA.mp h
  obtain ⟨u, hu, _⟩ := st.ob i o a h2 h1
  exact ⟨u, hu⟩
theorem Stt.fresh (st : Stt c hid ρ lh H) (hp : H p = none) : p ∉ hid ++ liveA ρ lh := fun h => by
  rcases List.mem_append.mp h with h | h
  · obtain ⟨o, e⟩ := st.tr p h
    rw [hp] at e; cases e
  · obtain ⟨o, e⟩ := st.live h
    rw [hp] at e; cases e
theorem RLs.mono {c : Ct} {ρ ρ' : List Addr} {G G' : Hp} (p : ∀ (i : Nat) (a : Addr), ρ[i]? = some a → ρ'[i]? = some a) (s : Le G G') {xs : List LV} {vs : List V} (h : RLs c ρ G xs vs) : RLs c ρ' G' xs vs := Paired.mapP h fun _ _ => RL.mono p s
theorem RO.mono {c : Ct} {ρ ρ' : List Addr} {G G' : Hp} (p : ∀ (i : Nat) (a : Addr), ρ[i]? = some a → ρ'[i]? = some a) (s : Le G G') : ∀ {o : LO} {u : HO}, RO c ρ G o u → RO c ρ' G' o u
  | .lst _, .lst _, h => RPs.mono s h
  | .dct _, .dK _, h => Paired.mapP h fun _ _ q => ⟨q.1, RL.mono p s q.2⟩
  | .ins _ _, .ins _ _ _, h => ⟨h.1, Paired.mapP h.2 fun _ _ q => ⟨q.1, RL.mono p s q.2⟩⟩
  | .lst _, .tup _, h => h.elim
  | .lst _, .dK _, h => h.elim
  | .lst _, .dT _, h => h.elim
  | .lst _, .set _ _, h => h.elim
  | .lst _, .ins _ _ _, h => h.elim
  | .lst _, .own _, h => h.elim
  | .lst _, .xd _, h => h.elim
  | .lst _, .met _ _, h => h.elim
  | .lst _, .rng _ _, h => h.elim
  | .lst _, .frz _ _, h => h.elim
  | .lst _, .tbl _, h => h.elim
  | .lst _, .ext _, h => h.elim
  | .dct _, .lst _, h => h.elim
  | .dct _, .tup _, h => h.elim
  | .dct _, .dT _, h => h.elim
  | .dct _, .set _ _, h => h.elim
  | .dct _, .ins _ _ _, h => h.elim
  | .dct _, .own _, h => h.elim
  | .dct _, .xd _, h => h.elim
  | .dct _, .met _ _, h => h.elim
  | .dct _, .rng _ _, h => h.elim
  | .dct _, .frz _ _, h => h.elim
  | .dct _, .tbl _, h => h.elim
  | .dct _, .ext _, h => h.elim
  | .ins _ _, .lst _, h => h.elim
  | .ins _ _, .tup _, h => h.elim
  | .ins _ _, .dK _, h => h.elim
  | .ins _ _, .dT _, h => h.elim
  | .ins _ _, .set _ _, h => h.elim
  | .ins _ _, .own _, h => h.elim
  | .ins _ _, .xd _, h => h.elim
  | .ins _ _, .met _ _, h => h.elim
  | .ins _ _, .rng _ _, h => h.elim
  | .ins _ _, .frz _ _, h => h.elim
  | .ins _ _, .tbl _, h => h.elim
  | .ins _ _, .ext _, h => h.elim

/-- the heap turns, the live objects stand, what is frozen stays -/
theorem Stt.turn (st : Stt c hid ρ lh H) {H' : Hp} (hh : ∀ a ∈ hid, H' a = H a) (hl : ∀ a ∈ liveA ρ lh, H' a = H a) (hg : Le (Gz hid ρ lh H) (Gz hid ρ lh H')) : Stt c hid ρ lh H' ∧ Ex hid ρ lh H ρ lh H' := by
  refine ⟨⟨st.len, st.nd, st.nh, fun a ha => ?_, fun i o a h1 h2 => ?_⟩, ⟨fun _ _ h => h, hg, hh⟩⟩
  · rw [hh a ha]; exact st.tr a ha
  · obtain ⟨u, hu, ro⟩ := st.ob i o a h1 h2
    exact ⟨u, by rw [hl a (mem_liveA.mpr ⟨i, o, h2, h1⟩)]; exact hu, RO.mono (fun _ _ h => h) hg ro⟩
/-- a new frozen object -/
theorem Stt.lay (st : Stt c hid ρ lh H) (hp : H p = none) (o : HO) : Stt c hid ρ lh (upd H p o) ∧ Ex hid ρ lh H ρ lh (upd H p o) := by
  have nf := st.fresh hp
  refine st.turn (fun a ha => upd_ne fun e => nf (by rw [← e]; exact List.mem_append_left _ ha)) (fun a ha => upd_ne fun e => nf (by rw [← e]; exact List.mem_append_right _ ha)) (Le.of fun a u h => ?_)
  obtain ⟨n, h⟩ := Fz.not h
  exact Fz.of (by rw [upd_ne (ne_of_none h hp)]; exact h) n
theorem Stt.layAt (st : Stt c hid ρ lh H) (hp : H p = none) {o : HO} : Gz hid ρ lh (upd H p o) p = some o := Fz.of upd_same (st.fresh hp)

theorem liveA_app : ∀ {ρ : List Addr} {lh : LH} {a : Addr} {o : LO}, ρ.length = lh.length → liveA (ρ ++ [a]) (lh ++ [some o]) = liveA ρ lh ++ [a]
  | [], [], _, _, _ => rfl
  | [], _ :: _, _, _, h => by simp at h
  | _ :: _, [], _, _, h => by simp at h
  | b :: r, none :: l, a, o, h => by
    show liveA (r ++ [a]) (l ++ [some o]) = liveA r l ++ [a]
    exact liveA_app (by simpa using h)
  | b :: r, some q :: l, a, o, h => by
    show b :: liveA (r ++ [a]) (l ++ [some o]) = b :: liveA r l ++ [a]
    rw [liveA_app (by simpa using h)]
    rfl
theorem pre_app {ρ : List Addr} {a : Addr} : ∀ (i : Nat) (x : Addr), ρ[i]? = some x → (ρ ++ [a])[i]? = some x := fun i x h => by
  rw [List.getElem?_append_left (List.getElem?_eq_some_iff.mp h).1]
  exact h
/-- a new live object -/
theorem Stt.born (st : Stt c hid ρ lh H) (hp : H p = none) {o : LO} {u : HO} (ro : RO c (ρ ++ [p]) (Gz hid ρ lh H) o u) :
    Stt c hid (ρ ++ [p]) (lh ++ [some o]) (upd H p u) ∧ Ex hid ρ lh H (ρ ++ [p]) (lh ++ [some o]) (upd H p u) := by
  have nf := st.fresh hp
  have nh : p ∉ hid := fun h => nf (List.mem_append_left _ h)
  have nl : p ∉ liveA ρ lh := fun h => nf (List.mem_append_right _ h)
  have el := liveA_app (a := p) (o := o) st.len
  have hg : Le (Gz hid ρ lh H) (Gz hid (ρ ++ [p]) (lh ++ [some o]) (upd H p u)) := Le.of fun a q h => by
    obtain ⟨n, h⟩ := Fz.not h
    have ne := ne_of_none h hp
    refine Fz.of (by rw [upd_ne ne]; exact h) ?_
    rw [el]
    simp only [List.mem_append, List.mem_singleton, not_or] at n ⊢
    exact ⟨n.1, n.2, ne⟩
  have hk : ∀ a ∈ hid, upd H p u a = H a := fun a ha => upd_ne fun e => nh (by rw [← e]; exact ha)
  refine ⟨⟨by simp [st.len], ?_, ?_, fun a ha => ?_, fun i q a h1 h2 => ?_⟩, ⟨pre_app, hg, hk⟩⟩
  · rw [el]
    exact List.nodup_append.mpr ⟨st.nd, by simp, fun a ha b hb => by
      simp at hb
      subst hb
      exact fun e => nl (e ▸ ha)⟩
  · rw [el]
    intro a ha
    rcases List.mem_append.mp ha with ha | ha
    · exact st.nh a ha
    · simp at ha
      subst ha
      exact nh
  · rw [hk a ha]; exact st.tr a ha
  · by_cases hi : i < lh.length
    · rw [List.getElem?_append_left hi] at h1
      rw [List.getElem?_append_left (by rw [st.len]; exact hi)] at h2
      obtain ⟨w, hw, rw'⟩ := st.ob i q a h1 h2
      refine ⟨w, ?_, RO.mono pre_app hg rw'⟩
      rw [upd_ne (ne_of_none hw hp)]
      exact hw
    · have ei : i = lh.length := by
        have := (List.getElem?_eq_some_iff.mp h1).1
        simp at this
        omega
      subst ei
      rw [← st.len] at h2
      simp at h1 h2
      subst h1 h2
      exact ⟨u, upd_same, RO.mono (fun _ _ h => h) hg ro⟩

theorem liveA_set : ∀ {ρ : List Addr} {lh : LH} {n : Nat} {o q : LO}, lh[n]? = some (some o) → liveA ρ (lh.set n (some q)) = liveA ρ lh
  | _, [], n, _, _, h => by simp at h
  | [], _ :: _, n, _, _, _ => by cases n <;> simp [liveA]
  | b :: r, x :: l, 0, o, q, h => by
    simp at h
    subst h
    rfl
  | b :: r, none :: l, n + 1, o, q, h => by
    show liveA r (l.set n (some q)) = liveA r l
    exact liveA_set (by simpa using h)
  | b :: r, some z :: l, n + 1, o, q, h => by
    show b :: liveA r (l.set n (some q)) = b :: liveA r l
    rw [liveA_set (by simpa using h)]
/-- the live objects stand apart -/
theorem Stt.apart (st : Stt c hid ρ lh H) {i j : Nat} {o q : LO} {a : Addr} (h1 : lh[i]? = some (some o)) (h2 : lh[j]? = some (some q)) (e1 : ρ[i]? = some a) (e2 : ρ[j]? = some a) : i = j := by
  have key : ∀ {ρ : List Addr} {lh : LH} {i j : Nat} {o q : LO}, (liveA ρ lh).Nodup → lh[i]? = some (some o) → lh[j]? = some (some q) → ρ[i]? = some a → ρ[j]? = some a → i = j := by
    intro ρ
    induction ρ with
    | nil => intro lh i j o q _ _ _ e1 _; simp at e1
    | cons b r ih =>
      intro lh i j o q nd h1 h2 e1 e2
      cases lh with
      | nil => simp at h1
      | cons x l =>
        cases i with
        | zero =>
          cases j with
          | zero => rfl
          | succ j =>
            simp at h1 e1
            subst h1 e1
            have m : b ∈ liveA r l := mem_liveA.mpr ⟨j, q, by simpa using e2, by simpa using h2⟩
            simp only [liveA, List.nodup_cons] at nd
            exact absurd m nd.1
        | succ i =>
          cases j with
          | zero =>
            simp at h2 e2
            subst h2 e2
            have m : b ∈ liveA r l := mem_liveA.mpr ⟨i, o, by simpa using e1, by simpa using h1⟩
            simp only [liveA, List.nodup_cons] at nd
            exact absurd m nd.1
          | succ j =>
            have nd' : (liveA r l).Nodup := by
              cases x with
              | none => exact nd
              | some z => simp only [liveA, List.nodup_cons] at nd; exact nd.2
            exact congrArg (· + 1) (ih (lh := l) nd' (by simpa using h1) (by simpa using h2) (by simpa using e1) (by simpa using e2))
  exact key st.nd h1 h2 e1 e2
/-- a live object is written -/
theorem Stt.wrote (st : Stt c hid ρ lh H) {n : Nat} {o q : LO} {a : Addr} {u : HO} (h1 : lh[n]? = some (some o)) (h2 : ρ[n]? = some a) (ro : RO c ρ (Gz hid ρ lh H) q u) :
    Stt c hid ρ (lh.set n (some q)) (upd H a u) ∧ Ex hid ρ lh H ρ (lh.set n (some q)) (upd H a u) := by
  have el := liveA_set (ρ := ρ) (q := q) h1
  have ma : a ∈ liveA ρ lh := mem_liveA.mpr ⟨n, o, h2, h1⟩
  have hg : Le (Gz hid ρ lh H) (Gz hid ρ (lh.set n (some q)) (upd H a u)) := Le.of fun b x h => by
    obtain ⟨nb, h⟩ := Fz.not h
    refine Fz.of (by rw [upd_ne fun e => nb (by rw [e]; exact List.mem_append_right _ ma)]; exact h) ?_
    rw [el]
    exact nb
  have hk : ∀ b ∈ hid, upd H a u b = H b := fun b hb => upd_ne fun e => st.nh a ma (by rw [← e]; exact hb)
  refine ⟨⟨by simp [st.len], by rw [el]; exact st.nd, by rw [el]; exact st.nh, fun b hb => by rw [hk b hb]; exact st.tr b hb, fun i x b z1 z2 => ?_⟩, ⟨fun _ _ h => h, hg, hk⟩⟩
  have hn : n < lh.length := (List.getElem?_eq_some_iff.mp h1).1
  by_cases hi : n = i
  · subst hi
    rw [List.getElem?_set_self hn] at z1
    cases z1
    rw [h2] at z2
    cases z2
    exact ⟨u, upd_same, RO.mono (fun _ _ h => h) hg ro⟩
  · rw [List.getElem?_set_ne hi] at z1
    obtain ⟨w, hw, r⟩ := st.ob i x b z1 z2
    refine ⟨w, ?_, RO.mono (fun _ _ h => h) hg r⟩
    rw [upd_ne fun e => hi (st.apart h1 z1 (by rw [h2, e]) z2)]
    exact hw

theorem liveA_none : ∀ {ρ : List Addr} {lh : LH} {n : Nat} {a : Addr}, a ∈ liveA ρ (lh.set n none) → a ∈ liveA ρ lh := fun {ρ lh n a} h => by
  obtain ⟨i, o, h1, h2⟩ := mem_liveA.mp h
  refine mem_liveA.mpr ⟨i, o, h1, ?_⟩
  by_cases hi : n = i
  · subst hi
    by_cases hn : n < lh.length
    · rw [List.getElem?_set_self hn] at h2; cases h2
    · rw [List.getElem?_eq_none (by simpa using hn)] at h2; cases h2
  · rw [List.getElem?_set_ne hi] at h2
    exact h2
theorem liveA_sub : ∀ {ρ : List Addr} {lh : LH} {n : Nat}, (liveA ρ lh).Nodup → (liveA ρ (lh.set n none)).Nodup
  | [], lh, n, _ => by
    cases lh <;> cases n <;> simp [liveA]
  | b :: r, [], n, h => by simp [liveA]
  | b :: r, none :: l, 0, h => h
  | b :: r, some z :: l, 0, h => by
    show (liveA r l).Nodup
    simp only [liveA, List.nodup_cons] at h
    exact h.2
  | b :: r, none :: l, n + 1, h => by
    show (liveA r (l.set n none)).Nodup
    exact liveA_sub (ρ := r) (lh := l) h
  | b :: r, some z :: l, n + 1, h => by
    show (b :: liveA r (l.set n none)).Nodup
    simp only [liveA, List.nodup_cons] at h ⊢
    exact ⟨fun m => h.1 (liveA_none m), liveA_sub h.2⟩
/-- a live object is frozen -/
theorem Stt.froze (st : Stt c hid ρ lh H) {n : Nat} : Stt c hid ρ (lh.set n none) H ∧ Ex hid ρ lh H ρ (lh.set n none) H := by
  have hg : Le (Gz hid ρ lh H) (Gz hid ρ (lh.set n none) H) := Le.of fun b x h => by
    obtain ⟨nb, h⟩ := Fz.not h
    refine Fz.of h fun m => nb ?_
    rcases List.mem_append.mp m with m | m
    · exact List.mem_append_left _ m
    · exact List.mem_append_right _ (liveA_none m)
  refine ⟨⟨by simp [st.len], liveA_sub st.nd, fun a ha => st.nh a (liveA_none ha), st.tr, fun i o a h1 h2 => ?_⟩, ⟨fun _ _ h => h, hg, fun _ _ => rfl⟩⟩
  have h1' : lh[i]? = some (some o) := by
    by_cases hi : n = i
    · subst hi
      by_cases hn : n < lh.length
      · rw [List.getElem?_set_self hn] at h1; cases h1
      · rw [List.getElem?_eq_none (by simpa using hn)] at h1; cases h1
    · rw [List.getElem?_set_ne hi] at h1
      exact h1
  obtain ⟨u, hu, r⟩ := st.ob i o a h1' h2
  exact ⟨u, hu, RO.mono (fun _ _ h => h) hg r⟩
/-- the object that was frozen, where it stands -/
theorem Stt.frozen (st : Stt c hid ρ lh H) {n : Nat} {o : LO} {a : Addr} {u : HO} (h1 : lh[n]? = some (some o)) (h2 : ρ[n]? = some a) (hu : H a = some u) : Gz hid ρ (lh.set n none) H a = some u := by
  refine Fz.of hu fun m => ?_
  rcases List.mem_append.mp m with m | m
  · exact st.nh a (mem_liveA.mpr ⟨n, o, h2, h1⟩) m
  · obtain ⟨i, q, e1, e2⟩ := mem_liveA.mp m
    by_cases hi : n = i
    · subst hi
      rw [List.getElem?_set_self (List.getElem?_eq_some_iff.mp h1).1] at e2
      cases e2
    · rw [List.getElem?_set_ne hi] at e2
      exact hi (st.apart h1 e2 h2 e1)

/-- a call that sees no live object -/
theorem Stt.hide (st : Stt c hid ρ lh H) : Stt c (hid ++ liveA ρ lh) [] [] H := ⟨rfl, List.nodup_nil, fun a ha => by simp [liveA] at ha, fun a ha => by
  rcases List.mem_append.mp ha with h | h
  · exact st.tr a h
  · exact st.live h, fun i o a h => by simp at h⟩
theorem Gz_hide : Gz (hid ++ liveA ρ lh) [] [] H = Gz hid ρ lh H := by
  unfold Gz
  simp [liveA]
theorem Stt.seek (st : Stt c hid ρ lh H) {ρ' : List Addr} {lh' : LH} {H' : Hp} (ex : Ex (hid ++ liveA ρ lh) [] [] H ρ' lh' H') : Stt c hid ρ lh H' ∧ Ex hid ρ lh H ρ lh H' ∧ Le (Gz (hid ++ liveA ρ lh) ρ' lh' H') (Gz hid ρ lh H') := by
  have sub : Le (Gz (hid ++ liveA ρ lh) ρ' lh' H') (Gz hid ρ lh H') := Le.of fun b x h => by
    obtain ⟨nb, h⟩ := Fz.not h
    exact Fz.of h fun m => nb (List.mem_append_left _ m)
  have hg : Le (Gz hid ρ lh H) (Gz hid ρ lh H') := by
    have := ex.keep
    rw [Gz_hide] at this
    exact this.trans sub
  obtain ⟨s1, e1⟩ := st.turn (fun a ha => ex.hk a (List.mem_append_left _ ha)) (fun a ha => ex.hk a (List.mem_append_right _ ha)) hg
  exact ⟨s1, e1, sub⟩
theorem Gz_sub : Le (Gz hid ρ lh H) H := Fz.sub

/-! ### peek -/
theorem RKs.of_paired {pk : LV → Option PD} (ih : ∀ {d : LV} {v : V} {x : PD}, RL c ρ (Gz hid ρ lh H) d v → pk d = some x → RP c H x v) :
    ∀ {kvs : List (PD × LV)} {kws : List (Key × V)} {r : List (PD × PD)}, RKL c ρ (Gz hid ρ lh H) kvs kws → peekK pk kvs = some r → RKs c H r kws
  | _, _, _, .nil, e => by
    simp [peekK] at e
    subst e
    exact .nil
  | (k, v) :: t, (k', v') :: t', _, .cons h r, e => by
    unfold peekK at e
    split at e
    · rename_i x1 x2 e1 e2
      cases e
      exact .cons h.1 (ih h.2 e1) (RKs.of_paired ih r e2)
    · cases e
theorem RFs.of_paired {pk : LV → Option PD} (ih : ∀ {d : LV} {v : V} {x : PD}, RL c ρ (Gz hid ρ lh H) d v → pk d = some x → RP c H x v) :
    ∀ {kvs : List (Str × LV)} {kws : List (Str × V)} {r : List (Str × PD)}, RFL c ρ (Gz hid ρ lh H) kvs kws → peekK pk kvs = some r → RFs c H r kws
  | _, _, _, .nil, e => by
    simp [peekK] at e
    subst e
    exact .nil
  | (k, v) :: t, (k', v') :: t', _, .cons h r, e => by
    unfold peekK at e
    obtain ⟨h1, h2⟩ := h
    simp only at h1
    subst h1
    split at e
    · rename_i x1 x2 e1 e2
      cases e
      exact .cons (ih h2 e1) (RFs.of_paired ih r e2)
    · cases e
theorem Stt.peek (st : Stt c hid ρ lh H) : ∀ {n : Nat} {d : LV} {v : V} {x : PD}, RL c ρ (Gz hid ρ lh H) d v → Sim.peek n d lh = some x → RP c H x v
  | n, .p d, v, x, h, e => by
    have e : some d = some x := by cases n <;> simpa [Sim.peek] using e
    cases e
    exact RP.mono Gz_sub h
  | 0, .ref i, v, x, h, e => by simp [Sim.peek] at e
  | n + 1, .ref i, v, x, h, e => by
    obtain ⟨a, ha, rfl⟩ := h
    unfold Sim.peek at e
    split at e
    · rename_i xs hx
      cases e
      obtain ⟨u, hu, ro⟩ := st.ob i _ a hx ha
      cases u <;> first | exact ro.elim | skip
      exact .lst hu (RPs.mono Gz_sub ro)
    · rename_i kvs hx
      obtain ⟨u, hu, ro⟩ := st.ob i _ a hx ha
      cases u <;> first | exact ro.elim | skip
      cases e2 : peekK (fun v => Sim.peek n v lh) kvs with
      | none => rw [e2] at e; cases e
      | some r =>
        rw [e2] at e
        cases e
        exact .dct (.inl (.inl hu)) (RKs.of_paired (fun h1 h2 => st.peek h1 h2) ro e2)
    · rename_i k fs hx
      obtain ⟨u, hu, ro⟩ := st.ob i _ a hx ha
      cases u <;> first | exact ro.elim | skip
      cases e2 : peekK (fun v => Sim.peek n v lh) fs with
      | none => rw [e2] at e; cases e
      | some r =>
        rw [e2] at e
        cases e
        obtain ⟨e3, ro⟩ := ro
        subst e3
        exact .obj hu (RFs.of_paired (fun h1 h2 => st.peek h1 h2) ro e2)
    · cases e
end
end Sim
end
section
set_option Elab.async false
set_option linter.all false
set_option maxRecDepth 100000
/-! The Sim layer, E: freezing; the wishes' bookkeeping. -/
namespace Sim
open PySem PySem.Spec PyProof.Rows L2
section
variable {c : Ct} {hid ρ : List Addr} {H : Hp}
theorem Paired.ex {α β : Type} {F G : α → β → Prop} {l₁ : List α} {l₂ : List β} (h : Paired F l₁ l₂) (f : ∀ a b, F a b → G a b) : Paired G l₁ l₂ := Paired.mapP h f
def FrzOk (c : Ct) (hid ρ : List Addr) (H : Hp) (n : Nat) : Prop := ∀ (lh lh' : LH) (d : LV) (v : V) (x : PD), Stt c hid ρ lh H → RL c ρ (Gz hid ρ lh H) d v → frz n d lh = some (x, lh') →
  Stt c hid ρ lh' H ∧ Ex hid ρ lh H ρ lh' H ∧ RP c (Gz hid ρ lh' H) x v
theorem frzK_ok {n : Nat} (ih : FrzOk c hid ρ H n) : ∀ {kvs : List (PD × LV)} {lh lh' : LH} {kws : List (Key × V)} {r : List (PD × PD)}, Stt c hid ρ lh H → RKL c ρ (Gz hid ρ lh H) kvs kws → frzK (frz n) kvs lh = some (r, lh') →
    Stt c hid ρ lh' H ∧ Ex hid ρ lh H ρ lh' H ∧ RKs c (Gz hid ρ lh' H) r kws
  | [], lh, lh', _, r, st, .nil, e => by
    simp [frzK] at e
    obtain ⟨rfl, rfl⟩ := e
    exact ⟨st, Ex.refl, .nil⟩
  | (k, v) :: t, lh, lh', (k', v') :: t', r, st, .cons h hr, e => by
    unfold frzK at e
    split at e
    · rename_i x h1 e1
      split at e
      · rename_i r2 h2 e2
        cases e
        obtain ⟨s1, x1, r1⟩ := ih _ _ _ _ _ st h.2 e1
        obtain ⟨s2, x2, r3⟩ := frzK_ok ih s1 (Paired.mapP hr fun _ _ q => ⟨q.1, q.2.ex x1⟩) e2
        exact ⟨s2, x1.trans x2, .cons h.1 (RP.mono x2.keep r1) r3⟩
      · cases e
    · cases e
theorem frzF_ok {n : Nat} (ih : FrzOk c hid ρ H n) : ∀ {kvs : List (Str × LV)} {lh lh' : LH} {kws : List (Str × V)} {r : List (Str × PD)}, Stt c hid ρ lh H → RFL c ρ (Gz hid ρ lh H) kvs kws → frzK (frz n) kvs lh = some (r, lh') →
    Stt c hid ρ lh' H ∧ Ex hid ρ lh H ρ lh' H ∧ RFs c (Gz hid ρ lh' H) r kws
  | [], lh, lh', _, r, st, .nil, e => by
    simp [frzK] at e
    obtain ⟨rfl, rfl⟩ := e
    exact ⟨st, Ex.refl, .nil⟩
  | (k, v) :: t, lh, lh', (k', v') :: t', r, st, .cons h hr, e => by
    obtain ⟨h1, h2⟩ := h
    simp only at h1
    subst h1
    unfold frzK at e
    split at e
    · rename_i x h1 e1
      split at e
      · rename_i r2 h3 e2
        cases e
        obtain ⟨s1, x1, r1⟩ := ih _ _ _ _ _ st h2 e1
        obtain ⟨s2, x2, r3⟩ := frzF_ok ih s1 (Paired.mapP hr fun _ _ q => ⟨q.1, q.2.ex x1⟩) e2
        exact ⟨s2, x1.trans x2, .cons (RP.mono x2.keep r1) r3⟩
      · cases e
    · cases e
theorem frz_ok : ∀ n, FrzOk c hid ρ H n
  | n, lh, lh', .p d, v, x, st, h, e => by
    have e : some (d, lh) = some (x, lh') := by
      rw [← e]
      cases n <;> rfl
    cases e
    exact ⟨st, Ex.refl, h⟩
  | 0, lh, lh', .ref i, v, x, st, h, e => by
    have e : none = some (x, lh') := e
    cases e
  | n + 1, lh, lh', .ref i, v, x, st, h, e => by
    obtain ⟨a, ha, rfl⟩ := h
    unfold frz at e
    split at e
    · rename_i xs hx
      cases e
      obtain ⟨u, hu, ro⟩ := st.ob i _ a hx ha
      cases u <;> first | exact ro.elim | skip
      obtain ⟨s1, x1⟩ := st.froze (n := i)
      exact ⟨s1, x1, .lst (st.frozen hx ha hu) (RPs.mono x1.keep ro)⟩
    · rename_i kvs hx
      obtain ⟨u, hu, ro⟩ := st.ob i _ a hx ha
      cases u <;> first | exact ro.elim | skip
      split at e
      · rename_i r h1 e1
        obtain ⟨s1, x1, r1⟩ := frzK_ok (frz_ok n) st ro e1
        split at e
        · rename_i z hz
          cases e
          obtain ⟨s2, x2⟩ := s1.froze (n := i)
          exact ⟨s2, x1.trans x2, .dct (.inl (.inl (s1.frozen hz ha hu))) (RKs.mono x2.keep r1)⟩
        · cases e
      · cases e
    · rename_i k fs hx
      obtain ⟨u, hu, ro⟩ := st.ob i _ a hx ha
      cases u <;> first | exact ro.elim | skip
      obtain ⟨e3, ro⟩ := ro
      subst e3
      split at e
      · rename_i r h1 e1
        obtain ⟨s1, x1, r1⟩ := frzF_ok (frz_ok n) st ro e1
        split at e
        · rename_i z1 z2 hz
          cases e
          obtain ⟨s2, x2⟩ := s1.froze (n := i)
          exact ⟨s2, x1.trans x2, .obj (s1.frozen hz ha hu) (RFs.mono x2.keep r1)⟩
        · cases e
      · cases e
    · cases e
theorem frzs_ok : ∀ {ds : List LV} {lh lh' : LH} {vs : List V} {r : List PD}, Stt c hid ρ lh H → RLs c ρ (Gz hid ρ lh H) ds vs → frzs ds lh = some (r, lh') → Stt c hid ρ lh' H ∧ Ex hid ρ lh H ρ lh' H ∧ RPs c (Gz hid ρ lh' H) r vs
  | [], lh, lh', _, r, st, .nil, e => by
    simp [frzs] at e
    obtain ⟨rfl, rfl⟩ := e
    exact ⟨st, Ex.refl, .nil⟩
  | d :: t, lh, lh', v :: t', r, st, .cons h hr, e => by
    unfold frzs at e
    split at e
    · rename_i x h1 e1
      split at e
      · rename_i r2 h2 e2
        cases e
        obtain ⟨s1, x1, r1⟩ := frz_ok 9 _ _ _ _ _ st h e1
        obtain ⟨s2, x2, r3⟩ := frzs_ok s1 (Paired.mapP hr fun _ _ q => q.ex x1) e2
        exact ⟨s2, x1.trans x2, .cons (RP.mono x2.keep r1) r3⟩
      · cases e
    · cases e
end

/-! ### the judgement -/
section
variable (T : Tab) (c : Ct) (cal : Cal) (X : Cx)
/-- the expression e is what q runs -/
def SndE (q : C) (e : Expr) : Prop := ∀ (hid ρ : List Addr) (lh : LH) (H : Hp) (σ : L2.St) (env : Env0) (Q : VK) (W : WX), Takes X W → Stt c hid ρ lh H → REnv c ρ (Gz hid ρ lh H) env σ →
  Out c hid ρ lh H Q (fun cls d H' => W cls d σ H') (ev T cal q env lh) → WE X e σ H Q
end
/-- what follows from a result of any kind -/
def OutA {α : Type} (c : Ct) (hid ρ : List Addr) (lh : LH) (H : Hp) (G : α → LH → List Addr → Hp → Prop) (W : XK) : R α → Prop
  | .ok a lh' => ∀ (H' : Hp) (ρ' : List Addr), Stt c hid ρ' lh' H' → Ex hid ρ lh H ρ' lh' H' → G a lh' ρ' H'
  | .exc e lh' => ∀ (cls : Value) (d : Option Addr) (H' : Hp) (ρ' : List Addr), Stt c hid ρ' lh' H' → Ex hid ρ lh H ρ' lh' H' → RX c (Gz hid ρ' lh' H') e cls d → W cls d H'
  | .bad => False
section
variable {T : Tab} {c : Ct} {cal : Cal} {X : Cx} {hid ρ : List Addr} {lh : LH} {H : Hp} {σ : L2.St} {env : Env0} {Q Q1 : VK} {W : WX}
/-- a part runs, then the rest -/
theorem SndE.use {q : C} {e : Expr} (s : SndE T c cal X q e) (tk : Takes X W) (st : Stt c hid ρ lh H) (re : REnv c ρ (Gz hid ρ lh H) env σ) {f : LV → LH → R LV}
    (ho : Out c hid ρ lh H Q (fun cls d H' => W cls d σ H') ((ev T cal q env lh).bind f))
    (k : ∀ (v : V) (H1 : Hp) (ρ1 : List Addr) (d : LV) (lh1 : LH), Stt c hid ρ1 lh1 H1 → Ex hid ρ lh H ρ1 lh1 H1 → RL c ρ1 (Gz hid ρ1 lh1 H1) d v → REnv c ρ1 (Gz hid ρ1 lh1 H1) env σ →
      Out c hid ρ1 lh1 H1 Q (fun cls d H' => W cls d σ H') (f d lh1) → Q1 v H1) : WE X e σ H Q1 := by
  refine s hid ρ lh H σ env Q1 W tk st re ?_
  cases er : ev T cal q env lh with
  | ok d lh1 =>
    rw [er] at ho
    exact fun v H1 ρ1 s1 x1 r1 => k v H1 ρ1 d lh1 s1 x1 r1 (re.ex x1) (ho.after x1)
  | exc e1 lh1 =>
    rw [er] at ho
    exact ho
  | bad =>
    rw [er] at ho
    exact ho
/-- an operator, any of its rules -/
def oAny (X : Cx) (f : Value → Value → Sem Value) : R2 := fun x y H Q => ∃ r : R2, OpR X f r ∧ r x y H Q
theorem oAny_ok {f : Value → Value → Sem Value} : OpR X f (oAny X f) := by
  intro pins s σ H x y v u Q I rx ry h
  obtain ⟨r, hr, q⟩ := h
  exact hr pins s σ H x y v u Q I rx ry q
theorem Out.ok_p {d : PD} {v : V} (h : Out c hid ρ lh H Q (fun cls d H' => W cls d σ H') (.ok (.p d) lh)) (st : Stt c hid ρ lh H) (r : RP c (Gz hid ρ lh H) d v) : Q v H := h v H ρ st Ex.refl r
theorem Out.of_some {o : Option LV} {W' : XK} (h : Out c hid ρ lh H Q W' (R.of o lh)) : ∃ d, o = some d ∧ Out c hid ρ lh H Q W' (.ok d lh) := by
  cases o with
  | none => exact h.elim
  | some d => exact ⟨d, rfl, h⟩
end
end Sim
end
section
set_option Elab.async false
set_option linter.all false
set_option maxRecDepth 100000
/-! The Sim layer, F: the look "this text is that term", and where one stands. -/
namespace Sim
open PySem PySem.Spec PyProof.Rows L2

def visB (sc : Scope) (x : Str) : Bool := match sc.names.lookup x with
  | some .local => true
  | some .cell => true
  | some .free => true
  | _ => false
def locB (sc : Scope) (x : Str) : Bool := match sc.names.lookup x with
  | some .local => true
  | some .cell => true
  | _ => false
def glbB (sc : Scope) (x : Str) : Bool := match sc.names.lookup x with
  | some .globalImplicit => true
  | _ => false
def nmB (x : Str) : Bool := !(x == ("__debug__" : Str)) && !(x == ("__classdict__" : Str)) && decide (x ≠ "__name__")
def cstB : PD → Const → Bool
  | .non, .none => true
  | .bl a, .bool b => a == b
  | .int i, .int j => decide (i = j)
  | .str x, .str y => decide (x = y)
  | _, _ => false
def bopB : BO → Operator → Bool
  | .add, .Add => true
  | .sub, .Sub => true
  | .mul, .Mult => true
  | .fdiv, .FloorDiv => true
  | .md, .Mod => true
  | .pow, .Pow => true
  | _, _ => false
def copB : CO → CmpOp → Bool
  | .eq, .Eq => true
  | .ne, .NotEq => true
  | .lt, .Lt => true
  | .le, .LtE => true
  | .gt, .Gt => true
  | .ge, .GtE => true
  | .isin, .In => true
  | .notin, .NotIn => true
  | .is, .Is => true
  | .isnot, .IsNot => true
  | _, _ => false
def isStar : Expr → Bool
  | .Starred .. => true
  | _ => false
def isSetE : Expr → Bool
  | .Set .. => true
  | _ => false
/-- no comprehension of its own: the assignment is the plain one -/
def isCompE : Expr → Bool
  | .ListComp .. => true
  | .SetComp .. => true
  | .DictComp .. => true
  | _ => false
/-- an attribute's base that is no super() -/
def baseB : Expr → Bool
  | .Call (.Name _ _) [] [] _ => false
  | _ => true
def isSlc : Expr → Bool
  | .Slice .. => true
  | _ => false
theorem star_of {e : Expr} {es : List Expr} {env : Env} (h : isStar e = false) : starEach (e :: es) env = (false, eval e env) :: starEach es env := by
  cases e <;> first | rfl | (simp [isStar] at h)
theorem back_plain {pos : Pos} {env : Env} : ∀ {es : List Expr}, (es.all fun e => !isStar e) = true → (backTo pos (starEach es env)).any (·.1) = false
  | [], _ => rfl
  | e :: es, h => by
    simp only [List.all_cons, Bool.and_eq_true, Bool.not_eq_true'] at h
    rw [star_of h.1]
    show (false || (backTo pos (starEach es env)).any (·.1)) = false
    rw [back_plain h.2]
    rfl
theorem base_of {o : Expr} {f : Str} {env : Env} (h : baseB o = true) : attributeBase o f env (eval o env) = eval o env := by
  unfold attributeBase
  split
  · simp [baseB] at h
  · rfl
theorem swaps_of {e : Expr} {t : Option Expr} {l : Nat} {env : Env} (h : isCompE e = false) : swapsWith e t l env = pure false := by
  cases e <;> first | rfl | (simp [isCompE] at h)
theorem noset_of {e : Expr} {op : CmpOp} (h : isSetE e = false) : behindInMarks op e = false := by
  cases e <;> first | rfl | (simp [isSetE] at h)
theorem plainIx_of {e : Expr} (h : isSlc e = false) : PlainIx e := by
  intro o i
  cases e <;> first | rfl | (simp [isSlc] at h)

/-! ### the look -/
section
variable (T : Tab)
def bfNm : BF → Option Str
  | .len => some "len"
  | .sum => some "sum"
  | .max2 => some "max"
  | .min2 => some "min"
  | .int => some "int"
  | .list => some "list"
  | .tuple => some "tuple"
  | .dict => some "dict"
  | .any => some "any"
  | .all => some "all"
  | _ => none
def tyNm : TY → Option Str
  | .int => some "int"
  | .bool => some "bool"
  | .str => some "str"
  | .list => some "list"
  | .tuple => some "tuple"
  | .dict => some "dict"
  | .own k => T.kls[k]?.map (·.name)
  | .exc _ => none
def tyS : TY → Option String
  | .int => some "int"
  | .bool => some "bool"
  | .str => some "str"
  | .list => some "list"
  | .tuple => some "tuple"
  | .dict => some "dict"
  | _ => none
def nmIs (o : Option Str) (x : Str) : Bool := match o with
  | some y => decide (y = x)
  | none => false
/-- the look at a target: the names that one may bind, in a def; in a block -/
def locF (sc : Scope) (x : Str) : Bool := match sc.names.lookup x with
  | some .local => true
  | some .cell => true
  | _ => false
def locBk (scope sc : Scope) (x : Str) : Bool := match (relS scope sc).names.lookup x with
  | some .local => true
  | some .cell => scope.names.lookup x == some .cell
  | _ => false
mutual
def tgIn (own : List Nat) : Tg → Bool
  | .nm i => own.contains i
  | .tp ts => tgsIn own ts
def tgsIn (own : List Nat) : List Tg → Bool
  | [] => true
  | t :: ts => tgIn own t && tgsIn own ts
end
mutual
def chkT (N : List Str) (lc : Str → Bool) : Tg → Expr → Bool
  | .nm i, .Name x _ => nmIs N[i]? x && lc x
  | .tp ts, .Tuple es _ _ => chkTs N lc ts es
  | _, _ => false
def chkTs (N : List Str) (lc : Str → Bool) : List Tg → List Expr → Bool
  | [], [] => true
  | t :: ts, e :: es => !isStar e && chkT N lc t e && chkTs N lc ts es
  | _, _ => false
end
def isTup : Expr → Bool
  | .Tuple .. => true
  | _ => false
/-- what a walk's arguments are -/
def itEs (sc : Scope) : IK → Expr → Expr → Option (List Expr)
  | .seq, _, it => if isSetE it then none else some [it]
  | .rng1, _, .Call (.Name x _) [a] [] _ => if decide (x = "range") && glbB sc x then some [a] else none
  | .rng2, _, .Call (.Name x _) [a, b] [] _ => if decide (x = "range") && glbB sc x then some [a, b] else none
  | .enm, tg, .Call (.Name x _) [a] [] _ => if decide (x = "enumerate") && glbB sc x && isTup tg then some [a] else none
  | .zp, tg, .Call (.Name x _) [a, b] [] _ => if decide (x = "zip") && glbB sc x && isTup tg then some [a, b] else none
  | .itm, tg, .Call (.Attribute a m ap) [] [] pos => if decide (m = "items") && baseB a && (ap.endLine == pos.line) && isTup tg then some [a] else none
  | _, _, _ => none
def keyB : List PD → List (Option Expr) → Bool
  | [], [] => true
  | k :: ks, some (.Constant v _ _) :: es => cstB k v && (kOf k).isSome && keyB ks es
  | _, _ => false
/-- a test that is looked at as a whole -/
def tstB : Expr → Bool
  | .IfExp .. => false
  | .UnaryOp .Not a _ => tstB a
  | .BoolOp _ es _ => tstBs es
  | _ => true
where tstBs : List Expr → Bool
  | [] => true
  | e :: r => tstB e && tstBs r
mutual
def chk (N : List Str) (sc : Scope) : C → Expr → Bool
  | .fz a, e => chk N sc a e
  | .var i, .Name x _ => nmIs N[i]? x && visB sc x && nmB x
  | .cst v, .Constant k _ _ => cstB v k
  | .glb i, .Name x _ => nmIs (T.gs[i]?.map (·.1)) x && glbB sc x && nmB x
  | .tup es, .Tuple es' _ _ => decide (es.length ≤ 1000) && chks N sc es es'
  | .lst _ es, .List es' _ => decide (es.length ≤ 1000) && chks N sc es es'
  | .bin op a b, .BinOp a' op' b' _ => bopB op op' && chk N sc a a' && chk N sc b b'
  | .neg a, .UnaryOp .USub a' _ => chk N sc a a'
  | .nt a, .UnaryOp .Not a' _ => chk N sc a a'
  | .cmp op a b, .Compare a' [op'] [b'] _ => copB op op' && !isSetE b' && chk N sc a a' && chk N sc b b'
  | .chn op1 op2 a b d, .Compare a' [o1, o2] [b', d'] _ => copB op1 o1 && copB op2 o2 && !isSetE d' && chk N sc a a' && chk N sc b b' && chk N sc d d'
  | .and a b, .BoolOp .And (a' :: b' :: r) pos => chk N sc a a' && (match r with
    | [] => chk N sc b b'
    | _ => chk N sc b (.BoolOp .And (b' :: r) pos))
  | .or a b, .BoolOp .Or (a' :: b' :: r) pos => chk N sc a a' && (match r with
    | [] => chk N sc b b'
    | _ => chk N sc b (.BoolOp .Or (b' :: r) pos))
  | .ite d a b, .IfExp d' a' b' _ => tstB d' && chk N sc d d' && chk N sc a a' && chk N sc b b'
  | .att a f, .Attribute a' f' _ => decide (f = f') && baseB a' && chk N sc a a'
  | .idx a i, .Subscript a' i' _ => !isSlc i' && chk N sc a a' && chk N sc i i'
  | .cal f _ es, .Call (.Name x _) es' [] _ => (match T.fns[f]? with
    | some q => decide (q.name = x) && q.cls.isNone
    | none => false) && glbB sc x && nmB x && chks N sc es es'
  | .met m _ a es, .Call (.Attribute a' m' ap) es' [] pos => decide (m = m') && baseB a' && (ap.endLine == pos.line) && decide (es'.length < 20) && chk N sc a a' && chks N sc es es'
  | .mk j _ es, .Call (.Name x _) es' [] _ => nmIs (T.kls[j]?.map (·.name)) x && glbB sc x && nmB x && chks N sc es es'
  | .bf b _ es, .Call (.Name x _) es' [] _ => nmIs (bfNm b) x && glbB sc x && nmB x && !es'.isEmpty && chks N sc es es'
  | .srt _ a, .Call (.Name x _) [.Call (.Name y _) [a'] [] _] [] _ => decide (x = "sorted") && glbB sc x && decide (y = "set") && glbB sc y && !isStar a' && chk N sc a a'
  | .isi a t, .Call (.Name x _) [a', .Name y _] [] _ => decide (x = "isinstance") && nmIs (tyNm T t) y && (tyS t).isSome && glbB sc x && glbB sc y && nmB y && !isStar a' && chk N sc a a'
  | .dct _ ks vs, .Dict ks' vs' _ => keyB ks ks' && decide (ks.length = vs.length) && decide (ks.length ≤ 15) && chks N sc vs vs'
  | .cat _ a b, .BinOp a' .Add b' _ => chk N sc a a' && chk N sc b b'
  | .slc _ a lo hi, .Subscript a' (.Slice lo' hi' none _) _ => chk N sc a a' && chks N sc lo lo'.toList && chks N sc hi hi'.toList
  | .cmpr _ own tg ik ia ifs e, .ListComp elt [⟨tg', it, ifs', as⟩] scope _ => decide (as = 0) && blkC N sc scope own && tgIn (own.map (·.2)) tg && chkT N (locBk scope sc) tg tg' && (match itEs sc ik tg' it with
      | some es => chks N sc ia es
      | none => false) && decide (ifs'.length ≤ 1) && ifs'.all tstB && chks N (relS scope sc) ifs ifs' && chk N (relS scope sc) e elt
  | .dcmp _ own tg ik ia kq vq, .DictComp ke ve [⟨tg', it, ifs', as⟩] scope _ => decide (as = 0) && ifs'.isEmpty && blkC N sc scope own && tgIn (own.map (·.2)) tg && chkT N (locBk scope sc) tg tg' && (match itEs sc ik tg' it with
      | some es => chks N sc ia es
      | none => false) && chk N (relS scope sc) kq ke && chk N (relS scope sc) vq ve
  | _, _ => false
def chks (N : List Str) (sc : Scope) : List C → List Expr → Bool
  | [], [] => true
  | e :: r, e' :: r' => !isStar e' && chk N sc e e' && chks N sc r r'
  | _, _ => false
end
end
end Sim
end
section
set_option Elab.async false
set_option linter.all false
set_option maxRecDepth 100000
set_option maxHeartbeats 1000000
/-! The Sim layer, G: plain expressions. -/
namespace Sim
open PySem PySem.Spec PyProof.Rows L2

/-- what a def promises: what its term runs -/
def spF (T : Tab) (c : Ct) (k i : Nat) : Sp := fun vs H Q E => ∃ (hid ρ : List Addr) (lh : LH) (ds : List LV), Stt c hid ρ lh H ∧ RLs c ρ (Gz hid ρ lh H) ds vs ∧ Out c hid ρ lh H Q E (callD T k i ds lh)
structure FnAt (T : Tab) (c : Ct) (k : Nat) (P : Program) (w : World) (K : PySem.W.Frag) (mg : Str → Option Value) (base : Heap) (i : Nat) (f : Fn) (a : Addr) (fd : FuncData) : Prop where
  ok : FnOk P w K mg base (CX P w) k a fd f.ps (spF T c k i)
  kp : PySem.W.keepIn K (.ref a) = true
  bd : Binds K fd f.ps []
  lk : ∃ (oc : Value) (od : Option Addr) (osl : Array (Option Value)), K.lookup a = some ⟨oc, od, .func fd, osl⟩
def bltNames : List Str := ["len", "sum", "max", "min", "int", "str", "list", "tuple", "dict", "sorted", "any", "all", "isinstance", "range", "enumerate", "zip", "set", "bool"]
/-- where one stands -/
structure GX (T : Tab) (c : Ct) (k : Nat) (N : List Str) (sc : Scope) (X : Cx) : Prop where
  hN : X.N = N
  nd : X.N.Nodup
  hsc : X.env.scope = sc
  hK : X.K = c.K
  hP : X.prog = c.P
  hw : X.w = c.w
  calm : X.calm = true
  room : Room (k + 2) X.A
  glb : ∀ (i : Nat) (q : Str × PD), T.gs[i]? = some q → ∃ (u : Value) (v : V), X.mg q.1 = some u ∧ RelV v u ∧ ∀ G, RP c G q.2 v
  blt : ∀ x ∈ bltNames, X.mg x = none
  fns : ∀ (i : Nat) (f : Fn), T.fns[i]? = some f → ∃ (a : Addr) (fd : FuncData), FnAt T c k X.prog X.w X.K X.mg X.base i f a fd ∧ (f.cls = none → X.mg f.name = some (.ref a)) ∧ ∀ j, f.cls = some j → Meth X.K (c.ct j) f.name a
  kls : ∀ (j : Nat) (q : Kl), T.kls[j]? = some q → Cls X.K (c.ct j) ∧ X.mg q.name = some (.ref (c.ct j)) ∧ ∀ f ∈ q.flds, NoAttr X.K (c.ct j) f
  mks : ∀ (j : Nat) (q : Kl) (f : Fn) (a : Addr), T.kls[j]? = some q → T.fns[q.init]? = some f → Meth X.K (c.ct j) f.name a → Mk X.K (c.ct j) a
  mts : ∀ (j : Nat) (q : Kl), T.kls[j]? = some q → (∃ f, T.fns[q.init]? = some f ∧ f.cls = some j ∧ f.name = "__init__") ∧ ∀ m i, fget q.ms m = some i → (∃ f, T.fns[i]? = some f ∧ f.cls = some j ∧ f.name = m) ∧ m ∉ q.flds

theorem nmIs_ok {o : Option Str} {x : Str} (h : nmIs o x = true) : o = some x := by
  cases o with
  | none => cases h
  | some y => exact congrArg some (of_decide_eq_true h)
theorem nmB_ok {x : Str} (h : nmB x = true) : (x == ("__debug__" : Str)) = false ∧ (x == ("__classdict__" : Str)) = false ∧ x ≠ "__name__" := by
  unfold nmB at h
  simp only [Bool.and_eq_true, Bool.not_eq_true', decide_eq_true_eq] at h
  exact ⟨h.1.1, h.1.2, h.2⟩
theorem visB_ok {sc : Scope} {x : Str} (h : visB sc x = true) : Vis sc x := by
  unfold visB at h
  split at h
  · rename_i e; exact .inl e
  · rename_i e; exact .inr (.inl e)
  · rename_i e; exact .inr (.inr e)
  · cases h
theorem glbB_ok {sc : Scope} {x : Str} (h : glbB sc x = true) : sc.names.lookup x = some .globalImplicit := by
  unfold glbB at h
  split at h
  · assumption
  · cases h
theorem b2 {a b : Bool} (h : (a && b) = true) : a = true ∧ b = true := Bool.and_eq_true_iff.mp h
theorem bn {a : Bool} (h : (!a) = true) : a = false := by cases a <;> first | rfl | cases h

section
variable {T : Tab} {c : Ct} {cal : Cal} {k : Nat} {N : List Str} {sc : Scope} {X : Cx}
theorem GX.gl (g : GX T c k N sc X) {x : Str} (h : glbB sc x = true) : Gl X x := by
  show X.env.scope.names.lookup x = _
  rw [g.hsc]
  exact glbB_ok h
theorem snd_var (g : GX T c k N sc X) {i : Nat} {x : Str} {pos : Pos} (h : chk T N sc (.var i) (.Name x pos) = true) : SndE T c cal X (.var i) (.Name x pos) := by
  intro hid ρ lh H σ env Q W tk st re ho
  have h : (nmIs N[i]? x && visB sc x && nmB x) = true := h
  obtain ⟨h, h3⟩ := b2 h
  obtain ⟨h1, h2⟩ := b2 h
  have ho : Out c hid ρ lh H Q _ (match env[i]? with | some (some d) => .ok d lh | _ => .bad) := ho
  split at ho
  · rename_i d e
    obtain ⟨v, hv, r⟩ := re.2 i d e
    exact WE.of (pe_var (by rw [g.hN]; exact nmIs_ok h1) (by rw [g.hsc]; exact visB_ok h2) (nmB_ok h3).1 (nmB_ok h3).2.1) ⟨v, hv, ho v H ρ st Ex.refl r⟩
  · exact ho.elim
theorem snd_cst {v : PD} {kk : Const} {j : Nat} {pos : Pos} (h : cstB v kk = true) : SndE T c cal X (.cst v) (.Constant kk j pos) := by
  intro hid ρ lh H σ env Q W tk st re ho
  have ho : Out c hid ρ lh H Q _ (.ok (.p v) lh) := ho
  cases v <;> cases kk <;> first
    | (simp [cstB] at h; done)
    | exact WE.of pe_non (ho _ H ρ st Ex.refl .non)
    | (have e := eq_of_beq (show (_ == _) = true from h); subst e; exact WE.of pe_bl (ho _ H ρ st Ex.refl (.bl _)))
    | (have e := of_decide_eq_true (show decide (_ = _) = true from h); subst e; exact WE.of pe_int (ho _ H ρ st Ex.refl (.int _)))
    | (have e := of_decide_eq_true (show decide (_ = _) = true from h); subst e; exact WE.of pe_str (ho _ H ρ st Ex.refl (.str _)))
theorem snd_glb (g : GX T c k N sc X) {i : Nat} {x : Str} {pos : Pos} (h : chk T N sc (.glb i) (.Name x pos) = true) : SndE T c cal X (.glb i) (.Name x pos) := by
  intro hid ρ lh H σ env Q W tk st re ho
  have h : (nmIs (T.gs[i]?.map (·.1)) x && glbB sc x && nmB x) = true := h
  obtain ⟨h, h3⟩ := b2 h
  obtain ⟨h1, h2⟩ := b2 h
  have ho : Out c hid ρ lh H Q _ (match T.gs[i]? with | some q => .ok (.p q.2) lh | none => .bad) := ho
  split at ho
  · rename_i q e
    obtain ⟨u, v, hm, rv, rp⟩ := g.glb i q e
    rw [e] at h1
    have ex : q.1 = x := Option.some.inj (nmIs_ok h1)
    rw [ex] at hm
    exact WE.of (pe_glob (g.gl h2) hm rv (nmB_ok h3).1) (ho v H ρ st Ex.refl (rp _))
  · exact ho.elim

/-! ### argument lists -/
def WA (X : Cx) (es : List Expr) : TA := fun σ H Q => ∀ (pos : Pos) (pins : List (Addr × Obj)) (s : Shared), Inv X pins σ H s → wpAny (model X.prog X.w) X.A (spliced (backTo pos (starEach es X.env))) (AP X pins σ Q) X.xe s
theorem pa_wa {es : List Expr} : PA X es (WA X es) := ⟨fun pos pins s _ _ _ I h => h pos pins s I⟩
theorem WA.of {es : List Expr} {t : TA} (h : PA X es t) {σ : L2.St} {H : Hp} {Q : List V → Hp → Prop} (q : t σ H Q) : WA X es σ H Q := fun pos pins s I => h.run pos pins s σ H Q I q
variable (T c cal X) in
def SndA (qs : List C) (es : List Expr) : Prop := ∀ (hid ρ : List Addr) (lh : LH) (H : Hp) (σ : L2.St) (env : Env0) (Q1 : List V → Hp → Prop) (W : WX), Takes X W → Stt c hid ρ lh H → REnv c ρ (Gz hid ρ lh H) env σ →
  OutA c hid ρ lh H (fun ds lh1 ρ1 H1 => ∀ vs, RLs c ρ1 (Gz hid ρ1 lh1 H1) ds vs → Q1 vs H1) (fun cls d H' => W cls d σ H') (evs T cal qs env lh) → WA X es σ H Q1
theorem sndA_nil : SndA T c cal X [] [] := by
  intro hid ρ lh H σ env Q1 W tk st re ho
  exact WA.of pa_nil (ho H ρ st Ex.refl [] .nil)
theorem sndA_cons {q : C} {e : Expr} {qs : List C} {es : List Expr} (s : SndE T c cal X q e) (r : SndA T c cal X qs es) (hs : isStar e = false) : SndA T c cal X (q :: qs) (e :: es) := by
  intro hid ρ lh H σ env Q1 W tk st re ho
  refine WA.of (pa_cons pe_we pa_wa (star_of hs)) ?_
  show WE X e σ H _
  have ho : OutA c hid ρ lh H _ _ ((ev T cal q env lh).bind fun x h => (evs T cal qs env h).bind fun xs h => .ok (x :: xs) h) := ho
  refine s hid ρ lh H σ env _ W tk st re ?_
  cases er : ev T cal q env lh with
  | ok d lh1 =>
    rw [er] at ho
    intro v H1 ρ1 s1 x1 r1
    refine r hid ρ1 lh1 H1 σ env _ W tk s1 (re.ex x1) ?_
    have ho : OutA c hid ρ lh H (fun ds lh1 ρ1 H1 => ∀ vs, RLs c ρ1 (Gz hid ρ1 lh1 H1) ds vs → Q1 vs H1) (fun cls d H' => W cls d σ H') ((evs T cal qs env lh1).bind fun xs h => .ok (d :: xs) h) := ho
    cases er2 : evs T cal qs env lh1 with
    | ok ds lh2 =>
      rw [er2] at ho
      exact fun H2 ρ2 s2 x2 vs rs => ho H2 ρ2 s2 (x1.trans x2) (v :: vs) (.cons (r1.ex x2) rs)
    | exc e1 lh2 =>
      rw [er2] at ho
      exact fun cls d H2 ρ2 s2 x2 => ho cls d H2 ρ2 s2 (x1.trans x2)
    | bad =>
      rw [er2] at ho
      exact ho
  | exc e1 lh1 =>
    rw [er] at ho
    exact ho
  | bad =>
    rw [er] at ho
    exact ho
theorem evs_len : ∀ {qs : List C} {env : Env0} {lh lh1 : LH} {ds : List LV}, evs T cal qs env lh = .ok ds lh1 → ds.length = qs.length
  | [], env, lh, lh1, ds, e => by
    have e : R.ok [] lh = .ok ds lh1 := e
    cases e
    rfl
  | q :: qs, env, lh, lh1, ds, e => by
    have e : ((ev T cal q env lh).bind fun x h => (evs T cal qs env h).bind fun xs h => .ok (x :: xs) h) = .ok ds lh1 := e
    cases e1 : ev T cal q env lh with
    | ok d lh2 =>
      rw [e1] at e
      have e : ((evs T cal qs env lh2).bind fun xs h => .ok (d :: xs) h) = .ok ds lh1 := e
      cases e2 : evs T cal qs env lh2 with
      | ok ds2 lh3 =>
        rw [e2] at e
        have e : R.ok (d :: ds2) lh3 = .ok ds lh1 := e
        cases e
        show ds2.length + 1 = qs.length + 1
        rw [evs_len e2]
      | exc => rw [e2] at e; cases e
      | bad => rw [e2] at e; cases e
    | exc => rw [e1] at e; cases e
    | bad => rw [e1] at e; cases e
/-- arguments run, then the rest -/
theorem SndA.use {qs : List C} {es : List Expr} (s : SndA T c cal X qs es) {hid ρ : List Addr} {lh : LH} {H : Hp} {σ : L2.St} {env : Env0} {Q : VK} {Q1 : List V → Hp → Prop} {W : WX} (tk : Takes X W) (st : Stt c hid ρ lh H) (re : REnv c ρ (Gz hid ρ lh H) env σ)
    {f : List LV → LH → R LV} (ho : Out c hid ρ lh H Q (fun cls d H' => W cls d σ H') ((evs T cal qs env lh).bind f))
    (k : ∀ (vs : List V) (H1 : Hp) (ρ1 : List Addr) (ds : List LV) (lh1 : LH), Stt c hid ρ1 lh1 H1 → Ex hid ρ lh H ρ1 lh1 H1 → RLs c ρ1 (Gz hid ρ1 lh1 H1) ds vs → REnv c ρ1 (Gz hid ρ1 lh1 H1) env σ → vs.length = qs.length →
      Out c hid ρ1 lh1 H1 Q (fun cls d H' => W cls d σ H') (f ds lh1) → Q1 vs H1) : WA X es σ H Q1 := by
  refine s hid ρ lh H σ env Q1 W tk st re ?_
  cases er : evs T cal qs env lh with
  | ok d lh1 =>
    rw [er] at ho
    exact fun H1 ρ1 s1 x1 vs r1 => k vs H1 ρ1 d lh1 s1 x1 r1 (re.ex x1) ((Paired.length r1).symm.trans (evs_len er)) (ho.after x1)
  | exc e1 lh1 =>
    rw [er] at ho
    exact ho
  | bad =>
    rw [er] at ho
    exact ho

theorem frzs_bind {α : Type} {r : R (List LV)} {f : List PD → LH → R α} : (r.frzs.bind f) = r.bind fun ds h => match Sim.frzs ds h with | some (x, h') => f x h' | none => .bad := by
  cases r with
  | ok ds h =>
    show ((match Sim.frzs ds h with | some (x, h') => R.ok x h' | none => .bad).bind f) = _
    show _ = (match Sim.frzs ds h with | some (x, h') => f x h' | none => .bad)
    split <;> rfl
  | exc => rfl
  | bad => rfl

theorem small {n : Nat} (h : n ≤ 1000) : n ≤ sizeLine := by
  rw [sizeLine_eq]
  omega
theorem snd_tup {qs : List C} {es : List Expr} {x1 : Nat} {pos : Pos} (s : SndA T c cal X qs es) (hl : qs.length ≤ 1000) : SndE T c cal X (.tup qs) (.Tuple es x1 pos) := by
  intro hid ρ lh H σ env Q W tk st re ho
  have ho : Out c hid ρ lh H Q (fun cls d H' => W cls d σ H') ((evs T cal qs env lh).frzs.bind fun xs h => .ok (.p (.tup xs)) h) := ho
  rw [frzs_bind] at ho
  refine WE.of (pe_tup pa_wa) ?_
  refine s.use tk st re ho fun vs H1 ρ1 ds lh1 st1 ex1 rs re1 len ho1 => ?_
  split at ho1
  · rename_i xs lh2 e
    obtain ⟨st2, ex2, rp⟩ := frzs_ok st1 rs e
    refine ⟨by rw [len]; exact small hl, fun p hp => ?_⟩
    obtain ⟨st3, ex3⟩ := st2.lay hp (.tup vs)
    exact ho1 _ _ _ st3 (ex2.trans ex3) (.tup (SqT.of (st2.layAt hp)) (RPs.mono ex3.keep rp))
  · exact ho1.elim
theorem mkLst_out {hid ρ : List Addr} {lh lh0 : LH} {H H0 : Hp} {ρ0 : List Addr} {Q : VK} {W' : XK} {live : Bool} {xs : List PD} {vs : List V} {p : Addr} (st : Stt c hid ρ lh H) (ex : Ex hid ρ0 lh0 H0 ρ lh H) (rp : RPs c (Gz hid ρ lh H) xs vs) (hp : H p = none)
    (ho : Out c hid ρ0 lh0 H0 Q W' (mkLst live xs lh)) : Q (.ref p) (upd H p (.lst vs)) := by
  cases live with
  | false =>
    have ho : Out c hid ρ0 lh0 H0 Q W' (.ok (.p (.lst xs)) lh) := ho
    obtain ⟨st3, ex3⟩ := st.lay hp (.lst vs)
    exact ho _ _ _ st3 (ex.trans ex3) (.lst (st.layAt hp) (RPs.mono ex3.keep rp))
  | true =>
    have ho : Out c hid ρ0 lh0 H0 Q W' (.ok (.ref lh.length) (lh ++ [some (.lst xs)])) := ho
    obtain ⟨st3, ex3⟩ := st.born hp (o := .lst xs) (u := .lst vs) (show RPs c _ xs vs from rp)
    exact ho _ _ _ st3 (ex.trans ex3) ⟨p, by rw [← st.len]; simp, rfl⟩
theorem snd_lst {qs : List C} {es : List Expr} {live : Bool} {pos : Pos} (s : SndA T c cal X qs es) (hl : qs.length ≤ 1000) : SndE T c cal X (.lst live qs) (.List es pos) := by
  intro hid ρ lh H σ env Q W tk st re ho
  have ho : Out c hid ρ lh H Q (fun cls d H' => W cls d σ H') ((evs T cal qs env lh).frzs.bind fun xs h => mkLst live xs h) := ho
  rw [frzs_bind] at ho
  refine WE.of (pe_lst pa_wa) ?_
  refine s.use tk st re ho fun vs H1 ρ1 ds lh1 st1 ex1 rs re1 len ho1 => ?_
  split at ho1
  · rename_i xs lh2 e
    obtain ⟨st2, ex2, rp⟩ := frzs_ok st1 rs e
    exact ⟨by rw [len]; exact small hl, fun p hp => mkLst_out st2 ex2 rp hp ho1⟩
  · exact ho1.elim

/-! ### operators -/
theorem peek_two {hid ρ : List Addr} {lh : LH} {H : Hp} {Q : VK} {W' : XK} {x y : LV} {f : PD → PD → Option LV} (ho : Out c hid ρ lh H Q W' (match peek 9 x lh, peek 9 y lh with | some x, some y => R.of (f x y) lh | _, _ => .bad)) :
    ∃ a b d, peek 9 x lh = some a ∧ peek 9 y lh = some b ∧ f a b = some d ∧ Out c hid ρ lh H Q W' (.ok d lh) := by
  split at ho
  · rename_i a b e1 e2
    obtain ⟨d, e3, ho⟩ := ho.of_some
    exact ⟨a, b, d, e1, e2, e3, ho⟩
  · exact ho.elim
theorem RP.int_inv {G : Hp} {i : Int} {v : V} (h : RP c G (.int i) v) : v = .int i := by cases h; rfl
theorem RP.str_inv {G : Hp} {i : Str} {v : V} (h : RP c G (.str i) v) : v = .str i := by cases h; rfl
theorem RP.bl_inv {G : Hp} {i : Bool} {v : V} (h : RP c G (.bl i) v) : v = .bl i := by cases h; rfl
theorem RP.non_inv {G : Hp} {v : V} (h : RP c G .non v) : v = .non := by cases h; rfl
/-- what an operator on data gives -/
theorem bop_ok {H : Hp} {op : BO} {op' : Operator} {a b d : PD} {x y : V} {Q : VK} (hb : bopB op op' = true) (e : bop op a b = some d) (rx : RP c H a x) (ry : RP c H b y) (q : ∀ v, (∀ G, RP c G d v) → Q v H) : oAny X (binaryOp op') x y H Q := by
  cases op <;> cases op' <;> first | (simp [bopB] at hb; done) | skip
  all_goals (cases a <;> cases b <;> first | (simp [bop] at e; done) | skip)
  · have e : some (PD.int _) = some d := e
    cases e
    cases rx.int_inv; cases ry.int_inv
    exact ⟨_, op_add, _, _, rfl, rfl, q _ fun _ => .int _⟩
  · rename_i x1 y1
    have e : (if x1.length + y1.length ≤ sizeLine then some (PD.str (x1 ++ y1)) else none) = some d := e
    split at e
    · rename_i hl
      cases e
      cases rx.str_inv; cases ry.str_inv
      exact ⟨_, op_add_str, _, _, rfl, rfl, hl, q _ fun _ => .str _⟩
    · cases e
  · have e : some (PD.int _) = some d := e
    cases e
    cases rx.int_inv; cases ry.int_inv
    exact ⟨_, op_sub, _, _, rfl, rfl, q _ fun _ => .int _⟩
  · rename_i i j
    have e : (if (-(2 ^ 64) < i ∧ i < 2 ^ 64) ∨ (-(2 ^ 64) < j ∧ j < 2 ^ 64) then some (PD.int (i * j)) else none) = some d := e
    split at e
    · rename_i hl
      cases e
      cases rx.int_inv; cases ry.int_inv
      exact ⟨_, op_mul, _, _, rfl, rfl, hl, q _ fun _ => .int _⟩
    · cases e
  · rename_i i j
    have e : (if 0 < j ∧ j < 1073741824 then some (PD.int (i / j)) else none) = some d := e
    split at e
    · rename_i hl
      cases e
      cases rx.int_inv; cases ry.int_inv
      exact ⟨_, op_fdiv, _, _, rfl, rfl, hl, q _ fun _ => .int _⟩
    · cases e
  · rename_i i j
    have e : (if 0 < j then some (PD.int (i % j)) else none) = some d := e
    split at e
    · rename_i hl
      cases e
      cases rx.int_inv; cases ry.int_inv
      exact ⟨_, op_mod, _, _, rfl, rfl, hl, q _ fun _ => .int _⟩
    · cases e
  · rename_i i j
    have e : (if 0 ≤ j ∧ j ≤ 1000 ∧ i.natAbs < 2 ^ 64 then some (PD.int (i ^ j.toNat)) else none) = some d := e
    split at e
    · rename_i hl
      cases e
      cases rx.int_inv; cases ry.int_inv
      exact ⟨_, op_pow, _, _, rfl, rfl, ⟨hl.1, by omega, hl.2.2⟩, q _ fun _ => .int _⟩
    · cases e
theorem snd_bin {op : BO} {op' : Operator} {a b : C} {ea eb : Expr} {pos : Pos} (hb : bopB op op' = true) (sa : SndE T c cal X a ea) (sb : SndE T c cal X b eb) : SndE T c cal X (.bin op a b) (.BinOp ea op' eb pos) := by
  intro hid ρ lh H σ env Q W tk st re ho
  refine WE.of (pe_op oAny_ok pe_we pe_we) ?_
  refine sa.use tk st re (f := fun x h => (ev T cal b env h).bind fun y h => match peek 9 x h, peek 9 y h with | some x, some y => R.of ((bop op x y).map .p) h | _, _ => .bad) ho fun v H1 ρ1 d lh1 st1 ex1 r1 re1 ho1 => ?_
  refine sb.use tk st1 re1 ho1 fun v2 H2 ρ2 d2 lh2 st2 ex2 r2 re2 ho2 => ?_
  obtain ⟨x, y, z, e1, e2, e3, ho3⟩ := peek_two (f := fun x y => (bop op x y).map .p) ho2
  obtain ⟨w, e4, rfl⟩ := Option.map_eq_some_iff.mp e3
  exact bop_ok hb e4 (st2.peek (r1.ex ex2) e1) (st2.peek r2 e2) fun v hv => ho3 v H2 ρ2 st2 Ex.refl (hv _)
theorem snd_neg {a : C} {ea : Expr} {pos : Pos} (sa : SndE T c cal X a ea) : SndE T c cal X (.neg a) (.UnaryOp .USub ea pos) := by
  intro hid ρ lh H σ env Q W tk st re ho
  refine WE.of (pe_un un_neg pe_we) ?_
  refine sa.use tk st re (f := fun x h => match x with | .p (.int i) => .ok (.p (.int (-i))) h | _ => .bad) ho fun v H1 ρ1 d lh1 st1 ex1 r1 re1 ho1 => ?_
  split at ho1
  · rename_i i
    cases RP.int_inv r1
    exact ⟨_, rfl, ho1 _ _ _ st1 Ex.refl (.int _)⟩
  · exact ho1.elim
theorem snd_nt {a : C} {ea : Expr} {pos : Pos} (sa : SndE T c cal X a ea) : SndE T c cal X (.nt a) (.UnaryOp .Not ea pos) := by
  intro hid ρ lh H σ env Q W tk st re ho
  refine WE.of (pe_not pe_we) ?_
  refine sa.use tk st re (f := fun x h => match x with | .p (.bl b) => .ok (.p (.bl (!b))) h | _ => .bad) ho fun v H1 ρ1 d lh1 st1 ex1 r1 re1 ho1 => ?_
  split at ho1
  · rename_i i
    cases RP.bl_inv r1
    exact ⟨_, rfl, ho1 _ _ _ st1 Ex.refl (.bl _)⟩
  · exact ho1.elim
end
end Sim
end
section
set_option Elab.async false
set_option linter.all false
set_option maxRecDepth 100000
set_option maxHeartbeats 1000000
/-! The Sim layer, H: comparisons, tests. -/
namespace Sim
open PySem PySem.Spec PyProof.Rows L2

mutual
def toPy : PD → PyData
  | .non => .none
  | .bl b => .bool b
  | .int i => .int i
  | .str x => .str x
  | .tup xs => .tuple (toPys xs)
  | .lst xs => .list (toPys xs)
  | .dct _ => .none
  | .obj _ _ => .none
  | .scr _ => .none
def toPys : List PD → List PyData
  | [] => []
  | x :: xs => toPy x :: toPys xs
end
theorem depthAll_le {n : Nat} : ∀ {xs : List PD}, (∀ x ∈ xs, (toPy x).depth ≤ n) → PyData.depthAll (toPys xs) ≤ n
  | [], _ => by
    simp [toPys, PyData.depthAll]
  | x :: xs, h => by
    simp only [toPys, PyData.depthAll]
    have h1 := h x List.mem_cons_self
    have h2 := depthAll_le (xs := xs) fun y hy => h y (List.mem_cons_of_mem _ hy)
    omega
theorem canAll {n : Nat} : ∀ {xs : List PD}, (∀ x ∈ xs, (toPy x).canLay0 = true) → PyData.canLayAll0 (toPys xs) = true
  | [], _ => by simp [toPys, PyData.canLayAll0]
  | x :: xs, h => by
    simp only [toPys, PyData.canLayAll0, h x List.mem_cons_self, canAll (n := n) (xs := xs) fun y hy => h y (List.mem_cons_of_mem _ hy), Bool.and_self]
theorem psh_py : ∀ {n : Nat} {d : PD}, psh n d = true → (toPy d).canLay0 = true ∧ (toPy d).depth ≤ n
  | 0, d, h => by cases h
  | n + 1, d, h => by
    cases d with
    | non => exact ⟨by simp [toPy, PyData.canLay0], by simp [toPy, PyData.depth]⟩
    | bl b => exact ⟨by simp [toPy, PyData.canLay0], by simp [toPy, PyData.depth]⟩
    | int i => exact ⟨by simp [toPy, PyData.canLay0], by simp [toPy, PyData.depth]⟩
    | str x =>
      have h : PyData.strOk x = true := h
      exact ⟨by simp [toPy, PyData.canLay0, h], by simp [toPy, PyData.depth]⟩
    | tup xs =>
      have h : xs.all (psh n) = true := h
      have h := List.all_eq_true.mp h
      refine ⟨?_, ?_⟩
      · simp only [toPy, PyData.canLay0]
        exact canAll (n := n) fun x hx => (psh_py (h x hx)).1
      · simp only [toPy, PyData.depth]
        have := depthAll_le (n := n) (xs := xs) fun x hx => (psh_py (h x hx)).2
        omega
    | lst xs =>
      have h : xs.all (psh n) = true := h
      have h := List.all_eq_true.mp h
      refine ⟨?_, ?_⟩
      · simp only [toPy, PyData.canLay0]
        exact canAll (n := n) fun x hx => (psh_py (h x hx)).1
      · simp only [toPy, PyData.depth]
        have := depthAll_le (n := n) (xs := xs) fun x hx => (psh_py (h x hx)).2
        omega
    | dct kvs => cases h
    | obj k fs => cases h
    | scr ns => cases h
theorem psh_shaped {d : PD} (h : psh 50 d = true) : SeqAt.shaped (toPy d) = true := by
  obtain ⟨h1, h2⟩ := psh_py h
  unfold SeqAt.shaped
  rw [h1, decide_eq_true (by omega)]
  rfl
section
variable {c : Ct} {H : Hp}
mutual
theorem dp_of : ∀ {n : Nat} {d : PD} {v : V}, psh n d = true → RP c H d v → Dp c.K H v (toPy d)
  | 0, _, _, h, _ => by cases h
  | n + 1, .non, .non, h, .non => .non
  | n + 1, .bl b, .bl _, h, .bl _ => .bl b
  | n + 1, .int i, .int _, h, .int _ => .int i
  | n + 1, .str x, .str _, h, .str _ => .str x
  | n + 1, .tup xs, _, h, .tup hs r => .tup hs (dps_of (List.all_eq_true.mp (show xs.all (psh n) = true from h)) r)
  | n + 1, .lst xs, _, h, .lst hs r => .lst (SqL.of hs) (dps_of (List.all_eq_true.mp (show xs.all (psh n) = true from h)) r)
  | n + 1, .dct _, _, h, _ => by cases h
  | n + 1, .obj _ _, _, h, _ => by cases h
  | n + 1, .scr _, _, h, _ => by cases h
theorem dps_of : ∀ {n : Nat} {ds : List PD} {vs : List V}, (∀ d ∈ ds, psh n d = true) → RPs c H ds vs → DpAll c.K H vs (toPys ds)
  | _, _, _, _, .nil => .nil
  | _, _, _, h, .cons h1 r => .cons (dp_of (h _ List.mem_cons_self) h1) (dps_of (fun d hd => h d (List.mem_cons_of_mem _ hd)) r)
end
end
mutual
theorem eqv_py : ∀ {n m : Nat} {a b : PD}, psh n a = true → psh m b = true → PyData.eqv (toPy a) (toPy b) = peq a b
  | 0, _, _, _, h, _ => by cases h
  | _ + 1, 0, _, _, _, h => by cases h
  | n + 1, m + 1, .tup xs, .tup ys, h1, h2 => by
    simp only [toPy, PyData.eqv, peq]
    exact eqvs_py (List.all_eq_true.mp (show xs.all (psh n) = true from h1)) (List.all_eq_true.mp (show ys.all (psh m) = true from h2))
  | n + 1, m + 1, .lst xs, .lst ys, h1, h2 => by
    simp only [toPy, PyData.eqv, peq]
    exact eqvs_py (List.all_eq_true.mp (show xs.all (psh n) = true from h1)) (List.all_eq_true.mp (show ys.all (psh m) = true from h2))
  | n + 1, m + 1, .non, b, _, h2 => by cases b <;> first | (cases h2; done) | simp [toPy, PyData.eqv, peq]
  | n + 1, m + 1, .bl a, b, _, h2 => by
    cases b <;> first
      | (cases h2; done)
      | (simp only [toPy, PyData.eqv, peq]; done)
      | (simp only [toPy, PyData.eqv, peq]; first | rfl | (rw [Bool.beq_eq_decide_eq]))
  | n + 1, m + 1, .int a, b, _, h2 => by
    cases b <;> first
      | (cases h2; done)
      | (simp only [toPy, PyData.eqv, peq]; done)
      | (simp only [toPy, PyData.eqv, peq]; first | rfl | (rw [Bool.beq_eq_decide_eq]))
  | n + 1, m + 1, .str a, b, _, h2 => by
    cases b <;> first
      | (cases h2; done)
      | (simp only [toPy, PyData.eqv, peq]; done)
      | (simp only [toPy, PyData.eqv, peq]; first | rfl | (rw [Bool.beq_eq_decide_eq]))
  | n + 1, m + 1, .tup xs, .non, _, h2 => by simp [toPy, PyData.eqv, peq]
  | n + 1, m + 1, .tup xs, .bl _, _, h2 => by simp [toPy, PyData.eqv, peq]
  | n + 1, m + 1, .tup xs, .int _, _, h2 => by simp [toPy, PyData.eqv, peq]
  | n + 1, m + 1, .tup xs, .str _, _, h2 => by simp [toPy, PyData.eqv, peq]
  | n + 1, m + 1, .tup xs, .lst _, _, h2 => by simp [toPy, PyData.eqv, peq]
  | n + 1, m + 1, .tup xs, .dct _, _, h2 => by cases h2
  | n + 1, m + 1, .tup xs, .obj _ _, _, h2 => by cases h2
  | n + 1, m + 1, .tup xs, .scr _, _, h2 => by cases h2
  | n + 1, m + 1, .lst xs, .non, _, h2 => by simp [toPy, PyData.eqv, peq]
  | n + 1, m + 1, .lst xs, .bl _, _, h2 => by simp [toPy, PyData.eqv, peq]
  | n + 1, m + 1, .lst xs, .int _, _, h2 => by simp [toPy, PyData.eqv, peq]
  | n + 1, m + 1, .lst xs, .str _, _, h2 => by simp [toPy, PyData.eqv, peq]
  | n + 1, m + 1, .lst xs, .tup _, _, h2 => by simp [toPy, PyData.eqv, peq]
  | n + 1, m + 1, .lst xs, .dct _, _, h2 => by cases h2
  | n + 1, m + 1, .lst xs, .obj _ _, _, h2 => by cases h2
  | n + 1, m + 1, .lst xs, .scr _, _, h2 => by cases h2
  | n + 1, m + 1, .dct _, _, h1, _ => by cases h1
  | n + 1, m + 1, .obj _ _, _, h1, _ => by cases h1
  | n + 1, m + 1, .scr _, _, h1, _ => by cases h1
theorem eqvs_py : ∀ {n m : Nat} {xs ys : List PD}, (∀ x ∈ xs, psh n x = true) → (∀ y ∈ ys, psh m y = true) → PyData.eqvAll (toPys xs) (toPys ys) = peqs xs ys
  | _, _, [], [], _, _ => by simp [toPys, PyData.eqvAll, peqs]
  | _, _, [], _ :: _, _, _ => by simp [toPys, PyData.eqvAll, peqs]
  | _, _, _ :: _, [], _, _ => by simp [toPys, PyData.eqvAll, peqs]
  | n, m, x :: xs, y :: ys, h1, h2 => by
    simp only [toPys, PyData.eqvAll, peqs]
    rw [eqv_py (h1 x List.mem_cons_self) (h2 y List.mem_cons_self), eqvs_py (fun z hz => h1 z (List.mem_cons_of_mem _ hz)) (fun z hz => h2 z (List.mem_cons_of_mem _ hz))]
end
end Sim
end
section
set_option Elab.async false
set_option linter.all false
set_option maxRecDepth 100000
set_option maxHeartbeats 1000000
/-! The Sim layer, I: comparisons and tests run. -/
namespace Sim
open PySem PySem.Spec PyProof.Rows L2

section
variable {c : Ct} {G : Hp}
theorem flat_v {a : PD} {x : V} (h : flat a = true) (r : RP c G a x) : flatV x = true := by
  cases r <;> first | rfl | cases h
theorem flats_v : ∀ {as : List PD} {xs : List V}, as.all flat = true → RPs c G as xs → xs.all flatV = true
  | _, _, _, .nil => rfl
  | _, _, h, .cons h1 r => by
    simp only [List.all_cons, Bool.and_eq_true] at h ⊢
    exact ⟨flat_v h.1 h1, flats_v h.2 r⟩
theorem eqV_of {a b : PD} {x y : V} (ha : flat a = true) (hb : flat b = true) (ra : RP c G a x) (rb : RP c G b y) : eqV x y = peq a b := by
  cases ra <;> cases rb <;> first
    | (simp only [eqV, peq]; done)
    | rfl
    | (simp only [eqV, peq]; first | rfl | (rw [Bool.beq_eq_decide_eq]))
    | (cases ha; done)
    | (cases hb; done)
theorem inV_of {a : PD} {x : V} (ha : flat a = true) (ra : RP c G a x) : ∀ {as : List PD} {xs : List V}, as.all flat = true → RPs c G as xs → inV x xs = as.any fun y => peq y a
  | _, _, _, .nil => rfl
  | _, _, h, .cons h1 r => by
    simp only [List.all_cons, Bool.and_eq_true] at h
    unfold inV
    simp only [List.any_cons]
    rw [eqV_of h.1 ha h1 ra]
    have := inV_of ha ra h.2 r
    unfold inV at this
    rw [this]
theorem kV_of {a : PD} {k : Key} {x : V} (h : kOf a = some k) (r : RP c G a x) : x = kV k := by
  cases a <;> first | (cases h; done) | skip
  · have h : some (Sum.inl _) = some k := h
    cases h
    cases r
    rfl
  · have h : some (Sum.inr _) = some k := h
    cases h
    cases r
    rfl
theorem pval_of {q : Key} : ∀ {kvs : List (PD × PD)} {kws : List (Key × V)}, RKs c G kvs kws → (∀ x, pval kvs q = some x → ∃ v, valV kws q = some v ∧ RP c G x v) ∧ (pval kvs q = none → valV kws q = none)
  | _, _, .nil => ⟨fun x e => (by cases e), fun _ => rfl⟩
  | (k, x0) :: r, (k', v0) :: r', .cons e h hr => by
    have ih := pval_of (q := q) hr
    have ep : pval ((k, x0) :: r) q = if k' = q then some x0 else pval r q := by
      show (match kOf k with | some k' => if k' = q then some x0 else pval r q | none => none) = _
      rw [e]
    rw [ep]
    by_cases hq : k' = q
    · rw [if_pos hq, valV_pos (p := (k', v0)) hq]
      exact ⟨fun x e => ⟨v0, rfl, (by cases e; exact h)⟩, fun e => (by cases e)⟩
    · rw [if_neg hq, valV_neg (p := (k', v0)) hq]
      exact ih
theorem pval_some {q : Key} {kvs : List (PD × PD)} {kws : List (Key × V)} (h : RKs c G kvs kws) : (valV kws q).isSome = (pval kvs q).isSome := by
  obtain ⟨h1, h2⟩ := pval_of (q := q) h
  cases e : pval kvs q with
  | none => rw [h2 e]; rfl
  | some x =>
    obtain ⟨v, hv, _⟩ := h1 x e
    rw [hv]; rfl
end
section
variable {T : Tab} {c : Ct} {cal : Cal} {k : Nat} {N : List Str} {sc : Scope} {X : Cx}
/-- a dict that is read, in the heap -/
theorem GX.dk (g : GX T c k N sc X) {pins : List (Addr × Obj)} {σ : L2.St} {H : Hp} {s : Shared} {a : Addr} {kws : List (Key × V)} (I : Inv X pins σ H s) (h : DRd c H a kws) :
    kws.length ≤ sizeLine ∧ (a == sysModules) = false ∧ ∃ vs, KV kws vs ∧ s.heap.DictOf (mixKind X.prog X.w) a vs := by
  rcases h with h | ⟨h1, h2, _, h3⟩
  · exact dk_rd I.hok h
  · have := h3 s.heap (by rw [← g.hK]; exact I.kIn)
    rw [← g.hP, ← g.hw] at this
    exact ⟨h1, h2, this⟩
theorem op_in_d (g : GX T c k N sc X) : OpR X (compareOp .In) (fun x y H Q => ∃ a kws q, y = .ref a ∧ x = kV q ∧ DRd c H a kws ∧ Q (.bl (valV kws q).isSome) H) := by
  intro pins s σ H x y v u Q I rx ry h
  obtain ⟨a, kws, q, rfl, rfl, hd, hq⟩ := h
  obtain ⟨z, ns, vs, rel, dd⟩ := g.dk I hd
  cases ry
  refine wpAny_in_of (kV_is rx) ns dd.mapOf ?_
  rw [← (rel.val q).isSome_eq]
  exact ⟨.bl _, H, I.tok _, rfl, hq⟩
theorem op_notIn_d (g : GX T c k N sc X) : OpR X (compareOp .NotIn) (fun x y H Q => ∃ a kws q, y = .ref a ∧ x = kV q ∧ DRd c H a kws ∧ Q (.bl (!(valV kws q).isSome)) H) := by
  intro pins s σ H x y v u Q I rx ry h
  obtain ⟨a, kws, q, rfl, rfl, hd, hq⟩ := h
  obtain ⟨z, ns, vs, rel, dd⟩ := g.dk I hd
  cases ry
  refine wpAny_notIn_of (kV_is rx) ns dd.mapOf ?_
  rw [← (rel.val q).isSome_eq]
  exact ⟨.bl _, H, I.tok _, rfl, hq⟩
theorem RP.isnon {G : Hp} {a : PD} {x : V} (r : RP c G a x) : decide (x = .non) = (match a with | .non => true | _ => false) := by
  cases r <;> simp
/-- what a comparison of data gives -/
theorem cop_ok (g : GX T c k N sc X) {H : Hp} {op : CO} {op' : CmpOp} {a b : PD} {r : Bool} {x y : V} {Q : VK} (hb : copB op op' = true) (e : cop op a b = some r) (rx : RP c H a x) (ry : RP c H b y) (q : Q (.bl r) H) : oAny X (compareOp op') x y H Q := by
  have hK := g.hK
  have hu : X.A.units + 64 < cLine := g.room.units
  have hu1 : X.A.units + 1 < cLine := by omega
  cases op <;> cases op' <;> first | (simp [copB] at hb; done) | skip
  · -- ==
    have e : (if psh 50 a && psh 50 b then some (peq a b) else none) = some r := e
    split at e
    · rename_i hs
      obtain ⟨h1, h2⟩ := b2 hs
      cases e
      refine ⟨_, op_eqD hu, toPy a, toPy b, by rw [hK]; exact dp_of h1 rx, by rw [hK]; exact dp_of h2 ry, psh_shaped h1, psh_shaped h2, ?_⟩
      rw [eqv_py h1 h2]
      exact q
    · cases e
  · have e : (if psh 50 a && psh 50 b then some (!peq a b) else none) = some r := e
    split at e
    · rename_i hs
      obtain ⟨h1, h2⟩ := b2 hs
      cases e
      refine ⟨_, op_neD hu, toPy a, toPy b, by rw [hK]; exact dp_of h1 rx, by rw [hK]; exact dp_of h2 ry, psh_shaped h1, psh_shaped h2, ?_⟩
      rw [eqv_py h1 h2]
      exact q
    · cases e
  · cases a <;> cases b <;> first | (cases e; done) | skip
    · have e : some (decide _) = some r := e
      cases e
      cases rx.int_inv; cases ry.int_inv
      exact ⟨_, op_lt, _, _, rfl, rfl, q⟩
    · have e : some (decide _) = some r := e
      cases e
      cases rx.str_inv; cases ry.str_inv
      exact ⟨_, op_lt_str, _, _, rfl, rfl, q⟩
  · cases a <;> cases b <;> first | (cases e; done) | skip
    · have e : some (decide _) = some r := e
      cases e
      cases rx.int_inv; cases ry.int_inv
      exact ⟨_, op_le, _, _, rfl, rfl, q⟩
    · have e : some (!decide _) = some r := e
      cases e
      cases rx.str_inv; cases ry.str_inv
      exact ⟨_, op_le_str, _, _, rfl, rfl, q⟩
  · cases a <;> cases b <;> first | (cases e; done) | skip
    · have e : some (decide _) = some r := e
      cases e
      cases rx.int_inv; cases ry.int_inv
      exact ⟨_, op_gt, _, _, rfl, rfl, q⟩
    · have e : some (decide _) = some r := e
      cases e
      cases rx.str_inv; cases ry.str_inv
      exact ⟨_, op_gt_str, _, _, rfl, rfl, q⟩
  · cases a <;> cases b <;> first | (cases e; done) | skip
    · have e : some (decide _) = some r := e
      cases e
      cases rx.int_inv; cases ry.int_inv
      exact ⟨_, op_ge, _, _, rfl, rfl, q⟩
  · -- in
    cases b <;> first | (cases a <;> cases e; done) | skip
    · rename_i ys
      have e : (if flat a && ys.all flat then some (ys.any fun y => peq y a) else none) = some r := by cases a <;> exact e
      split at e
      · rename_i hs
        obtain ⟨h1, h2⟩ := b2 hs
        cases e
        cases ry with
        | tup hq rs =>
          refine ⟨_, op_in_seq, _, _, rfl, .inr (by rw [hK]; exact hq), flat_v h1 rx, flats_v h2 rs, ?_⟩
          rw [if_neg (by decide), inV_of h1 rx h2 rs]
          exact q
      · cases e
    · rename_i ys
      have e : (if flat a && ys.all flat then some (ys.any fun y => peq y a) else none) = some r := by cases a <;> exact e
      split at e
      · rename_i hs
        obtain ⟨h1, h2⟩ := b2 hs
        cases e
        cases ry with
        | lst hq rs =>
          refine ⟨_, op_in_seq, _, _, rfl, .inl (SqL.of hq), flat_v h1 rx, flats_v h2 rs, ?_⟩
          rw [if_neg (by decide), inV_of h1 rx h2 rs]
          exact q
      · cases e
    · rename_i kvs
      have e : (match kOf a with | some k => some (pval kvs k).isSome | none => none) = some r := by cases a <;> exact e
      split at e
      · rename_i kk ek
        cases e
        cases ry with
        | dct hd rk =>
          refine ⟨_, op_in_d g, _, _, kk, rfl, kV_of ek rx, hd, ?_⟩
          rw [pval_some rk]
          exact q
      · cases e
  · cases b <;> first | (cases a <;> cases e; done) | skip
    · rename_i ys
      have e : (if flat a && ys.all flat then some (!ys.any fun y => peq y a) else none) = some r := by cases a <;> exact e
      split at e
      · rename_i hs
        obtain ⟨h1, h2⟩ := b2 hs
        cases e
        cases ry with
        | tup hq rs =>
          refine ⟨_, op_notIn_seq, _, _, rfl, .inr (by rw [hK]; exact hq), flat_v h1 rx, flats_v h2 rs, ?_⟩
          rw [if_pos rfl, inV_of h1 rx h2 rs]
          exact q
      · cases e
    · rename_i ys
      have e : (if flat a && ys.all flat then some (!ys.any fun y => peq y a) else none) = some r := by cases a <;> exact e
      split at e
      · rename_i hs
        obtain ⟨h1, h2⟩ := b2 hs
        cases e
        cases ry with
        | lst hq rs =>
          refine ⟨_, op_notIn_seq, _, _, rfl, .inl (SqL.of hq), flat_v h1 rx, flats_v h2 rs, ?_⟩
          rw [if_pos rfl, inV_of h1 rx h2 rs]
          exact q
      · cases e
    · rename_i kvs
      have e : (match kOf a with | some k => some (!(pval kvs k).isSome) | none => none) = some r := by cases a <;> exact e
      split at e
      · rename_i kk ek
        cases e
        cases ry with
        | dct hd rk =>
          refine ⟨_, op_notIn_d g, _, _, kk, rfl, kV_of ek rx, hd, ?_⟩
          rw [pval_some rk]
          exact q
      · cases e
  · -- is
    cases b <;> first | (cases a <;> cases e; done) | skip
    cases ry.non_inv
    refine ⟨_, op_isN, rfl, ?_⟩
    rw [rx.isnon]
    cases a <;> (cases e; exact q)
  · cases b <;> first | (cases a <;> cases e; done) | skip
    cases ry.non_inv
    refine ⟨_, op_notN, rfl, ?_⟩
    rw [rx.isnon]
    cases a <;> (cases e; exact q)
theorem snd_cmp (g : GX T c k N sc X) {op : CO} {op' : CmpOp} {a b : C} {ea eb : Expr} {pos : Pos} (hb : copB op op' = true) (hs : isSetE eb = false) (sa : SndE T c cal X a ea) (sb : SndE T c cal X b eb) : SndE T c cal X (.cmp op a b) (.Compare ea [op'] [eb] pos) := by
  intro hid ρ lh H σ env Q W tk st re ho
  refine WE.of (pe_cmpR oAny_ok pe_we pe_we (noset_of hs)) ?_
  refine sa.use tk st re (f := fun x h => (ev T cal b env h).bind fun y h => match peek 9 x h, peek 9 y h with | some x, some y => R.of ((cop op x y).map fun b => .p (.bl b)) h | _, _ => .bad) ho fun v H1 ρ1 d lh1 st1 ex1 r1 re1 ho1 => ?_
  refine sb.use tk st1 re1 ho1 fun v2 H2 ρ2 d2 lh2 st2 ex2 r2 re2 ho2 => ?_
  obtain ⟨x, y, z, e1, e2, e3, ho3⟩ := peek_two (f := fun x y => (cop op x y).map fun b => .p (.bl b)) ho2
  obtain ⟨w, e4, rfl⟩ := Option.map_eq_some_iff.mp e3
  exact cop_ok g hb e4 (st2.peek (r1.ex ex2) e1) (st2.peek r2 e2) (ho3 _ H2 ρ2 st2 Ex.refl (.bl _))
theorem snd_chn (g : GX T c k N sc X) {op1 op2 : CO} {o1 o2 : CmpOp} {a b d : C} {ea eb ed : Expr} {pos : Pos} (hb : copB op1 o1 = true) (hb2 : copB op2 o2 = true) (hs : isSetE ed = false) (sa : SndE T c cal X a ea) (sb : SndE T c cal X b eb) (sd : SndE T c cal X d ed) :
    SndE T c cal X (.chn op1 op2 a b d) (.Compare ea [o1, o2] [eb, ed] pos) := by
  intro hid ρ lh H σ env Q W tk st re ho
  refine WE.of (pe_chain oAny_ok oAny_ok pe_we pe_we pe_we (show behindInMarks o2 ed = false from noset_of hs)) ?_
  refine sa.use tk st re (f := fun x h => (ev T cal b env h).bind fun y h => match x, y with
    | .p x, .p y => match cop op1 x y with
      | some true => (ev T cal d env h).bind fun z h => match z with
        | .p z => R.of ((cop op2 y z).map fun b => .p (.bl b)) h
        | _ => .bad
      | some false => .ok (.p (.bl false)) h
      | none => .bad
    | _, _ => .bad) ho fun v H1 ρ1 x lh1 st1 ex1 r1 re1 ho1 => ?_
  refine sb.use tk st1 re1 ho1 fun v2 H2 ρ2 y lh2 st2 ex2 r2 re2 ho2 => ?_
  split at ho2
  · rename_i x y
    split at ho2
    · rename_i e
      refine cop_ok g hb e (RP.mono Gz_sub (RL.ex ex2 r1)) (RP.mono Gz_sub r2) ⟨true, rfl, ?_⟩
      rw [if_pos rfl]
      refine sd.use tk st2 re2 ho2 fun v3 H3 ρ3 z lh3 st3 ex3 r3 re3 ho3 => ?_
      split at ho3
      · rename_i z
        obtain ⟨w, e4, ho3⟩ := ho3.of_some
        obtain ⟨w2, e5, rfl⟩ := Option.map_eq_some_iff.mp e4
        exact cop_ok g hb2 e5 (RP.mono Gz_sub (RL.ex ex3 r2)) (RP.mono Gz_sub r3) (ho3 _ H3 ρ3 st3 Ex.refl (.bl _))
      · exact ho3.elim
    · rename_i e
      refine cop_ok g hb e (RP.mono Gz_sub (RL.ex ex2 r1)) (RP.mono Gz_sub r2) ⟨false, rfl, ?_⟩
      rw [if_neg (by decide)]
      exact ho2 _ H2 ρ2 st2 Ex.refl (.bl _)
    · exact ho2.elim
  · exact ho2.elim
theorem snd_one {op : BoolOp} {a : C} {ea : Expr} {pos : Pos} (sa : SndE T c cal X a ea) : SndE T c cal X a (.BoolOp op [ea] pos) := by
  intro hid ρ lh H σ env Q W tk st re ho
  exact WE.of (pe_one pe_we) (sa hid ρ lh H σ env Q W tk st re ho)
theorem snd_and {a b : C} {ea eb : Expr} {r : List Expr} {pos : Pos} (sa : SndE T c cal X a ea) (sb : SndE T c cal X b (.BoolOp .And (eb :: r) pos)) : SndE T c cal X (.and a b) (.BoolOp .And (ea :: eb :: r) pos) := by
  intro hid ρ lh H σ env Q W tk st re ho
  refine WE.of (pe_and pe_we pe_we) ?_
  refine sa.use tk st re (f := fun x h => match x with | .p (.bl true) => ev T cal b env h | .p (.bl false) => .ok (.p (.bl false)) h | _ => .bad) ho fun v H1 ρ1 d lh1 st1 ex1 r1 re1 ho1 => ?_
  split at ho1
  · cases RP.bl_inv r1
    refine ⟨true, rfl, ?_⟩
    rw [if_pos rfl]
    exact sb hid ρ1 lh1 H1 σ env Q W tk st1 re1 ho1
  · cases RP.bl_inv r1
    refine ⟨false, rfl, ?_⟩
    rw [if_neg (by decide)]
    exact ho1 _ _ _ st1 Ex.refl (.bl _)
  · exact ho1.elim
theorem snd_or {a b : C} {ea eb : Expr} {r : List Expr} {pos : Pos} (sa : SndE T c cal X a ea) (sb : SndE T c cal X b (.BoolOp .Or (eb :: r) pos)) : SndE T c cal X (.or a b) (.BoolOp .Or (ea :: eb :: r) pos) := by
  intro hid ρ lh H σ env Q W tk st re ho
  refine WE.of (pe_or pe_we pe_we) ?_
  refine sa.use tk st re (f := fun x h => match x with | .p (.bl false) => ev T cal b env h | .p (.bl true) => .ok (.p (.bl true)) h | _ => .bad) ho fun v H1 ρ1 d lh1 st1 ex1 r1 re1 ho1 => ?_
  split at ho1
  · cases RP.bl_inv r1
    refine ⟨false, rfl, ?_⟩
    rw [if_neg (by decide)]
    exact sb hid ρ1 lh1 H1 σ env Q W tk st1 re1 ho1
  · cases RP.bl_inv r1
    refine ⟨true, rfl, ?_⟩
    rw [if_pos rfl]
    exact ho1 _ _ _ st1 Ex.refl (.bl _)
  · exact ho1.elim

/-! ### tests -/
def OutB (c : Ct) (hid ρ : List Addr) (lh : LH) (H : Hp) (Q : Bool → Hp → Prop) (W : XK) : R LV → Prop
  | .ok (.p (.bl b)) lh' => ∀ (H' : Hp) (ρ' : List Addr), Stt c hid ρ' lh' H' → Ex hid ρ lh H ρ' lh' H' → Q b H'
  | .ok _ _ => False
  | .exc e lh' => ∀ (cls : Value) (d : Option Addr) (H' : Hp) (ρ' : List Addr), Stt c hid ρ' lh' H' → Ex hid ρ lh H ρ' lh' H' → RX c (Gz hid ρ' lh' H') e cls d → W cls d H'
  | .bad => False
variable (T c cal X) in
def SndT (q : C) (e : Expr) : Prop := ∀ (hid ρ : List Addr) (lh : LH) (H : Hp) (σ : L2.St) (env : Env0) (Q : Bool → Hp → Prop) (W : WX), Takes X W → Stt c hid ρ lh H → REnv c ρ (Gz hid ρ lh H) env σ →
  OutB c hid ρ lh H Q (fun cls d H' => W cls d σ H') (ev T cal q env lh) → WT X e σ H Q
theorem OutB.after {hid ρ ρ1 : List Addr} {lh lh1 : LH} {H H1 : Hp} {Q : Bool → Hp → Prop} {W : XK} (e : Ex hid ρ lh H ρ1 lh1 H1) : ∀ {r : R LV}, OutB c hid ρ lh H Q W r → OutB c hid ρ1 lh1 H1 Q W r
  | .ok (.p (.bl _)) _, h => fun H' ρ' s x => h H' ρ' s (e.trans x)
  | .ok (.p .non) _, h => h
  | .ok (.p (.int _)) _, h => h
  | .ok (.p (.str _)) _, h => h
  | .ok (.p (.tup _)) _, h => h
  | .ok (.p (.lst _)) _, h => h
  | .ok (.p (.dct _)) _, h => h
  | .ok (.p (.obj _ _)) _, h => h
  | .ok (.p (.scr _)) _, h => h
  | .ok (.ref _) _, h => h
  | .exc _ _, h => fun cls d H' ρ' s x => h cls d H' ρ' s (e.trans x)
  | .bad, h => h
/-- a test's value, as a wish of a value -/
theorem OutB.out {hid ρ : List Addr} {lh : LH} {H : Hp} {Q : Bool → Hp → Prop} {W : XK} : ∀ {r : R LV}, OutB c hid ρ lh H Q W r → Out c hid ρ lh H (fun v H' => ∃ b, v = .bl b ∧ Q b H') W r
  | .ok (.p (.bl b)) _, h => fun v H' ρ' s x r => ⟨b, RP.bl_inv r, h H' ρ' s x⟩
  | .ok (.p .non) _, h => h.elim
  | .ok (.p (.int _)) _, h => h.elim
  | .ok (.p (.str _)) _, h => h.elim
  | .ok (.p (.tup _)) _, h => h.elim
  | .ok (.p (.lst _)) _, h => h.elim
  | .ok (.p (.dct _)) _, h => h.elim
  | .ok (.p (.obj _ _)) _, h => h.elim
  | .ok (.p (.scr _)) _, h => h.elim
  | .ok (.ref _) _, h => h.elim
  | .exc _ _, h => h
  | .bad, h => h
/-- a text that is a test as any value is -/
def plainT : Expr → Bool
  | .UnaryOp .Not _ _ => false
  | .BoolOp .. => false
  | .IfExp .. => false
  | .Compare .. => false
  | _ => true
theorem plainT_of {e : Expr} {env : Env} (h : plainT e = true) (whole : Sem Value) : isTrue e env whole = (do let v ← whole; standAt e.pos; holding [v] (truthy v)) := by
  cases e with
  | UnaryOp op a p => cases op <;> first | rfl | (cases h; done)
  | _ => first | rfl | (cases h; done)
theorem sndT_plain {q : C} {e : Expr} (h : plainT e = true) (s : SndE T c cal X q e) : SndT T c cal X q e := by
  intro hid ρ lh H σ env Q W tk st re ho
  exact WT.of (pt_val pe_we (plainT_of h)) (s hid ρ lh H σ env _ W tk st re ho.out)
theorem wt_cmp {e : Expr} {pos : Pos} {ea eb : Expr} {op : CmpOp} {σ : L2.St} {H : Hp} {Q : Bool → Hp → Prop} (hs : isSetE eb = false) (h : tOp (oAny X (compareOp op)) (WE X ea) (WE X eb) σ H (fun v H' => ∃ b, v = .bl b ∧ Q b H')) : WT X (.Compare ea [op] [eb] pos) σ H Q :=
  WT.of (pt_cmpR oAny_ok pe_we pe_we (noset_of hs)) h
theorem sndT_cmp (g : GX T c k N sc X) {op : CO} {op' : CmpOp} {a b : C} {ea eb : Expr} {pos : Pos} (hb : copB op op' = true) (hs : isSetE eb = false) (sa : SndE T c cal X a ea) (sb : SndE T c cal X b eb) : SndT T c cal X (.cmp op a b) (.Compare ea [op'] [eb] pos) := by
  intro hid ρ lh H σ env Q W tk st re ho
  refine WT.of (pt_cmpR oAny_ok pe_we pe_we (noset_of hs)) ?_
  refine sa.use tk st re (f := fun x h => (ev T cal b env h).bind fun y h => match peek 9 x h, peek 9 y h with | some x, some y => R.of ((cop op x y).map fun b => .p (.bl b)) h | _, _ => .bad) ho.out fun v H1 ρ1 d lh1 st1 ex1 r1 re1 ho1 => ?_
  refine sb.use tk st1 re1 ho1 fun v2 H2 ρ2 d2 lh2 st2 ex2 r2 re2 ho2 => ?_
  obtain ⟨x, y, z, e1, e2, e3, ho3⟩ := peek_two (f := fun x y => (cop op x y).map fun b => .p (.bl b)) ho2
  obtain ⟨w, e4, rfl⟩ := Option.map_eq_some_iff.mp e3
  exact cop_ok g hb e4 (st2.peek (r1.ex ex2) e1) (st2.peek r2 e2) (ho3 _ H2 ρ2 st2 Ex.refl (.bl _))
theorem sndT_chn (g : GX T c k N sc X) {op1 op2 : CO} {o1 o2 : CmpOp} {a b d : C} {ea eb ed : Expr} {pos : Pos} (hb : copB op1 o1 = true) (hb2 : copB op2 o2 = true) (hs : isSetE ed = false) (sa : SndE T c cal X a ea) (sb : SndE T c cal X b eb) (sd : SndE T c cal X d ed) :
    SndT T c cal X (.chn op1 op2 a b d) (.Compare ea [o1, o2] [eb, ed] pos) := by
  intro hid ρ lh H σ env Q W tk st re ho
  refine WT.of (pt_chain oAny_ok oAny_ok pe_we pe_we pe_we (show behindInMarks o2 ed = false from noset_of hs)) ?_
  refine sa.use tk st re (f := fun x h => (ev T cal b env h).bind fun y h => match x, y with
    | .p x, .p y => match cop op1 x y with
      | some true => (ev T cal d env h).bind fun z h => match z with
        | .p z => R.of ((cop op2 y z).map fun b => .p (.bl b)) h
        | _ => .bad
      | some false => .ok (.p (.bl false)) h
      | none => .bad
    | _, _ => .bad) ho.out fun v H1 ρ1 x lh1 st1 ex1 r1 re1 ho1 => ?_
  refine sb.use tk st1 re1 ho1 fun v2 H2 ρ2 y lh2 st2 ex2 r2 re2 ho2 => ?_
  split at ho2
  · rename_i x y
    split at ho2
    · rename_i e
      refine cop_ok g hb e (RP.mono Gz_sub (RL.ex ex2 r1)) (RP.mono Gz_sub r2) ⟨true, rfl, ?_⟩
      rw [if_pos rfl]
      refine sd.use tk st2 re2 ho2 fun v3 H3 ρ3 z lh3 st3 ex3 r3 re3 ho3 => ?_
      split at ho3
      · rename_i z
        obtain ⟨w, e4, ho3⟩ := ho3.of_some
        obtain ⟨w2, e5, rfl⟩ := Option.map_eq_some_iff.mp e4
        exact cop_ok g hb2 e5 (RP.mono Gz_sub (RL.ex ex3 r2)) (RP.mono Gz_sub r3) (ho3 _ H3 ρ3 st3 Ex.refl (.bl _))
      · exact ho3.elim
    · rename_i e
      refine cop_ok g hb e (RP.mono Gz_sub (RL.ex ex2 r1)) (RP.mono Gz_sub r2) ⟨false, rfl, ?_⟩
      rw [if_neg (by decide)]
      exact ho2 _ H2 ρ2 st2 Ex.refl (.bl _)
    · exact ho2.elim
  · exact ho2.elim
/-- a test runs, then the rest -/
theorem SndT.use {q : C} {e : Expr} (s : SndT T c cal X q e) {hid ρ : List Addr} {lh : LH} {H : Hp} {σ : L2.St} {env : Env0} {Q1 : Bool → Hp → Prop} {W : WX} (tk : Takes X W) (st : Stt c hid ρ lh H) (re : REnv c ρ (Gz hid ρ lh H) env σ)
    (hr : ∀ b lh1, ev T cal q env lh = .ok (.p (.bl b)) lh1 → ∀ H1 ρ1, Stt c hid ρ1 lh1 H1 → Ex hid ρ lh H ρ1 lh1 H1 → REnv c ρ1 (Gz hid ρ1 lh1 H1) env σ → Q1 b H1)
    (hx : ∀ e1 lh1, ev T cal q env lh = .exc e1 lh1 → ∀ (cls : Value) (d : Option Addr) (H' : Hp) (ρ' : List Addr), Stt c hid ρ' lh1 H' → Ex hid ρ lh H ρ' lh1 H' → RX c (Gz hid ρ' lh1 H') e1 cls d → W cls d σ H')
    (hn : (∃ b lh1, ev T cal q env lh = .ok (.p (.bl b)) lh1) ∨ ∃ e1 lh1, ev T cal q env lh = .exc e1 lh1) : WT X e σ H Q1 := by
  refine s hid ρ lh H σ env Q1 W tk st re ?_
  rcases hn with ⟨b, lh1, e⟩ | ⟨e1, lh1, e⟩
  · rw [e]
    exact fun H1 ρ1 s1 x1 => hr b lh1 e H1 ρ1 s1 x1 (re.ex x1)
  · rw [e]
    exact fun cls d H' ρ' s1 x1 r => hx e1 lh1 e cls d H' ρ' s1 x1 r
end
end Sim
end
section
set_option Elab.async false
set_option linter.all false
set_option maxRecDepth 100000
set_option maxHeartbeats 1000000
/-! The Sim layer, J: and, or, not as tests; choices; attributes, items, calls. -/
namespace Sim
open PySem PySem.Spec PyProof.Rows L2
section
variable {T : Tab} {c : Ct} {cal : Cal} {k : Nat} {N : List Str} {sc : Scope} {X : Cx}
theorem pw_wt {op : BoolOp} {es : List Expr} {pos : Pos} : PW X (.BoolOp op es pos) (WT X (.BoolOp op es pos)) := ⟨fun whole pins s σ H Q I h => h pins s I⟩
theorem sndT_one {op : BoolOp} {a : C} {ea : Expr} {pos : Pos} (sa : SndT T c cal X a ea) : SndT T c cal X a (.BoolOp op [ea] pos) := by
  intro hid ρ lh H σ env Q W tk st re ho
  cases op with
  | And => exact WT.of (PW.pt (pw_and1 pt_wt)) (sa hid ρ lh H σ env Q W tk st re ho)
  | Or => exact WT.of (PW.pt (pw_or1 pt_wt)) (sa hid ρ lh H σ env Q W tk st re ho)
theorem sndT_and {a b : C} {ea eb : Expr} {r : List Expr} {pos : Pos} (sa : SndT T c cal X a ea) (sb : SndT T c cal X b (.BoolOp .And (eb :: r) pos)) : SndT T c cal X (.and a b) (.BoolOp .And (ea :: eb :: r) pos) := by
  intro hid ρ lh H σ env Q W tk st re ho
  refine WT.of (PW.pt (pw_and pt_wt pw_wt)) ?_
  have ho : OutB c hid ρ lh H Q (fun cls d H' => W cls d σ H') ((ev T cal a env lh).bind fun x h => match x with | .p (.bl true) => ev T cal b env h | .p (.bl false) => .ok (.p (.bl false)) h | _ => .bad) := ho
  refine sa hid ρ lh H σ env _ W tk st re ?_
  cases er : ev T cal a env lh with
  | ok d lh1 =>
    rw [er] at ho
    have ho : OutB c hid ρ lh H Q (fun cls d H' => W cls d σ H') (match (generalizing := false) d with | .p (.bl true) => ev T cal b env lh1 | .p (.bl false) => .ok (.p (.bl false)) lh1 | _ => .bad) := ho
    split at ho
    · intro H1 ρ1 s1 x1
      rw [if_pos rfl]
      exact sb hid ρ1 lh1 H1 σ env Q W tk s1 (re.ex x1) (ho.after x1)
    · intro H1 ρ1 s1 x1
      rw [if_neg (by decide)]
      exact ho H1 ρ1 s1 x1
    · exact ho.elim
  | exc e1 lh1 =>
    rw [er] at ho
    exact ho
  | bad =>
    rw [er] at ho
    exact ho
theorem sndT_or {a b : C} {ea eb : Expr} {r : List Expr} {pos : Pos} (sa : SndT T c cal X a ea) (sb : SndT T c cal X b (.BoolOp .Or (eb :: r) pos)) : SndT T c cal X (.or a b) (.BoolOp .Or (ea :: eb :: r) pos) := by
  intro hid ρ lh H σ env Q W tk st re ho
  refine WT.of (PW.pt (pw_or pt_wt pw_wt)) ?_
  have ho : OutB c hid ρ lh H Q (fun cls d H' => W cls d σ H') ((ev T cal a env lh).bind fun x h => match x with | .p (.bl false) => ev T cal b env h | .p (.bl true) => .ok (.p (.bl true)) h | _ => .bad) := ho
  refine sa hid ρ lh H σ env _ W tk st re ?_
  cases er : ev T cal a env lh with
  | ok d lh1 =>
    rw [er] at ho
    have ho : OutB c hid ρ lh H Q (fun cls d H' => W cls d σ H') (match (generalizing := false) d with | .p (.bl false) => ev T cal b env lh1 | .p (.bl true) => .ok (.p (.bl true)) lh1 | _ => .bad) := ho
    split at ho
    · intro H1 ρ1 s1 x1
      rw [if_neg (by decide)]
      exact sb hid ρ1 lh1 H1 σ env Q W tk s1 (re.ex x1) (ho.after x1)
    · intro H1 ρ1 s1 x1
      rw [if_pos rfl]
      exact ho H1 ρ1 s1 x1
    · exact ho.elim
  | exc e1 lh1 =>
    rw [er] at ho
    exact ho
  | bad =>
    rw [er] at ho
    exact ho
theorem sndT_nt {a : C} {ea : Expr} {pos : Pos} (sa : SndT T c cal X a ea) : SndT T c cal X (.nt a) (.UnaryOp .Not ea pos) := by
  intro hid ρ lh H σ env Q W tk st re ho
  refine WT.of (pt_not pt_wt) ?_
  have ho : OutB c hid ρ lh H Q (fun cls d H' => W cls d σ H') ((ev T cal a env lh).bind fun x h => match x with | .p (.bl b) => .ok (.p (.bl (!b))) h | _ => .bad) := ho
  refine sa hid ρ lh H σ env _ W tk st re ?_
  cases er : ev T cal a env lh with
  | ok d lh1 =>
    rw [er] at ho
    have ho : OutB c hid ρ lh H Q (fun cls d H' => W cls d σ H') (match (generalizing := false) d with | .p (.bl b) => .ok (.p (.bl (!b))) lh1 | _ => .bad) := ho
    split at ho
    · exact ho
    · exact ho.elim
  | exc e1 lh1 =>
    rw [er] at ho
    exact ho
  | bad =>
    rw [er] at ho
    exact ho
/-- a test, then one of two ways -/
theorem snd_ite {d a b : C} {ed ea eb : Expr} {pos : Pos} (sd : SndT T c cal X d ed) (sa : SndE T c cal X a ea) (sb : SndE T c cal X b eb) : SndE T c cal X (.ite d a b) (.IfExp ed ea eb pos) := by
  intro hid ρ lh H σ env Q W tk st re ho
  refine WE.of (pe_ifExp pt_wt pe_we pe_we) ?_
  have ho : Out c hid ρ lh H Q (fun cls d H' => W cls d σ H') ((ev T cal d env lh).bind fun x h => match x with | .p (.bl true) => ev T cal a env h | .p (.bl false) => ev T cal b env h | _ => .bad) := ho
  refine sd hid ρ lh H σ env _ W tk st re ?_
  cases er : ev T cal d env lh with
  | ok x lh1 =>
    rw [er] at ho
    have ho : Out c hid ρ lh H Q (fun cls d H' => W cls d σ H') (match (generalizing := false) x with | .p (.bl true) => ev T cal a env lh1 | .p (.bl false) => ev T cal b env lh1 | _ => .bad) := ho
    split at ho
    · intro H1 ρ1 s1 x1
      rw [if_pos rfl]
      exact sa hid ρ1 lh1 H1 σ env Q W tk s1 (re.ex x1) (ho.after x1)
    · intro H1 ρ1 s1 x1
      rw [if_neg (by decide)]
      exact sb hid ρ1 lh1 H1 σ env Q W tk s1 (re.ex x1) (ho.after x1)
    · exact ho.elim
  | exc e1 lh1 =>
    rw [er] at ho
    exact ho
  | bad =>
    rw [er] at ho
    exact ho

/-! ### attributes -/
theorem fget_look {G : Hp} {f : Str} : ∀ {fs : List (Str × PD)} {gs : List (Str × V)} {x : PD}, RFs c G fs gs → fget fs f = some x → ∃ v, gs.lookup f = some v ∧ RP c G x v
  | _, _, _, .nil, e => by cases e
  | (g, x0) :: r, (_, v0) :: r', x, .cons h hr, e => by
    unfold fget at e
    rw [List.lookup_cons]
    split at e
    · rename_i hg
      cases e
      subst hg
      exact ⟨v0, by simp, h⟩
    · rename_i hg
      obtain ⟨v, h1, h2⟩ := fget_look hr e
      have : (f == g) = false := by simpa using hg
      exact ⟨v, by rw [this]; exact h1, h2⟩
theorem fget_lookL {ρ : List Addr} {G : Hp} {f : Str} : ∀ {fs : List (Str × LV)} {gs : List (Str × V)} {x : LV}, RFL c ρ G fs gs → fget fs f = some x → ∃ v, gs.lookup f = some v ∧ RL c ρ G x v
  | _, _, _, .nil, e => by cases e
  | (g, x0) :: r, (g', v0) :: r', x, .cons h hr, e => by
    obtain ⟨hg, h⟩ := h
    simp only at hg
    subst hg
    unfold fget at e
    rw [List.lookup_cons]
    split at e
    · rename_i hg
      cases e
      subst hg
      exact ⟨v0, by simp, h⟩
    · rename_i hg
      obtain ⟨v, h1, h2⟩ := fget_lookL hr e
      have : (f == g) = false := by simpa using hg
      exact ⟨v, by rw [this]; exact h1, h2⟩
/-- an instance and its attribute, where they stand -/
theorem getF_at (g : GX T c k N sc X) {hid ρ : List Addr} {lh : LH} {H : Hp} {a x : LV} {f : Str} {v : V} (st : Stt c hid ρ lh H) (r : RL c ρ (Gz hid ρ lh H) a v) (e : getF T a f lh = some x) :
    ∃ p C dx fs u, v = .ref p ∧ H p = some (.ins C dx fs) ∧ Cls X.K C ∧ NoAttr X.K C f ∧ fs.lookup f = some u ∧ RL c ρ (Gz hid ρ lh H) x u := by
  unfold getF at e
  split at e
  · rename_i kk ek
    split at e
    · rename_i hf
      have hf : (match T.kls[kk]? with | some q => decide (f ∈ q.flds) | none => false) = true := hf
      split at hf
      · rename_i q eq
        obtain ⟨cl, _, na⟩ := g.kls kk q eq
        have na := na f (of_decide_eq_true hf)
        cases a with
        | p d =>
          cases d <;> first | (cases ek; done) | skip
          rename_i k2 fs
          have ek : some k2 = some kk := ek
          cases ek
          cases r with
          | obj hp rf =>
            have e : (fget fs f).map LV.p = some x := e
            obtain ⟨y, ey, rfl⟩ := Option.map_eq_some_iff.mp e
            obtain ⟨u, hu, ru⟩ := fget_look rf ey
            exact ⟨_, _, _, _, u, rfl, (Fz.not hp).2, cl, na, hu, ru⟩
        | ref n =>
          obtain ⟨p, hp, rfl⟩ := r
          have ek : (match lh[n]? with | some (some (.ins c _)) => some c | _ => none) = some kk := ek
          have e : (match lh[n]? with | some (some (.ins _ fs)) => fget fs f | _ => none) = some x := e
          cases el : lh[n]? with
          | none => rw [el] at ek; cases ek
          | some o =>
            rw [el] at ek e
            cases o with
            | none => cases ek
            | some o =>
              cases o <;> first | (cases ek; done) | skip
              rename_i k2 fs
              have ek : some k2 = some kk := ek
              cases ek
              obtain ⟨u, hu, ro⟩ := st.ob n _ p el hp
              cases u <;> first | exact ro.elim | skip
              obtain ⟨e3, ro⟩ := ro
              subst e3
              obtain ⟨w, hw, rw'⟩ := fget_lookL ro e
              exact ⟨_, _, _, _, w, rfl, hu, cl, na, hw, rw'⟩
      · cases hf
    · cases e
  · cases e
theorem snd_att (g : GX T c k N sc X) {a : C} {ea : Expr} {f : Str} {pos : Pos} (hb : baseB ea = true) (sa : SndE T c cal X a ea) : SndE T c cal X (.att a f) (.Attribute ea f pos) := by
  intro hid ρ lh H σ env Q W tk st re ho
  refine WE.of (pe_fld pe_we (base_of hb)) ?_
  refine sa.use tk st re (f := fun x h => R.of (getF T x f h) h) ho fun v H1 ρ1 d lh1 st1 ex1 r1 re1 ho1 => ?_
  obtain ⟨x, ex, ho2⟩ := ho1.of_some
  obtain ⟨p, C, dx, fs, u, rfl, hp, cl, na, hu, ru⟩ := getF_at g st1 r1 ex
  exact ⟨p, C, dx, fs, u, rfl, hp, cl, na, hu, ho2 u H1 ρ1 st1 Ex.refl ru⟩

/-! ### items -/
theorem atI_of {G : Hp} {xs : List PD} {vs : List V} {j : Int} {x : PD} (r : RPs c G xs vs) (e : atI xs j = some x) : ∃ v, atI vs j = some v ∧ RP c G x v := by
  unfold atI at e ⊢
  rw [← r.length]
  cases hi : ixN xs.length j with
  | none => rw [hi] at e; cases e
  | some i =>
    rw [hi] at e
    exact r.get e
theorem pval_ofL {ρ : List Addr} {G : Hp} {q : Key} : ∀ {kvs : List (PD × LV)} {kws : List (Key × V)}, RKL c ρ G kvs kws → (∀ x, pval kvs q = some x → ∃ v, valV kws q = some v ∧ RL c ρ G x v) ∧ (pval kvs q = none → valV kws q = none)
  | _, _, .nil => ⟨fun x e => (by cases e), fun _ => rfl⟩
  | (k, x0) :: r, (k', v0) :: r', .cons h hr => by
    obtain ⟨e, h⟩ := h
    simp only at e h
    have ih := pval_ofL (q := q) hr
    have ep : pval ((k, x0) :: r) q = if k' = q then some x0 else pval r q := by
      show (match kOf k with | some k' => if k' = q then some x0 else pval r q | none => none) = _
      rw [e]
    rw [ep]
    by_cases hq : k' = q
    · rw [if_pos hq, valV_pos (p := (k', v0)) hq]
      exact ⟨fun x e => ⟨v0, rfl, (by cases e; exact h)⟩, fun e => (by cases e)⟩
    · rw [if_neg hq, valV_neg (p := (k', v0)) hq]
      exact ih
/-- x[i], any of its rules -/
def ixA (X : Cx) : R2 := fun x y H Q => ∃ r : R2, IxR X r ∧ r x y H Q
theorem ixA_ok : IxR X (ixA X) := by
  intro value slice pins s σ H x y v u Q I rx ry h hs
  obtain ⟨r, hr, q⟩ := h
  exact hr value slice pins s σ H x y v u Q I rx ry q hs
theorem ix_d (g : GX T c k N sc X) : IxR X (fun x y H Q => ∃ a kws q v, x = .ref a ∧ y = kV q ∧ DRd c H a kws ∧ valV kws q = some v ∧ Q v H) := by
  intro value slice pins s σ H x y v u Q I rx ry h hs
  obtain ⟨a, kws, q, z, rfl, rfl, hd, hv, hq⟩ := h
  obtain ⟨_, ns, vs, rel, dd⟩ := g.dk I hd
  cases rx
  obtain ⟨w', hw, rw'⟩ := RelO.some_of (v := z) (o := valueAt vs q) (by rw [← hv]; exact rel.val q)
  have hT : s.TypeIs (.ref a) "dict" := dd.typeIs
  unfold subscriptTail
  refine wpAny_bind ?_
  rw [getitemInPython_of_ne hT.not_modules]
  refine wpAny_bind (wpAny_specialOf hT PySem.F.slot_dict_getitem.lookup ?_)
  have fin : wpAny (model X.prog X.w) X.A (subscripted slice false (.ref a) u) (fun r s3 => wpAny (model X.prog X.w) X.A (letTemporaryGo value (.ref a) r >>= fun _ => pure r) (EP X pins σ Q) X.xe s3) X.xe s := by
    rw [hs]
    exact wpAny_operating (wpAny_getItem_of (kV_is ry) dd.mapOf hw (wpAny_bind (wpAny_letTemporaryGo (wpAny_pure ⟨z, H, I.tok _, rw', hq⟩))))
  first
    | exact wpAny_pure (wpAny_bind fin)
    | exact wpAny_bind (wpAny_pure (wpAny_bind fin))
    | exact wpAny_bind fin
/-- x[i] of what stands -/
theorem idxD_ok (g : GX T c k N sc X) {hid ρ : List Addr} {lh : LH} {H : Hp} {a x : LV} {i : PD} {v y : V} {Q : VK} (st : Stt c hid ρ lh H) (ra : RL c ρ (Gz hid ρ lh H) a v) (ri : RP c (Gz hid ρ lh H) i y) (e : idxD a i lh = some x)
    (q : ∀ u, RL c ρ (Gz hid ρ lh H) x u → Q u H) : ixA X v y H Q := by
  cases a with
  | p d =>
    cases d <;> first | (cases e; done) | skip
    · rename_i xs
      cases i <;> first | (cases e; done) | skip
      rename_i j
      have e : (atI xs j).map LV.p = some x := e
      obtain ⟨z, ez, rfl⟩ := Option.map_eq_some_iff.mp e
      cases ri.int_inv
      cases ra with
      | tup hq rs =>
        obtain ⟨u, hu, ru⟩ := atI_of rs ez
        exact ⟨_, ix_tup, _, _, _, u, rfl, rfl, by rw [g.hK]; exact Gz_sub.seqT hq, hu, q u ru⟩
    · rename_i xs
      cases i <;> first | (cases e; done) | skip
      rename_i j
      have e : (atI xs j).map LV.p = some x := e
      obtain ⟨z, ez, rfl⟩ := Option.map_eq_some_iff.mp e
      cases ri.int_inv
      cases ra with
      | lst hq rs =>
        obtain ⟨u, hu, ru⟩ := atI_of rs ez
        exact ⟨_, ix_list, _, _, _, u, rfl, rfl, SqL.of (Gz_sub.lst hq), hu, q u ru⟩
    · rename_i kvs
      have e : (match kOf i with | some k => (pval kvs k).map LV.p | none => none) = some x := e
      split at e
      · rename_i kk ek
        obtain ⟨z, ez, rfl⟩ := Option.map_eq_some_iff.mp e
        cases ra with
        | dct hd rk =>
          obtain ⟨u, hu, ru⟩ := (pval_of rk).1 z ez
          exact ⟨_, ix_d g, _, _, kk, u, rfl, kV_of ek ri, hd.imp Gz_sub.rd id, hu, q u ru⟩
      · cases e
  | ref n =>
    obtain ⟨p, hp, rfl⟩ := ra
    unfold idxD at e
    simp only at e
    split at e
    · rename_i xs el
      split at e
      · rename_i j
        obtain ⟨z, ez, rfl⟩ := Option.map_eq_some_iff.mp e
        cases ri.int_inv
        obtain ⟨u, hu, ro⟩ := st.ob n _ p el hp
        cases u <;> first | exact ro.elim | skip
        obtain ⟨w, hw, rw'⟩ := atI_of ro ez
        exact ⟨_, ix_list, _, _, _, w, rfl, rfl, SqL.of hu, hw, q w rw'⟩
      · cases e
    · rename_i kvs el
      split at e
      · rename_i kk ek
        obtain ⟨u, hu, ro⟩ := st.ob n _ p el hp
        cases u <;> first | exact ro.elim | skip
        obtain ⟨w, hw, rw'⟩ := (pval_ofL ro).1 x e
        exact ⟨_, ix_d g, _, _, kk, w, rfl, kV_of ek ri, .inl (.inl hu), hw, q w rw'⟩
      · cases e
    · cases e
theorem snd_idx (g : GX T c k N sc X) {a i : C} {ea ei : Expr} {pos : Pos} (hs : isSlc ei = false) (sa : SndE T c cal X a ea) (si : SndE T c cal X i ei) : SndE T c cal X (.idx a i) (.Subscript ea ei pos) := by
  intro hid ρ lh H σ env Q W tk st re ho
  refine WE.of (pe_ix ixA_ok pe_we pe_we (plainIx_of hs)) ?_
  refine sa.use tk st re (f := fun x h => (ev T cal i env h).bind fun y h => match y with | .p y => R.of (idxD x y h) h | _ => .bad) ho fun v H1 ρ1 d lh1 st1 ex1 r1 re1 ho1 => ?_
  refine si.use tk st1 re1 ho1 fun v2 H2 ρ2 d2 lh2 st2 ex2 r2 re2 ho2 => ?_
  split at ho2
  · obtain ⟨x, ex, ho3⟩ := ho2.of_some
    exact idxD_ok g st2 (r1.ex ex2) r2 ex fun u ru => ho3 u H2 ρ2 st2 Ex.refl ru
  · exact ho2.elim

end
end Sim
end
section
set_option Elab.async false
set_option linter.all false
set_option maxRecDepth 100000
set_option maxHeartbeats 1000000
/-! The Sim layer, K: calls. -/
namespace Sim
open PySem PySem.Spec PyProof.Rows L2
section
variable {T : Tab} {c : Ct} {k : Nat} {N : List Str} {sc : Scope} {X : Cx}
theorem allP_ok {ρ : List Addr} {G : Hp} : ∀ {ds : List LV} {vs : List V} {xs : List PD}, RLs c ρ G ds vs → allP ds = some xs → ds = xs.map .p ∧ RPs c G xs vs
  | _, _, _, .nil, e => by
    cases e
    exact ⟨rfl, .nil⟩
  | .p d :: r, v :: vs, xs, .cons h hr, e => by
    have e : (allP r).map (d :: ·) = some xs := e
    obtain ⟨ys, ey, rfl⟩ := Option.map_eq_some_iff.mp e
    obtain ⟨h1, h2⟩ := allP_ok hr ey
    exact ⟨by rw [h1]; rfl, .cons h h2⟩
  | .ref n :: r, v :: vs, xs, .cons h hr, e => by cases e
theorem rls_of {ρ : List Addr} {G : Hp} : ∀ {xs : List PD} {vs : List V}, RPs c G xs vs → RLs c ρ G (xs.map .p) vs
  | _, _, .nil => .nil
  | _, _, .cons h r => .cons h (rls_of r)
/-- the promise of a call, shared or apart -/
theorem spF_of {hid ρ : List Addr} {lh : LH} {H : Hp} {Q : VK} {E : XK} {pure : Bool} {i : Nat} {ds : List LV} {vs : List V} (st : Stt c hid ρ lh H) (rs : RLs c ρ (Gz hid ρ lh H) ds vs) (ho : Out c hid ρ lh H Q E (calA (callD T k) pure i ds lh)) : spF T c k i vs H Q E := by
  cases pure with
  | false => exact ⟨hid, ρ, lh, ds, st, rs, ho⟩
  | true =>
    have ho1 : Out c hid ρ lh H Q E (match allP ds with | some xs => calP (callD T k) i xs lh | none => .bad) := ho
    cases ex : allP ds with
    | none =>
      rw [ex] at ho1
      exact ho1.elim
    | some xs =>
      rw [ex] at ho1
      obtain ⟨eds, rp⟩ := allP_ok rs ex
      refine ⟨hid ++ liveA ρ lh, [], [], xs.map .p, st.hide, rls_of (by rw [Gz_hide]; exact rp), ?_⟩
      have ho2 : Out c hid ρ lh H Q E (match callD T k i (xs.map .p) [] with | .ok (.p v) _ => .ok (.p v) lh | .exc e _ => .exc e lh | _ => .bad) := ho1
      cases er : callD T k i (xs.map .p) [] with
      | ok v h1 =>
        rw [er] at ho2
        cases v with
        | ref n => exact ho2.elim
        | p v =>
          intro v' H' ρ' s' x' r'
          obtain ⟨s1, e1, sub⟩ := st.seek x'
          exact ho2 v' H' ρ s1 e1 (RP.mono sub r')
      | exc e0 h1 =>
        rw [er] at ho2
        intro cls d H' ρ' s' x' r'
        obtain ⟨s1, e1, sub⟩ := st.seek x'
        exact ho2 cls d H' ρ s1 e1 (RX.mono sub r')
      | bad =>
        rw [er] at ho2
        exact ho2.elim
theorem chks_plain {es : List C} {es' : List Expr} (h : chks T N sc es es' = true) : (es'.all fun e => !isStar e) = true ∧ es.length = es'.length := by
  induction es generalizing es' with
  | nil =>
    cases es' with
    | nil => exact ⟨rfl, rfl⟩
    | cons e r => cases h
  | cons q r ih =>
    cases es' with
    | nil => cases h
    | cons e r' =>
      have h : (!isStar e && chk T N sc q e && chks T N sc r r') = true := h
      obtain ⟨h, h3⟩ := b2 h
      obtain ⟨h1, h2⟩ := b2 h
      obtain ⟨h4, h5⟩ := ih h3
      exact ⟨by simp only [List.all_cons, h1, h4, Bool.and_self], congrArg (· + 1) h5⟩
/-- f(..) -/
theorem snd_cal (g : GX T c k N sc X) {i : Nat} {pure : Bool} {qs : List C} {x : Str} {p pos : Pos} {es : List Expr} (h : chk T N sc (.cal i pure qs) (.Call (.Name x p) es [] pos) = true) (s : SndA T c (callD T k) X qs es) :
    SndE T c (callD T k) X (.cal i pure qs) (.Call (.Name x p) es [] pos) := by
  intro hid ρ lh H σ env Q W tk st re ho
  have h : ((match T.fns[i]? with | some q => decide (q.name = x) && q.cls.isNone | none => false) && glbB sc x && nmB x && chks T N sc qs es) = true := h
  obtain ⟨h, h4⟩ := b2 h
  obtain ⟨h, h3⟩ := b2 h
  obtain ⟨h1, h2⟩ := b2 h
  obtain ⟨pl, len⟩ := chks_plain h4
  split at h1
  · rename_i f ef
    obtain ⟨n1, n2⟩ := b2 h1
    have n1 : f.name = x := of_decide_eq_true n1
    obtain ⟨a, fd, fa, mg, _⟩ := g.fns i f ef
    have mg := mg (Option.isNone_iff_eq_none.mp n2)
    rw [n1] at mg
    have hr : Room k X.A := g.room.mono (by omega)
    have ho : Out c hid ρ lh H Q (fun cls d H' => W cls d σ H') ((evs T (callD T k) qs env lh).bind fun ds h => calA (callD T k) pure i ds h) := ho
    cases es with
    | nil =>
      cases qs with
      | nil =>
        intro pins s0 I0
        refine wpAny_Call_Name_kw (ld_glob I0 (g.gl h2) mg ?_ (nmB_ok h3).1)
        refine PySem.W.callWith_K0 I0.kIn fa.kp (run_fnS (us := []) (vs := []) (E := L2.WE W) fa.ok hr fa.bd (passAt tk σ) I0 .nil ?_)
        exact spF_of st .nil ho
      | cons => simp at len
    | cons e es =>
      simp only [List.all_cons, Bool.and_eq_true, Bool.not_eq_true'] at pl
      refine WE.of (pe_callS (E := L2.WE W) fa.ok hr (g.gl h2) mg fa.kp fa.bd (fun σ => passAt tk σ) pa_wa (nmB_ok h3).1 (star_of pl.1) (back_plain pl.2)) ?_
      refine s.use tk st re ho fun vs H1 ρ1 ds lh1 st1 ex1 rs re1 len1 ho1 => ?_
      exact spF_of st1 rs ho1
  · cases h1

/-! ### methods -/
theorem meth_eq {o : Expr} {m : Str} {apos pos : Pos} {args : List Expr} {env : Env} (hb : baseB o = true) (hl : (apos.endLine == pos.line) = true) (hn : args.length < 20) (hp : (args.all fun e => !isStar e) = true) :
    eval (.Call (.Attribute o m apos) args [] pos) env = (do
      let ov ← eval o env
      standAt apos.atName
      let (f, first) ← holding [ov] (getMethod ov m (plainOf o env))
      callWith pos f first (backTo pos (starEach args env)) (backToKw pos (keywordEach [] env))) := by
  have e1 : eval (.Call (.Attribute o m apos) args [] pos) env = (do
      let ov ← attributeBase o m env (eval o env)
      standAt apos.atName
      methodCall o m apos pos env ov (args.length + ([] : List Keyword).length) (backTo pos (starEach args env)) (backToKw pos (keywordEach [] env))) := rfl
  rw [e1, base_of hb]
  have hf : methodCallForm (args.length + ([] : List Keyword).length) (backTo pos (starEach args env)) (backToKw pos (keywordEach [] env)) = true := by
    have q := back_plain (pos := pos) (env := env) hp
    have q2 : (backTo pos (starEach args env)).all (!·.1) = true := by
      rw [List.all_eq_true]
      rw [List.any_eq_false] at q
      intro x hx
      have := q x hx
      simpa using this
    unfold methodCallForm
    rw [q2]
    simp [backToKw, keywordEach]
    omega
  congr 1
  funext ov
  congr 1
  funext _
  rw [mcall_line hf hl]
/-- o.m(..) of an instance -/
theorem clsOf_at {hid ρ : List Addr} {lh : LH} {H : Hp} {a : LV} {v : V} {j : Nat} (st : Stt c hid ρ lh H) (r : RL c ρ (Gz hid ρ lh H) a v) (e : clsOf a lh = some j) : ∃ p dx fs, v = .ref p ∧ H p = some (.ins (c.ct j) dx fs) ∧ True := by
  cases a with
  | p d =>
    cases d <;> first | (cases e; done) | skip
    have e : some _ = some j := e
    cases e
    cases r with
    | obj hp rf => exact ⟨_, _, _, rfl, (Fz.not hp).2, trivial⟩
  | ref n =>
    obtain ⟨p, hp, rfl⟩ := r
    have e : (match lh[n]? with | some (some (.ins c _)) => some c | _ => none) = some j := e
    split at e
    · rename_i k2 fs el
      cases e
      obtain ⟨u, hu, ro⟩ := st.ob n _ p el hp
      cases u <;> first | exact ro.elim | skip
      obtain ⟨e3, ro⟩ := ro
      subst e3
      exact ⟨p, _, _, rfl, hu, trivial⟩
    · cases e
theorem fget_none {G : Hp} {f : Str} : ∀ {fs : List (Str × PD)} {gs : List (Str × V)}, RFs c G fs gs → fget fs f = none → gs.lookup f = none
  | _, _, .nil, _ => rfl
  | (g, x0) :: r, (_, v0) :: r', .cons h hr, e => by
    unfold fget at e
    split at e
    · cases e
    · rename_i hg
      rw [List.lookup_cons]
      have : (f == g) = false := by simpa using hg
      rw [this]
      exact fget_none hr e
theorem fget_noneL {ρ : List Addr} {G : Hp} {f : Str} : ∀ {fs : List (Str × LV)} {gs : List (Str × V)}, RFL c ρ G fs gs → fget fs f = none → gs.lookup f = none
  | _, _, .nil, _ => rfl
  | (g, x0) :: r, (g', v0) :: r', .cons h hr, e => by
    obtain ⟨hg, h⟩ := h
    simp only at hg
    subst hg
    unfold fget at e
    split at e
    · cases e
    · rename_i hg
      rw [List.lookup_cons]
      have : (f == g) = false := by simpa using hg
      rw [this]
      exact fget_noneL hr e
/-- the instance's class, and that it has no such attribute -/
theorem ins_at {hid ρ : List Addr} {lh : LH} {H : Hp} {a : LV} {v : V} {j : Nat} {m : Str} (st : Stt c hid ρ lh H) (r : RL c ρ (Gz hid ρ lh H) a v) (e : clsOf a lh = some j) (e2 : getF0 a m lh = none) : ∃ p dx fs, v = .ref p ∧ H p = some (.ins (c.ct j) dx fs) ∧ fs.lookup m = none := by
  cases a with
  | p d =>
    cases d <;> first | (cases e; done) | skip
    rename_i k2 fs
    have e : some k2 = some j := e
    cases e
    have e2 : (fget fs m).map LV.p = none := e2
    cases r with
    | obj hp rf => exact ⟨_, _, _, rfl, (Fz.not hp).2, fget_none rf (Option.map_eq_none_iff.mp e2)⟩
  | ref n =>
    obtain ⟨p, hp, rfl⟩ := r
    have e : (match lh[n]? with | some (some (.ins c _)) => some c | _ => none) = some j := e
    have e2 : (match lh[n]? with | some (some (.ins _ fs)) => fget fs m | _ => none) = none := e2
    cases el : lh[n]? with
    | none => rw [el] at e; cases e
    | some o =>
      rw [el] at e e2
      cases o with
      | none => cases e
      | some o =>
        cases o <;> first | (cases e; done) | skip
        rename_i k2 fs
        have e : some k2 = some j := e
        cases e
        obtain ⟨u, hu, ro⟩ := st.ob n _ p el hp
        cases u <;> first | exact ro.elim | skip
        obtain ⟨e3, ro⟩ := ro
        subst e3
        exact ⟨p, _, _, rfl, hu, fget_noneL ro e2⟩
/-- an instance keeps its class and its place -/
theorem snd_met (g : GX T c k N sc X) {m : Str} {pure : Bool} {a : C} {qs : List C} {ea : Expr} {ap pos : Pos} {es : List Expr} (h : chk T N sc (.met m pure a qs) (.Call (.Attribute ea m ap) es [] pos) = true) (sa : SndE T c (callD T k) X a ea) (s : SndA T c (callD T k) X qs es) :
    SndE T c (callD T k) X (.met m pure a qs) (.Call (.Attribute ea m ap) es [] pos) := by
  intro hid ρ lh H σ env Q W tk st re ho
  have h : (decide (m = m) && baseB ea && (ap.endLine == pos.line) && decide (es.length < 20) && chk T N sc a ea && chks T N sc qs es) = true := h
  obtain ⟨h, h6⟩ := b2 h
  obtain ⟨h, h5⟩ := b2 h
  obtain ⟨h, h4⟩ := b2 h
  obtain ⟨h, h3⟩ := b2 h
  obtain ⟨h1, h2⟩ := b2 h
  obtain ⟨pl, len⟩ := chks_plain h6
  have hr : Room k X.A := g.room.mono (by omega)
  intro pins s0 I0
  refine PySem.W.methodCall_KW (pl := plainOf ea X.env) ?_ (meth_eq h2 h3 (of_decide_eq_true h4) pl)
  have key : WE X ea σ H (fun v H1 => ∃ (p dx : Addr) (fs : List (Str × V)) (j i : Nat) (f : Fn) (fa : Addr) (fd : FuncData), v = .ref p ∧ H1 p = some (.ins (c.ct j) dx fs) ∧ fs.lookup m = none ∧ Cls X.K (c.ct j) ∧ Meth X.K (c.ct j) m fa ∧
      FnAt T c k X.prog X.w X.K X.mg X.base i f fa fd ∧ (es = [] → spF T c k i [.ref p] H1 Q (L2.WE W σ)) ∧ WA X es σ H1 (fun vs H2 => spF T c k i (.ref p :: vs) H2 Q (L2.WE W σ))) := by
    refine sa.use tk st re (f := fun x h => match metOf T x m h with | some f => (evs T (callD T k) qs env h).bind fun ds h => calA (callD T k) pure f (x :: ds) h | none => .bad) ho fun v H1 ρ1 x lh1 st1 ex1 r1 re1 ho1 => ?_
    split at ho1
    · rename_i i em
      unfold metOf at em
      split at em
      · rename_i j ec
        split at em
        · rename_i q eq
          split at em
          · rename_i e0
            obtain ⟨p, dx, fs, rfl, hp, hl⟩ := ins_at st1 r1 ec e0
            obtain ⟨_, hm⟩ := g.mts j q eq
            obtain ⟨⟨f, ef, ec, en⟩, _⟩ := hm m i em
            obtain ⟨a, fd, fa, _, mt⟩ := g.fns i f ef
            have mt := mt j ec
            rw [en] at mt
            refine ⟨p, dx, fs, j, i, f, a, fd, rfl, hp, hl, (g.kls j q eq).1, mt, fa, fun en => ?_, ?_⟩
            · rw [en] at len
              have eq0 : qs = [] := List.length_eq_zero_iff.mp len
              rw [eq0] at ho1
              exact spF_of st1 (.cons r1 .nil) ho1
            · exact s.use tk st1 re1 ho1 fun vs H2 ρ2 ds lh2 st2 ex2 rs re2 len2 ho2 => spF_of st2 (.cons (r1.ex ex2) rs) ho2
          · cases em
        · cases em
      · cases em
    · exact ho1.elim
  refine thn (key pins s0 I0) fun u s1 ⟨v, H1, I1, rv, p, dx, fs, j, i, f, a, fd, ev1, hp, hl, cl, mt, fa, w0, wa⟩ => ?_
  subst ev1
  obtain rfl : u = Value.ref p := rv
  refine getmeth_ok I1 hp cl mt hl ?_
  cases es with
  | nil => exact PySem.W.callWith_K0 (first := [.ref p]) I1.kIn mt.kp (run_fnS (us := [.ref p]) (vs := [.ref p]) (E := L2.WE W) fa.ok hr fa.bd (passAt tk σ) I1 (.cons rfl .nil) (w0 rfl))
  | cons e es =>
    simp only [List.all_cons, Bool.and_eq_true, Bool.not_eq_true'] at pl
    refine PySem.W.callWith_K (first := [.ref p]) (h₀ := X.base) I1.ok.mod.kin mt.kp (thn (wa pos pins s1 I1) fun us s2 ⟨vs, H2, I2, rs, sp⟩ => ⟨I2.kIn, ?_⟩) (star_of pl.1) (back_plain pl.2)
    exact run_fnS (us := .ref p :: us) (vs := .ref p :: vs) (E := L2.WE W) fa.ok hr fa.bd (passAt tk σ) I2 (.cons rfl rs) sp

/-! ### instances made -/
theorem run_mk {pins : List (Addr × Obj)} {σ : L2.St} {H : Hp} {s : Shared} {Q : VK} {us : List Value} {vs : List V} {C f : Addr} {fd : FuncData} {ps : List Str} {sp : Sp} {E : L2.St → XK} {CX : CXT} {j : Nat} (M : Mk X.K C f) (F : FnOk X.prog X.w X.K X.mg X.base CX j f fd ps sp) (hr : Room (j + 1) X.A) (hb : Binds X.K fd ps [])
    (hx : PassesAt CX X σ (E σ)) (I : Inv X pins σ H s) (r : Vals vs us)
    (h : ∀ x dx, H x = none → H dx = none → dx ≠ x → sp (.ref x :: vs) (upd (upd H dx (.own x)) x (.ins C dx [])) (fun v H2 => v = .non ∧ Q (.ref x) H2) (E σ)) :
    wpAny (model X.prog X.w) X.A (call (.ref C) us) (EP X pins σ Q) X.xe s := by
  have n := s.heap.objs.size
  have hq := h (s.heap.objs.size + 1) s.heap.objs.size (I.hok.fresh (Nat.le_succ _)) (I.hok.fresh (Nat.le_refl _)) (Nat.ne_of_lt (Nat.lt_succ_self _))
  have J := Inv.made (C := C) I
  have r2 : Vals (V.ref (s.heap.objs.size + 1) :: vs) (Value.ref (s.heap.objs.size + 1) :: us) := .cons rfl r
  have hl : (Value.ref (s.heap.objs.size + 1) :: us).length = ps.length := r2.length.symm.trans (F.len _ _ _ _ hq)
  have bd := hb _ (Value.ref (s.heap.objs.size + 1) :: us) J.kIn (by rw [List.append_nil]; exact hl)
  rw [List.append_nil] at bd
  refine wpAny_call (make_map (f := f) I.kIn M.makes M.init (beq_iff_eq.mp M.fn) (codeAny_mono (F.run _ X.stack _ _ ⟨_, []⟩ _ _ _ (E σ) (hr.make C us []) (J.env0.make C us []) bd r2 hq) fun res s' hres => ?_))
  cases res with
  | error e => exact hx pins _ _ e s' J hres
  | ok fl =>
    cases fl with
    | ret u =>
      obtain ⟨v, H', J3, rv, e3, q3⟩ := J.after hres
      subst e3
      exact ⟨rv, ⟨V.ref (s.heap.objs.size + 1), H', J3, rfl, q3⟩⟩
    | next => exact hres.elim
    | brk => exact hres.elim
    | cont => exact hres.elim
/-- the promise of __init__ at a new instance -/
theorem spF_mk {hid ρ : List Addr} {lh : LH} {H : Hp} {Q : VK} {E : XK} {fz : Bool} {j i : Nat} {ds : List LV} {vs : List V} (st : Stt c hid ρ lh H) (rs : RLs c ρ (Gz hid ρ lh H) ds vs) (ho : Out c hid ρ lh H Q E (mkO (callD T k) j i fz ds lh))
    {x dx : Addr} (hx : H x = none) (hdx : H dx = none) (ne : dx ≠ x) : spF T c k i (.ref x :: vs) (upd (upd H dx (.own x)) x (.ins (c.ct j) dx [])) (fun v H2 => v = .non ∧ Q (.ref x) H2) E := by
  have hx' : upd H dx (.own x) x = none := by rw [upd_ne (Ne.symm ne)]; exact hx
  cases fz with
  | false =>
    have ho : Out c hid ρ lh H Q E (match callD T k i (.ref lh.length :: ds) (lh ++ [some (.ins j [])]) with | .ok (.p .non) h1 => .ok (.ref lh.length) h1 | .exc e h1 => .exc e h1 | _ => .bad) := ho
    obtain ⟨s1, e1⟩ := st.lay hdx (.own x)
    obtain ⟨s2, e2⟩ := s1.born hx' (o := .ins j []) (u := .ins (c.ct j) dx []) ⟨rfl, .nil⟩
    have e12 := e1.trans e2
    have hn : (ρ ++ [x])[lh.length]? = some x := by rw [← st.len]; simp
    have rs2 : RLs c (ρ ++ [x]) (Gz hid (ρ ++ [x]) (lh ++ [some (.ins j [])]) (upd (upd H dx (.own x)) x (.ins (c.ct j) dx []))) (.ref lh.length :: ds) (.ref x :: vs) := Paired.cons ⟨x, hn, rfl⟩ (RLs.ex e12 rs)
    refine ⟨hid, ρ ++ [x], lh ++ [some (.ins j [])], .ref lh.length :: ds, s2, rs2, ?_⟩
    cases er : callD T k i (.ref lh.length :: ds) (lh ++ [some (.ins j [])]) with
    | ok v h1 =>
      rw [er] at ho
      cases v with
      | ref n => exact ho.elim
      | p v =>
        cases v <;> first | exact ho.elim | skip
        intro v' H' ρ' s' x' r'
        exact ⟨RP.non_inv r', ho _ H' ρ' s' (e12.trans x') ⟨x, x'.pre _ _ hn, rfl⟩⟩
    | exc e0 h1 =>
      rw [er] at ho
      exact fun cls d H' ρ' s' x' r' => ho cls d H' ρ' s' (e12.trans x') r'
    | bad =>
      rw [er] at ho
      exact ho.elim
  | true =>
    have ho : Out c hid ρ lh H Q E (match allP ds with
      | some xs => match callD T k i (.ref 0 :: xs.map .p) [some (.ins j [])] with
        | .ok (.p .non) h1 => match frz 9 (.ref 0) h1 with
          | some (x, _) => .ok (.p x) lh
          | none => .bad
        | .exc e _ => .exc e lh
        | _ => .bad
      | none => .bad) := ho
    cases ex : allP ds with
    | none => rw [ex] at ho; exact ho.elim
    | some xs =>
      rw [ex] at ho
      obtain ⟨_, rp⟩ := allP_ok rs ex
      obtain ⟨s1, e1⟩ := st.hide.lay hdx (.own x)
      obtain ⟨s2, e2⟩ := s1.born hx' (o := .ins j []) (u := .ins (c.ct j) dx []) ⟨rfl, .nil⟩
      have e12 := e1.trans e2
      refine ⟨hid ++ liveA ρ lh, [x], [some (.ins j [])], .ref 0 :: xs.map .p, s2, .cons ⟨x, rfl, rfl⟩ (rls_of (RPs.mono e12.keep (by rw [Gz_hide]; exact rp))), ?_⟩
      have ho : Out c hid ρ lh H Q E (match callD T k i (.ref 0 :: xs.map .p) [some (.ins j [])] with
        | .ok (.p .non) h1 => match frz 9 (.ref 0) h1 with
          | some (x, _) => .ok (.p x) lh
          | none => .bad
        | .exc e _ => .exc e lh
        | _ => .bad) := ho
      cases er : callD T k i (.ref 0 :: xs.map .p) [some (.ins j [])] with
      | ok v h1 =>
        rw [er] at ho
        cases v with
        | ref n => exact ho.elim
        | p v =>
          cases v <;> first | exact ho.elim | skip
          intro v' H' ρ' s' x' r'
          refine ⟨RP.non_inv r', ?_⟩
          have ho : Out c hid ρ lh H Q E (match frz 9 (.ref 0) h1 with | some (x, _) => .ok (.p x) lh | none => .bad) := ho
          cases ef : frz 9 (.ref 0) h1 with
          | none => rw [ef] at ho; exact ho.elim
          | some q =>
            obtain ⟨y, h2⟩ := q
            rw [ef] at ho
            obtain ⟨s3, e3, r3⟩ := frz_ok 9 _ _ (.ref 0) (.ref x) _ s' (show RL c ρ' _ (.ref 0) (.ref x) from ⟨x, x'.pre 0 x rfl, rfl⟩) ef
            obtain ⟨s4, e4, sub⟩ := st.seek ((e12.trans x').trans e3)
            exact ho _ H' ρ s4 e4 (RP.mono sub r3)
      | exc e0 h1 =>
        rw [er] at ho
        intro cls d H' ρ' s' x' r'
        obtain ⟨s4, e4, sub⟩ := st.seek (e12.trans x')
        exact ho cls d H' ρ s4 e4 (RX.mono sub r')
      | bad =>
        rw [er] at ho
        exact ho.elim
theorem snd_mk (g : GX T c k N sc X) {j : Nat} {fz : Bool} {qs : List C} {x : Str} {p pos : Pos} {es : List Expr} (h : chk T N sc (.mk j fz qs) (.Call (.Name x p) es [] pos) = true) (s : SndA T c (callD T k) X qs es) :
    SndE T c (callD T k) X (.mk j fz qs) (.Call (.Name x p) es [] pos) := by
  intro hid ρ lh H σ env Q W tk st re ho
  have h : (nmIs (T.kls[j]?.map (·.name)) x && glbB sc x && nmB x && chks T N sc qs es) = true := h
  obtain ⟨h, h4⟩ := b2 h
  obtain ⟨h, h3⟩ := b2 h
  obtain ⟨h1, h2⟩ := b2 h
  obtain ⟨pl, len⟩ := chks_plain h4
  cases ek : T.kls[j]? with
  | none => rw [ek] at h1; cases h1
  | some q =>
    rw [ek] at h1
    have en : q.name = x := Option.some.inj (nmIs_ok h1)
    obtain ⟨cl, mg, _⟩ := g.kls j q ek
    rw [en] at mg
    obtain ⟨⟨f, ef, ec, enm⟩, _⟩ := g.mts j q ek
    obtain ⟨a, fd, fa, _, mt⟩ := g.fns q.init f ef
    have mk := g.mks j q f a ek ef (mt j ec)
    have hr : Room (k + 1) X.A := g.room.mono (by omega)
    have ho : Out c hid ρ lh H Q (fun cls d H' => W cls d σ H') ((evs T (callD T k) qs env lh).bind fun ds h => match T.kls[j]? with | some q => mkO (callD T k) j q.init fz ds h | none => .bad) := ho
    rw [ek] at ho
    intro pins s0 I0
    refine wpAny_Call_Name_kw (ld_glob I0 (g.gl h2) mg ?_ (nmB_ok h3).1)
    cases es with
    | nil =>
      cases qs with
      | nil =>
        refine PySem.W.callWith_K0 I0.kIn mk.kp (run_mk (us := []) (vs := []) (E := L2.WE W) mk fa.ok hr fa.bd (passAt tk σ) I0 .nil fun x dx hx hdx ne => ?_)
        exact spF_mk st .nil ho hx hdx ne
      | cons => simp at len
    | cons e es =>
      simp only [List.all_cons, Bool.and_eq_true, Bool.not_eq_true'] at pl
      have wa : WA X (e :: es) σ H (fun vs H2 => ∀ x dx, H2 x = none → H2 dx = none → dx ≠ x → spF T c k q.init (.ref x :: vs) (upd (upd H2 dx (.own x)) x (.ins (c.ct j) dx [])) (fun v H3 => v = .non ∧ Q (.ref x) H3) (L2.WE W σ)) :=
        s.use tk st re ho fun vs H1 ρ1 ds lh1 st1 ex1 rs re1 len1 ho1 => fun x dx hx hdx ne => spF_mk st1 rs ho1 hx hdx ne
      refine PySem.W.callWith_K (h₀ := X.base) I0.ok.mod.kin mk.kp (thn (wa pos pins s0 I0) fun us s2 ⟨vs, H2, I2, rs, sp⟩ => ⟨I2.kIn, ?_⟩) (star_of pl.1) (back_plain pl.2)
      exact run_mk (E := L2.WE W) mk fa.ok hr fa.bd (passAt tk σ) I2 rs sp
end
end Sim
end
section
set_option Elab.async false
set_option linter.all false
set_option maxRecDepth 100000
set_option maxHeartbeats 1000000
/-! The Sim layer, L: built-in functions. -/
namespace Sim
open PySem PySem.Spec PyProof.Rows L2
/-- data as it stands at the top in H, what it holds in G -/
inductive RT (c : Ct) (H G : Hp) : PD → V → Prop
  | of {d : PD} {v : V} : RP c G d v → RT c H G d v
  | lst {a : Addr} {xs : List PD} {vs : List V} : H a = some (.lst vs) → RPs c G xs vs → RT c H G (.lst xs) (.ref a)
  | dct {a : Addr} {kvs : List (PD × PD)} {kws : List (Key × V)} : H a = some (.dK kws) → RKs c G kvs kws → RT c H G (.dct kvs) (.ref a)
section
variable {T : Tab} {c : Ct} {k : Nat} {N : List Str} {sc : Scope} {X : Cx} {cal : Cal}
theorem allPK_ok {ρ : List Addr} {G : Hp} : ∀ {kvs : List (PD × LV)} {kws : List (Key × V)} {r : List (PD × PD)}, RKL c ρ G kvs kws → allPK kvs = some r → RKs c G r kws
  | _, _, _, .nil, e => by
    cases e
    exact .nil
  | (k, .p d) :: t, (k', v') :: t', r, .cons h hr, e => by
    have e : (allPK t).map ((k, d) :: ·) = some r := e
    obtain ⟨y, ey, rfl⟩ := Option.map_eq_some_iff.mp e
    exact .cons h.1 h.2 (allPK_ok hr ey)
  | (k, .ref n) :: t, q :: t', r, .cons h hr, e => by cases e
theorem Stt.sh {hid ρ : List Addr} {lh : LH} {H : Hp} (st : Stt c hid ρ lh H) {d : LV} {v : V} {x : PD} (r : RL c ρ (Gz hid ρ lh H) d v) (e : Sim.sh d lh = some x) : RT c H (Gz hid ρ lh H) x v := by
  cases d with
  | p d =>
    have e : some d = some x := e
    cases e
    exact .of r
  | ref i =>
    obtain ⟨a, ha, rfl⟩ := r
    have e : (match lh[i]? with | some (some (.lst xs)) => some (.lst xs) | some (some (.dct kvs)) => (allPK kvs).map .dct | _ => none) = some x := e
    split at e
    · rename_i xs el
      cases e
      obtain ⟨u, hu, ro⟩ := st.ob i _ a el ha
      cases u <;> first | exact ro.elim | skip
      exact .lst hu ro
    · rename_i kvs el
      obtain ⟨u, hu, ro⟩ := st.ob i _ a el ha
      cases u <;> first | exact ro.elim | skip
      obtain ⟨y, ey, rfl⟩ := Option.map_eq_some_iff.mp e
      exact .dct hu (allPK_ok ro ey)
    · cases e
theorem RT.lst_inv {H G : Hp} {xs : List PD} {v : V} (g : Le G H) (h : RT c H G (.lst xs) v) : ∃ a vs, v = .ref a ∧ H a = some (.lst vs) ∧ RPs c G xs vs := by
  cases h with
  | of h =>
    cases h with
    | lst h r => exact ⟨_, _, rfl, g.lst h, r⟩
  | lst h r => exact ⟨_, _, rfl, h, r⟩
theorem RT.tup_inv {H G : Hp} {xs : List PD} {v : V} (g : Le G H) (h : RT c H G (.tup xs) v) : ∃ a vs, v = .ref a ∧ SqT c.K H a vs ∧ SqT c.K G a vs ∧ RPs c G xs vs := by
  cases h with
  | of h =>
    cases h with
    | tup h r => exact ⟨_, _, rfl, g.seqT h, h, r⟩
theorem RT.dct_inv {H G : Hp} {kvs : List (PD × PD)} {v : V} (g : Le G H) (h : RT c H G (.dct kvs) v) : ∃ a kws, v = .ref a ∧ DRd c H a kws ∧ RKs c G kvs kws := by
  cases h with
  | of h =>
    cases h with
    | dct h r => exact ⟨_, _, rfl, h.imp g.rd id, r⟩
  | dct h r => exact ⟨_, _, rfl, .inl (.inl h), r⟩
theorem pints_ok {G : Hp} : ∀ {xs : List PD} {vs : List V} {ns : List Int}, RPs c G xs vs → pints xs = some ns → vs = ns.map V.int
  | _, _, _, .nil, e => by
    cases e
    rfl
  | x :: xs, v :: vs, ns, .cons h r, e => by
    cases x <;> first | (cases e; done) | skip
    have e : (pints xs).map (_ :: ·) = some ns := e
    obtain ⟨y, ey, rfl⟩ := Option.map_eq_some_iff.mp e
    cases h.int_inv
    rw [pints_ok r ey]
    rfl
theorem pbools_ok {G : Hp} : ∀ {xs : List PD} {vs : List V} {ns : List Bool}, RPs c G xs vs → pbools xs = some ns → vs = ns.map V.bl
  | _, _, _, .nil, e => by
    cases e
    rfl
  | x :: xs, v :: vs, ns, .cons h r, e => by
    cases x <;> first | (cases e; done) | skip
    have e : (pbools xs).map (_ :: ·) = some ns := e
    obtain ⟨y, ey, rfl⟩ := Option.map_eq_some_iff.mp e
    cases h.bl_inv
    rw [pbools_ok r ey]
    rfl
theorem keys_ok {G : Hp} : ∀ {kvs : List (PD × PD)} {kws : List (Key × V)}, RKs c G kvs kws → RPs c G (kvs.map (·.1)) (kws.map fun kv => kV kv.1)
  | _, _, .nil => .nil
  | (k, x) :: r, (k', v) :: r', .cons e h hr => by
    refine .cons ?_ (keys_ok hr)
    cases k <;> first | (cases e; done) | skip
    · have e : some (Sum.inl _) = some k' := e
      cases e
      exact .int _
    · have e : some (Sum.inr _) = some k' := e
      cases e
      exact .str _
theorem RKs.length {G : Hp} : ∀ {kvs : List (PD × PD)} {kws : List (Key × V)}, RKs c G kvs kws → kvs.length = kws.length
  | _, _, .nil => rfl
  | _, _, .cons _ _ hr => congrArg (· + 1) hr.length

/-! ### rules by a dict that is read -/
theorem call_len_d (g : GX T c k N sc X) : CallR X (.builtin "len") (fun xs H Q => ∃ a kws, xs = [.ref a] ∧ DRd c H a kws ∧ Q (.int kws.length) H) := by
  intro pins s σ H xs us Q I r h
  obtain ⟨a, kws, rfl, hd, q⟩ := h
  obtain ⟨z, ns, vs, rel, dd⟩ := g.dk I hd
  rw [Vals.ref1 r]
  refine call_len_dict ns dd (by rw [← rel.length]; rw [sizeLine_eq] at z; omega) ?_
  rw [← rel.length]
  exact ⟨.int _, H, I.tok _, ⟨_, rfl⟩, q⟩
theorem call_dict_d (g : GX T c k N sc X) : CallR X (.type "dict") (fun xs H Q => ∃ a kws, xs = [.ref a] ∧ DRd c H a kws ∧ ∀ p, H p = none → Q (.ref p) (upd H p (.dK kws))) := by
  intro pins s σ H xs us Q I r h
  obtain ⟨a, kws, rfl, hd, q⟩ := h
  obtain ⟨z, ns, vs, rel, dd⟩ := g.dk I hd
  rw [Vals.ref1 r]
  refine kt_call_dict ns dd (by rw [← rel.length]; exact z) fun h' dd' hs => ?_
  have J := I.laid (a := s.heap.objs.size) (o := .dK kws) (t' := s.toks) (fun b q hq => (hs.2 b (Nat.ne_of_lt (Heap.lt_size hq))).trans (Heap.get?_push_of_some _ hq)) (Nat.le_refl _) (dk_new z (beq_eq_false_iff_ne.mpr (Ne.symm (Nat.ne_of_lt I.big))) rel dd')
  exact ⟨.ref s.heap.objs.size, _, J, rfl, q _ (I.hok.fresh (Nat.le_refl _))⟩
theorem call_list_d (g : GX T c k N sc X) : CallR X (.type "list") (fun xs H Q => ∃ a kws, xs = [.ref a] ∧ DRd c H a kws ∧ ∀ p, H p = none → Q (.ref p) (upd H p (.lst (kws.map fun kv => kV kv.1)))) := by
  intro pins s σ H xs us Q I r h
  obtain ⟨a, kws, rfl, hd, q⟩ := h
  obtain ⟨z, lo, vs, rel, dd⟩ := g.dk I hd
  rw [Vals.ref1 r]
  obtain ⟨ep, hat⟩ := dd.dictAt
  have ek : (kws.map fun kv => kV kv.1) = vs.map fun p => kV p.1 := by
    have e := congrArg (List.map kV) rel.keys
    rw [List.map_map, List.map_map] at e
    exact e
  refine PySem.W.kdl_call (PySem.W.kdl_dict (knd := mixKind X.prog X.w) (kvs := vs) (ep := ep) lo) (I.ok.hd g.calm) hat (by rw [← rel.length]; exact z) fun h' tk acc c' hk hD hacc => ?_
  have hv : Vals (vs.map fun p => kV p.1) acc.toList := keys_at (by rw [Array.length_toList]; exact hacc.1) fun j v e => hacc.2 j v (by rw [← Array.getElem?_toList]; exact e)
  have ob : ObjOk X.prog X.w (upd H s.heap.objs.size (.lst (kws.map fun kv => kV kv.1))) h' s.heap.objs.size (.lst (kws.map fun kv => kV kv.1)) := ⟨by rw [List.length_map]; exact z, acc.toList, c', by rw [ek]; exact hv, by rw [Array.toArray_toList]; exact hD⟩
  exact ⟨.ref s.heap.objs.size, _, I.laid (t' := tk) hk (Nat.le_refl _) ob, rfl, q _ (I.hok.fresh (Nat.le_refl _))⟩
theorem call_sum_t (g : GX T c k N sc X) : CallR X (.builtin "sum") (fun xs H Q => ∃ (a : Addr) (ns : List Int), xs = [.ref a] ∧ SqT X.K H a (ns.map V.int) ∧ Q (.int ns.sum) H) := by
  intro pins s σ H xs us Q I r h
  obtain ⟨a, ns, rfl, hs, q⟩ := h
  obtain ⟨its, rv, ht, _⟩ := I.tuple hs
  rw [Vals.ref1 r]
  have hi := rv.ints
  obtain ⟨ys, e⟩ := hi.allInts.items
  have hn : numsOf (intItems ys).toList = ns := by rw [← e]; exact hi.numsOf
  rw [nums_intItems] at hn
  rw [e] at ht
  have hT : s.heap.IsTuple a (intItems ys) := ht
  have hlt : a < s.heap.objs.size := let ⟨_, e, _⟩ := hT; Heap.lt_size e
  refine call_sum_walkG (wpAny_pyIter_tuple hT ?_)
  refine ⟨_, [s.heap.objs.size, a], [s.heap.objs.size], _, _, _, numAt ys, rfl, Walks.tuple (A := X.A.in1) (I.ok.hd g.calm) _ a (Nat.ne_of_lt hlt) (intItems ys), ⟨⟨_, Heap.get?_push_size _ rfl, rfl, rfl⟩, hT.push _⟩, fun b hb => ?_, fun _ _ => intItems_at, fun h' tk t' hk => ?_⟩
  · show b < (s.heap.push _).objs.size
    rw [Heap.size_push]
    simp only [List.mem_cons, List.not_mem_nil, or_false] at hb
    rcases hb with rfl | rfl
    · exact Nat.lt_succ_self _
    · exact Nat.lt_succ_of_lt hlt
  · have es : preSum (numAt ys) (intItems ys).size = ns.sum := by
      rw [show (intItems ys).size = ys.size by simp [intItems], preSum_eq, List.take_of_length_le (by simp), hn]
    rw [es]
    refine ⟨.int _, H, I.kept (t' := tk) (h' := h') fun b o eo => hk b o (fun hm => ?_) (Heap.get?_push_of_some _ eo), ⟨_, rfl⟩, q⟩
    simp only [List.mem_cons, List.not_mem_nil, or_false] at hm
    exact absurd (hm ▸ Heap.lt_size eo) (Nat.lt_irrefl _)

/-- a call of a built-in, any of its rules -/
def cAny (X : Cx) (f : Value) : List V → Hp → VK → Prop := fun xs H Q => ∃ r, CallR X f r ∧ r xs H Q
theorem cAny_ok {f : Value} : CallR X f (cAny X f) := by
  intro pins s σ H xs us Q I r h
  obtain ⟨q, hq, z⟩ := h
  exact hq pins s σ H xs us Q I r z
def bfV : BF → Value
  | .len => .builtin "len"
  | .sum => .builtin "sum"
  | .max2 => .builtin "max"
  | .min2 => .builtin "min"
  | .any => .builtin "any"
  | .all => .builtin "all"
  | .int => .type "int"
  | .list => .type "list"
  | .tuple => .type "tuple"
  | .dict => .type "dict"
  | _ => .none
theorem mkDct_out {hid ρ : List Addr} {lh lh0 : LH} {H H0 : Hp} {ρ0 : List Addr} {Q : VK} {W' : XK} {live : Bool} {xs : List (PD × PD)} {vs : List (Key × V)} {p : Addr} (st : Stt c hid ρ lh H) (ex : Ex hid ρ0 lh0 H0 ρ lh H) (rp : RKs c (Gz hid ρ lh H) xs vs) (hp : H p = none)
    (ho : Out c hid ρ0 lh0 H0 Q W' (mkDct live xs lh)) : Q (.ref p) (upd H p (.dK vs)) := by
  cases live with
  | false =>
    have ho : Out c hid ρ0 lh0 H0 Q W' (.ok (.p (.dct xs)) lh) := ho
    obtain ⟨st3, ex3⟩ := st.lay hp (.dK vs)
    exact ho _ _ _ st3 (ex.trans ex3) (.dct (.inl (.inl (st.layAt hp))) (RKs.mono ex3.keep rp))
  | true =>
    have ho : Out c hid ρ0 lh0 H0 Q W' (.ok (.ref lh.length) (lh ++ [some (.dct (xs.map fun q => (q.1, .p q.2)))])) := ho
    have rk : ∀ {xs : List (PD × PD)} {vs : List (Key × V)}, RKs c (Gz hid ρ lh H) xs vs → RKL c (ρ ++ [p]) (Gz hid ρ lh H) (xs.map fun q => (q.1, .p q.2)) vs := by
      intro xs
      induction xs with
      | nil => intro vs h; cases h; exact .nil
      | cons q r ih => intro vs h; cases h with
        | cons e h hr => exact .cons ⟨e, h⟩ (ih hr)
    obtain ⟨st3, ex3⟩ := st.born hp (o := .dct (xs.map fun q => (q.1, LV.p q.2))) (u := .dK vs) (show RKL c (ρ ++ [p]) _ _ _ from rk rp)
    exact ho _ _ _ st3 (ex.trans ex3) ⟨p, by rw [← st.len]; simp, rfl⟩
/-- one argument -/
theorem bfn_one (g : GX T c k N sc X) {b : BF} (hb : (bfNm b).isSome = true) {hid ρ : List Addr} {lh : LH} {H : Hp} {Q : VK} {W' : XK} {live : Bool} {x : PD} {v : V} (st : Stt c hid ρ lh H) (r : RT c H (Gz hid ρ lh H) x v) (ho : Out c hid ρ lh H Q W' (bfn b live [x] lh)) : cAny X (bfV b) [v] H Q := by
  have hK := g.hK
  cases b <;> first | (cases hb; done) | (cases x <;> exact ho.elim; done) | skip
  · -- len
    cases x <;> first | exact ho.elim | skip
    · rename_i z
      cases r with
      | of r =>
        cases r.str_inv
        have ho : Out c hid ρ lh H Q W' (if z.length ≤ sizeLine then .ok (.p (.int z.length)) lh else .bad) := ho
        split at ho
        · rename_i hl
          exact ⟨_, call_len_str, _, rfl, hl, ho _ _ _ st Ex.refl (.int _)⟩
        · exact ho.elim
    · obtain ⟨a, vs, rfl, h1, _, r⟩ := r.tup_inv Gz_sub
      refine ⟨_, call_len_seq, _, _, rfl, .inr (by rw [hK]; exact h1), ?_⟩
      rw [← r.length]
      exact ho _ _ _ st Ex.refl (.int _)
    · obtain ⟨a, vs, rfl, h1, r⟩ := r.lst_inv Gz_sub
      refine ⟨_, call_len_seq, _, _, rfl, .inl (SqL.of h1), ?_⟩
      rw [← r.length]
      exact ho _ _ _ st Ex.refl (.int _)
    · obtain ⟨a, vs, rfl, h1, r⟩ := r.dct_inv Gz_sub
      refine ⟨_, call_len_d g, _, _, rfl, h1, ?_⟩
      rw [← r.length]
      exact ho _ _ _ st Ex.refl (.int _)
  · -- sum
    cases x <;> first | exact ho.elim | skip
    · obtain ⟨a, vs, rfl, h1, _, r⟩ := r.tup_inv Gz_sub
      obtain ⟨d, ed, ho⟩ := ho.of_some
      obtain ⟨ns, en, rfl⟩ := Option.map_eq_some_iff.mp ed
      rw [pints_ok r en] at h1
      exact ⟨_, call_sum_t g, _, _, rfl, by rw [hK]; exact h1, ho _ _ _ st Ex.refl (.int _)⟩
    · obtain ⟨a, vs, rfl, h1, r⟩ := r.lst_inv Gz_sub
      obtain ⟨d, ed, ho⟩ := ho.of_some
      obtain ⟨ns, en, rfl⟩ := Option.map_eq_some_iff.mp ed
      rw [pints_ok r en] at h1
      exact ⟨_, cr_sum g.calm, _, _, rfl, SqL.of h1, ho _ _ _ st Ex.refl (.int _)⟩
  · -- int
    cases x <;> first | exact ho.elim | skip
    · cases r with
      | of r =>
        cases r.bl_inv
        exact ⟨_, call_int1, .inr ⟨_, rfl, ho _ _ _ st Ex.refl (.int _)⟩⟩
    · cases r with
      | of r =>
        cases r.int_inv
        exact ⟨_, call_int1, .inl ⟨_, rfl, ho _ _ _ st Ex.refl (.int _)⟩⟩
  · -- list
    cases x <;> first | exact ho.elim | skip
    · obtain ⟨a, vs, rfl, h1, _, r⟩ := r.tup_inv Gz_sub
      exact ⟨_, call_list_of, _, _, rfl, .inr (by rw [hK]; exact h1), fun l hl => mkLst_out st Ex.refl r hl ho⟩
    · obtain ⟨a, vs, rfl, h1, r⟩ := r.lst_inv Gz_sub
      exact ⟨_, call_list_of, _, _, rfl, .inl (SqL.of h1), fun l hl => mkLst_out st Ex.refl r hl ho⟩
    · obtain ⟨a, vs, rfl, h1, r⟩ := r.dct_inv Gz_sub
      exact ⟨_, call_list_d g, _, _, rfl, h1, fun l hl => mkLst_out st Ex.refl (keys_ok r) hl ho⟩
    · rename_i ns
      cases r with
      | of r =>
        cases r with
        | scr h1 =>
          have rp : ∀ ns : List Int, RPs c (Gz hid ρ lh H) (ns.map .int) (ns.map V.int) := fun ns => by
            induction ns with
            | nil => exact .nil
            | cons n r ih => exact .cons (.int n) ih
          exact ⟨_, call_list_of, _, _, rfl, .inl (by rw [hK]; exact Gz_sub.seqL h1), fun l hl => mkLst_out st Ex.refl (rp ns) hl ho⟩
  · -- tuple
    cases x <;> first | exact ho.elim | skip
    · obtain ⟨a, vs, rfl, h1, h2, r⟩ := r.tup_inv Gz_sub
      exact ⟨_, call_tuple_of, _, _, rfl, .inr ⟨by rw [hK]; exact h1, ho _ _ _ st Ex.refl (.tup h2 r)⟩⟩
    · obtain ⟨a, vs, rfl, h1, r⟩ := r.lst_inv Gz_sub
      refine ⟨_, call_tuple_of, _, _, rfl, .inl ⟨SqL.of h1, fun l hl => ?_⟩⟩
      obtain ⟨st3, ex3⟩ := st.lay hl (.tup vs)
      exact ho _ _ _ st3 ex3 (.tup (SqT.of (st.layAt hl)) (RPs.mono ex3.keep r))
  · -- dict
    cases x <;> first | exact ho.elim | skip
    obtain ⟨a, vs, rfl, h1, r⟩ := r.dct_inv Gz_sub
    exact ⟨_, call_dict_d g, _, _, rfl, h1, fun l hl => mkDct_out st Ex.refl r hl ho⟩
  · -- any
    cases x <;> first | exact ho.elim | skip
    obtain ⟨a, vs, rfl, h1, r⟩ := r.lst_inv Gz_sub
    obtain ⟨d, ed, ho⟩ := ho.of_some
    obtain ⟨bs, en, rfl⟩ := Option.map_eq_some_iff.mp ed
    rw [pbools_ok r en] at h1
    exact ⟨_, cr_any g.calm, _, _, rfl, SqL.of h1, ho _ _ _ st Ex.refl (.bl _)⟩
  · -- all
    cases x <;> first | exact ho.elim | skip
    obtain ⟨a, vs, rfl, h1, r⟩ := r.lst_inv Gz_sub
    obtain ⟨d, ed, ho⟩ := ho.of_some
    obtain ⟨bs, en, rfl⟩ := Option.map_eq_some_iff.mp ed
    rw [pbools_ok r en] at h1
    exact ⟨_, cr_all g.calm, _, _, rfl, SqL.of h1, ho _ _ _ st Ex.refl (.bl _)⟩
/-- two arguments -/
theorem bfn_two (g : GX T c k N sc X) {hid ρ : List Addr} {lh : LH} {H : Hp} {Q : VK} {W' : XK} {b : BF} {live : Bool} {x y : PD} {v w : V} (st : Stt c hid ρ lh H) (r : RP c (Gz hid ρ lh H) x v) (r2 : RP c (Gz hid ρ lh H) y w) (ho : Out c hid ρ lh H Q W' (bfn b live [x, y] lh)) : cAny X (bfV b) [v, w] H Q := by
  cases b <;> first | (cases x <;> cases y <;> exact ho.elim; done) | skip
  · cases x <;> cases y <;> first | exact ho.elim | skip
    cases r.int_inv; cases r2.int_inv
    exact ⟨_, call_max2 g.calm, _, _, rfl, ho _ _ _ st Ex.refl (.int _)⟩
  · cases x <;> cases y <;> first | exact ho.elim | skip
    cases r.int_inv; cases r2.int_inv
    exact ⟨_, call_min2 g.calm, _, _, rfl, ho _ _ _ st Ex.refl (.int _)⟩
end
end Sim
end
section
set_option Elab.async false
set_option linter.all false
set_option maxRecDepth 100000
set_option maxHeartbeats 1000000
/-! The Sim layer, M: calls of built-ins in the text; isinstance; append, get. -/
namespace Sim
open PySem PySem.Spec PyProof.Rows L2
section
variable {T : Tab} {c : Ct} {k : Nat} {N : List Str} {sc : Scope} {X : Cx} {cal : Cal}
theorem bf_boot {b : BF} {x : Str} (h : bfNm b = some x) : x ∈ bltNames ∧ bootBuiltins x = some (bfV b) ∧ ((∃ id, bfV b = .builtin id) ∨ ∃ t, bfV b = .type t) := by
  cases b <;> first | (cases h; done) | skip
  all_goals (cases h; refine ⟨by decide +kernel, by decide +kernel, ?_⟩)
  · exact .inl ⟨_, rfl⟩
  · exact .inl ⟨_, rfl⟩
  · exact .inl ⟨_, rfl⟩
  · exact .inl ⟨_, rfl⟩
  · exact .inr ⟨_, rfl⟩
  · exact .inr ⟨_, rfl⟩
  · exact .inr ⟨_, rfl⟩
  · exact .inr ⟨_, rfl⟩
  · exact .inl ⟨_, rfl⟩
  · exact .inl ⟨_, rfl⟩
/-- a call of a built-in by its name -/
theorem we_blt (g : GX T c k N sc X) {x : Str} {v : Value} {e : Expr} {es : List Expr} {p pos : Pos} {σ : L2.St} {H : Hp} {Q : VK} (h2 : glbB sc x = true) (h3 : nmB x = true) (hm : x ∈ bltNames) (hb : bootBuiltins x = some v) (hv : (∃ id, v = .builtin id) ∨ ∃ t, v = .type t)
    (pl : isStar e = false) (pls : (es.all fun e => !isStar e) = true) (h : WA X (e :: es) σ H fun vs H1 => cAny X v vs H1 Q) : WE X (.Call (.Name x p) (e :: es) [] pos) σ H Q := by
  obtain ⟨n1, _, n3⟩ := nmB_ok h3
  rcases hv with ⟨id, rfl⟩ | ⟨id, rfl⟩
  · exact WE.of (pe_callB cAny_ok (g.gl h2) (g.blt x hm) hb pa_wa n3 n1 (star_of pl) (back_plain pls)) h
  · exact WE.of (pe_callTy cAny_ok (g.gl h2) (g.blt x hm) hb pa_wa n3 n1 (star_of pl) (back_plain pls)) h
theorem snd_bf (g : GX T c k N sc X) {b : BF} {live : Bool} {qs : List C} {x : Str} {p pos : Pos} {es : List Expr} (h : chk T N sc (.bf b live qs) (.Call (.Name x p) es [] pos) = true) (s : SndA T c cal X qs es) : SndE T c cal X (.bf b live qs) (.Call (.Name x p) es [] pos) := by
  intro hid ρ lh H σ env Q W tk st re ho
  have h : (nmIs (bfNm b) x && glbB sc x && nmB x && !es.isEmpty && chks T N sc qs es) = true := h
  obtain ⟨h, h5⟩ := b2 h
  obtain ⟨h, h4⟩ := b2 h
  obtain ⟨h, h3⟩ := b2 h
  obtain ⟨h1, h2⟩ := b2 h
  have h1 := nmIs_ok h1
  obtain ⟨pl, len⟩ := chks_plain h5
  obtain ⟨m1, m2, m3⟩ := bf_boot h1
  cases es with
  | nil => cases h4
  | cons e es =>
    simp only [List.all_cons, Bool.and_eq_true, Bool.not_eq_true'] at pl
    refine we_blt g h2 h3 m1 m2 m3 pl.1 pl.2 ?_
    refine s.use tk st re (f := fun ds h => match ds with
      | [x] => match sh x h with
        | some x => bfn b live [x] h
        | none => .bad
      | [.p x, .p y] => bfn b live [x, y] h
      | _ => .bad) ho fun vs H1 ρ1 ds lh1 st1 ex1 rs re1 len1 ho1 => ?_
    split at ho1
    · rename_i d
      cases rs with
      | cons r rr =>
        cases rr
        split at ho1
        · rename_i y ey
          exact bfn_one g (by rw [h1]; rfl) st1 (st1.sh r ey) ho1
        · exact ho1.elim
    · rename_i d1 d2
      cases rs with
      | cons r rr =>
        cases rr with
        | cons r2 rr =>
          cases rr
          exact bfn_two g st1 r r2 ho1
    · exact ho1.elim

/-! ### isinstance -/
def tagS : Tag → String
  | .non => "NoneType"
  | .bool => "bool"
  | .int => "int"
  | .str => "str"
  | .tuple => "tuple"
  | .list => "list"
  | .dict => "dict"
theorem kit_tab {t : TY} {g : Tag} {r : Bool} {n : String} (h : isiT t g = some r) (hn : tyS t = some n) : kitB (tagS g) n = some r := by
  cases t <;> first | (cases hn; done) | skip
  all_goals (cases hn; cases g <;> cases h <;> decide +kernel)
theorem KDk.dict {a : Addr} {kws : List (Key × V)} (h : KDk c a kws) : ∃ o, c.K.lookup a = some o ∧ o.cls = .type "dict" := by
  obtain ⟨_, _, ⟨o, es, ep, e1, e2, e3⟩, _⟩ := h
  exact ⟨o, e1, e2.1⟩
theorem tag_ty (g : GX T c k N sc X) {H : Hp} {d : PD} {v : V} {t : Tag} (r : RP c H d v) (e : tagOf d = some t) : TyX X.K H v (.type (tagS t)) := by
  cases r <;> first | (cases e; done) | skip
  all_goals cases e
  · exact .base .non
  · exact .base (.bl _)
  · exact .base (.int _)
  · exact .base (.str _)
  · rename_i h _
    rcases h with (h | ⟨o, h⟩) | ⟨o, its, n, h1, h2, _⟩
    · exact .base (.tup h)
    · exact .fTuple h
    · exact .kTuple (by rw [g.hK]; exact h1) h2
  · rename_i h _
    exact .base (.lst h)
  · rename_i h _
    rcases h with (h | ⟨o, h⟩) | h
    · exact .base (.dK h)
    · exact .fDict h
    · obtain ⟨o, h1, h2⟩ := h.dict
      exact .kDict (by rw [g.hK]; exact h1) h2
theorem ty_boot {t : TY} {n : String} (h : tyS t = some n) : ∃ x, tyNm T t = some x ∧ x ∈ bltNames ∧ bootBuiltins x = some (.type n) := by
  cases t <;> first | (cases h; done) | skip
  all_goals (cases h; exact ⟨_, rfl, by decide +kernel, by decide +kernel⟩)
theorem isiB_tag {t : TY} {z : PD} {b : Bool} (ht : (tyS t).isSome = true) (e : isiB t z = some b) : ∃ tg, tagOf z = some tg ∧ isiT t tg = some b := by
  cases z with
  | obj k2 fs => cases t <;> first | (cases ht; done) | (cases e; done)
  | scr ns => cases e
  | non => exact ⟨_, rfl, e⟩
  | bl x => exact ⟨_, rfl, e⟩
  | int x => exact ⟨_, rfl, e⟩
  | str x => exact ⟨_, rfl, e⟩
  | tup x => exact ⟨_, rfl, e⟩
  | lst x => exact ⟨_, rfl, e⟩
  | dct x => exact ⟨_, rfl, e⟩
theorem snd_isi (g : GX T c k N sc X) {a : C} {t : TY} {ea : Expr} {x y : Str} {p p2 pos : Pos} (h : chk T N sc (.isi a t) (.Call (.Name x p) [ea, .Name y p2] [] pos) = true) (ht : (tyS t).isSome = true) (sa : SndE T c cal X a ea) :
    SndE T c cal X (.isi a t) (.Call (.Name x p) [ea, .Name y p2] [] pos) := by
  intro hid ρ lh H σ env Q W tk st re ho
  have h : (decide (x = "isinstance") && nmIs (tyNm T t) y && (tyS t).isSome && glbB sc x && glbB sc y && nmB y && !isStar ea && chk T N sc a ea) = true := h
  obtain ⟨h, h7⟩ := b2 h
  obtain ⟨h, h6⟩ := b2 h
  obtain ⟨h, h5⟩ := b2 h
  obtain ⟨h, h4⟩ := b2 h
  obtain ⟨h, h3⟩ := b2 h
  obtain ⟨h, _⟩ := b2 h
  obtain ⟨h1, h2⟩ := b2 h
  have h1 : x = "isinstance" := of_decide_eq_true h1
  subst h1
  have h2 := nmIs_ok h2
  obtain ⟨n1, _, n3⟩ := nmB_ok h5
  cases en : tyS t with
  | none => rw [en] at ht; cases ht
  | some n =>
    obtain ⟨y', e1, m1, m2⟩ := ty_boot (T := T) en
    rw [h2] at e1
    cases e1
    refine we_blt g h3 (by decide +kernel) (by decide +kernel) (by decide +kernel) (.inl ⟨"isinstance", rfl⟩) (bn h6) rfl ?_
    refine WA.of (pa_cons pe_we (pa_cons (pe_bltn (v := .ty n) (g.gl h4) (g.blt y m1) m2 rfl n3 n1) pa_nil) (star_of (bn h6))) ?_
    refine sa.use tk st re (f := fun x h => match peek 9 x h with | some x => R.of ((isiB t x).map fun b => .p (.bl b)) h | none => .bad) ho fun v H1 ρ1 d lh1 st1 ex1 r1 re1 ho1 => ?_
    split at ho1
    · rename_i z ez
      obtain ⟨w, e3, ho2⟩ := ho1.of_some
      obtain ⟨b, e4, rfl⟩ := Option.map_eq_some_iff.mp e3
      have rz := st1.peek r1 ez
      obtain ⟨tg, q1, q2⟩ := isiB_tag ht e4
      exact ⟨_, call_isi, v, .ty n, _, .type n, b, rfl, .ty n, tag_ty g rz q1, kit_ty (kit_tab q2 en), ho2 _ _ _ st1 Ex.refl (.bl _)⟩
    · exact ho1.elim
end
end Sim
end
section
set_option Elab.async false
set_option linter.all false
set_option maxRecDepth 100000
set_option maxHeartbeats 4000000
/-! The Sim layer, Se: set(t) of a tuple, its items added one by one. -/
namespace Sim
open PySem PySem.Spec PyProof.Rows L2
/-- what an update loop keeps: J i behind i items -/
theorem upd_loop {P : Program} {w : World} {A : Around} {I S : Addr} {fp wr : List Addr} {G : Array GenState → Array GenState → Prop} {n : Nat} {Pv : Nat → Value → Prop} {St : Nat → Shared → Prop} {R : Result → Shared → Prop} {J : Nat → Heap → Prop}
    (W : WalksS P w A.in1 I fp wr G n Pv St) (hSf : S ∉ fp) (hJ : ∀ i h h', J i h → (∀ b o, b ∉ wr → h.get? b = some o → h'.get? b = some o) → J i h')
    (hadd : ∀ (i : Nat) (v : Value) (s : Shared) (Q : Bool → Shared → Prop) (E : Value → Shared → Prop), i < n → Pv i v → J i s.heap → (∀ (b : Bool) (h' : Heap) (tk : Nat), s.toks ≤ tk → Heap.SameBut S s.heap h' → J (i + 1) h' → Q b { s with heap := h', toks := tk }) → wpAny (model P w) A.in1 (setAdd S v) Q E s) :
    ∀ (k i : Nat) (s : Shared), n - i = k → i ≤ n → St i s → J i s.heap → (∀ s', Moved (S :: wr) G s s' → J n s'.heap → R (.ok (.ret .none)) s') → codeAny (model P w) A (.builtin "set.update.loop" ⟨[.ref S, .ref I], []⟩) R s := by
  have up : ∀ b ∈ wr, b ∈ S :: wr := fun b hb => List.mem_cons_of_mem _ hb
  intro k
  induction k with
  | zero =>
    intro i s hk hi st hj hR
    obtain rfl : i = n := by omega
    refine codeAny_builtin PyProof.Rows.F.entry_set_update_loop ?_
    rw [Around.under_plainId PyProof.Rows.F.plain_set_update_loop _]
    refine wpAny_bind (m := pyNext (.ref I)) (W.done s _ _ st fun s' hm => ?_)
    exact wpAny_pure (hR s' (hm.mono up) (hJ _ _ _ hj fun b o hb e => hm.heap b o hb e))
  | succ k ih =>
    intro i s hk hi st hj hR
    have lt : i < n := by omega
    refine codeAny_builtin PyProof.Rows.F.entry_set_update_loop ?_
    rw [Around.under_plainId PyProof.Rows.F.plain_set_update_loop _]
    refine wpAny_bind (m := pyNext (.ref I)) (W.item i s _ _ lt st fun v s' hv st' hm => ?_)
    have hj' : J i s'.heap := hJ _ _ _ hj fun b o hb e => hm.heap b o hb e
    refine wpAny_bind (m := holding [v] (setAdd S v)) (wpAny_holding (hadd i v s' _ _ lt hv hj' fun b h' tk ht sb hj2 => ?_))
    refine wpAny_pure ⟨plainId_quiet PyProof.Rows.F.plain_set_update_loop _, ih (i + 1) _ (by omega) lt (W.frame _ s' _ _ st' ht fun b hb o e => ?_) hj2 fun s2 hm2 hj3 => ?_⟩
    · rw [sb.2 b fun z => hSf (z ▸ hb)]
      exact e
    · refine hR s2 (Moved.trans W.gtrans ((hm.mono up).then_heap ht fun b o hb e => ?_) hm2) hj3
      rw [sb.2 b fun z => hb (z ▸ List.mem_cons_self)]
      exact e
/-- the object of a new set -/
abbrev setO (w : World) : Obj := { cls := .type "set", dict := none, data := .set #[] 0 (.fresh 0 0 (!w.params.followText "set-order")) }
section
variable {P : Program} {w : World} {A : Around} {E : Value → Shared → Prop} {s : Shared}
/-- set(t): the opening, up to the loop -/
theorem set_tup {l : Addr} {items : Array Value} {Q : Value → Shared → Prop} {J : Nat → Heap → Prop} (hh : A.handled = none) (hl : s.heap.IsTuple l items)
    (hJ : ∀ i (h h' : Heap), J i h → (∀ b o, b ∉ ([s.heap.objs.size + 1] : List Addr) → h.get? b = some o → h'.get? b = some o) → J i h') (h0 : ∀ h : Heap, h.get? s.heap.objs.size = some (setO w) → (∀ b o, s.heap.get? b = some o → h.get? b = some o) → J 0 h)
    (hadd : ∀ (A : Around) (i : Nat) (v : Value) (s1 : Shared) (Q : Bool → Shared → Prop) (E : Value → Shared → Prop), A.handled = none → i < items.size → items[i]? = some v → J i s1.heap → (∀ (b : Bool) (h' : Heap) (tk : Nat), s1.toks ≤ tk → Heap.SameBut s.heap.objs.size s1.heap h' → J (i + 1) h' → Q b { s1 with heap := h', toks := tk }) → wpAny (model P w) A (setAdd s.heap.objs.size v) Q E s1)
    (hq : ∀ (h' : Heap) (tk : Nat), J items.size h' → (∀ b o, s.heap.get? b = some o → h'.get? b = some o) → Q (.ref s.heap.objs.size) { s with heap := h', toks := tk }) :
    wpAny (model P w) A (call (.type "set") [.ref l]) Q E s := by
  obtain ⟨c, tl, hmro⟩ := F.called_set.mro
  have m1 := F.called_set.made
  have m2 := F.called_set.sub
  have m3 := F.called_set.notType
  have m4 := F.called_set.canCreate
  have m5 := F.typeCall_set_1 (.ref l)
  refine wpAny_call (codeAny_of_tree ?_)
  show wpAny _ _ (callAny (.type "set") _) _ _ _
  refine wpAny_pure ⟨Code.quiet_builtin _ (by decide +kernel), codeAny_builtin F.entry_type_call ?_⟩
  rw [Around.under_plain (weight_type_call_type "set" [.ref l] []) rfl]
  repeat (any_goals (first | assumption | wp_step))
  refine codeAny_mono (code_set_led1 (.ref l) (E := E) (Q₁ := fun ob s1 => ob = .ref s.heap.objs.size ∧ s1 = { s with heap := s.heap.push (setO w) }) ⟨rfl, rfl⟩) fun r s1 hr => ?_
  cases r with
  | error e => exact hr
  | ok fl =>
    cases fl with
    | ret ob =>
      obtain ⟨rfl, rfl⟩ := hr
      have hS : (s.heap.push (setO w)).get? s.heap.objs.size = some (setO w) := Heap.get?_push_size _ rfl
      have hT : Shared.TypeIs { s with heap := s.heap.push (setO w) } (.ref s.heap.objs.size) "set" := ⟨_, hS, rfl⟩
      have n1 := F.called_set.init.lookup
      have n2 := F.called_set.init.bind (.ref s.heap.objs.size)
      repeat (any_goals (first | assumption | wp_step))
      refine codeAny_mono (codeAny_call_builtin (R := wants (fun r s2 => r = .none ∧ ∃ h' tk, s2 = { s with heap := h', toks := tk } ∧ J items.size h' ∧ (∀ b o, s.heap.get? b = some o → h'.get? b = some o)) E) F.called_set.init.plain F.entry_set_init (check_set_init_1 hT ?_)) fun r2 s2 hr2 => ?_
      · obtain ⟨⟨oc, od, oda, osl⟩, hol, hcl, nl, hdl⟩ := hl
        simp only at hcl hdl
        subst hcl hdl
        have hol' : (s.heap.push (setO w)).get? l = some { cls := .type "tuple", dict := od, data := .seq items nl, slots := osl } := Heap.get?_push_of_some _ hol
        have k1 := F.sub_tuple_set
        have k2 := F.sub_tuple_frozenset
        have k3 : (Value.type "tuple" == Value.type "dict") = false := by decide
        have hl1 : (s.heap.push (setO w)).IsTuple l items := ⟨_, hol', rfl, nl, rfl⟩
        have lS : l < s.heap.objs.size := Heap.lt_size hol
        have hz : (s.heap.push (setO w)).objs.size = s.heap.objs.size + 1 := Heap.size_push ..
        have hlI : l ≠ (s.heap.push (setO w)).objs.size := by rw [hz]; exact Nat.ne_of_lt (Nat.lt_succ_of_lt lS)
        have hSf : s.heap.objs.size ∉ [(s.heap.push (setO w)).objs.size, l] := by
          rw [hz]
          intro hm
          rcases List.mem_cons.mp hm with z | z
          · exact Nat.ne_of_lt (Nat.lt_succ_self _) z
          · exact Nat.ne_of_gt lS (List.mem_singleton.mp z)
        unfold Builtin.«set.__init__» noKeywords Builtin.Frozenset.updateFrom
        generalize hPI : pyIter = PI
        wp_walk
        subst hPI
        refine wpAny_pyIter_tuple hl1 (wpAny_bind (wpAny_runValue ?_))
        have hh3 : A.in1.in1.in1.handled = none := by simp [hh]
        have hz2 := hz
        refine upd_loop (J := J) ((Walks.tuple hh3 _ l hlI items).toS) hSf (fun i h h' j k => hJ i h h' j fun b o hb e => k b o (by rw [hz]; exact hb) e) (fun i v s1 Q E hi hv hj q => hadd _ i v s1 Q E hh3 hi hv hj q) (items.size - 0) 0 _ rfl (Nat.zero_le _) ⟨⟨_, Heap.get?_push_size _ rfl, rfl, rfl⟩, hl1.push _⟩ ?_ ?_
        · exact h0 _ (Heap.get?_push_of_some _ hS) fun b o e => Heap.get?_push_of_some _ (Heap.get?_push_of_some _ e)
        · intro s' hm hj
          obtain ⟨h', g', d', tk', os'⟩ := s'
          have e1 : g' = s.gens := hm.gens
          have e2 : d' = s.drawn := hm.drawn
          have e3 : os' = s.os := hm.os
          subst e1 e2 e3
          refine wpAny_pure ?_
          refine wpAny_pure ⟨rfl, h', tk', rfl, hj, fun b o e => ?_⟩
          have bl : b < s.heap.objs.size := Heap.lt_size e
          refine hm.heap b o (fun hb => ?_) (Heap.get?_push_of_some _ (Heap.get?_push_of_some _ e))
          rcases List.mem_cons.mp hb with z | z
          · exact Nat.ne_of_lt bl z
          · have z := List.mem_singleton.mp z
            rw [hz] at z
            exact Nat.ne_of_lt (Nat.lt_succ_of_lt bl) z
      · cases r2 with
        | error e => exact hr2
        | ok fl2 =>
          cases fl2 with
          | ret r =>
            obtain ⟨rfl, h', tk, rfl, hj, hk⟩ := hr2
            repeat (any_goals (first | assumption | wp_step))
            exact hq _ _ hj hk
          | _ => exact hr2.elim
    | _ => exact hr.elim
end
end Sim
end
section
set_option Elab.async false
set_option linter.all false
set_option maxRecDepth 100000
set_option maxHeartbeats 4000000
/-! The Sim layer, Sf: sets of texts, sorted(set(t)). -/
namespace Sim
open PySem PySem.Spec PyProof.Rows L2
/-- at a: a set that holds the texts l -/
def TxR (P : Program) (w : World) (h : Heap) (a : Addr) (l : List Str) : Prop := l.Nodup ∧ ∃ D : Froz.SD, h.get? a = some (Froz.sObj "set" D) ∧ Froz.TxOk P w D l ∧ Ris D.2.2.place.toList ∧ (w.params.followText "set-order" = true ∨ D.2.2.led = true)
section
variable {P : Program} {w : World} {A : Around} {E : Value → Shared → Prop} {s : Shared} {a : Addr} {l : List Str} {k : Str}
theorem TxR.at {h h' : Heap} (R : TxR P w h a l) (kp : ∀ o, h.get? a = some o → h'.get? a = some o) : TxR P w h' a l := by
  obtain ⟨nd, D, ho, r⟩ := R
  exact ⟨nd, D, kp _ ho, r⟩
theorem tail_ris {ep : Nat} {es1 : Array (Int × Value)} {t2 : SetTable} {wd : Bool} (r : Ris t2.place.toList) : Ris (Froz.tailTx ep es1 t2 wd).2.2.place.toList := by
  unfold Froz.tailTx
  split
  · exact relayAll_ris _ _ _
  · exact r
theorem tail_led {ep : Nat} {es1 : Array (Int × Value)} {t2 : SetTable} {wd : Bool} : (Froz.tailTx ep es1 t2 wd).2.2.led = t2.led := by
  unfold Froz.tailTx
  split
  · exact relayAll_led _ _ _
  · rfl
theorem addTx_ris {hv : Int} {v : Value} {D : Froz.SD} (r : Ris D.2.2.place.toList) : Ris (Froz.addTx hv v D).2.2.place.toList := by
  unfold Froz.addTx
  refine tail_ris ?_
  have := layNew_ris D.2.2 D.1 hv v r
  split
  · exact this
  · exact this
theorem addTx_led {hv : Int} {v : Value} {D : Froz.SD} : (Froz.addTx hv v D).2.2.led = D.2.2.led := by
  unfold Froz.addTx
  rw [tail_led]
  have := layNew_led D.2.2 D.1 hv v
  split
  · exact this
  · exact this
/-- s.add(k) -/
theorem tx_add {u : Tok} {Q : Bool → Shared → Prop} (R : TxR P w s.heap a l) (hb : l.length + 1 < scanBound) (h : ∀ (b : Bool) (h' : Heap), Heap.SameBut a s.heap h' → TxR P w h' a (if k ∈ l then l else k :: l) → Q b { s with heap := h', toks := s.toks + 1 }) : wpAny (model P w) A (setAdd a (.str k u)) Q E s := by
  obtain ⟨nd, D, ho, F, r, hl⟩ := R
  unfold setAdd
  refine wpAny_holding (wpAny_bind ((strKind P w).pyHash (k := k) (Froz.is_str k u) ?_))
  by_cases hk : k ∈ l
  · obtain ⟨es, ep, t⟩ := D
    have hd : (Froz.sObj "set" (es, ep, t)).data = .set es ep t := rfl
    have hf : t.fits es.size = true := F.fit
    have hel : ElemsOf (strKind P w) es.toList := F.el
    have hsz : es.size = l.length := F.sz
    obtain ⟨j, hj⟩ : ∃ j, List.findIdx? (fun e => (strKind P w).is k e.2) es.toList = some j := by
      cases z : List.findIdx? (fun e => (strKind P w).is k e.2) es.toList with
      | some j => exact ⟨j, rfl⟩
      | none =>
        obtain ⟨e, he, hp⟩ := (F.mem k).mp hk
        have := List.findIdx?_eq_none_iff.mp z e he
        rw [hp] at this
        cases this
    show wpAny _ _ (setAddHashed a (.str k u) ((strKind P w).hash k)) _ _ _
    unfold setAddHashed setAddHashedIn
    refine wpAny_holding (wpAny_bind (wpAny_setState_of (s := { s with toks := s.toks + 1 }) ho hd hf ?_))
    dsimp only
    rw [byScan_of rfl (by omega) hel]
    simp only [↓reduceIte]
    unfold setAddByScan
    refine wpAny_bind (wpAny_bind (wpAny_rule (wpAny_bind (wpAny_setScan_of (Froz.is_str k u) ho hd hf hel ?_))))
    rw [hj]
    dsimp only
    refine wpAny_pure (wpAny_pure (h _ _ (Heap.SameBut.refl a s.heap) ?_))
    rw [if_pos hk]
    exact ⟨nd, (es, ep, t), ho, F, r, hl⟩
  · refine Froz.add_x (s := { s with toks := s.toks + 1 }) ho F hk hb (h _ _ ⟨by simp, fun b hb => Heap.get?_update_other _ _ (Ne.symm hb)⟩ ?_)
    rw [if_neg hk]
    refine ⟨List.nodup_cons.mpr ⟨hk, nd⟩, _, Froz.get_upd _ ho rfl, Froz.add_ok u F, addTx_ris r, hl.imp id fun z => by rw [addTx_led]; exact z⟩
end
end Sim
end
section
set_option Elab.async false
set_option linter.all false
set_option maxRecDepth 100000
set_option maxHeartbeats 4000000
/-! The Sim layer, Sg: sorted(set(t)) of a tuple of texts. -/
namespace Sim
open PySem PySem.Spec PyProof.Rows L2
/-! ### the order -/
abbrev LeS (a b : Str) : Prop := ltCps b.cps.toList a.cps.toList = false
theorem leS_iff {a b : Str} : LeS a b ↔ a.cps.toList ≤ b.cps.toList := by
  unfold LeS
  rw [ltCps_eq, decide_eq_false_iff_not, List.not_lt]
theorem leS_anti {a b : Str} (h1 : LeS a b) (h2 : LeS b a) : a = b := by
  have e := List.le_antisymm (leS_iff.mp h1) (leS_iff.mp h2)
  obtain ⟨⟨x⟩⟩ := a
  obtain ⟨⟨y⟩⟩ := b
  have e : x = y := e
  rw [e]
theorem leS_trans {a b c : Str} (h1 : LeS a b) (h2 : LeS b c) : LeS a c := leS_iff.mpr (List.le_trans (leS_iff.mp h1) (leS_iff.mp h2))
theorem leS_of_not {a b : Str} (h : ¬ LeS a b) : LeS b a := by
  rcases List.le_total a.cps.toList b.cps.toList with z | z
  · exact absurd (leS_iff.mpr z) h
  · exact leS_iff.mpr z
theorem pairwise_of_rising : ∀ {l : List Str} {p : Str}, risingS p l = true → (p :: l).Pairwise LeS
  | [], p, _ => List.pairwise_singleton _ _
  | x :: r, p, h => by
    obtain ⟨h1, h2⟩ := b2 (show (!ltCps x.cps.toList p.cps.toList && risingS x r) = true from h)
    have ih := pairwise_of_rising h2
    refine List.pairwise_cons.mpr ⟨fun y hy => ?_, ih⟩
    rcases List.mem_cons.mp hy with rfl | hy
    · exact bn h1
    · exact leS_trans (bn h1) ((List.pairwise_cons.mp ih).1 y hy)
theorem pairwise_of_sorted : ∀ {l : List Str}, sortedS l = true → l.Pairwise LeS
  | [], _ => List.Pairwise.nil
  | _ :: _, h => pairwise_of_rising h
theorem ins_perm {x : Str} : ∀ {l : List Str}, (insS x l).Perm (x :: l)
  | [] => .refl _
  | y :: r => by
    unfold insS
    split
    · exact (List.Perm.cons y ins_perm).trans (List.Perm.swap x y r)
    · exact .refl _
theorem isS_perm : ∀ {l : List Str}, (isS l).Perm l
  | [] => .refl _
  | x :: r => ins_perm.trans (List.Perm.cons x isS_perm)
theorem ins_sorted {x : Str} : ∀ {l : List Str}, l.Pairwise LeS → (insS x l).Pairwise LeS
  | [], _ => List.pairwise_singleton _ _
  | y :: r, h => by
    obtain ⟨h1, h2⟩ := List.pairwise_cons.mp h
    unfold insS
    split
    · rename_i c
      have hyx : LeS y x := leS_of_not fun z => by rw [show ltCps y.cps.toList x.cps.toList = false from z] at c; cases c
      refine List.pairwise_cons.mpr ⟨fun z hz => ?_, ins_sorted h2⟩
      rcases List.mem_cons.mp (ins_perm.mem_iff.mp hz) with rfl | hz
      · exact hyx
      · exact h1 z hz
    · rename_i c
      have hxy : LeS x y := by
        cases z : ltCps y.cps.toList x.cps.toList with
        | true => exact absurd z c
        | false => exact z
      refine List.pairwise_cons.mpr ⟨fun z hz => ?_, h⟩
      rcases List.mem_cons.mp hz with rfl | hz
      · exact hxy
      · exact leS_trans hxy (h1 z hz)
theorem isS_sorted : ∀ {l : List Str}, (isS l).Pairwise LeS
  | [] => List.Pairwise.nil
  | x :: r => ins_sorted isS_sorted
theorem sorted_unique {ys l : List Str} (p : ys.Perm l) (h : sortedS ys = true) : ys = isS l :=
  List.Perm.eq_of_pairwise (fun a b _ _ => leS_anti) (pairwise_of_sorted h) isS_sorted (p.trans isS_perm.symm)
theorem perm_of_sub : ∀ {l ks : List Str}, l.Nodup → (∀ k ∈ l, k ∈ ks) → ks.length = l.length → l.Perm ks
  | [], ks, _, _, h => by
    cases ks with
    | nil => exact .refl _
    | cons => simp at h
  | x :: l, ks, nd, hs, h => by
    obtain ⟨h1, h2⟩ := List.nodup_cons.mp nd
    have hx := hs x List.mem_cons_self
    have hp := List.perm_cons_erase hx
    refine (List.Perm.cons x (perm_of_sub h2 (fun k hk => ?_) ?_)).trans hp.symm
    · have hne : k ≠ x := fun z => h1 (z ▸ hk)
      exact (List.mem_erase_of_ne hne).mpr (hs k (List.mem_cons_of_mem _ hk))
    · have := hp.length_eq
      simp only [List.length_cons] at this h
      omega
/-! ### the set -/
def txO (P : Program) (w : World) (a : Addr) (l : List Str) : HO := .ext fun h => TxR P w h a l
theorem txO_ok {P : Program} {w : World} {H : Hp} {h : Heap} {a : Addr} {l : List Str} (R : TxR P w h a l) : ObjOk P w H h a (txO P w a l) := by
  obtain ⟨nd, D, ho, r⟩ := R
  exact ⟨⟨nd, D, ho, r⟩, ⟨_, ho⟩, fun h1 h2 z k => TxR.at z fun o q => k _ q⟩
theorem txO_at {P : Program} {w : World} {H : Hp} {h : Heap} {a : Addr} {l : List Str} (hok : HOk P w H h) (e : H a = some (txO P w a l)) : TxR P w h a l := by
  have x : ObjOk P w H h a (.ext fun h => TxR P w h a l) := hok a _ e
  exact x.1
theorem addS_app {k : Str} : ∀ {r l : List Str}, addS l (r ++ [k]) = (if k ∈ addS l r then addS l r else k :: addS l r)
  | [], l => rfl
  | x :: r, l => addS_app (r := r) (l := if x ∈ l then l else x :: l)
theorem addS_len : ∀ {r l : List Str}, (addS l r).length ≤ l.length + r.length
  | [], l => by simp [addS]
  | x :: r, l => by
    have := addS_len (r := r) (l := if x ∈ l then l else x :: l)
    show (addS (if x ∈ l then l else x :: l) r).length ≤ _
    refine Nat.le_trans this ?_
    split <;> simp <;> omega
section
variable {X : Cx}
theorem call_setTx (hc : X.calm = true) : CallR X (.type "set") (fun xs H Q => ∃ (t : Addr) (ss : List Str), xs = [.ref t] ∧ SqT X.K H t (ss.map V.str) ∧ ss.length < 64 ∧ ∀ p, H p = none → Q (.ref p) (upd H p (txO X.prog X.w p (addS [] ss)))) := by
  intro pins s σ H xs us Q I r q
  obtain ⟨t, ss, rfl, hq, hl, q⟩ := q
  obtain ⟨u, rfl, rx⟩ := vals1 r
  cases rx
  obtain ⟨its, rv, pt, hz⟩ := I.tuple hq
  have hs : StrsAre its ss := strsAre_of rv
  have hlen : its.length = ss.length := by rw [← Paired.length rv, List.length_map]
  have hsize : its.toArray.size = ss.length := by simp [hlen]
  refine set_tup (P := X.prog) (w := X.w) (J := fun i h => TxR X.prog X.w h s.heap.objs.size (addS [] (ss.take i))) (I.ok.hd hc) (show s.heap.IsTuple t its.toArray from pt) (fun i h h' j k => TxR.at j fun o e => k _ o (by simp) e) (fun h ho _ => ?_) (fun A i v s1 Q1 E1 _ hi hv j hq1 => ?_) (fun h' tk j k => ?_)
  · refine ⟨List.nodup_nil, (#[], 0, .fresh 0 0 (!X.w.params.followText "set-order")), ho, Froz.TxOk.nil rfl, List.Pairwise.nil, ?_⟩
    show _ ∨ (!X.w.params.followText "set-order") = true
    cases X.w.params.followText "set-order"
    · exact .inr rfl
    · exact .inl rfl
  · have hi' : i < ss.length := by rw [← hsize]; exact hi
    obtain ⟨tk, rfl⟩ := SS.strs_at hs i v (by simpa using hv)
    have ek : ss.getD i Str.empty = ss[i] := by simp [List.getD, hi']
    rw [ek]
    refine tx_add (P := X.prog) (w := X.w) (s := s1) j ?_ fun b h' sb R => hq1 b h' _ (Nat.le_succ _) sb ?_
    · have := addS_len (r := ss.take i) (l := [])
      have h2 : (ss.take i).length ≤ i := List.length_take_le ..
      simp only [List.length_nil, Nat.zero_add] at this
      unfold scanBound
      omega
    · rw [List.take_add_one, List.getElem?_eq_getElem hi']
      show TxR _ _ _ _ (addS [] (ss.take i ++ [ss[i]]))
      rw [addS_app]
      exact R
  · rw [hsize, List.take_length] at j
    exact ⟨.ref s.heap.objs.size, _, I.laid (t' := tk) k (Nat.le_refl _) (txO_ok j), rfl, q _ (I.hok.fresh (Nat.le_refl _))⟩
theorem call_sortTx (hc : X.calm = true) : CallR X (.builtin "sorted") (fun xs H Q => ∃ (a : Addr) (l : List Str), xs = [.ref a] ∧ H a = some (txO X.prog X.w a l) ∧ l.length < 64 ∧ ∀ p, H p = none → Q (.ref p) (upd H p (.lst ((isS l).map V.str)))) := by
  intro pins s σ H xs us Q I r q
  obtain ⟨a, l, rfl, ha, h64, q⟩ := q
  obtain ⟨u, rfl, rx⟩ := vals1 r
  cases rx
  obtain ⟨nd, D, ho, F, hr, hl⟩ := txO_at I.hok ha
  obtain ⟨es, ep, t⟩ := D
  have hsz : es.size = l.length := F.sz
  refine Calls.call_function_entry PyProof.Rows.kind_sorted PyProof.Rows.plain_sorted PyProof.Rows.entry_sorted (PyProof.Rows.args_sorted1 _) ?_
  unfold Builtin.«sorted»
  refine wpAny_bind (m := checkCount "sorted" 1 1 _) (wpAny_pure ?_)
  refine wpAny_bind (collect_set (A := X.A.in1) (I.ok.hd hc) ⟨_, ho, rfl, rfl⟩ F.fit (by show es.size < _; unfold scanBound; omega) hr hl fun s1 out k1 hz g1 o1 pm => ?_)
  have hol : out.length = l.length := by rw [pm.length_eq, List.length_map, Array.length_toList]; exact hsz
  obtain ⟨ks, hS⟩ : ∃ ks, StrsAre out ks := by
    have all : ∀ v ∈ out, ∃ x tk, v = Value.str x tk := fun v hv => by
      obtain ⟨e, he, rfl⟩ := List.mem_map.mp (pm.mem_iff.mp hv)
      obtain ⟨⟨k, hk, _⟩, _⟩ := F.el e he
      obtain ⟨tk, e2⟩ := Value.isStrOf_shape hk
      exact ⟨k, tk, e2⟩
    clear pm hol
    induction out with
    | nil => exact ⟨[], .nil⟩
    | cons v out ih =>
      obtain ⟨x, tk, rfl⟩ := all v List.mem_cons_self
      obtain ⟨ks, h⟩ := ih fun v hv => all v (List.mem_cons_of_mem _ hv)
      exact ⟨x :: ks, .cons x tk h⟩
  have hkl : ks.length = l.length := by rw [← hol]; exact (StrsAre.len_eq hS).symm
  have hpk : l.Perm ks := perm_of_sub nd (fun k hk => ?_) hkl
  · refine wpAny_bind (wpAny_newList ?_ (by rw [hol, sizeLine_eq]; omega))
    have hoL : (s1.heap.push (seqObj "list" out.toArray 0)).get? s1.heap.objs.size = some (seqObj "list" out.toArray 0) := Heap.get?_push_size _ rfl
    refine wpAny_bind (wpAny_holding (wpAny_call_entry PyProof.Rows.slot_list_sort ⟨_, hoL, rfl⟩ PyProof.Rows.entry_list_sort
      (list_sort_treeK strKind_oneLt (s := { s1 with heap := s1.heap.push (seqObj "list" out.toArray 0) }) hoL hS.keysOf (fun v₁ v₂ rest e => keyKind_strs (by rw [← e]; exact hS)) (by rw [hol]; exact h64) fun st' hp hs => ⟨_, rfl, ?_⟩) (PyProof.Rows.args_list_sort _)))
    obtain ⟨ys, y1, y2, y3⟩ := sorted_out_str hS hp hs
    obtain ⟨e', he'⟩ := PyProof.Rows.sortedHeap_at (vs := out) (out := (arrOf st').map (·.2)) hoL
    have ey : ys = isS l := sorted_unique (y2.trans hpk.symm) y3
    have I1 : Inv X pins σ H s1 := I.call' (ch := []) o1 (Un.kept k1) (I.hok.kept k1) (by rw [g1]; exact I.bare) (fun _ z => nomatch z)
    have hlen : (ys.map V.str).length ≤ sizeLine := by
      rw [List.length_map, y2.length_eq, hkl, sizeLine_eq]
      omega
    refine wpAny_pure ⟨_, rfl, .ref s1.heap.objs.size, upd H s1.heap.objs.size (.lst (ys.map V.str)), I1.laid (t' := s1.toks) (fun b u e => ?_) (Nat.le_refl _) ⟨hlen, ((arrOf st').map (·.2)).toList, e', vals_of_strs y1, by rw [Array.toArray_toList]; exact he'⟩, rfl, ?_⟩
    · have hb : b < s1.heap.objs.size := Heap.lt_size e
      rw [PyProof.Rows.sortedHeap_old (Nat.ne_of_lt hb) (by rw [size_push']; exact Nat.lt_succ_of_lt hb)]
      exact Heap.get?_push_of_some _ e
    · rw [ey]
      exact q _ (I1.hok.fresh (Nat.le_refl _))
  · obtain ⟨e, he, hp⟩ := (F.mem k).mp hk
    obtain ⟨tk, e2⟩ := Value.isStrOf_shape hp
    have hm : e.2 ∈ out := pm.mem_iff.mpr (List.mem_map.mpr ⟨e, he, rfl⟩)
    rw [e2] at hm
    clear hol hkl pm
    induction hS with
    | nil => cases hm
    | cons x t h ih =>
      rcases List.mem_cons.mp hm with z | z
      · cases z
        exact List.mem_cons_self
      · exact List.mem_cons_of_mem _ (ih z)
end
end Sim
end
section
set_option Elab.async false
set_option linter.all false
set_option maxRecDepth 100000
set_option maxHeartbeats 1000000
/-! The Sim layer, Sh: sorted(set(a)). -/
namespace Sim
open PySem PySem.Spec PyProof.Rows L2
section
variable {T : Tab} {c : Ct} {cal : Cal} {k : Nat} {N : List Str} {sc : Scope} {X : Cx}
theorem rps_strs {G : Hp} : ∀ {xs : List PD} {vs : List V} {ss : List Str}, RPs c G xs vs → pstrs xs = some ss → vs = ss.map V.str
  | [], _, ss, .nil, e => by cases e; rfl
  | x :: xs, _, ss, .cons h r, e => by
    cases x <;> first | (cases e; done) | skip
    rename_i y
    obtain ⟨l, e1, rfl⟩ := Option.map_eq_some_iff.mp (show (pstrs xs).map (y :: ·) = some ss from e)
    rw [rps_strs r e1, RP.str_inv h]
    rfl
theorem rps_of_strs {G : Hp} : ∀ {ss : List Str}, RPs c G (ss.map PD.str) (ss.map V.str)
  | [] => .nil
  | x :: r => .cons (.str x) rps_of_strs
theorem snd_srt (g : GX T c k N sc X) {live : Bool} {a : C} {ea : Expr} {p p2 q2 pos : Pos} (h1 : glbB sc "sorted" = true) (h2 : glbB sc "set" = true) (hs : isStar ea = false) (sa : SndE T c cal X a ea) :
    SndE T c cal X (.srt live a) (.Call (.Name "sorted" p) [.Call (.Name "set" p2) [ea] [] q2] [] pos) := by
  intro hid ρ lh H σ env Q W tk st re ho
  refine we_blt g h1 (by decide +kernel) (by decide +kernel) (by first | exact PyProof.Rows.Boot.«sorted» | rfl | kernel_rfl) (.inl ⟨"sorted", rfl⟩) rfl rfl ?_
  refine WA.of (pa_cons pe_we pa_nil) ?_
  refine we_blt g h2 (by decide +kernel) (by decide +kernel) (by first | exact PyProof.Rows.boot_set | rfl | kernel_rfl) (.inr ⟨"set", rfl⟩) hs rfl ?_
  refine WA.of (pa_cons pe_we pa_nil (star_of hs)) ?_
  refine sa.use tk st re (f := fun x h => match x with
    | .p (.tup xs) => match pstrs xs with
      | some ss => if ss.length < 64 then mkLst live ((isS (addS [] ss)).map .str) h else .bad
      | none => .bad
    | _ => .bad) ho fun v H1 ρ1 d lh1 st1 ex1 r1 re1 ho1 => ?_
  split at ho1
  · rename_i xs
    split at ho1
    · rename_i ss es
      split at ho1
      · rename_i hl
        have r1 : RP c (Gz hid ρ1 lh1 H1) (.tup xs) v := r1
        cases r1 with
        | tup hq rp =>
          rename_i ad vs
          have ev := rps_strs rp es
          subst ev
          refine ⟨_, call_setTx g.calm, ad, ss, rfl, by rw [g.hK]; exact Gz_sub.seqT hq, hl, fun p0 hp0 => ?_⟩
          have hlen : (addS [] ss).length < 64 := Nat.lt_of_le_of_lt (by simpa using addS_len (r := ss) (l := [])) hl
          refine ⟨_, call_sortTx g.calm, p0, addS [] ss, rfl, upd_same, hlen, fun p1 hp1 => ?_⟩
          obtain ⟨st2, ex2⟩ := st1.lay hp0 (txO X.prog X.w p0 (addS [] ss))
          exact mkLst_out st2 ex2 rps_of_strs hp1 ho1
      · exact ho1.elim
    · exact ho1.elim
  · exact ho1.elim
end
end Sim
end
section
set_option Elab.async false
set_option linter.all false
set_option maxRecDepth 100000
set_option maxHeartbeats 1000000
/-! The Sim layer, N: an object that is being filled; targets; what is walked. -/
namespace Sim
open PySem PySem.Spec PyProof.Rows L2
section
variable {T : Tab} {c : Ct} {k : Nat} {N : List Str} {sc : Scope} {X : Cx} {cal : Cal} {hid ρ : List Addr} {lh : LH} {H : Hp} {p : Addr}
/-- a new object is kept aside -/
theorem Stt.take (st : Stt c hid ρ lh H) (hp : H p = none) (o : HO) : Stt c (p :: hid) ρ lh (upd H p o) ∧ Le (Gz hid ρ lh H) (Gz (p :: hid) ρ lh (upd H p o)) := by
  have nf := st.fresh hp
  have nl : ∀ a ∈ liveA ρ lh, a ≠ p := fun a ha e => nf (by rw [← e]; exact List.mem_append_right _ ha)
  have hg : Le (Gz hid ρ lh H) (Gz (p :: hid) ρ lh (upd H p o)) := Le.of fun b x h => by
    obtain ⟨nb, h⟩ := Fz.not h
    have ne := ne_of_none h hp
    refine Fz.of (by rw [upd_ne ne]; exact h) fun m => ?_
    rcases List.mem_cons.mp (show b ∈ p :: (hid ++ liveA ρ lh) from m) with e | m
    · exact ne e
    · exact nb m
  refine ⟨⟨st.len, st.nd, fun a ha m => ?_, fun a ha => ?_, fun i q a h1 h2 => ?_⟩, hg⟩
  · rcases List.mem_cons.mp m with e | m
    · exact nl a ha e
    · exact st.nh a ha m
  · rcases List.mem_cons.mp ha with e | m
    · rw [e]; exact ⟨o, upd_same⟩
    · obtain ⟨u, hu⟩ := st.tr a m
      exact ⟨u, by rw [upd_ne (ne_of_none hu hp)]; exact hu⟩
  · obtain ⟨u, hu, ro⟩ := st.ob i q a h1 h2
    exact ⟨u, by rw [upd_ne (ne_of_none hu hp)]; exact hu, RO.mono (fun _ _ h => h) hg ro⟩
theorem Gz_put (o : HO) : Gz (p :: hid) ρ lh (upd H p o) = Gz (p :: hid) ρ lh H := by
  funext b
  unfold Gz Fz
  by_cases hb : b ∈ p :: hid ++ liveA ρ lh
  · rw [if_pos hb, if_pos hb]
  · rw [if_neg hb, if_neg hb, upd_ne fun e => hb (by rw [e]; exact List.mem_append_left _ List.mem_cons_self)]
/-- it is filled -/
theorem Stt.put (st : Stt c (p :: hid) ρ lh H) (o : HO) : Stt c (p :: hid) ρ lh (upd H p o) := by
  refine ⟨st.len, st.nd, st.nh, fun a ha => ?_, fun i q a h1 h2 => ?_⟩
  · by_cases e : a = p
    · rw [e]; exact ⟨o, upd_same⟩
    · rw [upd_ne e]; exact st.tr a ha
  · obtain ⟨u, hu, ro⟩ := st.ob i q a h1 h2
    have ne : a ≠ p := fun e => st.nh a (mem_liveA.mpr ⟨i, q, h2, h1⟩) (by rw [e]; exact List.mem_cons_self)
    exact ⟨u, by rw [upd_ne ne]; exact hu, by rw [Gz_put]; exact ro⟩
/-- it is frozen -/
theorem Stt.give (st : Stt c (p :: hid) ρ lh H) : Stt c hid ρ lh H ∧ Le (Gz (p :: hid) ρ lh H) (Gz hid ρ lh H) := by
  have hg : Le (Gz (p :: hid) ρ lh H) (Gz hid ρ lh H) := Le.of fun b x h => by
    obtain ⟨nb, h⟩ := Fz.not h
    exact Fz.of h fun m => nb (List.mem_cons_of_mem _ m)
  exact ⟨⟨st.len, st.nd, fun a ha m => st.nh a ha (List.mem_cons_of_mem _ m), fun a ha => st.tr a (List.mem_cons_of_mem _ ha), fun i q a h1 h2 => let ⟨u, hu, ro⟩ := st.ob i q a h1 h2; ⟨u, hu, RO.mono (fun _ _ h => h) hg ro⟩⟩, hg⟩
theorem Stt.giveAt (st : Stt c (p :: hid) ρ lh H) (np : p ∉ hid) {u : HO} (hu : H p = some u) : Gz hid ρ lh H p = some u := Fz.of hu fun m => by
  rcases List.mem_append.mp m with m | m
  · exact np m
  · exact st.nh p m List.mem_cons_self
/-- it is live -/
theorem Stt.giveL (st : Stt c (p :: hid) ρ lh H) (np : p ∉ hid) {u : HO} {o : LO} (hu : H p = some u) (ro : RO c (ρ ++ [p]) (Gz (p :: hid) ρ lh H) o u) : Stt c hid (ρ ++ [p]) (lh ++ [some o]) H ∧ Le (Gz (p :: hid) ρ lh H) (Gz hid (ρ ++ [p]) (lh ++ [some o]) H) := by
  have el := liveA_app (a := p) (o := o) st.len
  have nl : p ∉ liveA ρ lh := fun m => st.nh p m List.mem_cons_self
  have hg : Le (Gz (p :: hid) ρ lh H) (Gz hid (ρ ++ [p]) (lh ++ [some o]) H) := Le.of fun b x h => by
    obtain ⟨nb, h⟩ := Fz.not h
    refine Fz.of h fun m => nb ?_
    rw [el] at m
    simp only [List.mem_append, List.mem_cons, List.not_mem_nil, or_false] at m ⊢
    rcases m with m | m | m
    · exact .inl (.inr m)
    · exact .inr m
    · exact .inl (.inl m)
  refine ⟨⟨by simp [st.len], ?_, ?_, fun a ha => st.tr a (List.mem_cons_of_mem _ ha), fun i q a h1 h2 => ?_⟩, hg⟩
  · rw [el]
    exact List.nodup_append.mpr ⟨st.nd, by simp, fun a ha b hb => by
      simp at hb
      subst hb
      exact fun e => nl (e ▸ ha)⟩
  · rw [el]
    intro a ha m
    rcases List.mem_append.mp ha with ha | ha
    · exact st.nh a ha (List.mem_cons_of_mem _ m)
    · simp at ha
      subst ha
      exact np m
  · by_cases hi : i < lh.length
    · rw [List.getElem?_append_left hi] at h1
      rw [List.getElem?_append_left (by rw [st.len]; exact hi)] at h2
      obtain ⟨w, hw, rw'⟩ := st.ob i q a h1 h2
      exact ⟨w, hw, RO.mono pre_app hg rw'⟩
    · have ei : i = lh.length := by
        have := (List.getElem?_eq_some_iff.mp h1).1
        simp at this
        omega
      subst ei
      rw [← st.len] at h2
      simp at h1 h2
      subst h1 h2
      exact ⟨u, hu, RO.mono (fun _ _ h => h) hg ro⟩

/-! ### targets -/
def WG (X : Cx) (tg : Expr) : TG := fun v σ H Q => ∀ (pins : List (Addr × Obj)) (s : Shared) (u : Value), Inv X pins σ H s → RelV v u → wpAny (model X.prog X.w) X.A (assign tg X.env u) (fun _ s' => ∃ σ' H', Inv X pins σ' H' s' ∧ Q σ' H') X.xe s
theorem pg_wg {tg : Expr} : PG X tg (WG X tg) := ⟨fun pins s _ _ _ u _ I r h => h pins s u I r⟩
theorem WG.of {tg : Expr} {t : TG} (h : PG X tg t) {v : V} {σ : L2.St} {H : Hp} {Q : L2.St → Hp → Prop} (q : t v σ H Q) : WG X tg v σ H Q := fun pins s u I r => h.run pins s σ H v u Q I r q
def WGs (X : Cx) (tg : List Expr) : TGs := fun vs σ H Q => ∀ (pins : List (Addr × Obj)) (s : Shared) (us : List Value), Inv X pins σ H s → Vals vs us → wpAny (model X.prog X.w) X.A (assignInOrder ((assignEach tg X.env).map (·.2)) us) (fun _ s' => ∃ σ' H', Inv X pins σ' H' s' ∧ Q σ' H') X.xe s
theorem pgs_wg {tg : List Expr} : PGs X tg (WGs X tg) := ⟨fun pins s _ _ _ us _ I r h => h pins s us I r⟩
theorem WGs.of {tg : List Expr} {t : TGs} (h : PGs X tg t) {v : List V} {σ : L2.St} {H : Hp} {Q : L2.St → Hp → Prop} (q : t v σ H Q) : WGs X tg v σ H Q := fun pins s u I r => h.run pins s σ H v u Q I r q
end
section
variable {T : Tab} {c : Ct} {k : Nat} {N : List Str} {sc : Scope} {X : Cx} {cal : Cal} {hid ρ : List Addr} {lh : LH} {H : Hp} {p : Addr}
theorem asgEach_of {e : Expr} {es : List Expr} {env : Env} (h : isStar e = false) : assignEach (e :: es) env = (false, assign e env) :: assignEach es env := by
  cases e <;> first | rfl | (simp [isStar] at h)
theorem asgEach_len {N : List Str} {lc : Str → Bool} {env : Env} : ∀ {ts : List Tg} {es : List Expr}, chkTs N lc ts es = true → (assignEach es env).length = ts.length ∧ (assignEach es env).findIdx? (·.1) = none
  | [], [], _ => ⟨rfl, rfl⟩
  | [], _ :: _, h => by cases h
  | _ :: _, [], h => by cases h
  | t :: ts, e :: es, h => by
    have h : (!isStar e && chkT N lc t e && chkTs N lc ts es) = true := h
    obtain ⟨h, h3⟩ := b2 h
    obtain ⟨h1, h2⟩ := b2 h
    obtain ⟨q1, q2⟩ := asgEach_len (env := env) h3
    rw [asgEach_of (bn h1)]
    refine ⟨congrArg (· + 1) q1, ?_⟩
    rw [List.findIdx?_cons]
    simp [q2]
theorem REnv.set {G : Hp} {env : Env0} {σ : L2.St} {i : Nat} {d : LV} {v : V} (re : REnv c ρ G env σ) (r : RL c ρ G d v) : REnv c ρ G (env.set i (some d)) (σ.set i (some v)) := by
  refine ⟨by simp [re.1], fun j x e => ?_⟩
  by_cases hj : i = j
  · subst hj
    by_cases hi : i < env.length
    · rw [List.getElem?_set_self hi] at e
      cases e
      exact ⟨v, List.getElem?_set_self (by rw [← re.1]; exact hi), r⟩
    · rw [List.getElem?_eq_none (by simpa using hi)] at e
      cases e
  · rw [List.getElem?_set_ne hj] at e
    rw [List.getElem?_set_ne hj]
    exact re.2 j x e
theorem wipe_set_ne {σ : L2.St} {i : Nat} {v : Option V} : ∀ {vs : List Nat}, i ∉ vs → wipe (σ.set i v) vs = (wipe σ vs).set i v
  | [], _ => rfl
  | w :: ws, h => by
    show (wipe (σ.set i v) ws).set w none = ((wipe σ ws).set w none).set i v
    rw [wipe_set_ne fun m => h (List.mem_cons_of_mem _ m), List.set_comm _ _ fun e => h (by rw [e]; exact List.mem_cons_self)]
theorem wipe_set {σ : L2.St} {i : Nat} {v : Option V} : ∀ {vs : List Nat}, i ∈ vs → wipe (σ.set i v) vs = wipe σ vs
  | [], h => by simp at h
  | w :: ws, h => by
    show (wipe (σ.set i v) ws).set w none = (wipe σ ws).set w none
    by_cases e : i ∈ ws
    · rw [wipe_set e]
    · have ew : i = w := by
        rcases List.mem_cons.mp h with h | h
        · exact h
        · exact absurd h e
      subst ew
      rw [wipe_set_ne e, List.set_set]
theorem bindTs_len : ∀ {ts : List Tg} {xs : List PD} {env env1 : Env0}, bindTs ts xs env = some env1 → xs.length = ts.length
  | [], [], _, _, _ => rfl
  | [], _ :: _, _, _, e => by cases e
  | _ :: _, [], _, _, e => by cases e
  | t :: ts, x :: xs, env, env1, e => by
    have e : (match bindT t (.p x) env with | some env' => bindTs ts xs env' | none => none) = some env1 := e
    split at e
    · exact congrArg (· + 1) (bindTs_len e)
    · cases e
theorem tp_inv {ts : List Tg} {d : LV} {env env1 : Env0} (e : bindT (.tp ts) d env = some env1) : ∃ xs, d = .p (.tup xs) ∧ bindTs ts xs env = some env1 := by
  cases d with
  | ref n => cases e
  | p d => cases d <;> first | (cases e; done) | exact ⟨_, rfl, e⟩
theorem chkT_nm {lc : Str → Bool} {i : Nat} {e : Expr} (h : chkT N lc (.nm i) e = true) : ∃ x pos, e = .Name x pos ∧ (nmIs N[i]? x && lc x) = true := by
  cases e <;> first | (cases h; done) | exact ⟨_, _, rfl, h⟩
theorem chkT_tp {lc : Str → Bool} {ts : List Tg} {e : Expr} (h : chkT N lc (.tp ts) e = true) : ∃ es x pos, e = .Tuple es x pos ∧ chkTs N lc ts es = true := by
  cases e <;> first | (cases h; done) | exact ⟨_, _, _, rfl, h⟩
mutual
/-- a target takes a value: the slots alone turn -/
theorem tg_ok (hN : X.N = N) (nd : X.N.Nodup) {lc : Str → Bool} (hf : ∀ x, lc x = true → Loc X.env.scope x ∧ (X.fn x = true ∨ X.env.scope.names.lookup x = some .local)) (hK : X.K = c.K) (calm : X.calm = true) : ∀ (t : Tg) {e : Expr} {d : LV} {v : V} {env env1 : Env0} {σ : L2.St} {Q : L2.St → Hp → Prop}, chkT N lc t e = true → REnv c ρ (Gz hid ρ lh H) env σ → RL c ρ (Gz hid ρ lh H) d v →
    bindT t d env = some env1 → (∀ σ1, REnv c ρ (Gz hid ρ lh H) env1 σ1 → (∀ own, tgIn own t = true → wipe σ1 own = wipe σ own) → Q σ1 H) → WG X e v σ H Q
  | .nm i, e, d, v, env, env1, σ, Q, h, re, r, eb, q => by
    obtain ⟨x, pos, rfl, h⟩ := chkT_nm h
    obtain ⟨h1, h2⟩ := b2 h
    have eb : some (env.set i (some d)) = some env1 := eb
    cases eb
    have hl := hf x h2
    exact WG.of (pg_name nd (by rw [hN]; exact nmIs_ok h1) hl.1 hl.2) (q _ (re.set r) fun own ho => wipe_set (by simpa [tgIn] using ho))
  | .tp ts, e, d, v, env, env1, σ, Q, h, re, r, eb, q => by
    obtain ⟨es, kk, pos, rfl, h⟩ := chkT_tp h
    obtain ⟨xs, rfl, eb⟩ := tp_inv eb
    obtain ⟨l1, l2⟩ := asgEach_len (env := X.env) h
    have r : RP c (Gz hid ρ lh H) (.tup xs) v := r
    cases r with
    | tup hs rs =>
      refine WG.of (pg_tup calm pgs_wg l1 l2) ⟨_, _, rfl, by rw [hK]; exact Gz_sub.seqT hs, ?_, ?_⟩
      · rw [← rs.length]
        exact bindTs_len eb
      · exact tgs_ok hN nd hf hK calm ts h re rs eb q
theorem tgs_ok (hN : X.N = N) (nd : X.N.Nodup) {lc : Str → Bool} (hf : ∀ x, lc x = true → Loc X.env.scope x ∧ (X.fn x = true ∨ X.env.scope.names.lookup x = some .local)) (hK : X.K = c.K) (calm : X.calm = true) : ∀ (ts : List Tg) {es : List Expr} {ds : List PD} {vs : List V} {env env1 : Env0} {σ : L2.St} {Q : L2.St → Hp → Prop}, chkTs N lc ts es = true → REnv c ρ (Gz hid ρ lh H) env σ → RPs c (Gz hid ρ lh H) ds vs →
    bindTs ts ds env = some env1 → (∀ σ1, REnv c ρ (Gz hid ρ lh H) env1 σ1 → (∀ own, tgsIn own ts = true → wipe σ1 own = wipe σ own) → Q σ1 H) → WGs X es vs σ H Q
  | [], es, ds, vs, env, env1, σ, Q, h, re, rs, eb, q => by
    cases es with
    | cons => cases h
    | nil =>
      cases rs with
      | cons => cases eb
      | nil =>
        have eb : some env = some env1 := eb
        cases eb
        exact WGs.of pgs_nil ⟨rfl, q _ re fun _ _ => rfl⟩
  | t :: ts, es, ds, vs, env, env1, σ, Q, h, re, rs, eb, q => by
    cases es with
    | nil => cases h
    | cons e es =>
      cases rs with
      | nil => cases eb
      | cons r rs =>
        rename_i d v ds vs
        have h : (!isStar e && chkT N lc t e && chkTs N lc ts es) = true := h
        obtain ⟨h, h3⟩ := b2 h
        obtain ⟨h1, h2⟩ := b2 h
        have eb : (match bindT t (.p d) env with | some env' => bindTs ts ds env' | none => none) = some env1 := eb
        split at eb
        · rename_i env2 e2
          refine WGs.of (pgs_cons pg_wg pgs_wg (by rw [asgEach_of (bn h1)]; rfl)) ⟨v, vs, rfl, ?_⟩
          exact tg_ok hN nd hf hK calm t h2 re (show RL c ρ (Gz hid ρ lh H) (.p d) v from r) e2 fun σ2 re2 w2 => tgs_ok hN nd hf hK calm ts h3 re2 rs eb fun σ3 re3 w3 => q σ3 re3 fun own ho => by
            have ho : (tgIn own t && tgsIn own ts) = true := ho
            exact (w3 own (b2 ho).2).trans (w2 own (b2 ho).1)
        · cases eb
end
end
end Sim
end
section
set_option Elab.async false
set_option linter.all false
set_option maxRecDepth 100000
set_option maxHeartbeats 1000000
/-! The Sim layer, O: what is walked. -/
namespace Sim
open PySem PySem.Spec PyProof.Rows L2
section
variable {T : Tab} {c : Ct} {k : Nat} {N : List Str} {sc : Scope} {X : Cx} {cal : Cal} {tg it : Expr}
def WI (X : Cx) (tg it : Expr) : TI := fun σ H R => ∀ (pins : List (Addr × Obj)) (s : Shared), Inv X pins σ H s →
  wpAny (model X.prog X.w) X.A (eval it X.env) (fun v s1 => wpAny (model X.prog X.w) X.A (pyIter v) (PIE X pins σ tg R) X.xe s1) X.xe s
theorem pi_wi : PI X tg it (WI X tg it) := ⟨fun pins s _ _ _ I h => h pins s I⟩
theorem WI.of {t : TI} (h : PI X tg it t) {σ : L2.St} {H : Hp} {R : It → Hp → Prop} (q : t σ H R) : WI X tg it σ H R := fun pins s I => h.run pins s σ H R I q
/-- the walk goes over xs, in every later state -/
def Walks (c : Ct) (G0 : Hp) (J : It) (xs : List PD) : Prop := ∀ (hid ρ : List Addr) (lh : LH) (H : Hp), Stt c hid ρ lh H → Le G0 (Gz hid ρ lh H) → ∀ i,
  (∀ x, xs[i]? = some x → J.go i H ∧ ∀ v H', J.yld i H v H' → Stt c hid ρ lh H' ∧ Ex hid ρ lh H ρ lh H' ∧ RP c (Gz hid ρ lh H') x v) ∧ (xs[i]? = none → J.stop i H)
theorem walks_list {G : Hp} {a : Addr} {xs : List PD} {vs : List V} (h : G a = some (.lst vs)) (rs : RPs c G xs vs) : Walks c G (Itl c.K a) xs := by
  intro hid ρ lh H st le i
  have q : SqL c.K H a vs := .inl (.inl (Le.lst (le.trans Gz_sub) h))
  refine ⟨fun x e => ?_, fun e => ⟨vs, q, ?_⟩⟩
  · obtain ⟨v, ev, rv⟩ := rs.get e
    refine ⟨⟨vs, v, q, ev⟩, fun u H' ⟨e1, e2⟩ => ?_⟩
    subst e1
    have := (e2 vs q).symm.trans ev
    cases this
    exact ⟨st, Ex.refl, RP.mono le rv⟩
  · rw [← rs.length]
    exact List.getElem?_eq_none_iff.mp e
theorem walks_tup {G : Hp} {a : Addr} {xs : List PD} {vs : List V} (h : SqT c.K G a vs) (rs : RPs c G xs vs) : Walks c G (Itt c.K a) xs := by
  intro hid ρ lh H st le i
  have q : SqT c.K H a vs := (le.trans Gz_sub).seqT h
  refine ⟨fun x e => ?_, fun e => ⟨vs, q, ?_⟩⟩
  · obtain ⟨v, ev, rv⟩ := rs.get e
    refine ⟨⟨vs, v, q, ev⟩, fun u H' ⟨e1, e2⟩ => ?_⟩
    subst e1
    have := (e2 vs q).symm.trans ev
    cases this
    exact ⟨st, Ex.refl, RP.mono le rv⟩
  · rw [← rs.length]
    exact List.getElem?_eq_none_iff.mp e
theorem rangeD_get : ∀ {n i : Nat} {lo : Int}, (i < n → (rangeD lo n)[i]? = some (.int (lo + i))) ∧ (n ≤ i → (rangeD lo n)[i]? = none)
  | 0, i, lo => ⟨fun h => absurd h (Nat.not_lt_zero _), fun _ => rfl⟩
  | n + 1, 0, lo => ⟨fun _ => by simp [rangeD], fun h => absurd h (by omega)⟩
  | n + 1, i + 1, lo => by
    obtain ⟨h1, h2⟩ := rangeD_get (n := n) (i := i) (lo := lo + 1)
    refine ⟨fun h => ?_, fun h => h2 (by omega)⟩
    have := h1 (by omega)
    show (rangeD (lo + 1) n)[i]? = _
    rw [this]
    congr 2
    omega
theorem walks_rng {G : Hp} {lo : Int} {n : Nat} : Walks c G (Itr lo n) (rangeD lo n) := by
  intro hid ρ lh H st le i
  refine ⟨fun x e => ?_, fun e => ?_⟩
  · by_cases hi : i < n
    · rw [rangeD_get.1 hi] at e
      cases e
      refine ⟨hi, fun u H' ⟨e1, e2⟩ => ?_⟩
      subst e1 e2
      exact ⟨st, Ex.refl, .int _⟩
    · rw [rangeD_get.2 (by omega)] at e
      cases e
  · by_cases hi : i < n
    · rw [rangeD_get.1 hi] at e
      cases e
    · show n ≤ i
      omega
theorem enumD_get : ∀ {xs : List PD} {i j : Nat}, (enumD j xs)[i]? = (xs[i]?).map fun x => .tup [.int ((j + i : Nat) : Int), x]
  | [], _, _ => rfl
  | x :: xs, 0, j => rfl
  | x :: xs, i + 1, j => by
    show (enumD (j + 1) xs)[i]? = _
    rw [enumD_get]
    simp only [List.getElem?_cons_succ]
    rw [show j + 1 + i = j + (i + 1) by omega]
theorem walks_enm {G : Hp} {a : Addr} {xs : List PD} {vs : List V} (h : G a = some (.lst vs)) (rs : RPs c G xs vs) : Walks c G (Ite c.K a) (enumD 0 xs) := by
  intro hid ρ lh H st le i
  have q : SqL c.K H a vs := .inl (.inl (Le.lst (le.trans Gz_sub) h))
  rw [enumD_get]
  refine ⟨fun x e => ?_, fun e => ⟨vs, q, ?_⟩⟩
  · obtain ⟨y, ey, rfl⟩ := Option.map_eq_some_iff.mp e
    obtain ⟨v, ev, rv⟩ := rs.get ey
    refine ⟨⟨vs, v, q, ev⟩, fun u H' ⟨p, z, e1, hp, e2, e3⟩ => ?_⟩
    subst e1 e2
    have := (e3 vs q).symm.trans ev
    cases this
    obtain ⟨st1, ex1⟩ := st.lay hp _
    refine ⟨st1, ex1, .tup (SqT.of (st.layAt hp)) (.cons ?_ (.cons (RP.mono (le.trans ex1.keep) rv) .nil))⟩
    rw [Nat.zero_add]
    exact .int _
  · rw [← rs.length]
    exact List.getElem?_eq_none_iff.mp (Option.map_eq_none_iff.mp e)
theorem zipD_get : ∀ {xs ys : List PD} {i : Nat}, (∀ x y, xs[i]? = some x → ys[i]? = some y → (zipD xs ys)[i]? = some (.tup [x, y])) ∧ ((xs.length ≤ i ∨ ys.length ≤ i) → (zipD xs ys)[i]? = none)
  | [], ys, i => ⟨fun x y e => by simp at e, fun _ => by cases ys <;> rfl⟩
  | x :: xs, [], i => ⟨fun x y _ e => by simp at e, fun _ => rfl⟩
  | x :: xs, y :: ys, 0 => ⟨fun a b e1 e2 => by simp at e1 e2; subst e1 e2; rfl, fun h => by simp at h⟩
  | x :: xs, y :: ys, i + 1 => by
    obtain ⟨h1, h2⟩ := zipD_get (xs := xs) (ys := ys) (i := i)
    refine ⟨fun a b e1 e2 => h1 a b (by simpa using e1) (by simpa using e2), fun h => h2 ?_⟩
    simp at h
    exact h
theorem zip_case {xs ys : List PD} {i : Nat} : (∃ x y, xs[i]? = some x ∧ ys[i]? = some y ∧ (zipD xs ys)[i]? = some (.tup [x, y])) ∨ ((xs.length ≤ i ∨ ys.length ≤ i) ∧ (zipD xs ys)[i]? = none) := by
  by_cases h : xs.length ≤ i ∨ ys.length ≤ i
  · exact .inr ⟨h, zipD_get.2 h⟩
  · have h1 : i < xs.length := by omega
    have h2 : i < ys.length := by omega
    exact .inl ⟨xs[i], ys[i], List.getElem?_eq_getElem h1, List.getElem?_eq_getElem h2, zipD_get.1 _ _ (List.getElem?_eq_getElem h1) (List.getElem?_eq_getElem h2)⟩
theorem walks_zip {G : Hp} {a b : Addr} {xs ys : List PD} {vs ws : List V} (h : G a = some (.lst vs)) (h' : G b = some (.lst ws)) (rs : RPs c G xs vs) (rs' : RPs c G ys ws) : Walks c G (Itz c.K a b) (zipD xs ys) := by
  intro hid ρ lh H st le i
  have q : SqL c.K H a vs := .inl (.inl (Le.lst (le.trans Gz_sub) h))
  have q' : SqL c.K H b ws := .inl (.inl (Le.lst (le.trans Gz_sub) h'))
  rcases zip_case (xs := xs) (ys := ys) (i := i) with ⟨x, y, e1, e2, e3⟩ | ⟨h1, e3⟩
  · rw [e3]
    refine ⟨fun z e => ?_, fun e => by cases e⟩
    cases e
    obtain ⟨v, ev, rv⟩ := rs.get e1
    obtain ⟨w, ew, rw'⟩ := rs'.get e2
    refine ⟨⟨vs, ws, v, w, q, q', ev, ew⟩, fun u H' ⟨p, z, z', e1, hp, e2, e3, e4⟩ => ?_⟩
    subst e1 e2
    have := (e3 vs q).symm.trans ev
    cases this
    have := (e4 ws q').symm.trans ew
    cases this
    obtain ⟨st1, ex1⟩ := st.lay hp _
    exact ⟨st1, ex1, .tup (SqT.of (st.layAt hp)) (.cons (RP.mono (le.trans ex1.keep) rv) (.cons (RP.mono (le.trans ex1.keep) rw') .nil))⟩
  · rw [e3]
    refine ⟨fun z e => (by cases e), fun _ => ⟨vs, ws, q, q', ?_⟩⟩
    rw [← rs.length, ← rs'.length]
    exact h1
theorem walks_zipT {G : Hp} {a b : Addr} {xs ys : List PD} {vs ws : List V} (h : SqT c.K G a vs) (h' : SqT c.K G b ws) (rs : RPs c G xs vs) (rs' : RPs c G ys ws) : Walks c G (RZ.ItzT c.K a b) (zipD xs ys) := by
  intro hid ρ lh H st le i
  have q : SqT c.K H a vs := (le.trans Gz_sub).seqT h
  have q' : SqT c.K H b ws := (le.trans Gz_sub).seqT h'
  rcases zip_case (xs := xs) (ys := ys) (i := i) with ⟨x, y, e1, e2, e3⟩ | ⟨h1, e3⟩
  · rw [e3]
    refine ⟨fun z e => ?_, fun e => by cases e⟩
    cases e
    obtain ⟨v, ev, rv⟩ := rs.get e1
    obtain ⟨w, ew, rw'⟩ := rs'.get e2
    refine ⟨⟨vs, ws, v, w, q, q', ev, ew⟩, fun u H' ⟨p, z, z', e1, hp, e2, e3, e4⟩ => ?_⟩
    subst e1 e2
    have := (e3 vs q).symm.trans ev
    cases this
    have := (e4 ws q').symm.trans ew
    cases this
    obtain ⟨st1, ex1⟩ := st.lay hp _
    exact ⟨st1, ex1, .tup (SqT.of (st.layAt hp)) (.cons (RP.mono (le.trans ex1.keep) rv) (.cons (RP.mono (le.trans ex1.keep) rw') .nil))⟩
  · rw [e3]
    refine ⟨fun z e => (by cases e), fun _ => ⟨vs, ws, q, q', ?_⟩⟩
    rw [← rs.length, ← rs'.length]
    exact h1

/-! ### a dict, walked -/
/-- a dict that stays as it is -/
def Lkd (c : Ct) (H : Hp) (a : Addr) (kws : List (Key × V)) (ep : Nat) : Prop := (∃ o es, H a = some (.frz o (.dK kws)) ∧ o.data = .dict es ep) ∨ (KDk c a kws ∧ ∃ o es, c.K.lookup a = some o ∧ o.data = .dict es ep)
theorem lkd_at {pins : List (Addr × Obj)} {σ : L2.St} {H : Hp} {s : Shared} {a : Addr} {kws : List (Key × V)} {ep : Nat} (hP : X.prog = c.P) (hw : X.w = c.w) (hK : X.K = c.K) (I : Inv X pins σ H s) (h : Lkd c H a kws ep) :
    (a == sysModules) = false ∧ ∃ vs, KV kws vs ∧ s.heap.DictAt (mixKind X.prog X.w) a vs ep := by
  rcases h with ⟨o, es, h1, h2⟩ | ⟨⟨h1, h2, _, h3⟩, o, es, h4, h5⟩
  · obtain ⟨hs, hgd, hx, es', ep', vs, hdt, hsz, kv, hm⟩ := I.frzK h1
    rw [h2] at hdt
    cases hdt
    exact ⟨hs, vs, kv, hm⟩
  · have kin : c.K.In s.heap := by rw [← hK]; exact I.kIn
    obtain ⟨vs, kv, dd⟩ := h3 s.heap kin
    rw [← hP, ← hw] at dd
    obtain ⟨o', es', ep', g1, g2, g3, g4⟩ := dd
    have := kin _ _ h4
    rw [g1] at this
    cases this
    rw [h5] at g3
    cases g3
    exact ⟨h2, vs, kv, _, _, g1, g2, h5, g4⟩
theorem Lkd.mono {G G' : Hp} {a : Addr} {kws : List (Key × V)} {ep : Nat} (s : Le G G') (h : Lkd c G a kws ep) : Lkd c G' a kws ep := by
  rcases h with ⟨o, es, h1, h2⟩ | h
  · rcases s _ _ h1 with h | ⟨⟨_, e⟩, _⟩
    · exact .inl ⟨o, es, h, h2⟩
    · cases e
  · exact .inr h
def ItD (c : Ct) (a : Addr) (kws : List (Key × V)) (ep : Nat) : It :=
  ⟨fun i H => Lkd c H a kws ep ∧ i < kws.length, fun i H x H' => H' = H ∧ ∃ q v, kws[i]? = some (q, v) ∧ x = kV q, fun i H => Lkd c H a kws ep ∧ kws.length ≤ i⟩
theorem turn_D {a : Addr} {kws : List (Key × V)} {ep : Nat} (p : Addr) : Turn c.P c.w c.K tg (ItD c a kws ep) [p] p (fun i h => h.IsKeyIter p a i kws.length ep) where
  mem := List.mem_singleton.mpr rfl
  obj := fun i h st b hb => by
    cases List.mem_singleton.mp hb
    obtain ⟨o, e1, e2, e3⟩ := st
    exact ⟨o, e1, fun v z => by rw [e3] at z; cases z⟩
  keep := fun i h h' st kk => st.at fun o e => kk p (List.mem_singleton.mpr rfl) o e
  item := by
    intro X hP hw hK hc i pins s σ H E I hf st hg
    obtain ⟨hd, hi⟩ := hg
    obtain ⟨f0, f1, f2, f3, f4, f5⟩ := hf p (List.mem_singleton.mpr rfl)
    obtain ⟨hs, vs, kv, hm⟩ := lkd_at hP hw hK I hd
    obtain ⟨⟨q, v⟩, hq⟩ : ∃ z, kws[i]? = some z := ⟨kws[i], List.getElem?_eq_getElem hi⟩
    obtain ⟨u, hu, ru⟩ := kv_get kv hq
    have hl : kws.length = vs.length := Paired.length kv
    have st : s.heap.IsKeyIter p a i kws.length ep := st
    rw [hl] at st
    rw [← hP, ← hw]
    refine wpAny_pyNext_dict_item st hm hu fun key h' hkey st' sb => ?_
    have I1 : Inv X pins σ H { s with heap := h' } := I.turned (t' := s.toks) (fun b ob hb e => (sb.2 b hb).trans e) f0 f1 f3 f4 f5
    obtain ⟨oi, e1, e2, e3⟩ := id st'
    refine ⟨key, rfl, go_of (s := { s with heap := h' }) e1 e2 e3 (by decide) ⟨kV q, H, I1, relV_key (show keyIs q key = true from hkey), ⟨rfl, q, v, hq, rfl⟩, ?_, fun b hb => (hf b hb).1⟩⟩
    show h'.IsKeyIter p a (i + 1) kws.length ep
    rw [hl]
    exact st'
  done := by
    intro X hP hw hK hc i pins s σ H E I hf st hg
    obtain ⟨hd, hi⟩ := hg
    obtain ⟨f0, f1, f2, f3, f4, f5⟩ := hf p (List.mem_singleton.mpr rfl)
    obtain ⟨hs, vs, kv, hm⟩ := lkd_at hP hw hK I hd
    have hl : kws.length = vs.length := Paired.length kv
    have st : s.heap.IsKeyIter p a i kws.length ep := st
    rw [hl] at st
    rw [← hP, ← hw]
    exact wpAny_pyNext_dict_end (I.ok.hd hc) st hm (List.getElem?_eq_none (by omega)) fun h' eb => ⟨rfl, I.turned (t' := s.toks) (fun b ob hb e => eb b ob hb e) f0 f1 f3 f4 f5⟩
  self := fun A i s Q E st h => wpAny_pyIter_keyiter st h
theorem RKs.get {G : Hp} : ∀ {kvs : List (PD × PD)} {kws : List (Key × V)}, RKs c G kvs kws → ∀ {i : Nat}, (∀ x, kvs[i]? = some x → ∃ q v, kws[i]? = some (q, v) ∧ kOf x.1 = some q ∧ RP c G x.2 v) ∧ (kvs[i]? = none → kws.length ≤ i)
  | _, _, .nil, i => ⟨fun x e => by simp at e, fun _ => Nat.zero_le _⟩
  | _, _, .cons e h r, 0 => ⟨fun x z => by simp at z; subst z; exact ⟨_, _, rfl, e, h⟩, fun z => by simp at z⟩
  | _, _, .cons e h r, i + 1 => by
    obtain ⟨h1, h2⟩ := RKs.get r (i := i)
    exact ⟨fun x z => by simpa using h1 x (by simpa using z), fun z => Nat.succ_le_succ (h2 (by simpa using z))⟩
theorem kV_rp {G : Hp} {x : PD} {q : Key} (h : kOf x = some q) : RP c G x (kV q) := by
  cases x <;> first | (cases h; done) | skip
  · cases h; exact .int _
  · cases h; exact .str _
theorem walks_D {G : Hp} {a : Addr} {kvs : List (PD × PD)} {kws : List (Key × V)} {ep : Nat} (h : Lkd c G a kws ep) (rs : RKs c G kvs kws) : Walks c G (ItD c a kws ep) (kvs.map (·.1)) := by
  intro hid ρ lh H st le i
  have q := h.mono (le.trans Gz_sub)
  rw [List.getElem?_map]
  refine ⟨fun x e => ?_, fun e => ⟨q, (RKs.get rs).2 (Option.map_eq_none_iff.mp e)⟩⟩
  obtain ⟨y, ey, rfl⟩ := Option.map_eq_some_iff.mp e
  obtain ⟨w, v, e1, e2, e3⟩ := (RKs.get rs).1 y ey
  refine ⟨⟨q, (List.getElem?_eq_some_iff.mp e1).1⟩, fun u H' ⟨z1, w', v', z2, z3⟩ => ?_⟩
  subst z1 z3
  rw [e1] at z2
  cases z2
  exact ⟨st, Ex.refl, kV_rp e2⟩
/-- a value is got, then dicts are locked -/
theorem we_lock {e : Expr} {σ : L2.St} {H : Hp} {Q Q' : VK} (h : WE X e σ H Q') (q : ∀ v H1, Q' v H1 → Q v H1 ∨ (∃ a kws, H1 a = some (.dK kws) ∧ ∀ (o : Obj) es ep, o.data = .dict es ep → Q v (upd H1 a (.frz o (.dK kws)))) ∨
    ∃ a o kws, H1 a = some (.frz o (.dK kws)) ∧ ∀ es ep, o.data = .dict es ep → Q v H1) : WE X e σ H Q := fun pins s I =>
  thn (h pins s I) fun v s1 ⟨x, H1, I1, r1, q1⟩ => by
    rcases q x H1 q1 with q1 | ⟨a, kws, e1, q1⟩ | ⟨a, o, kws, e1, q1⟩
    · exact ⟨x, H1, I1, r1, q1⟩
    · obtain ⟨o, I2⟩ := I1.lock e1 trivial
      obtain ⟨_, _, _, es, ep, _, hdt, _⟩ := I2.frzK (kvs := kws) upd_same
      exact ⟨x, _, I2, r1, q1 o es ep hdt⟩
    · obtain ⟨_, _, _, es, ep, _, hdt, _⟩ := I1.frzK e1
      exact ⟨x, _, I1, r1, q1 es ep hdt⟩
/-- a dict of the frozen part is locked -/
theorem Stt.lock {hid ρ : List Addr} {lh : LH} {H : Hp} {a : Addr} {kws : List (Key × V)} {o : Obj} (st : Stt c hid ρ lh H) (h : Gz hid ρ lh H a = some (.dK kws)) :
    Stt c hid ρ lh (upd H a (.frz o (.dK kws))) ∧ Ex hid ρ lh H ρ lh (upd H a (.frz o (.dK kws))) ∧ Gz hid ρ lh (upd H a (.frz o (.dK kws))) a = some (.frz o (.dK kws)) := by
  obtain ⟨na, ha⟩ := Fz.not h
  have g1 : Gz hid ρ lh (upd H a (.frz o (.dK kws))) a = some (.frz o (.dK kws)) := Fz.of upd_same na
  obtain ⟨s1, e1⟩ := st.turn (H' := upd H a (.frz o (.dK kws))) (fun b hb => upd_ne fun e => na (by rw [← e]; exact List.mem_append_left _ hb)) (fun b hb => upd_ne fun e => na (by rw [← e]; exact List.mem_append_right _ hb)) (fun b u hb => by
    obtain ⟨nb, hb'⟩ := Fz.not hb
    by_cases e : b = a
    · subst e
      rw [ha] at hb'
      cases hb'
      exact .inr ⟨⟨_, rfl⟩, o, g1⟩
    · exact .inl (Fz.of (by rw [upd_ne e]; exact hb') nb))
  exact ⟨s1, e1, g1⟩
/-- over a dict that is locked, or written -/
def iD (c : Ct) (td : TE) : TI := fun σ H R => td σ H fun x H1 => ∃ a kws ep, x = .ref a ∧ Lkd c H1 a kws ep ∧ R (ItD c a kws ep) H1
theorem pi_D (g : GX T c k N sc X) {td : TE} (he : PE X it td) : PI X tg it (iD c td) := by
  refine ⟨fun pins s σ H R I h => ?_⟩
  refine thn (he.run pins s σ H _ I h) fun u s1 ⟨x, H1, I1, rx, a, kws, ep, ex, hd, q⟩ => ?_
  subst ex
  obtain rfl : u = Value.ref a := rx
  obtain ⟨hs, vs, kv, hm⟩ := lkd_at g.hP g.hw g.hK I1 hd
  have hl : kws.length = vs.length := Paired.length kv
  have tn := turn_D (c := c) (tg := tg) (a := a) (kws := kws) (ep := ep) s1.heap.objs.size
  rw [← g.hP, ← g.hw, ← g.hK] at tn
  refine wpAny_pyIter_dict hs hm (pi_one (tk := s1.toks) I1 _ tn ⟨_, Heap.get?_push_size _ rfl, rfl, ?_⟩ q)
  rw [hl] <;> rfl
/-! ### its pairs -/
def ItDi (c : Ct) (a : Addr) (kws : List (Key × V)) (ep : Nat) : It :=
  ⟨fun i H => Lkd c H a kws ep ∧ i < kws.length, fun i H x H' => ∃ p q v, kws[i]? = some (q, v) ∧ x = .ref p ∧ H p = none ∧ H' = upd H p (.tup [kV q, v]), fun i H => Lkd c H a kws ep ∧ kws.length ≤ i⟩
theorem turn_Di {a : Addr} {kws : List (Key × V)} {ep : Nat} {elts : List Expr} {kk : Nat} {tpos : Pos} (p : Addr) : Turn c.P c.w c.K (.Tuple elts kk tpos) (ItDi c a kws ep) [p] p (fun i h => ∃ z1 z2, IsItemIter h p a i kws.length ep z1 z2) where
  mem := List.mem_singleton.mpr rfl
  obj := fun i h st b hb => by
    cases List.mem_singleton.mp hb
    obtain ⟨z1, z2, e⟩ := st
    exact ⟨_, e, fun v z => nomatch z⟩
  keep := fun i h h' st kk => let ⟨z1, z2, e⟩ := st; ⟨z1, z2, kk p (List.mem_singleton.mpr rfl) _ e⟩
  item := by
    intro X hP hw hK hc i pins s σ H E I hf st hg
    obtain ⟨hd, hi⟩ := hg
    obtain ⟨hs, vs, kv, hm⟩ := lkd_at hP hw hK I hd
    obtain ⟨⟨q, v⟩, hq⟩ : ∃ z, kws[i]? = some z := ⟨kws[i], List.getElem?_eq_getElem hi⟩
    obtain ⟨u, hu, ru⟩ := kv_get kv hq
    have hl : kws.length = vs.length := Paired.length kv
    obtain ⟨z1, z2, he⟩ := st
    have he : IsItemIter s.heap p a i kws.length ep z1 z2 := he
    rw [hl] at he
    have hlt : p < s.heap.objs.size := Heap.lt_size he
    rw [← hP, ← hw]
    refine wpAny_pyNext_items_item he hm hu fun key h' hkey ho hT hz hk => ?_
    refine ⟨_, rfl, wpAny_letOwnedTupleGo_items (s := { s with heap := h' }) ho fun h2 he' sb => ?_⟩
    have hT2 : h2.get? s.heap.objs.size = some { cls := .type "tuple", data := .seq #[key, u] } := (sb.2 _ (Nat.ne_of_gt hlt)).trans hT
    have nw : ObjOk X.prog X.w (upd H s.heap.objs.size (.tup [kV q, v])) h2 s.heap.objs.size (.tup [kV q, v]) :=
      ⟨(by show 2 ≤ sizeLine; decide), [key, u], .cons (relV_key (show keyIs q key = true from hkey)) (.cons ru .nil), ⟨_, hT2, rfl, _, rfl⟩⟩
    have I1 : Inv X pins σ (upd H s.heap.objs.size (.tup [kV q, v])) { s with heap := h2 } :=
      I.turnedNew (t' := s.toks) (ch := [p]) (fun b ob hb e => (sb.2 b (by simpa using hb)).trans (hk b ob (by simpa using hb) e)) hf (Nat.le_refl _) nw
    refine ⟨.ref s.heap.objs.size, _, I1, rfl, ⟨_, q, v, hq, rfl, I.hok.fresh (Nat.le_refl _), rfl⟩, ⟨key, u, ?_⟩, fun b hb => ?_⟩
    · rw [hl]; exact he'
    · cases List.mem_singleton.mp hb
      rw [upd_ne (Nat.ne_of_lt hlt)]
      exact (hf p (List.mem_singleton.mpr rfl)).1
  done := by
    intro X hP hw hK hc i pins s σ H E I hf st hg
    obtain ⟨hd, hi⟩ := hg
    obtain ⟨f0, f1, f2, f3, f4, f5⟩ := hf p (List.mem_singleton.mpr rfl)
    obtain ⟨hs, vs, kv, hm⟩ := lkd_at hP hw hK I hd
    have hl : kws.length = vs.length := Paired.length kv
    obtain ⟨z1, z2, he⟩ := st
    have he : IsItemIter s.heap p a i kws.length ep z1 z2 := he
    rw [hl] at he
    rw [← hP, ← hw]
    exact wpAny_pyNext_items_end (I.ok.hd hc) he hm (List.getElem?_eq_none (by omega)) fun h' eb => ⟨rfl, I.turned (t' := s.toks) (fun b ob hb e => eb b ob hb e) f0 f1 f3 f4 f5⟩
  self := fun A i s Q E st h => let ⟨_, _, e⟩ := st; PySem.W.kcp_self e h
theorem walks_Di {G : Hp} {a : Addr} {kvs : List (PD × PD)} {kws : List (Key × V)} {ep : Nat} (h : Lkd c G a kws ep) (rs : RKs c G kvs kws) : Walks c G (ItDi c a kws ep) (kvs.map fun q => .tup [q.1, q.2]) := by
  intro hid ρ lh H st le i
  have q := h.mono (le.trans Gz_sub)
  rw [List.getElem?_map]
  refine ⟨fun x e => ?_, fun e => ⟨q, (RKs.get rs).2 (Option.map_eq_none_iff.mp e)⟩⟩
  obtain ⟨y, ey, rfl⟩ := Option.map_eq_some_iff.mp e
  obtain ⟨w, v, e1, e2, e3⟩ := (RKs.get rs).1 y ey
  refine ⟨⟨q, (List.getElem?_eq_some_iff.mp e1).1⟩, fun u H' ⟨p, w', v', z2, z3, hp, z4⟩ => ?_⟩
  subst z3 z4
  rw [e1] at z2
  cases z2
  obtain ⟨st1, ex1⟩ := st.lay hp (.tup [kV w, v])
  exact ⟨st1, ex1, .tup (SqT.of (st.layAt hp)) (.cons (kV_rp e2) (.cons (RP.mono (le.trans ex1.keep) e3) .nil))⟩
def iDi (c : Ct) (td : TE) : TI := fun σ H R => td σ H fun x H1 => ∃ a kws ep, x = .ref a ∧ Lkd c H1 a kws ep ∧ R (ItDi c a kws ep) H1
theorem pi_Di (g : GX T c k N sc X) {td : TE} {elts : List Expr} {kk : Nat} {tpos apos cpos : Pos} (he : PE X it td) (hb : attributeBase it "items" X.env (eval it X.env) = eval it X.env) (hline : (apos.endLine == cpos.line) = true) :
    PI X (.Tuple elts kk tpos) (.Call (.Attribute it "items" apos) [] [] cpos) (iDi c td) := by
  refine ⟨fun pins s σ H R I h => ?_⟩
  refine wpAny_Call_method (T := "dict") (id := "dict.items") hb rfl hline F.plainAttrs_dict F.slot_dict_items F.type_dict_items (thn (he.run pins s σ H _ I h) fun u s1 ⟨x, H1, I1, rx, a, kws, ep, ex, hd, q⟩ => ?_)
  subst ex
  obtain rfl : u = Value.ref a := rx
  obtain ⟨hs, vs, kv, hm⟩ := lkd_at g.hP g.hw g.hK I1 hd
  have hl : kws.length = vs.length := Paired.length kv
  have tn := turn_Di (c := c) (elts := elts) (kk := kk) (tpos := tpos) (a := a) (kws := kws) (ep := ep) (s1.heap.push { cls := .type "dict_items", data := .fields #[.ref a] }).objs.size
  rw [← g.hP, ← g.hw, ← g.hK] at tn
  refine ⟨hm.dictOf.typeIs, hm.dictOf.mapOf.noDict, ?_⟩
  have I2 : Inv X pins σ H1 { s1 with heap := s1.heap.push { cls := .type "dict_items", data := .fields #[.ref a] } } := I1.kept (t' := s1.toks) fun b ob z => Heap.get?_push_of_some _ z
  have fin : wpAny (model X.prog X.w) X.A (pyIter (.ref s1.heap.objs.size)) (PIE X pins σ (.Tuple elts kk tpos) R) X.xe { s1 with heap := s1.heap.push { cls := .type "dict_items", data := .fields #[.ref a] } } := by
    refine wpAny_pyIter_items (d := a) (knd := mixKind X.prog X.w) ⟨_, Heap.get?_push_size _ rfl, rfl, rfl⟩ (hm.push _) (pi_one (tk := s1.toks) I2 _ tn ⟨.none, .none, ?_⟩ q)
    rw [hl]
    exact Heap.get?_push_size _ rfl
  show wpAny _ _ (callWith cpos (.builtin "dict.items") [.ref a] [] []) _ X.xe s1
  exact method_meetsIn F.slot_dict_items F.entry_dict_items rfl (PySem.evalArgs_none ⟨rfl, hm.dictOf.typeIs, F.args_dict_items_1 _, _, meets_dict_items (mixKind X.prog X.w) a hs, ⟨vs, hm.dictOf⟩, fin⟩)
end
end Sim
end
section
set_option Elab.async false
set_option linter.all false
set_option maxRecDepth 100000
set_option maxHeartbeats 1000000
/-! The Sim layer, P: walks; comprehensions. -/
namespace Sim
open PySem PySem.Spec PyProof.Rows L2
section
variable {T : Tab} {c : Ct} {cal : Cal} {k : Nat} {N : List Str} {sc : Scope} {X : Cx}
variable (T c cal X) in
def SndI (ik : IK) (ia : List C) (tg it : Expr) : Prop := ∀ (hid ρ : List Addr) (lh : LH) (H : Hp) (σ : L2.St) (env : Env0) (R : It → Hp → Prop) (W : WX), Takes X W → Stt c hid ρ lh H → REnv c ρ (Gz hid ρ lh H) env σ →
  OutA c hid ρ lh H (fun ds lh1 ρ1 H1 => match itOf ik ds lh1 with | some (.its xs) => ∀ J, Walks c (Gz hid ρ1 lh1 H1) J xs → R J H1 | _ => False) (fun cls d H' => W cls d σ H') (evs T cal ia env lh) → WI X tg it σ H R
theorem evs_one {q : C} {env : Env0} {lh : LH} : evs T cal [q] env lh = (ev T cal q env lh).bind fun x h => .ok [x] h := rfl
theorem fset_of {e : Expr} {env : Env} (h : isSetE e = false) (x : Value) : foldedSetIterable e env x = pure x := by
  cases e <;> first | rfl | (cases h; done)
/-- over a value -/
theorem sndI_seq (g : GX T c k N sc X) {q : C} {tg it : Expr} (s : SndE T c cal X q it) : SndI T c cal X .seq [q] tg it := by
  intro hid ρ lh H σ env R W tk st re ho
  rw [evs_one] at ho
  cases er : ev T cal q env lh with
  | bad =>
    rw [er] at ho
    exact ho.elim
  | exc e1 lh1 =>
    rw [er] at ho
    exact WI.of (pi_list pe_we) (s hid ρ lh H σ env _ W tk st re (by rw [er]; exact ho))
  | ok d lh1 =>
    rw [er] at ho
    have ho : ∀ (H' : Hp) (ρ' : List Addr), Stt c hid ρ' lh1 H' → Ex hid ρ lh H ρ' lh1 H' → (match itOf .seq [d] lh1 with | some (.its xs) => ∀ J, Walks c (Gz hid ρ' lh1 H') J xs → R J H' | _ => False) := ho
    have no : (∀ (H' : Hp) (ρ' : List Addr), Stt c hid ρ' lh1 H' → Ex hid ρ lh H ρ' lh1 H' → False) → WI X tg it σ H R := fun no =>
      WI.of (pi_list pe_we) (s hid ρ lh H σ env _ W tk st re (by rw [er]; exact fun v H1 ρ1 s1 x1 r1 => (no H1 ρ1 s1 x1).elim))
    cases d with
    | ref n =>
      refine no fun H' ρ' s1 x1 => ?_
      have := ho H' ρ' s1 x1
      unfold itOf at this
      simp only at this
      split at this
      · rename_i e
        split at e <;> cases e
      · exact this
    | p d =>
      cases d with
      | lst xs =>
        refine WI.of (pi_list pe_we) (s hid ρ lh H σ env _ W tk st re ?_)
        rw [er]
        intro v H1 ρ1 s1 x1 r1
        have r1 : RP c (Gz hid ρ1 lh1 H1) (.lst xs) v := r1
        cases r1 with
        | lst h rs =>
          rename_i a vs
          refine ⟨a, rfl, ⟨vs, ?_⟩, ?_⟩
          · rw [g.hK]
            exact .inl (.inl (Le.lst Gz_sub h))
          · rw [g.hK]
            exact ho H1 ρ1 s1 x1 _ (walks_list h rs)
      | tup xs =>
        refine WI.of (pi_tup pe_we) (s hid ρ lh H σ env _ W tk st re ?_)
        rw [er]
        intro v H1 ρ1 s1 x1 r1
        have r1 : RP c (Gz hid ρ1 lh1 H1) (.tup xs) v := r1
        cases r1 with
        | tup h rs =>
          rename_i a vs
          refine ⟨a, rfl, ⟨vs, ?_⟩, ?_⟩
          · rw [g.hK]
            exact Gz_sub.seqT h
          · rw [g.hK]
            exact ho H1 ρ1 s1 x1 _ (walks_tup h rs)
      | dct kvs =>
        refine WI.of (pi_D g pe_we) ?_
        refine we_lock (s hid ρ lh H σ env (fun v H1 => ∃ ρ1, Stt c hid ρ1 lh1 H1 ∧ Ex hid ρ lh H ρ1 lh1 H1 ∧ RP c (Gz hid ρ1 lh1 H1) (.dct kvs) v) W tk st re ?_) ?_
        · rw [er]
          exact fun v H1 ρ1 s1 x1 r1 => ⟨ρ1, s1, x1, r1⟩
        · rintro v H1 ⟨ρ1, s1, x1, r1⟩
          cases r1 with
          | dct h rs =>
            rename_i a kws
            rcases h with (h | ⟨o, h⟩) | h
            · refine .inr (.inl ⟨a, kws, (Fz.not h).2, fun o es ep ed => ?_⟩)
              obtain ⟨s2, x2, g2⟩ := s1.lock (o := o) h
              have lk : Lkd c (Gz hid ρ1 lh1 (upd H1 a (.frz o (.dK kws)))) a kws ep := .inl ⟨o, es, g2, ed⟩
              exact ⟨a, kws, ep, rfl, lk.mono Gz_sub, ho _ ρ1 s2 (x1.trans x2) _ (walks_D lk (RKs.mono x2.keep rs))⟩
            · refine .inr (.inr ⟨a, o, kws, (Fz.not h).2, fun es ep ed => ?_⟩)
              have lk : Lkd c (Gz hid ρ1 lh1 H1) a kws ep := .inl ⟨o, es, h, ed⟩
              exact ⟨a, kws, ep, rfl, lk.mono Gz_sub, ho _ ρ1 s1 x1 _ (walks_D lk rs)⟩
            · obtain ⟨o, es, ep, e1, e2, e3⟩ := id h.2.2.1
              have lk : Lkd c (Gz hid ρ1 lh1 H1) a kws ep := .inr ⟨h, o, es, e1, e3⟩
              exact .inl ⟨a, kws, ep, rfl, lk.mono Gz_sub, ho _ ρ1 s1 x1 _ (walks_D lk rs)⟩
      | non => exact no fun H' ρ' s1 x1 => ho H' ρ' s1 x1
      | bl _ => exact no fun H' ρ' s1 x1 => ho H' ρ' s1 x1
      | int _ => exact no fun H' ρ' s1 x1 => ho H' ρ' s1 x1
      | str _ => exact no fun H' ρ' s1 x1 => ho H' ρ' s1 x1
      | obj _ _ => exact no fun H' ρ' s1 x1 => ho H' ρ' s1 x1
      | scr _ => exact no fun H' ρ' s1 x1 => ho H' ρ' s1 x1
/-- its pairs -/
theorem sndI_itm (g : GX T c k N sc X) {q : C} {ea : Expr} {elts : List Expr} {kk : Nat} {tpos apos cpos : Pos} (s : SndE T c cal X q ea) (hb : baseB ea = true) (hl : (apos.endLine == cpos.line) = true) :
    SndI T c cal X .itm [q] (.Tuple elts kk tpos) (.Call (.Attribute ea "items" apos) [] [] cpos) := by
  intro hid ρ lh H σ env R W tk st re ho
  rw [evs_one] at ho
  refine WI.of (pi_Di g pe_we (base_of hb) hl) ?_
  cases er : ev T cal q env lh with
  | bad =>
    rw [er] at ho
    exact ho.elim
  | exc e1 lh1 =>
    rw [er] at ho
    exact s hid ρ lh H σ env _ W tk st re (by rw [er]; exact ho)
  | ok d lh1 =>
    rw [er] at ho
    have ho : ∀ (H' : Hp) (ρ' : List Addr), Stt c hid ρ' lh1 H' → Ex hid ρ lh H ρ' lh1 H' → (match itOf .itm [d] lh1 with | some (.its xs) => ∀ J, Walks c (Gz hid ρ' lh1 H') J xs → R J H' | _ => False) := ho
    refine we_lock (s hid ρ lh H σ env (fun v H1 => ∃ ρ1, Stt c hid ρ1 lh1 H1 ∧ Ex hid ρ lh H ρ1 lh1 H1 ∧ RL c ρ1 (Gz hid ρ1 lh1 H1) d v) W tk st re ?_) ?_
    · rw [er]
      exact fun v H1 ρ1 s1 x1 r1 => ⟨ρ1, s1, x1, r1⟩
    · rintro v H1 ⟨ρ1, s1, x1, r1⟩
      cases d with
      | ref n => exact (ho H1 ρ1 s1 x1).elim
      | p d =>
        obtain ⟨kvs, rfl⟩ : ∃ kvs, d = .dct kvs := by
          have z := ho H1 ρ1 s1 x1
          cases d <;> first | exact z.elim | exact ⟨_, rfl⟩
        have r1 : RP c (Gz hid ρ1 lh1 H1) (.dct kvs) v := r1
        cases r1 with
        | dct h rs =>
          rename_i a kws
          rcases h with (h | ⟨o, h⟩) | h
          · refine .inr (.inl ⟨a, kws, (Fz.not h).2, fun o es ep ed => ?_⟩)
            obtain ⟨s2, x2, g2⟩ := s1.lock (o := o) h
            have lk : Lkd c (Gz hid ρ1 lh1 (upd H1 a (.frz o (.dK kws)))) a kws ep := .inl ⟨o, es, g2, ed⟩
            exact ⟨a, kws, ep, rfl, lk.mono Gz_sub, ho _ ρ1 s2 (x1.trans x2) _ (walks_Di lk (RKs.mono x2.keep rs))⟩
          · refine .inr (.inr ⟨a, o, kws, (Fz.not h).2, fun es ep ed => ?_⟩)
            have lk : Lkd c (Gz hid ρ1 lh1 H1) a kws ep := .inl ⟨o, es, h, ed⟩
            exact ⟨a, kws, ep, rfl, lk.mono Gz_sub, ho _ ρ1 s1 x1 _ (walks_Di lk rs)⟩
          · obtain ⟨o, es, ep, e1, e2, e3⟩ := id h.2.2.1
            have lk : Lkd c (Gz hid ρ1 lh1 H1) a kws ep := .inr ⟨h, o, es, e1, e3⟩
            exact .inl ⟨a, kws, ep, rfl, lk.mono Gz_sub, ho _ ρ1 s1 x1 _ (walks_Di lk rs)⟩
theorem it_rng1 {ds : List LV} {lh : LH} {z : ItV} (e : itOf .rng1 ds lh = some z) : ∃ j : Int, ds = [.p (.int j)] ∧ (-(2 ^ 62) ≤ j ∧ j < 2 ^ 62) ∧ z = .its (rangeD 0 j.toNat) := by
  unfold itOf at e
  split at e <;> rename_i hk <;> first | (cases hk; done) | skip
  · split at e
    · cases e
      exact ⟨_, rfl, by assumption, rfl⟩
    · cases e
  · cases e
theorem it_rng2 {ds : List LV} {lh : LH} {z : ItV} (e : itOf .rng2 ds lh = some z) : ∃ i j : Int, ds = [.p (.int i), .p (.int j)] ∧ ((-(2 ^ 62) ≤ i ∧ i < 2 ^ 62) ∧ -(2 ^ 62) ≤ j ∧ j < 2 ^ 62) ∧ z = .its (rangeD i (j - i).toNat) := by
  unfold itOf at e
  split at e <;> rename_i hk <;> first | (cases hk; done) | skip
  · split at e
    · cases e
      exact ⟨_, _, rfl, by assumption, rfl⟩
    · cases e
  · cases e
theorem it_enm {ds : List LV} {lh : LH} {z : ItV} (e : itOf .enm ds lh = some z) : ∃ xs, ds = [.p (.lst xs)] ∧ z = .its (enumD 0 xs) := by
  unfold itOf at e
  split at e <;> rename_i hk <;> first | (cases hk; done) | skip
  · cases e
    exact ⟨_, rfl, rfl⟩
  · cases e
theorem it_zp {ds : List LV} {lh : LH} {z : ItV} (e : itOf .zp ds lh = some z) : ∃ xs ys, z = .its (zipD xs ys) ∧ (ds = [.p (.lst xs), .p (.lst ys)] ∨ ds = [.p (.tup xs), .p (.tup ys)]) := by
  unfold itOf at e
  split at e <;> rename_i hk <;> first | (cases hk; done) | skip
  · cases e
    exact ⟨_, _, rfl, .inl rfl⟩
  · cases e
    exact ⟨_, _, rfl, .inr rfl⟩
  · cases e
/-- by its arguments -/
theorem SndA.toI {ia : List C} {es : List Expr} {ik : IK} (s : SndA T c cal X ia es) {hid ρ : List Addr} {lh : LH} {H : Hp} {σ : L2.St} {env : Env0} {R : It → Hp → Prop} {W : WX} {Q1 : List V → Hp → Prop} (tk : Takes X W) (st : Stt c hid ρ lh H) (re : REnv c ρ (Gz hid ρ lh H) env σ)
    (ho : OutA c hid ρ lh H (fun ds lh1 ρ1 H1 => match itOf ik ds lh1 with | some (.its xs) => ∀ J, Walks c (Gz hid ρ1 lh1 H1) J xs → R J H1 | _ => False) (fun cls d H' => W cls d σ H') (evs T cal ia env lh))
    (q : ∀ ds lh1 ρ1 H1 vs z, itOf ik ds lh1 = some z → RLs c ρ1 (Gz hid ρ1 lh1 H1) ds vs → (match (some z : Option ItV) with | some (.its xs) => ∀ J, Walks c (Gz hid ρ1 lh1 H1) J xs → R J H1 | _ => False) → Q1 vs H1) : WA X es σ H Q1 := by
  refine s hid ρ lh H σ env Q1 W tk st re ?_
  cases er : evs T cal ia env lh with
  | bad =>
    rw [er] at ho
    exact ho
  | exc e1 lh1 =>
    rw [er] at ho
    exact ho
  | ok ds lh1 =>
    rw [er] at ho
    intro H1 ρ1 s1 x1 vs rs
    have this : (match itOf ik ds lh1 with | some (.its xs) => ∀ J, Walks c (Gz hid ρ1 lh1 H1) J xs → R J H1 | _ => False) := ho H1 ρ1 s1 x1
    cases ei : itOf ik ds lh1 with
    | none =>
      rw [ei] at this
      exact this.elim
    | some z =>
      rw [ei] at this
      exact q ds lh1 ρ1 H1 vs z ei rs this
theorem sndI_rng1 (g : GX T c k N sc X) {qs : List C} {a tg : Expr} {p pos : Pos} (hg : glbB sc "range" = true) (s : SndA T c cal X qs [a]) (hs : isStar a = false) : SndI T c cal X .rng1 qs tg (.Call (.Name "range" p) [a] [] pos) := by
  intro hid ρ lh H σ env R W tk st re ho
  refine WI.of (pi_range1 (g.gl hg) (g.blt _ (by decide)) pa_wa (star_of hs)) ?_
  refine s.toI tk st re ho fun ds lh1 ρ1 H1 vs z ei rs hq => ?_
  obtain ⟨j, rfl, hj, rfl⟩ := it_rng1 ei
  cases rs with
  | cons r rr =>
    cases rr
    cases RP.int_inv r
    exact ⟨j, rfl, hj.1, hj.2, hq _ walks_rng⟩
theorem sndI_rng2 (g : GX T c k N sc X) {qs : List C} {a b tg : Expr} {p pos : Pos} (hg : glbB sc "range" = true) (s : SndA T c cal X qs [a, b]) (hs : isStar a = false) (hs2 : isStar b = false) : SndI T c cal X .rng2 qs tg (.Call (.Name "range" p) [a, b] [] pos) := by
  intro hid ρ lh H σ env R W tk st re ho
  have e2 := star_of (es := []) (env := X.env) hs2
  refine WI.of (pi_range2 (g.gl hg) (g.blt _ (by decide)) pa_wa (by rw [star_of hs, e2]; rfl) e2) ?_
  refine s.toI tk st re ho fun ds lh1 ρ1 H1 vs z ei rs hq => ?_
  obtain ⟨i, j, rfl, hj, rfl⟩ := it_rng2 ei
  cases rs with
  | cons r rr =>
    cases rr with
    | cons r2 rr =>
      cases rr
      cases RP.int_inv r
      cases RP.int_inv r2
      exact ⟨i, j, rfl, ⟨hj.1.1, hj.1.2, hj.2.1, hj.2.2⟩, hq _ walks_rng⟩
theorem sndI_enm (g : GX T c k N sc X) {qs : List C} {a : Expr} {elts : List Expr} {kk : Nat} {tpos p pos : Pos} (hg : glbB sc "enumerate" = true) (s : SndA T c cal X qs [a]) (hs : isStar a = false) : SndI T c cal X .enm qs (.Tuple elts kk tpos) (.Call (.Name "enumerate" p) [a] [] pos) := by
  intro hid ρ lh H σ env R W tk st re ho
  refine WI.of (pi_enum (g.gl hg) (g.blt _ (by decide)) pa_wa (star_of hs)) ?_
  refine s.toI tk st re ho fun ds lh1 ρ1 H1 vs z ei rs hq => ?_
  obtain ⟨xs, rfl, rfl⟩ := it_enm ei
  cases rs with
  | cons r rr =>
    cases rr
    rename_i v
    have r : RP c (Gz hid ρ1 lh1 H1) (.lst xs) v := r
    cases r with
    | lst h rs =>
      rename_i a1 vs1
      refine ⟨a1, vs1, rfl, ?_, ?_⟩
      · rw [g.hK]
        exact .inl (.inl (Le.lst Gz_sub h))
      · rw [g.hK]
        exact hq _ (walks_enm h rs)
theorem sndI_zp (g : GX T c k N sc X) {qs : List C} {a b : Expr} {elts : List Expr} {kk : Nat} {tpos p pos : Pos} (hg : glbB sc "zip" = true) (s : SndA T c cal X qs [a, b]) (hs : isStar a = false) (hs2 : isStar b = false) : SndI T c cal X .zp qs (.Tuple elts kk tpos) (.Call (.Name "zip" p) [a, b] [] pos) := by
  intro hid ρ lh H σ env R W tk st re ho
  have e2 := star_of (es := []) (env := X.env) hs2
  refine WI.of (RZ.pi_zipA (g.gl hg) (g.blt _ (by decide)) pa_wa (star_of hs) (by rw [e2]; rfl)) ?_
  refine s.toI tk st re ho fun ds lh1 ρ1 H1 vs z ei rs hq => ?_
  obtain ⟨xs, ys, rfl, h⟩ := it_zp ei
  rcases h with rfl | rfl
  · cases rs with
    | cons r rr =>
      cases rr with
      | cons r2 rr =>
        cases rr
        rename_i v v2
        have r : RP c (Gz hid ρ1 lh1 H1) (.lst xs) v := r
        have r2 : RP c (Gz hid ρ1 lh1 H1) (.lst ys) v2 := r2
        cases r with
        | lst h rs =>
          rename_i a1 vs1
          cases r2 with
          | lst h2 rs2 =>
            rename_i a2 vs2
            refine ⟨a1, a2, vs1, vs2, rfl, .inl ⟨?_, ?_, ?_⟩⟩
            · rw [g.hK]
              exact .inl (.inl (Le.lst Gz_sub h))
            · rw [g.hK]
              exact .inl (.inl (Le.lst Gz_sub h2))
            · rw [g.hK]
              exact hq _ (walks_zip h h2 rs rs2)
  · cases rs with
    | cons r rr =>
      cases rr with
      | cons r2 rr =>
        cases rr
        rename_i v v2
        have r : RP c (Gz hid ρ1 lh1 H1) (.tup xs) v := r
        have r2 : RP c (Gz hid ρ1 lh1 H1) (.tup ys) v2 := r2
        cases r with
        | tup h rs =>
          rename_i a1 vs1
          cases r2 with
          | tup h2 rs2 =>
            rename_i a2 vs2
            refine ⟨a1, a2, vs1, vs2, rfl, .inr ⟨?_, ?_, ?_⟩⟩
            · rw [g.hK]
              exact Gz_sub.seqT h
            · rw [g.hK]
              exact Gz_sub.seqT h2
            · rw [g.hK]
              exact hq _ (walks_zipT h h2 rs rs2)
end
end Sim
end
section
set_option Elab.async false
set_option linter.all false
set_option maxRecDepth 100000
set_option maxHeartbeats 1000000
/-! The Sim layer, Q: comprehensions. -/
namespace Sim
open PySem PySem.Spec PyProof.Rows L2
section
variable {T : Tab} {c : Ct} {cal : Cal} {k : Nat} {N : List Str} {sc : Scope} {X : Cx}
/-- a block's context -/
abbrev Bk (X : Cx) (scope : Scope) (s0 : Shared) (H0 : Hp) (C : Addr) (cl : List (Str × Addr)) (fp : List Addr) : Cx := X.blk s0 H0 scope (compEnvC scope cl C X.env) fp
theorem GX.blk (g : GX T c k N sc X) (scope : Scope) (s0 : Shared) (H0 : Hp) (C : Addr) (cl : List (Str × Addr)) (fp : List Addr) : GX T c k N (relS scope sc) (Bk X scope s0 H0 C cl fp) where
  hN := g.hN
  nd := g.nd
  hsc := by
    rw [← g.hsc]
    rfl
  hK := g.hK
  hP := g.hP
  hw := g.hw
  calm := g.calm
  room := g.room
  glb := g.glb
  blt := g.blt
  fns := g.fns
  kls := g.kls
  mks := g.mks
  mts := g.mts
theorem bk_takes {scope : Scope} {s0 : Shared} {H0 : Hp} {C : Addr} {cl : List (Str × Addr)} {fp : List Addr} : Takes (Bk X scope s0 H0 C cl fp) (fun _ _ _ _ => False) := fun u s' ⟨a, B, sI, pins, σ, H, cls, d, e, I, nb, up, sky, na, os, ag, w⟩ => w
theorem locBk_ok (g : GX T c k N sc X) {scope : Scope} {s0 : Shared} {H0 : Hp} {C : Addr} {cl : List (Str × Addr)} {fp : List Addr} : ∀ x, locBk scope sc x = true → Loc (Bk X scope s0 H0 C cl fp).env.scope x ∧ ((Bk X scope s0 H0 C cl fp).fn x = true ∨ (Bk X scope s0 H0 C cl fp).env.scope.names.lookup x = some .local) := by
  intro x h
  have e : (Bk X scope s0 H0 C cl fp).env.scope = relS scope sc := (g.blk scope s0 H0 C cl fp).hsc
  rw [e]
  unfold locBk at h
  split at h
  · rename_i z
    exact ⟨.inl z, .inr z⟩
  · rename_i z
    exact ⟨.inr z, .inl h⟩
  · cases h
def WGb (X : Cx) (scope : Scope) (tg : Expr) : TG := fun v σ H Q => ∀ s0 H0 C cl fp, WG (Bk X scope s0 H0 C cl fp) tg v σ H Q
def WTs (X : Cx) (ifs : List Expr) : TT := fun σ H Q => ∀ (pins : List (Addr × Obj)) (s : Shared), Inv X pins σ H s →
  wpAny (model X.prog X.w) X.A (forIn ifs true fun c r => if r = true then do let ok ← isTrue c X.env (eval c X.env); pure (ForInStep.yield ok) else pure (ForInStep.yield r)) (TP X pins σ Q) X.xe s
theorem WTs.of {ifs : List Expr} {t : TT} (h : PTs X ifs t) {σ : L2.St} {H : Hp} {Q : Bool → Hp → Prop} (q : t σ H Q) : WTs X ifs σ H Q := fun pins s I => h.run pins s σ H Q I q
def WTb (X : Cx) (scope : Scope) (ifs : List Expr) : TT := fun σ H Q => ∀ s0 H0 C cl fp, WTs (Bk X scope s0 H0 C cl fp) ifs σ H Q
def WEb (X : Cx) (scope : Scope) (e : Expr) : TE := fun σ H Q => ∀ s0 H0 C cl fp, WE (Bk X scope s0 H0 C cl fp) e σ H Q
theorem pg_wgb {scope : Scope} {tg : Expr} (s0 : Shared) (H0 : Hp) (C : Addr) (cl : List (Str × Addr)) (fp : List Addr) : PG (Bk X scope s0 H0 C cl fp) tg (WGb X scope tg) := ⟨fun pins s _ _ _ u _ I r h => h s0 H0 C cl fp pins s u I r⟩
theorem pt_wtb {scope : Scope} {ifs : List Expr} (s0 : Shared) (H0 : Hp) (C : Addr) (cl : List (Str × Addr)) (fp : List Addr) : PTs (Bk X scope s0 H0 C cl fp) ifs (WTb X scope ifs) := ⟨fun pins s _ _ _ I h => h s0 H0 C cl fp pins s I⟩
theorem pe_web {scope : Scope} {e : Expr} (s0 : Shared) (H0 : Hp) (C : Addr) (cl : List (Str × Addr)) (fp : List Addr) : PE (Bk X scope s0 H0 C cl fp) e (WEb X scope e) := ⟨fun pins s _ _ _ I h => h s0 H0 C cl fp pins s I⟩
variable (T c cal X) in
/-- all tests -/
def SndTs (qs : List C) (es : List Expr) : Prop := ∀ (hid ρ : List Addr) (lh : LH) (H : Hp) (σ : L2.St) (env : Env0) (Q : Bool → Hp → Prop) (W : WX), Takes X W → Stt c hid ρ lh H → REnv c ρ (Gz hid ρ lh H) env σ →
  OutA c hid ρ lh H (fun b _ _ H1 => Q b H1) (fun cls d H' => W cls d σ H') (evAll T cal qs env lh) → WTs X es σ H Q
theorem sndTs_nil : SndTs T c cal X [] [] := fun hid ρ lh H σ env Q W tk st re ho => WTs.of pts_nil (ho H ρ st Ex.refl)
theorem sndTs_one {q : C} {e : Expr} (s : SndT T c cal X q e) : SndTs T c cal X [q] [e] := by
  intro hid ρ lh H σ env Q W tk st re ho
  refine WTs.of (pts_one pt_wt) (s hid ρ lh H σ env Q W tk st re ?_)
  have ho : OutA c hid ρ lh H (fun b _ _ H1 => Q b H1) (fun cls d H' => W cls d σ H') ((ev T cal q env lh).bind fun x h => match x with | .p (.bl true) => .ok true h | .p (.bl false) => .ok false h | _ => .bad) := ho
  cases er : ev T cal q env lh with
  | bad => rw [er] at ho; exact ho
  | exc e1 lh1 => rw [er] at ho; exact ho
  | ok d lh1 =>
    rw [er] at ho
    have ho : OutA c hid ρ lh H (fun b _ _ H1 => Q b H1) (fun cls d H' => W cls d σ H') (match (generalizing := false) d with | .p (.bl true) => .ok true lh1 | .p (.bl false) => .ok false lh1 | _ => .bad) := ho
    split at ho
    · exact fun H1 ρ1 s1 x1 => ho H1 ρ1 s1 x1
    · exact fun H1 ρ1 s1 x1 => ho H1 ρ1 s1 x1
    · exact ho.elim
theorem wipeE_len (env : Env0) : ∀ vs, (wipeE env vs).length = env.length
  | [] => rfl
  | v :: vs => by
    show ((wipeE env vs).set v none).length = _
    rw [List.length_set, wipeE_len env vs]
theorem wipeE_some {env : Env0} {i : Nat} {d : LV} : ∀ {vs : List Nat}, (wipeE env vs)[i]? = some (some d) → env[i]? = some (some d) ∧ i ∉ vs
  | [], h => ⟨h, List.not_mem_nil⟩
  | v :: vs, h => by
    have h : ((wipeE env vs).set v none)[i]? = some (some d) := h
    by_cases e : v = i
    · subst e
      by_cases hl : v < (wipeE env vs).length
      · rw [List.getElem?_set_self hl] at h
        cases h
      · rw [List.getElem?_eq_none (by simpa using hl)] at h
        cases h
    · rw [List.getElem?_set_ne e] at h
      obtain ⟨h1, h2⟩ := wipeE_some h
      exact ⟨h1, fun m => (List.mem_cons.mp m).elim (fun z => e z.symm) h2⟩
theorem REnv.wipe {ρ : List Addr} {G : Hp} {env : Env0} {σ : L2.St} (re : REnv c ρ G env σ) (vs : List Nat) : REnv c ρ G (wipeE env vs) (L2.wipe σ vs) := by
  refine ⟨by rw [wipeE_len, wipe_length]; exact re.1, fun i d e => ?_⟩
  obtain ⟨h1, h2⟩ := wipeE_some e
  rw [wipe_out h2]
  exact re.2 i d h1
theorem wipe_idem {σ : L2.St} : ∀ {vs : List Nat}, L2.wipe (L2.wipe σ vs) vs = L2.wipe σ vs := by
  intro vs
  apply List.ext_getElem?
  intro i
  by_cases h : i ∈ vs
  · have z : ∀ {τ : L2.St} {us : List Nat}, i ∈ us → (L2.wipe τ us)[i]? = if i < τ.length then some none else none := by
      intro τ us
      induction us with
      | nil => intro h; simp at h
      | cons u us ih =>
        intro h
        show ((L2.wipe τ us).set u none)[i]? = _
        by_cases e : u = i
        · subst e
          by_cases hl : u < τ.length
          · rw [List.getElem?_set_self (by rw [wipe_length]; exact hl), if_pos hl]
          · rw [if_neg hl, List.getElem?_eq_none (by rw [List.length_set, wipe_length]; omega)]
        · rw [List.getElem?_set_ne e]
          exact ih ((List.mem_cons.mp h).elim (fun z => absurd z.symm e) id)
    rw [z h, z h, wipe_length]
  · rw [wipe_out h]
/-- behind a state, one more object kept aside -/
structure ExD (hid ρ : List Addr) (lh : LH) (H : Hp) (hid' ρ' : List Addr) (lh' : LH) (H' : Hp) : Prop where
  pre : ∀ (i : Nat) (a : Addr), ρ[i]? = some a → ρ'[i]? = some a
  keep : Le (Gz hid ρ lh H) (Gz hid' ρ' lh' H')
  hk : ∀ a ∈ hid, H' a = H a
theorem ExD.ex {hid ρ hid1 ρ1 ρ2 : List Addr} {lh lh1 lh2 : LH} {H H1 H2 : Hp} (a : ExD hid ρ lh H hid1 ρ1 lh1 H1) (hs : ∀ x ∈ hid, x ∈ hid1) (b : Ex hid1 ρ1 lh1 H1 ρ2 lh2 H2) : ExD hid ρ lh H hid1 ρ2 lh2 H2 :=
  ⟨fun i x h => b.pre i x (a.pre i x h), a.keep.trans b.keep, fun x hx => (b.hk x (hs x hx)).trans (a.hk x hx)⟩
theorem REnv.exD {hid ρ hid' ρ' : List Addr} {lh lh' : LH} {H H' : Hp} (e : ExD hid ρ lh H hid' ρ' lh' H') {env : Env0} {σ : L2.St} (h : REnv c ρ (Gz hid ρ lh H) env σ) : REnv c ρ' (Gz hid' ρ' lh' H') env σ := h.mono e.pre e.keep
/-- a comprehension's turn -/
def lcT (T : Tab) (cal : Cal) (tg : Tg) (own : List Nat) (ifs : List C) (e : C) (env : Env0) (x : PD) (h : LH) : R (Option PD) := match bindT tg (.p x) (wipeE env own) with
  | some env1 => (evAll T cal ifs env1 h).bind fun b h => match b with
    | true => ((ev T cal e env1 h).frz).bind fun y h => .ok (some y) h
    | false => .ok none h
  | none => .bad
theorem ev_cmpr {live : Bool} {own : List (Str × Nat)} {tg : Tg} {ik : IK} {ia ifs : List C} {e : C} {env : Env0} {h : LH} : ev T cal (.cmpr live own tg ik ia ifs e) env h = (evs T cal ia env h).bind fun ds h => match itOf ik ds h with
    | some (.its xs) => (lcGo (lcT T cal tg (own.map (·.2)) ifs e env) xs [] h).bind fun ys h => mkLst live ys h
    | _ => .bad := rfl
/-- the list is done -/
theorem lc_done {hid ρ ρ' : List Addr} {lh lh' : LH} {H H' : Hp} {D : Addr} {Q : VK} {W' : XK} {live : Bool} {acc : List PD} {vs : List V} (st : Stt c (D :: hid) ρ' lh' H') (nd : D ∉ hid) (ex : ExD hid ρ lh H (D :: hid) ρ' lh' H') (hD : H' D = some (.lst vs)) (ra : RPs c (Gz (D :: hid) ρ' lh' H') acc vs)
    (ho : Out c hid ρ lh H Q W' (mkLst live acc lh')) : Q (.ref D) H' := by
  cases live with
  | false =>
    have ho : Out c hid ρ lh H Q W' (.ok (.p (.lst acc)) lh') := ho
    obtain ⟨st1, le1⟩ := st.give
    exact ho _ _ ρ' st1 ⟨ex.pre, ex.keep.trans le1, ex.hk⟩ (.lst (st.giveAt nd hD) (RPs.mono le1 ra))
  | true =>
    have ho : Out c hid ρ lh H Q W' (.ok (.ref lh'.length) (lh' ++ [some (.lst acc)])) := ho
    obtain ⟨st1, le1⟩ := st.giveL nd (o := .lst acc) hD (show RPs c _ acc vs from ra)
    exact ho _ _ (ρ' ++ [D]) st1 ⟨fun i a h => pre_app i a (ex.pre i a h), ex.keep.trans le1, ex.hk⟩ ⟨D, by rw [← st.len]; simp, rfl⟩
theorem lc_wish (g : GX T c k N sc X) {live : Bool} {own : List (Str × Nat)} {tg : Tg} {ik : IK} {ia ifs : List C} {e : C} {tg' it elt : Expr} {ifs' : List Expr} {scope : Scope} (hI : SndI T c cal X ik ia tg' it) (hb : blkC N sc scope own = true) (hi : tgIn (own.map (·.2)) tg = true)
    (ht : chkT N (locBk scope sc) tg tg' = true) (hset : isSetE it = false) (sT : ∀ s0 H0 C cl fp, SndTs T c cal (Bk X scope s0 H0 C cl fp) ifs ifs') (sE : ∀ s0 H0 C cl fp, SndE T c cal (Bk X scope s0 H0 C cl fp) e elt) {hid ρ : List Addr} {lh : LH} {H : Hp} {σ : L2.St} {env : Env0} {Q : VK} {W : WX} (tk : Takes X W) (st : Stt c hid ρ lh H) (re : REnv c ρ (Gz hid ρ lh H) env σ) (ho : Out c hid ρ lh H Q (fun cls d H' => W cls d σ H') (ev T cal (.cmpr live own tg ik ia ifs e) env lh)) :
    tLc (WI X tg' it) (WGb X scope tg') (WTb X scope ifs') (WEb X scope elt) (own.map (·.2)) σ H Q := by
  rw [ev_cmpr] at ho
  refine hI hid ρ lh H σ env _ W tk st re ?_
  cases er : evs T cal ia env lh with
  | bad => rw [er] at ho; exact ho
  | exc e1 lh1 => rw [er] at ho; exact ho
  | ok ds lh1 =>
    rw [er] at ho
    have ho : Out c hid ρ lh H Q (fun cls d H' => W cls d σ H') (match itOf ik ds lh1 with | some (.its xs) => (lcGo (lcT T cal tg (own.map (·.2)) ifs e env) xs [] lh1).bind fun ys h => mkLst live ys h | _ => .bad) := ho
    intro H1 ρ1 st1 ex1
    show (match itOf ik ds lh1 with | some (.its xs) => _ | _ => False)
    cases ei : itOf ik ds lh1 with
    | none => rw [ei] at ho; exact ho.elim
    | some z =>
      cases z with
      | liv n => rw [ei] at ho; exact ho.elim
      | its xs =>
        rw [ei] at ho
        have ho : Out c hid ρ lh H Q (fun cls d H' => W cls d σ H') ((lcGo (lcT T cal tg (own.map (·.2)) ifs e env) xs [] lh1).bind fun ys h => mkLst live ys h) := ho
        intro J wk D hD
        have nd : D ∉ hid := fun m => by
          obtain ⟨o, e0⟩ := st1.tr D m
          rw [hD] at e0
          cases e0
        obtain ⟨st2, le2⟩ := st1.take hD (.lst [])
        have ex2 : ExD hid ρ lh H (D :: hid) ρ1 lh1 (upd H1 D (.lst [])) := ⟨ex1.pre, ex1.keep.trans le2, fun a ha => (upd_ne fun z : a = D => nd (z ▸ ha)).trans (ex1.hk a ha)⟩
        refine ⟨fun i m H' => m = xs.length - i ∧ i ≤ xs.length ∧ ∃ ρ' lh' acc vs, Stt c (D :: hid) ρ' lh' H' ∧ ExD hid ρ lh H (D :: hid) ρ' lh' H' ∧ Le (Gz hid ρ1 lh1 H1) (Gz (D :: hid) ρ' lh' H') ∧ H' D = some (.lst vs) ∧ RPs c (Gz (D :: hid) ρ' lh' H') acc vs ∧ acc.length ≤ 100000 ∧
          Out c hid ρ lh H Q (fun cls d H' => W cls d σ H') ((lcGo (lcT T cal tg (own.map (·.2)) ifs e env) (xs.drop i) acc lh').bind fun ys h => mkLst live ys h), ⟨_, rfl, Nat.zero_le _, ρ1, lh1, [], [], st2, ex2, le2, upd_same, .nil, Nat.zero_le _, ho⟩, ?_⟩
        rintro i m H' ⟨rfl, hi', ρ', lh', acc, vs, st', ex', le', hD', ra, hacc, ho'⟩
        obtain ⟨w1, w2⟩ := wk (D :: hid) ρ' lh' H' st' le' i
        cases ex : xs[i]? with
        | none =>
          have el : xs.length ≤ i := List.getElem?_eq_none_iff.mp ex
          rw [List.drop_eq_nil_of_le el] at ho'
          exact .inl ⟨w2 ex, lc_done st' nd ex' hD' ra ho'⟩
        | some x =>
          obtain ⟨hlt, hx⟩ := List.getElem?_eq_some_iff.mp ex
          obtain ⟨go, yl⟩ := w1 x ex
          refine .inr ⟨go, fun H9 => ∃ m', m' < xs.length - i ∧ (m' = xs.length - (i + 1) ∧ i + 1 ≤ xs.length ∧ ∃ ρ' lh' acc vs, Stt c (D :: hid) ρ' lh' H9 ∧ ExD hid ρ lh H (D :: hid) ρ' lh' H9 ∧ Le (Gz hid ρ1 lh1 H1) (Gz (D :: hid) ρ' lh' H9) ∧ H9 D = some (.lst vs) ∧ RPs c (Gz (D :: hid) ρ' lh' H9) acc vs ∧ acc.length ≤ 100000 ∧
            Out c hid ρ lh H Q (fun cls d H' => W cls d σ H') ((lcGo (lcT T cal tg (own.map (·.2)) ifs e env) (xs.drop (i + 1)) acc lh').bind fun ys h => mkLst live ys h)), fun _ h => h, fun v H3 hy => ?_⟩
          obtain ⟨st3, ex3, rv⟩ := yl v H3 hy
          have exD3 := ex'.ex (fun a ha => List.mem_cons_of_mem _ ha) ex3
          rw [List.drop_eq_getElem_cons hlt, hx] at ho'
          have ho' : Out c hid ρ lh H Q (fun cls d H' => W cls d σ H') (((lcT T cal tg (own.map (·.2)) ifs e env x lh').noX.bind fun o h1 => match o with
            | some y => if acc.length < 100000 then lcGo (lcT T cal tg (own.map (·.2)) ifs e env) (xs.drop (i + 1)) (acc ++ [y]) h1 else .bad
            | none => lcGo (lcT T cal tg (own.map (·.2)) ifs e env) (xs.drop (i + 1)) acc h1).bind fun ys h => mkLst live ys h) := ho'
          unfold lcT at ho'
          cases eb : bindT tg (.p x) (wipeE env (own.map (·.2))) with
          | none => rw [eb] at ho'; exact ho'.elim
          | some env1 =>
            rw [eb] at ho'
            simp only at ho'
            intro s0 H0 C cl fp
            have reW := (re.exD exD3).wipe (own.map (·.2))
            refine tg_ok (X := Bk X scope s0 H0 C cl fp) g.hN g.nd (locBk_ok g) g.hK g.calm tg ht reW (show RL c ρ' _ (.p x) v from rv) eb fun σ2 re2 wp2 => ⟨(wp2 _ hi).trans wipe_idem, ?_⟩
            intro s0 H0 C cl fp
            refine sT s0 H0 C cl fp (D :: hid) ρ' lh' H3 σ2 env1 _ (fun _ _ _ _ => False) bk_takes st3 re2 ?_
            cases ea : evAll T cal ifs env1 lh' with
            | bad => rw [ea] at ho'; exact ho'
            | exc e1 lh4 => rw [ea] at ho'; exact ho'.elim
            | ok b lh4 =>
              rw [ea] at ho'
              intro H4 ρ4 st4 ex4
              have exD4 := exD3.ex (fun a ha => List.mem_cons_of_mem _ ha) ex4
              have le4 := (le'.trans ex3.keep).trans ex4.keep
              have hD4 : H4 D = some (.lst vs) := (ex4.hk D List.mem_cons_self).trans ((ex3.hk D List.mem_cons_self).trans hD')
              have ra4 := RPs.mono (ex3.keep.trans ex4.keep) ra
              cases b with
              | false =>
                have ho' : Out c hid ρ lh H Q (fun cls d H' => W cls d σ H') ((lcGo (lcT T cal tg (own.map (·.2)) ifs e env) (xs.drop (i + 1)) acc lh4).bind fun ys h => mkLst live ys h) := ho'
                simp only [Bool.false_eq_true, if_false]
                exact ⟨_, by omega, rfl, hlt, ρ4, lh4, acc, vs, st4, exD4, le4, hD4, ra4, hacc, ho'⟩
              | true =>
                simp only [if_true]
                intro s0 H0 C cl fp
                refine sE s0 H0 C cl fp (D :: hid) ρ4 lh4 H4 σ2 env1 _ (fun _ _ _ _ => False) bk_takes st4 (re2.ex ex4) ?_
                have ho' : Out c hid ρ lh H Q (fun cls d H' => W cls d σ H') ((((((ev T cal e env1 lh4).frz).bind fun y h => .ok (some y) h).noX).bind fun o h1 => match o with
                  | some y => if acc.length < 100000 then lcGo (lcT T cal tg (own.map (·.2)) ifs e env) (xs.drop (i + 1)) (acc ++ [y]) h1 else .bad
                  | none => lcGo (lcT T cal tg (own.map (·.2)) ifs e env) (xs.drop (i + 1)) acc h1).bind fun ys h => mkLst live ys h) := ho'
                cases ee : ev T cal e env1 lh4 with
                | bad => rw [ee] at ho'; exact ho'
                | exc e1 lh5 => rw [ee] at ho'; exact ho'.elim
                | ok d lh5 =>
                  rw [ee] at ho'
                  intro y H5 ρ5 st5 ex5 rd
                  unfold R.frz R.bind at ho'
                  simp only at ho'
                  cases ef : Sim.frz 9 d lh5 with
                  | none => rw [ef] at ho'; exact ho'.elim
                  | some pr =>
                    obtain ⟨yd, lh6⟩ := pr
                    rw [ef] at ho'
                    simp only [R.noX] at ho'
                    obtain ⟨st6, ex6, ry⟩ := frz_ok 9 _ _ _ _ _ st5 rd ef
                    by_cases hn : acc.length < 100000
                    · rw [if_pos hn] at ho'
                      have hD5 : H5 D = some (.lst vs) := (ex5.hk D List.mem_cons_self).trans hD4
                      have ra6 := RPs.mono (ex5.keep.trans ex6.keep) ra4
                      refine ⟨vs, hD5, by rw [← ra.length]; exact Nat.lt_of_lt_of_le hn (by rw [sizeLine_eq]; decide), xs.length - (i + 1), by omega, rfl, hlt, ρ5, lh6, acc ++ [yd], vs ++ [y], st6.put _, ?_, ?_, upd_same, ?_, by simp; omega, ho'⟩
                      · have z := (exD4.ex (fun a ha => List.mem_cons_of_mem _ ha) (ex5.trans ex6))
                        exact ⟨z.pre, by rw [Gz_put]; exact z.keep, fun a ha => (upd_ne fun q : a = D => nd (q ▸ ha)).trans (z.hk a ha)⟩
                      · rw [Gz_put]
                        exact (le4.trans ex5.keep).trans ex6.keep
                      · rw [Gz_put]
                        exact RPs.append ra6 (.cons ry .nil)
                    · rw [if_neg hn] at ho'
                      exact ho'.elim
theorem snd_cmpr (g : GX T c k N sc X) {live : Bool} {own : List (Str × Nat)} {tg : Tg} {ik : IK} {ia ifs : List C} {e : C} {tg' it elt : Expr} {ifs' : List Expr} {scope : Scope} {pos : Pos} (hI : SndI T c cal X ik ia tg' it) (hb : blkC N sc scope own = true) (hi : tgIn (own.map (·.2)) tg = true)
    (ht : chkT N (locBk scope sc) tg tg' = true) (hset : isSetE it = false) (sT : ∀ s0 H0 C cl fp, SndTs T c cal (Bk X scope s0 H0 C cl fp) ifs ifs') (sE : ∀ s0 H0 C cl fp, SndE T c cal (Bk X scope s0 H0 C cl fp) e elt) :
    SndE T c cal X (.cmpr live own tg ik ia ifs e) (.ListComp elt [⟨tg', it, ifs', 0⟩] scope pos) := by
  intro hid ρ lh H σ env Q W tk st re ho
  have ok : BlkOk X.N X.env.scope scope own := by
    rw [g.hN, g.hsc]
    exact blkOk_by hb
  exact WE.of (pe_lc g.calm g.nd pi_wi ok pg_wgb pt_wtb pe_web (fset_of hset)) (lc_wish g hI hb hi ht hset sT sE tk st re ho)
end
end Sim
end
section
set_option Elab.async false
set_option linter.all false
set_option maxRecDepth 100000
set_option maxHeartbeats 1000000
/-! The Sim layer, R: dicts made; slices; joined lists. -/
namespace Sim
open PySem PySem.Spec PyProof.Rows L2
section
variable {T : Tab} {c : Ct} {cal : Cal} {k : Nat} {N : List Str} {sc : Scope} {X : Cx}
theorem rks_of {G : Hp} : ∀ {kvs : List (PD × PD)} {kws : List (Key × V)}, RKs c G kvs kws → Paired (fun p q => kOf p.1 = some q.1 ∧ RP c G p.2 q.2) kvs kws
  | _, _, .nil => .nil
  | _, _, .cons e h r => .cons ⟨e, h⟩ (rks_of r)
theorem rks_to {G : Hp} {kvs : List (PD × PD)} {kws : List (Key × V)} (h : Paired (fun p q => kOf p.1 = some q.1 ∧ RP c G p.2 q.2) kvs kws) : RKs c G kvs kws := by
  induction h with
  | nil => exact .nil
  | cons r t ih => exact .cons r.1 r.2 ih
theorem paired_any {α : Type} {R : α → V → Prop} {q : Key} {l : List (PD × α)} {l' : List (Key × V)} (h : Paired (fun p q => kOf p.1 = some q.1 ∧ R p.2 q.2) l l') : (l.any fun p => decide (kOf p.1 = some q)) = (l'.any fun p => decide (p.1 = q)) := by
  induction h with
  | nil => rfl
  | cons r t ih =>
    rw [List.any_cons, List.any_cons, ih, r.1]
    congr 1
    simp
theorem paired_snoc {α β : Type} {F : α → β → Prop} {l : List α} {l' : List β} {a : α} {b : β} (h : Paired F l l') (r : F a b) : Paired F (l ++ [a]) (l' ++ [b]) := by
  induction h with
  | nil => exact .cons r .nil
  | cons r' t ih => exact .cons r' ih
theorem paired_map {α : Type} {R : α → V → Prop} {q : Key} {x : α} {v : V} {l : List (PD × α)} {l' : List (Key × V)} (h : Paired (fun p q => kOf p.1 = some q.1 ∧ R p.2 q.2) l l') (r : R x v) :
    Paired (fun p q => kOf p.1 = some q.1 ∧ R p.2 q.2) (l.map fun p => if kOf p.1 = some q then (p.1, x) else p) (l'.map fun p => if p.1 = q then (p.1, v) else p) := by
  induction h with
  | nil => exact .nil
  | @cons a b l l' r' t ih =>
    rw [List.map_cons, List.map_cons]
    refine .cons ?_ ih
    by_cases e : b.1 = q
    · rw [if_pos (r'.1.trans (congrArg some e)), if_pos e]
      exact ⟨r'.1, r⟩
    · rw [if_neg (fun z => e (Option.some.inj (r'.1.symm.trans z))), if_neg e]
      exact r'
theorem paired_put {α : Type} {R : α → V → Prop} {k : PD} {q : Key} {x : α} {v : V} {l : List (PD × α)} {l' : List (Key × V)} (h : Paired (fun p q => kOf p.1 = some q.1 ∧ R p.2 q.2) l l') (hk : kOf k = some q) (r : R x v) :
    Paired (fun p q => kOf p.1 = some q.1 ∧ R p.2 q.2) (pput l k q x) (putK l' q v) := by
  unfold pput putK
  rw [paired_any h (q := q)]
  split
  · exact paired_map h r
  · exact paired_snoc h ⟨hk, r⟩
theorem put_len {α : Type} {l : List (PD × α)} {k : PD} {q : Key} {x : α} : (pput l k q x).length ≤ l.length + 1 := by
  unfold pput
  split
  · rw [List.length_map]; omega
  · rw [List.length_append]; simp
theorem RKs.put {G : Hp} {kvs : List (PD × PD)} {kws : List (Key × V)} {k x : PD} {q : Key} {v : V} (h : RKs c G kvs kws) (hk : kOf k = some q) (r : RP c G x v) : RKs c G (pput kvs k q x) (putK kws q v) := rks_to (paired_put (R := fun x v => RP c G x v) (rks_of h) hk r)
theorem kOf_inv {G : Hp} {x : PD} {q : Key} {v : V} (h : kOf x = some q) (r : RP c G x v) : v = kV q := by
  cases x <;> first | (cases h; done) | skip
  · cases h; cases r; rfl
  · cases h; cases r; rfl
theorem rks_len {G : Hp} {kvs : List (PD × PD)} {kws : List (Key × V)} (h : RKs c G kvs kws) : kvs.length = kws.length := Paired.length (rks_of h)
/-- a dict comprehension's turn -/
def dcT (T : Tab) (cal : Cal) (tg : Tg) (own : List Nat) (kq vq : C) (env : Env0) (x : PD) (h : LH) : R (PD × PD) := match bindT tg (.p x) (wipeE env own) with
  | some env1 => ((ev T cal kq env1 h).frz).bind fun a h => ((ev T cal vq env1 h).frz).bind fun b h => .ok (a, b) h
  | none => .bad
theorem ev_dcmp {live : Bool} {own : List (Str × Nat)} {tg : Tg} {ik : IK} {ia : List C} {kq vq : C} {env : Env0} {h : LH} : ev T cal (.dcmp live own tg ik ia kq vq) env h = (evs T cal ia env h).bind fun ds h => match itOf ik ds h with
    | some (.its xs) => (dcGo (dcT T cal tg (own.map (·.2)) kq vq env) xs [] h).bind fun ys h => mkDct live ys h
    | _ => .bad := rfl
theorem rkl_of {ρ : List Addr} {G : Hp} {kvs : List (PD × PD)} {kws : List (Key × V)} (h : RKs c G kvs kws) : RKL c ρ G (kvs.map fun q => (q.1, .p q.2)) kws := by
  have := rks_of h
  clear h
  induction this with
  | nil => exact .nil
  | cons r t ih => exact .cons ⟨r.1, r.2⟩ ih
/-- the dict is done -/
theorem dc_done {hid ρ ρ' : List Addr} {lh lh' : LH} {H H' : Hp} {D : Addr} {Q : VK} {W' : XK} {live : Bool} {acc : List (PD × PD)} {kws : List (Key × V)} (st : Stt c (D :: hid) ρ' lh' H') (nd : D ∉ hid) (ex : ExD hid ρ lh H (D :: hid) ρ' lh' H') (hD : H' D = some (.dK kws)) (ra : RKs c (Gz (D :: hid) ρ' lh' H') acc kws)
    (ho : Out c hid ρ lh H Q W' (mkDct live acc lh')) : Q (.ref D) H' := by
  cases live with
  | false =>
    have ho : Out c hid ρ lh H Q W' (.ok (.p (.dct acc)) lh') := ho
    obtain ⟨st1, le1⟩ := st.give
    exact ho _ _ ρ' st1 ⟨ex.pre, ex.keep.trans le1, ex.hk⟩ (.dct (.inl (.inl (st.giveAt nd hD))) (RKs.mono le1 ra))
  | true =>
    have ho : Out c hid ρ lh H Q W' (.ok (.ref lh'.length) (lh' ++ [some (.dct (acc.map fun q => (q.1, .p q.2)))])) := ho
    obtain ⟨st1, le1⟩ := st.giveL nd (o := .dct (acc.map fun q => (q.1, .p q.2))) hD (show RKL c _ _ _ kws from rkl_of ra)
    exact ho _ _ (ρ' ++ [D]) st1 ⟨fun i a h => pre_app i a (ex.pre i a h), ex.keep.trans le1, ex.hk⟩ ⟨D, by rw [← st.len]; simp, rfl⟩
theorem dc_wish (g : GX T c k N sc X) {live : Bool} {own : List (Str × Nat)} {tg : Tg} {ik : IK} {ia : List C} {kq vq : C} {tg' it ke ve : Expr} {scope : Scope} (hI : SndI T c cal X ik ia tg' it) (hb : blkC N sc scope own = true) (hi : tgIn (own.map (·.2)) tg = true)
    (ht : chkT N (locBk scope sc) tg tg' = true) (hset : isSetE it = false) (sK : ∀ s0 H0 C cl fp, SndE T c cal (Bk X scope s0 H0 C cl fp) kq ke) (sE : ∀ s0 H0 C cl fp, SndE T c cal (Bk X scope s0 H0 C cl fp) vq ve) {hid ρ : List Addr} {lh : LH} {H : Hp} {σ : L2.St} {env : Env0} {Q : VK} {W : WX} (tk : Takes X W) (st : Stt c hid ρ lh H) (re : REnv c ρ (Gz hid ρ lh H) env σ) (ho : Out c hid ρ lh H Q (fun cls d H' => W cls d σ H') (ev T cal (.dcmp live own tg ik ia kq vq) env lh)) :
    tDc (WI X tg' it) (WGb X scope tg') tYes (WEb X scope ke) (WEb X scope ve) (own.map (·.2)) σ H Q := by
  rw [ev_dcmp] at ho
  refine hI hid ρ lh H σ env _ W tk st re ?_
  cases er : evs T cal ia env lh with
  | bad => rw [er] at ho; exact ho
  | exc e1 lh1 => rw [er] at ho; exact ho
  | ok ds lh1 =>
    rw [er] at ho
    have ho : Out c hid ρ lh H Q (fun cls d H' => W cls d σ H') (match itOf ik ds lh1 with | some (.its xs) => (dcGo (dcT T cal tg (own.map (·.2)) kq vq env) xs [] lh1).bind fun ys h => mkDct live ys h | _ => .bad) := ho
    intro H1 ρ1 st1 ex1
    show (match itOf ik ds lh1 with | some (.its xs) => _ | _ => False)
    cases ei : itOf ik ds lh1 with
    | none => rw [ei] at ho; exact ho.elim
    | some z =>
      cases z with
      | liv n => rw [ei] at ho; exact ho.elim
      | its xs =>
        rw [ei] at ho
        have ho : Out c hid ρ lh H Q (fun cls d H' => W cls d σ H') ((dcGo (dcT T cal tg (own.map (·.2)) kq vq env) xs [] lh1).bind fun ys h => mkDct live ys h) := ho
        intro J wk D hD
        have nd : D ∉ hid := fun m => by
          obtain ⟨o, e0⟩ := st1.tr D m
          rw [hD] at e0
          cases e0
        obtain ⟨st2, le2⟩ := st1.take hD (.dK [])
        have ex2 : ExD hid ρ lh H (D :: hid) ρ1 lh1 (upd H1 D (.dK [])) := ⟨ex1.pre, ex1.keep.trans le2, fun a ha => (upd_ne fun z : a = D => nd (z ▸ ha)).trans (ex1.hk a ha)⟩
        refine ⟨fun i m H' => m = xs.length - i ∧ i ≤ xs.length ∧ ∃ ρ' lh' acc vs, Stt c (D :: hid) ρ' lh' H' ∧ ExD hid ρ lh H (D :: hid) ρ' lh' H' ∧ Le (Gz hid ρ1 lh1 H1) (Gz (D :: hid) ρ' lh' H') ∧ H' D = some (.dK vs) ∧ RKs c (Gz (D :: hid) ρ' lh' H') acc vs ∧ acc.length ≤ 1000 ∧
          Out c hid ρ lh H Q (fun cls d H' => W cls d σ H') ((dcGo (dcT T cal tg (own.map (·.2)) kq vq env) (xs.drop i) acc lh').bind fun ys h => mkDct live ys h), ⟨_, rfl, Nat.zero_le _, ρ1, lh1, [], [], st2, ex2, le2, upd_same, .nil, Nat.zero_le _, ho⟩, ?_⟩
        rintro i m H' ⟨rfl, hi', ρ', lh', acc, vs, st', ex', le', hD', ra, hacc, ho'⟩
        obtain ⟨w1, w2⟩ := wk (D :: hid) ρ' lh' H' st' le' i
        cases ex : xs[i]? with
        | none =>
          have el : xs.length ≤ i := List.getElem?_eq_none_iff.mp ex
          rw [List.drop_eq_nil_of_le el] at ho'
          exact .inl ⟨w2 ex, dc_done st' nd ex' hD' ra ho'⟩
        | some x =>
          obtain ⟨hlt, hx⟩ := List.getElem?_eq_some_iff.mp ex
          obtain ⟨go, yl⟩ := w1 x ex
          refine .inr ⟨go, fun H9 => ∃ m', m' < xs.length - i ∧ (m' = xs.length - (i + 1) ∧ i + 1 ≤ xs.length ∧ ∃ ρ' lh' acc vs, Stt c (D :: hid) ρ' lh' H9 ∧ ExD hid ρ lh H (D :: hid) ρ' lh' H9 ∧ Le (Gz hid ρ1 lh1 H1) (Gz (D :: hid) ρ' lh' H9) ∧ H9 D = some (.dK vs) ∧ RKs c (Gz (D :: hid) ρ' lh' H9) acc vs ∧ acc.length ≤ 1000 ∧
            Out c hid ρ lh H Q (fun cls d H' => W cls d σ H') ((dcGo (dcT T cal tg (own.map (·.2)) kq vq env) (xs.drop (i + 1)) acc lh').bind fun ys h => mkDct live ys h)), fun _ h => h, fun v H3 hy => ?_⟩
          obtain ⟨st3, ex3, rv⟩ := yl v H3 hy
          have exD3 := ex'.ex (fun a ha => List.mem_cons_of_mem _ ha) ex3
          rw [List.drop_eq_getElem_cons hlt, hx] at ho'
          have ho' : Out c hid ρ lh H Q (fun cls d H' => W cls d σ H') (((dcT T cal tg (own.map (·.2)) kq vq env x lh').noX.bind fun y h1 => match kOf y.1 with
            | some q => if acc.length < 1000 then dcGo (dcT T cal tg (own.map (·.2)) kq vq env) (xs.drop (i + 1)) (pput acc y.1 q y.2) h1 else .bad
            | none => .bad).bind fun ys h => mkDct live ys h) := ho'
          unfold dcT at ho'
          cases eb : bindT tg (.p x) (wipeE env (own.map (·.2))) with
          | none => rw [eb] at ho'; exact ho'.elim
          | some env1 =>
            rw [eb] at ho'
            simp only at ho'
            intro s0 H0 C cl fp
            have reW := (re.exD exD3).wipe (own.map (·.2))
            refine tg_ok (X := Bk X scope s0 H0 C cl fp) g.hN g.nd (locBk_ok g) g.hK g.calm tg ht reW (show RL c ρ' _ (.p x) v from rv) eb fun σ2 re2 wp2 => ⟨(wp2 _ hi).trans wipe_idem, ?_⟩
            unfold tYes
            simp only [if_true]
            intro s0 H0 C cl fp
            refine sK s0 H0 C cl fp (D :: hid) ρ' lh' H3 σ2 env1 _ (fun _ _ _ _ => False) bk_takes st3 re2 ?_
            cases ea : ev T cal kq env1 lh' with
            | bad => rw [ea] at ho'; exact ho'
            | exc e1 lh4 => rw [ea] at ho'; exact ho'.elim
            | ok kd lh4 =>
              rw [ea] at ho'
              intro y H4 ρ4 st4 ex4 rk
              cases efk : Sim.frz 9 kd lh4 with
              | none =>
                unfold R.frz R.bind at ho'
                simp only at ho'
                rw [efk] at ho'
                exact ho'.elim
              | some pr =>
                obtain ⟨kd', lh5⟩ := pr
                have ho' : Out c hid ρ lh H Q (fun cls d H' => W cls d σ H') (((((ev T cal vq env1 lh5).frz.bind fun b h => .ok (kd', b) h).noX).bind fun y h1 => match kOf y.1 with
                  | some q => if acc.length < 1000 then dcGo (dcT T cal tg (own.map (·.2)) kq vq env) (xs.drop (i + 1)) (pput acc y.1 q y.2) h1 else .bad
                  | none => .bad).bind fun ys h => mkDct live ys h) := by
                  have z := ho'
                  unfold R.frz at z
                  simp only [R.bind, efk] at z
                  exact z
                obtain ⟨st5, ex5, rk5⟩ := frz_ok 9 _ _ _ _ _ st4 rk efk
                intro s0 H0 C cl fp
                refine sE s0 H0 C cl fp (D :: hid) ρ4 lh5 H4 σ2 env1 _ (fun _ _ _ _ => False) bk_takes st5 (re2.ex (ex4.trans ex5)) ?_
                cases ee : ev T cal vq env1 lh5 with
                | bad => rw [ee] at ho'; exact ho'
                | exc e1 lh6 => rw [ee] at ho'; exact ho'.elim
                | ok d lh6 =>
                  rw [ee] at ho'
                  intro z H6 ρ6 st6 ex6 rd
                  unfold R.frz R.bind at ho'
                  simp only at ho'
                  cases ef : Sim.frz 9 d lh6 with
                  | none => rw [ef] at ho'; exact ho'.elim
                  | some pr =>
                    obtain ⟨yd, lh7⟩ := pr
                    rw [ef] at ho'
                    simp only [R.noX] at ho'
                    obtain ⟨st7, ex7, ry⟩ := frz_ok 9 _ _ _ _ _ st6 rd ef
                    cases eq : kOf kd' with
                    | none => rw [eq] at ho'; exact ho'.elim
                    | some q =>
                      rw [eq] at ho'
                      simp only at ho'
                      by_cases hn : acc.length < 1000
                      · rw [if_pos hn] at ho'
                        have exA := ((ex4.trans ex5).trans ex6).trans ex7
                        have exD7 := exD3.ex (fun a ha => List.mem_cons_of_mem _ ha) exA
                        have hD7 : H6 D = some (.dK vs) := (exA.hk D List.mem_cons_self).trans ((ex3.hk D List.mem_cons_self).trans hD')
                        have ra7 := RKs.mono (ex3.keep.trans exA.keep) ra
                        refine ⟨vs, q, kOf_inv eq rk5, hD7, by rw [← rks_len ra]; exact Nat.lt_of_lt_of_le hn (by rw [sizeLine_eq]; decide), xs.length - (i + 1), by omega, rfl, hlt, ρ6, lh7, pput acc kd' q yd, putK vs q z, st7.put _, ?_, ?_, upd_same, ?_, ?_, ho'⟩
                        · exact ⟨exD7.pre, by rw [Gz_put]; exact exD7.keep, fun a ha => (upd_ne fun q : a = D => nd (q ▸ ha)).trans (exD7.hk a ha)⟩
                        · rw [Gz_put]
                          exact (le'.trans ex3.keep).trans exA.keep
                        · rw [Gz_put]
                          exact RKs.put ra7 eq ry
                        · have := put_len (l := acc) (k := kd') (q := q) (x := yd)
                          omega
                      · rw [if_neg hn] at ho'
                        exact ho'.elim
theorem snd_dcmp (g : GX T c k N sc X) {live : Bool} {own : List (Str × Nat)} {tg : Tg} {ik : IK} {ia : List C} {kq vq : C} {tg' it ke ve : Expr} {scope : Scope} {pos : Pos} (hI : SndI T c cal X ik ia tg' it) (hb : blkC N sc scope own = true) (hi : tgIn (own.map (·.2)) tg = true)
    (ht : chkT N (locBk scope sc) tg tg' = true) (hset : isSetE it = false) (sK : ∀ s0 H0 C cl fp, SndE T c cal (Bk X scope s0 H0 C cl fp) kq ke) (sE : ∀ s0 H0 C cl fp, SndE T c cal (Bk X scope s0 H0 C cl fp) vq ve) :
    SndE T c cal X (.dcmp live own tg ik ia kq vq) (.DictComp ke ve [⟨tg', it, [], 0⟩] scope pos) := by
  intro hid ρ lh H σ env Q W tk st re ho
  have ok : BlkOk X.N X.env.scope scope own := by
    rw [g.hN, g.hsc]
    exact blkOk_by hb
  exact WE.of (pe_dc g.calm g.nd pi_wi ok pg_wgb (fun s0 H0 C cl fp => pts_nil) pe_web pe_web (fset_of hset)) (dc_wish g hI hb hi ht hset sK sE tk st re ho)
end
end Sim
end
section
set_option Elab.async false
set_option linter.all false
set_option maxRecDepth 100000
set_option maxHeartbeats 1000000
/-! The Sim layer, S: displays; slices; joined lists. -/
namespace Sim
open PySem PySem.Spec PyProof.Rows L2
section
variable {T : Tab} {c : Ct} {cal : Cal} {k : Nat} {N : List Str} {sc : Scope} {X : Cx}
variable (T c cal X) in
def SndL (qs : List C) (es : List Expr) : Prop := Paired (fun q e => SndE T c cal X q e) qs es
theorem SndL.args {qs : List C} {es : List Expr} (h : SndL T c cal X qs es) (pl : (es.all fun e => !isStar e) = true) : SndA T c cal X qs es := by
  unfold SndL at h
  induction h with
  | nil => exact sndA_nil
  | cons r t ih =>
    simp only [List.all_cons, Bool.and_eq_true, Bool.not_eq_true'] at pl
    exact sndA_cons r (ih pl.2) pl.1
theorem ExD.give {hid ρ ρ' : List Addr} {lh lh' : LH} {H H' : Hp} {D : Addr} (e : ExD hid ρ lh H (D :: hid) ρ' lh' H') (st : Stt c (D :: hid) ρ' lh' H') : Ex hid ρ lh H ρ' lh' H' := ⟨e.pre, e.keep.trans st.give.2, e.hk⟩
theorem we_key {x : PD} {v : Const} {j : Nat} {pos : Pos} {q : Key} {σ : L2.St} {H : Hp} {Q : VK} (h : cstB x v = true) (hk : kOf x = some q) (h2 : Q (kV q) H) : WE X (.Constant v j pos) σ H Q := by
  cases x <;> first | (cases hk; done) | skip
  · cases v <;> first | (cases h; done) | skip
    cases hk
    have e := of_decide_eq_true (show decide (_ = _) = true from h)
    subst e
    exact WE.of pe_int h2
  · cases v <;> first | (cases h; done) | skip
    cases hk
    have e := of_decide_eq_true (show decide (_ = _) = true from h)
    subst e
    exact WE.of pe_str h2
def trsOf (X : Cx) : List (Option Expr) → List Expr → List (TE × TE)
  | some a :: ks, v :: vs => (WE X a, WE X v) :: trsOf X ks vs
  | _, _ => []
theorem pps_trs {pos : Pos} : ∀ {ks : List PD} {ks' : List (Option Expr)} {vs : List Expr}, keyB ks ks' = true → ks.length = vs.length → PPs X pos ks' vs (trsOf X ks' vs)
  | [], ks', vs, h, hl => by
    cases ks' with
    | cons a b => cases h
    | nil =>
      cases vs with
      | nil => exact pps_nil
      | cons a b => cases hl
  | x :: ks, ks', vs, h, hl => by
    cases ks' with
    | nil => cases h
    | cons a ks' =>
      cases vs with
      | nil => cases hl
      | cons v vs =>
        cases a with
        | none => cases h
        | some a =>
          cases a <;> first | (cases h; done) | skip
          have h : (cstB x _ && (kOf x).isSome && keyB ks ks') = true := h
          exact pps_cons pe_we pe_we (pps_trs (b2 h).2 (Nat.succ.inj hl))
def kvD : List PD → List V → List (Key × V)
  | x :: ks, v :: vs => match kOf x with
    | some q => (q, v) :: kvD ks vs
    | none => []
  | _, _ => []
theorem key_b {x : PD} {a : Option Expr} {ks : List PD} {ks' : List (Option Expr)} (h : keyB (x :: ks) (a :: ks') = true) : ∃ v j pos q, a = some (.Constant v j pos) ∧ cstB x v = true ∧ kOf x = some q ∧ keyB ks ks' = true := by
  cases a with
  | none => cases h
  | some a =>
    cases a <;> first | (cases h; done) | skip
    rename_i v j pos
    have h : (cstB x v && (kOf x).isSome && keyB ks ks') = true := h
    obtain ⟨h, h3⟩ := b2 h
    obtain ⟨h1, h2⟩ := b2 h
    obtain ⟨q, hq⟩ := Option.isSome_iff_exists.mp h2
    exact ⟨v, j, pos, q, rfl, h1, hq, h3⟩
theorem disp_ok : ∀ {ks : List PD} {ks' : List (Option Expr)} {qs : List C} {es : List Expr}, keyB ks ks' = true → SndL T c cal X qs es → ks.length = qs.length →
    ∀ (hid ρ : List Addr) (lh : LH) (H : Hp) (σ : L2.St) (env : Env0) (Q : List (V × V) → Hp → Prop) (W : WX), Takes X W → Stt c hid ρ lh H → REnv c ρ (Gz hid ρ lh H) env σ →
    OutA c hid ρ lh H (fun ds lh1 ρ1 H1 => ∀ vs, RLs c ρ1 (Gz hid ρ1 lh1 H1) ds vs → vs.length = qs.length → Q ((kvD ks vs).map fun kv => (kV kv.1, kv.2)) H1) (fun cls d H' => W cls d σ H') (evs T cal qs env lh) → tPairs (trsOf X ks' es) σ H Q
  | [], ks', qs, es, h, sl, hl, hid, ρ, lh, H, σ, env, Q, W, tk, st, re, ho => by
    cases qs with
    | cons a b => cases hl
    | nil =>
      cases sl
      cases ks' with
      | cons a b => cases h
      | nil => exact ho H ρ st Ex.refl [] .nil rfl
  | x :: ks, ks', qs, es, h, sl, hl, hid, ρ, lh, H, σ, env, Q, W, tk, st, re, ho => by
    cases qs with
    | nil => cases hl
    | cons q qs =>
      cases sl with
      | cons s t =>
        rename_i e es
        cases ks' with
        | nil => cases h
        | cons a ks' =>
          obtain ⟨v, j, pos, kk, rfl, h1, h2, h3⟩ := key_b h
          show WE X (.Constant v j pos) σ H fun x H1 => WE X e σ H1 fun y H2 => tPairs (trsOf X ks' es) σ H2 _
          refine we_key h1 h2 ?_
          refine s hid ρ lh H σ env _ W tk st re ?_
          have ho : OutA c hid ρ lh H (fun ds lh1 ρ1 H1 => ∀ vs, RLs c ρ1 (Gz hid ρ1 lh1 H1) ds vs → vs.length = qs.length + 1 → Q ((kvD (x :: ks) vs).map fun kv => (kV kv.1, kv.2)) H1) (fun cls d H' => W cls d σ H') ((ev T cal q env lh).bind fun x h => (evs T cal qs env h).bind fun xs h => .ok (x :: xs) h) := ho
          cases er : ev T cal q env lh with
          | bad => rw [er] at ho; exact ho
          | exc e1 lh1 => rw [er] at ho; exact ho
          | ok d lh1 =>
            rw [er] at ho
            intro y H1 ρ1 st1 ex1 r1
            refine disp_ok h3 t (Nat.succ.inj hl) hid ρ1 lh1 H1 σ env _ W tk st1 (re.ex ex1) ?_
            have ho : OutA c hid ρ lh H (fun ds lh1 ρ1 H1 => ∀ vs, RLs c ρ1 (Gz hid ρ1 lh1 H1) ds vs → vs.length = qs.length + 1 → Q ((kvD (x :: ks) vs).map fun kv => (kV kv.1, kv.2)) H1) (fun cls d H' => W cls d σ H') ((evs T cal qs env lh1).bind fun xs h => .ok (d :: xs) h) := ho
            cases er2 : evs T cal qs env lh1 with
            | bad => rw [er2] at ho; exact ho
            | exc e1 lh2 => rw [er2] at ho; exact fun cls d H2 ρ2 s2 x2 => ho cls d H2 ρ2 s2 (ex1.trans x2)
            | ok ds lh2 =>
              rw [er2] at ho
              intro H2 ρ2 s2 x2 vs rs hvl
              have z := ho H2 ρ2 s2 (ex1.trans x2) (y :: vs) (.cons (r1.ex x2) rs) (congrArg (· + 1) hvl)
              unfold kvD at z
              rw [h2] at z
              exact z
theorem kvD_len : ∀ {ks : List PD} {vs : List V}, (kvD ks vs).length ≤ ks.length
  | [], _ => by
    unfold kvD
    exact Nat.zero_le _
  | x :: ks, [] => by
    unfold kvD
    exact Nat.zero_le _
  | x :: ks, v :: vs => by
    unfold kvD
    split
    · exact Nat.succ_le_succ kvD_len
    · exact Nat.zero_le _
theorem dKey_ok {ρ : List Addr} {G : Hp} : ∀ {ks : List PD} {ds : List LV} {vs : List V} {m : List (PD × LV)}, dKey ks ds = some m → RLs c ρ G ds vs → RKL c ρ G m (kvD ks vs)
  | [], ds, vs, m, e, r => by
    cases r with
    | cons a b => cases e
    | nil => cases e; exact .nil
  | x :: ks, ds, vs, m, e, r => by
    cases r with
    | nil => cases e
    | cons r t =>
      rename_i d v ds vs
      have e : (match kOf x, dKey ks ds with | some _, some r' => some ((x, d) :: r') | _, _ => none) = some m := e
      split at e
      · rename_i q m' e1 e2
        cases e
        unfold kvD
        rw [e1]
        exact .cons ⟨e1, r⟩ (dKey_ok e2 t)
      · cases e
theorem dMerge_ok {ρ : List Addr} {G : Hp} : ∀ {m acc : List (PD × LV)} {kvs kws : List (Key × V)}, RKL c ρ G m kvs → RKL c ρ G acc kws → RKL c ρ G (dMerge acc m) (mergeK kws kvs)
  | _, _, _, _, .nil, h => h
  | _, acc, _, kws, .cons (b := b) r t, h => by
    rename_i a l l'
    obtain ⟨a1, a2⟩ := a
    have h1 : kOf a1 = some b.1 := r.1
    show RKL c ρ G (match kOf a1 with | some q => dMerge (pput acc a1 q a2) l | none => acc) (mergeK (putK kws b.1 b.2) l')
    rw [h1]
    exact dMerge_ok t (paired_put (R := fun x v => RL c ρ G x v) h h1 r.2)
theorem keyB_len : ∀ {ks : List PD} {ks' : List (Option Expr)}, keyB ks ks' = true → ks.length = ks'.length ∧ ks'.all (·.isSome) = true
  | [], ks', h => by
    cases ks' with
    | nil => exact ⟨rfl, rfl⟩
    | cons a b => cases h
  | x :: ks, ks', h => by
    cases ks' with
    | nil => cases h
    | cons a ks' =>
      obtain ⟨v, j, pos, kk, rfl, h1, h2, h3⟩ := key_b h
      obtain ⟨q1, q2⟩ := keyB_len h3
      exact ⟨congrArg (· + 1) q1, by rw [List.all_cons, q2]; rfl⟩
theorem snd_dct (g : GX T c k N sc X) {live : Bool} {ks : List PD} {qs : List C} {ks' : List (Option Expr)} {es : List Expr} {pos : Pos} (h : (keyB ks ks' && decide (ks.length = qs.length) && decide (ks.length ≤ 15)) = true) (sl : SndL T c cal X qs es) :
    SndE T c cal X (.dct live ks qs) (.Dict ks' es pos) := by
  intro hid ρ lh H σ env Q W tk st re ho
  obtain ⟨h, h3⟩ := b2 h
  obtain ⟨h1, h2⟩ := b2 h
  have h2 := of_decide_eq_true h2
  have h3 := of_decide_eq_true h3
  have hl2 : qs.length = es.length := Paired.length sl
  have ho : Out c hid ρ lh H Q (fun cls d H' => W cls d σ H') ((evs T cal qs env lh).bind fun ds h => match dKey ks ds with
    | some m => if live then newO (.dct (dMerge [] m)) h else match frzK (frz 9) (dMerge [] m) h with
      | some (r, h') => .ok (.p (.dct r)) h'
      | none => .bad
    | none => .bad) := ho
  -- the object is there, the pairs come
  have main : ∀ p, H p = none → tPairs (trsOf X ks' es) σ (upd H p (.dK [])) fun ps H2 => H2 p = some (.dK []) ∧ ∃ kvs : List (Key × V), ps = kvs.map (fun kv => (kV kv.1, kv.2)) ∧ kvs.length ≤ 15 ∧ Q (.ref p) (upd H2 p (.dK (mergeK [] kvs))) := by
    intro p hp
    have nd : p ∉ hid := fun m => by
      obtain ⟨o, e0⟩ := st.tr p m
      rw [hp] at e0
      cases e0
    obtain ⟨st1, le1⟩ := st.take hp (.dK [])
    have ex1 : ExD hid ρ lh H (p :: hid) ρ lh (upd H p (.dK [])) := ⟨fun _ _ h => h, le1, fun a ha => upd_ne fun z : a = p => nd (z ▸ ha)⟩
    refine disp_ok h1 sl h2 (p :: hid) ρ lh _ σ env _ W tk st1 (re.exD ex1) ?_
    cases er : evs T cal qs env lh with
    | bad => rw [er] at ho; exact ho
    | exc e1 lh1 =>
      rw [er] at ho
      intro cls d H2 ρ2 st2 ex2 rx
      have exD2 := ex1.ex (fun a ha => List.mem_cons_of_mem _ ha) ex2
      exact ho cls d H2 ρ2 st2.give.1 (exD2.give st2) (rx.mono st2.give.2)
    | ok ds lh1 =>
      rw [er] at ho
      intro H2 ρ2 st2 ex2 vs rs hvl
      have exD2 := ex1.ex (fun a ha => List.mem_cons_of_mem _ ha) ex2
      have hp2 : H2 p = some (.dK []) := (ex2.hk p List.mem_cons_self).trans upd_same
      refine ⟨hp2, _, rfl, Nat.le_trans kvD_len h3, ?_⟩
      have ho : Out c hid ρ lh H Q (fun cls d H' => W cls d σ H') (match dKey ks ds with
        | some m => if live then newO (.dct (dMerge [] m)) lh1 else match frzK (frz 9) (dMerge [] m) lh1 with
          | some (r, h') => .ok (.p (.dct r)) h'
          | none => .bad
        | none => .bad) := ho
      cases ek : dKey ks ds with
      | none => rw [ek] at ho; exact ho.elim
      | some m =>
        rw [ek] at ho
        have rm := dMerge_ok (dKey_ok ek rs) (acc := []) (kws := []) .nil
        cases live with
        | true =>
          have ho : Out c hid ρ lh H Q (fun cls d H' => W cls d σ H') (.ok (.ref lh1.length) (lh1 ++ [some (.dct (dMerge [] m))])) := ho
          have st3 := st2.put (.dK (mergeK [] (kvD ks vs)))
          obtain ⟨st4, le4⟩ := st3.giveL nd (o := .dct (dMerge [] m)) upd_same (by
            rw [Gz_put]
            exact Paired.mapP rm fun _ _ z => ⟨z.1, RL.mono pre_app (Le.refl _) z.2⟩)
          rw [Gz_put] at le4
          exact ho _ _ (ρ2 ++ [p]) st4 ⟨fun i a h => pre_app i a (exD2.pre i a h), exD2.keep.trans le4, fun a ha => (upd_ne fun z : a = p => nd (z ▸ ha)).trans (exD2.hk a ha)⟩ ⟨p, by rw [← st2.len]; simp, rfl⟩
        | false =>
          have ho : Out c hid ρ lh H Q (fun cls d H' => W cls d σ H') (match frzK (frz 9) (dMerge [] m) lh1 with
            | some (r, h') => .ok (.p (.dct r)) h'
            | none => .bad) := ho
          cases ef : frzK (frz 9) (dMerge [] m) lh1 with
          | none => rw [ef] at ho; exact ho.elim
          | some pr =>
            obtain ⟨r, lh3⟩ := pr
            rw [ef] at ho
            obtain ⟨st3, ex3, rr⟩ := frzK_ok (frz_ok 9) st2 rm ef
            have st4 := st3.put (.dK (mergeK [] (kvD ks vs)))
            obtain ⟨st5, le5⟩ := st4.give
            have exD3 := exD2.ex (fun a ha => List.mem_cons_of_mem _ ha) ex3
            have le6 := le5
            rw [Gz_put] at le5
            exact ho _ _ ρ2 st5 ⟨exD3.pre, exD3.keep.trans le5, fun a ha => (upd_ne fun z : a = p => nd (z ▸ ha)).trans (exD3.hk a ha)⟩ (.dct (.inl (.inl (st4.giveAt nd upd_same))) (RKs.mono le5 rr))
  by_cases h0 : ks' = []
  · subst h0
    cases ks with
    | cons a b => cases h1
    | nil =>
      cases qs with
      | cons a b => cases h2
      | nil =>
        cases sl
        refine WE.of pe_dnewK ?_
        intro p hp
        obtain ⟨_, kvs, e1, e2, e3⟩ := main p hp
        cases kvs with
        | cons a b => cases e1
        | nil =>
          rw [upd_upd] at e3
          exact e3
  · refine WE.of (pe_disp (pps_trs h1 (h2.trans hl2)) ?_ ?_ h0 ?_) main
    · exact (keyB_len h1).2
    · rw [← (keyB_len h1).1, h2, hl2]
    · rw [← (keyB_len h1).1]
      exact h3
/-! ### joined lists -/
theorem snd_cat (g : GX T c k N sc X) {live : Bool} {a b : C} {ea eb : Expr} {pos : Pos} (sa : SndE T c cal X a ea) (sb : SndE T c cal X b eb) : SndE T c cal X (.cat live a b) (.BinOp ea .Add eb pos) := by
  intro hid ρ lh H σ env Q W tk st re ho
  refine WE.of (pe_op oAny_ok pe_we pe_we) ?_
  refine sa.use tk st re (f := fun x h => (ev T cal b env h).bind fun y h => match sh x h, sh y h with
    | some (.lst xs), some (.lst ys) => if xs.length + ys.length ≤ 100000 then mkLst live (xs ++ ys) h else .bad
    | some (.tup xs), some (.tup ys) => if xs.length + ys.length ≤ 100000 then .ok (.p (.tup (xs ++ ys))) h else .bad
    | _, _ => .bad) ho fun v H1 ρ1 d lh1 st1 ex1 r1 re1 ho1 => ?_
  refine sb.use tk st1 re1 ho1 fun v2 H2 ρ2 d2 lh2 st2 ex2 r2 re2 ho2 => ?_
  split at ho2
  · rename_i xs ys e1 e2
    split at ho2
    · rename_i hl
      obtain ⟨p1, vs, rfl, h1, rs1⟩ := RT.lst_inv Gz_sub (st2.sh (r1.ex ex2) e1)
      obtain ⟨p2, ws, rfl, h2, rs2⟩ := RT.lst_inv Gz_sub (st2.sh r2 e2)
      refine ⟨_, op_cat, p1, p2, vs, ws, rfl, rfl, h1, h2, ?_, fun p hp => mkLst_out st2 Ex.refl (RPs.append rs1 rs2) hp ho2⟩
      rw [← rs1.length, ← rs2.length, sizeLine_eq]
      omega
    · exact ho2.elim
  · rename_i xs ys e1 e2
    split at ho2
    · rename_i hl
      obtain ⟨p1, vs, rfl, h1, h1', rs1⟩ := RT.tup_inv Gz_sub (st2.sh (r1.ex ex2) e1)
      obtain ⟨p2, ws, rfl, h2, h2', rs2⟩ := RT.tup_inv Gz_sub (st2.sh r2 e2)
      refine ⟨_, op_catA, p1, p2, vs, ws, rfl, rfl, by rw [g.hK]; exact h1, by rw [g.hK]; exact h2, ?_, fun z => ?_, fun _ z => ?_, fun _ _ p hp => ?_⟩
      · rw [← rs1.length, ← rs2.length, sizeLine_eq]
        omega
      · subst z
        cases rs1
        exact ho2 _ _ ρ2 st2 Ex.refl (.tup h2' rs2)
      · subst z
        cases rs2
        rw [List.append_nil] at ho2
        exact ho2 _ _ ρ2 st2 Ex.refl (.tup h1' rs1)
      · obtain ⟨st3, ex3⟩ := st2.lay hp (.tup (vs ++ ws))
        exact ho2 _ _ ρ2 st3 ex3 (.tup (SqT.of (st2.layAt hp)) (RPs.mono ex3.keep (RPs.append rs1 rs2)))
    · exact ho2.elim
  · exact ho2.elim
/-! ### slices -/
def slAny (X : Cx) (x : V) (lo hi : Option Int) (H : Hp) (Q : VK) : Prop := ∃ r, SlR X r ∧ r x lo hi H Q
theorem slAny_ok : SlR X (slAny X) := by
  intro pins s σ H x v vl vu lo hi sl Q I rx hs pl pu h
  obtain ⟨r, hr, q⟩ := h
  exact hr pins s σ H x v vl vu lo hi sl Q I rx hs pl pu q
def WP (X : Cx) (e : Option Expr) : TO := fun σ H Q => ∀ (pins : List (Addr × Obj)) (s : Shared), Inv X pins σ H s →
    wpAny (model X.prog X.w) X.A (evalPart e X.env) (fun u s' => ∃ o H', Inv X pins σ H' s' ∧ IsPart u o ∧ Q o H') X.xe s
theorem po_wp {e : Option Expr} : PO X e (WP X e) := ⟨fun pins s _ _ _ I h => h pins s I⟩
theorem WP.of {e : Option Expr} {t : TO} (h : PO X e t) {σ : L2.St} {H : Hp} {Q : Option Int → Hp → Prop} (q : t σ H Q) : WP X e σ H Q := fun pins s I => h.run pins s σ H Q I q
/-- a slice's part runs, then the rest -/
theorem part_use {qs : List C} {eo : Option Expr} (sl : SndL T c cal X qs eo.toList) {hid ρ : List Addr} {lh : LH} {H : Hp} {σ : L2.St} {env : Env0} {Q : VK} {Q1 : Option Int → Hp → Prop} {W : WX} (tk : Takes X W) (st : Stt c hid ρ lh H) (re : REnv c ρ (Gz hid ρ lh H) env σ)
    {f : List LV → LH → R LV} (hf : ∀ ds h, part ds = none → f ds h = .bad) (ho : Out c hid ρ lh H Q (fun cls d H' => W cls d σ H') ((evs T cal qs env lh).bind f))
    (kk : ∀ (o : Option Int) (H1 : Hp) (ρ1 : List Addr) (ds : List LV) (lh1 : LH), Stt c hid ρ1 lh1 H1 → Ex hid ρ lh H ρ1 lh1 H1 → REnv c ρ1 (Gz hid ρ1 lh1 H1) env σ → part ds = some o →
      Out c hid ρ1 lh1 H1 Q (fun cls d H' => W cls d σ H') (f ds lh1) → Q1 o H1) : WP X eo σ H Q1 := by
  cases eo with
  | none =>
    cases sl
    exact WP.of po_none (kk none H ρ [] lh st Ex.refl re rfl ho)
  | some e =>
    cases sl with
    | cons s t =>
      cases t
      rename_i q
      refine WP.of (po_some pe_we) ?_
      show WE X e σ H _
      rw [evs_one] at ho
      refine s hid ρ lh H σ env _ W tk st re ?_
      cases er : ev T cal q env lh with
      | bad => rw [er] at ho; exact ho
      | exc e1 lh1 => rw [er] at ho; exact ho
      | ok d lh1 =>
        rw [er] at ho
        have ho : Out c hid ρ lh H Q (fun cls d H' => W cls d σ H') (f [d] lh1) := ho
        cases ep : part [d] with
        | none => rw [hf _ _ ep] at ho; exact ho.elim
        | some o =>
          intro v H1 ρ1 s1 x1 r1
          have : ∃ i, d = .p (.int i) ∧ o = some i := by
            unfold part at ep
            split at ep
            · rename_i z
              cases z
            · rename_i z
              cases z
              cases ep
              exact ⟨_, rfl, rfl⟩
            · cases ep
          obtain ⟨i, rfl, rfl⟩ := this
          cases RP.int_inv r1
          exact ⟨i, rfl, kk (some i) H1 ρ1 _ lh1 s1 x1 (re.ex x1) rfl (ho.after x1)⟩
theorem cutD_ok {G : Hp} {lo hi : Option Int} {xs : List PD} {vs : List V} (h : RPs c G xs vs) : RPs c G (cutD xs lo hi) (cutV vs lo hi) := by
  unfold cutD cutV
  rw [h.length]
  have hd : ∀ {n : Nat} {xs : List PD} {vs : List V}, RPs c G xs vs → RPs c G (xs.drop n) (vs.drop n) := by
    intro n
    induction n with
    | zero => intro xs vs h; exact h
    | succ n ih =>
      intro xs vs h
      cases h with
      | nil => exact .nil
      | cons r t => exact ih t
  have ht : ∀ {n : Nat} {xs : List PD} {vs : List V}, RPs c G xs vs → RPs c G (xs.take n) (vs.take n) := by
    intro n
    induction n with
    | zero => intro xs vs h; exact .nil
    | succ n ih =>
      intro xs vs h
      cases h with
      | nil => exact .nil
      | cons r t => exact .cons r (ih t)
  exact ht (hd h)
theorem cut_whole {n : Nat} {lo hi : Option Int} {vs : List V} (h : HT.sIx vs.length 0 lo = 0 ∧ HT.sIx vs.length vs.length hi = vs.length) : cutV vs lo hi = vs := by
  unfold cutV
  rw [h.1, h.2, Nat.sub_zero, List.drop_zero, List.take_length]
theorem snd_slc (g : GX T c k N sc X) {live : Bool} {a : C} {lo hi : List C} {ea : Expr} {lo' hi' : Option Expr} {p pos : Pos} (sa : SndE T c cal X a ea) (sl : SndL T c cal X lo lo'.toList) (su : SndL T c cal X hi hi'.toList) :
    SndE T c cal X (.slc live a lo hi) (.Subscript ea (.Slice lo' hi' none p) pos) := by
  intro hid ρ lh H σ env Q W tk st re ho
  refine WE.of (pe_slice slAny_ok pe_we po_wp po_wp) ?_
  refine sa.use tk st re (f := fun x h => (evs T cal lo env h).bind fun l h => match part l with
    | some l => (evs T cal hi env h).bind fun u h => match sh x h, part u with
      | some (.lst xs), some u => mkLst live (cutD xs l u) h
      | some (.tup xs), some u => .ok (.p (.tup (cutD xs l u))) h
      | _, _ => .bad
    | none => .bad) ho fun v H1 ρ1 d lh1 st1 ex1 r1 re1 ho1 => ?_
  refine part_use sl tk st1 re1 (fun ds h e => by rw [e]) ho1 fun l H2 ρ2 ds lh2 st2 ex2 re2 el ho2 => ?_
  · rw [el] at ho2
    refine part_use su tk st2 re2 (fun ds' h e => ?_) ho2 fun u H3 ρ3 ds' lh3 st3 ex3 re3 eu ho3 => ?_
    · rw [e]
      split <;> first | rfl | (rename_i z; cases z)
    · rw [eu] at ho3
      split at ho3
      · rename_i xs u' e1 e2
        cases e2
        obtain ⟨p1, vs, rfl, h1, rs1⟩ := RT.lst_inv Gz_sub (st3.sh (r1.ex (ex2.trans ex3)) e1)
        exact ⟨_, sl_list, p1, vs, rfl, .inl (.inl h1), fun p hp => mkLst_out st3 Ex.refl (cutD_ok rs1) hp ho3⟩
      · rename_i xs u' e1 e2
        cases e2
        obtain ⟨p1, vs, rfl, h1, h1', rs1⟩ := RT.tup_inv Gz_sub (st3.sh (r1.ex (ex2.trans ex3)) e1)
        refine ⟨_, sl_tupA, p1, vs, rfl, by rw [g.hK]; exact h1, fun hw => ?_, fun _ p hp => ?_⟩
        · have z := cutD_ok (lo := l) (hi := u) rs1
          rw [cut_whole (n := 0) hw] at z
          exact ho3 _ _ ρ3 st3 Ex.refl (.tup h1' z)
        · obtain ⟨st4, ex4⟩ := st3.lay hp (.tup (cutV vs l u))
          exact ho3 _ _ ρ3 st4 ex4 (.tup (SqT.of (st3.layAt hp)) (RPs.mono ex4.keep (cutD_ok rs1)))
      · exact ho3.elim
end
end Sim
end
section
set_option Elab.async false
set_option linter.all false
set_option maxRecDepth 100000
set_option maxHeartbeats 2000000
/-! The Sim layer, Ra: an own exception's __init__ that says super().__init__(text), then self.f = f; walked on the heap itself. -/
namespace Sim
open PySem PySem.Spec PyProof.Rows L2

/-! ### parameters -/
theorem lookup_skip {α : Type} {p : Str} {u : α} {l : List (Str × α)} : ∀ {qs : List Str}, p ∉ qs → qs.filterMap (fun n => (((p, u) :: l).lookup n).map (n, ·)) = qs.filterMap (fun n => (l.lookup n).map (n, ·))
  | [], _ => rfl
  | q :: qs, h => by
    have e : (q == p) = false := by
      simp only [beq_eq_false_iff_ne, ne_eq]
      exact fun z => h (by rw [z]; exact List.mem_cons_self)
    have ih := lookup_skip (u := u) (l := l) (qs := qs) fun z => h (List.mem_cons_of_mem _ z)
    rw [List.filterMap_cons, List.filterMap_cons, ih]
    simp only [List.lookup_cons, e]
theorem lookup_zip {α : Type} : ∀ {ps : List Str} {us : List α}, ps.Nodup → us.length = ps.length → ps.filterMap (fun n => ((ps.zip us).lookup n).map (n, ·)) = ps.zip us
  | [], us, _, h => by simp
  | p :: ps, [], _, h => by simp at h
  | p :: ps, u :: us, nd, h => by
    have nd' := List.nodup_cons.mp nd
    have ih := lookup_zip (ps := ps) (us := us) nd'.2 (by simpa using h)
    rw [List.zip_cons_cons, List.filterMap_cons, lookup_skip nd'.1, ih]
    simp
theorem lookup_some {α : Type} : ∀ {ps : List Str} {us : List α} {n : Str}, us.length = ps.length → n ∈ ps → ((ps.zip us).lookup n).isNone = false
  | [], us, n, _, h => by cases h
  | p :: ps, [], n, h, _ => by simp at h
  | p :: ps, u :: us, n, h, hn => by
    simp only [List.zip_cons_cons, List.lookup_cons]
    cases e : n == p with
    | true => rfl
    | false =>
      have : n ∈ ps := by
        rcases List.mem_cons.mp hn with z | z
        · subst z; simp at e
        · exact z
      exact lookup_some (by simpa using h) this
theorem bind_plain {fd : FuncData} {us : List Value} {ps : List Str} (h1 : fd.params.posonlyargs = []) (h2 : fd.params.args.map (·.arg) = ps) (h3 : fd.params.kwonlyargs = []) (h4 : fd.params.vararg = none) (h5 : fd.params.kwarg = none) (h6 : fd.defaults = .none) (nd : ps.Nodup) (hl : us.length = ps.length) :
    bindArgs fd ⟨us, []⟩ = pure (ps.zip us) := by
  have hm : (ps.filter fun n => ((ps.zip us).lookup n).isNone) = [] := by
    rw [List.filter_eq_nil_iff]
    intro n hn
    rw [lookup_some hl hn]
    simp
  unfold bindArgs
  simp only [h1, h2, h3, h4, h5, h6, List.map_nil, List.nil_append, List.append_nil, List.forIn_nil, pure_bind, hl]
  simp only [show seqItems? Value.none = pure none from rfl, pure_bind]
  simp [hm, lookup_zip nd hl]
/-! ### the message -/
/-- a value whose text is shown (r: by repr) -/
def ShV (r : Bool) (u : Value) : Prop := (∃ y t, u = .str y t ∧ y.length ≤ 1000 ∧ (reprText y).length ≤ 10000) ∨ (∃ i t, u = .int i t ∧ i.natAbs.log2 < 1920 ∧ (Str.ofString (toString i)).length ≤ 1000) ∨ (r = true ∧ u = .none) ∨ (r = true ∧ ∃ b, u = .bool b)
def partB (ps : List Str) (sc : Scope) : Expr → Bool
  | .Constant (.str x) _ _ => decide (x.length ≤ 1000)
  | .FormattedValue (.Name p _) c none _ => decide (p ∈ ps) && decide (sc.names.lookup p = some .local) && !(p == ("__debug__" : Str)) && (decide (c = 114) || decide (c = -1))
  | _ => false
def shownP : Expr → List (Str × Bool)
  | .FormattedValue (.Name p _) c none _ => [(p, decide (c = 114))]
  | _ => []
def shown : Expr → List (Str × Bool)
  | .JoinedStr es _ => es.flatMap shownP
  | _ => []
def msgB (ps : List Str) (sc : Scope) : Expr → Bool
  | .Constant (.str x) _ _ => decide (x.length ≤ 1000)
  | .JoinedStr (v1 :: v2 :: rest) _ => (v1 :: v2 :: rest).all (partB ps sc) && decide (rest.length ≤ 20)
  | _ => false
theorem line_le {n : Nat} (h : n ≤ 1000000) : n ≤ sizeLine := by rw [sizeLine_eq]; omega
section
variable {prog : Program} {w : World} {A : Around} {E : Value → Shared → Prop} {env : Env} {m : Str → Option Value} {ps : List Str}
theorem part_run {s : Shared} {e : Expr} {Q : Value → Shared → Prop} (hk : env.scope.kind = .function) (hn : s.heap.Ns env.locals m) (hp : partB ps env.scope e = true) (hs : ∀ p r, (p, r) ∈ shownP e → ∃ u, m p = some u ∧ ShV r u)
    (h : ∀ y tk tk', Str.length y ≤ 10000 → Q (.str y tk) { s with toks := tk' }) : wpAny (model prog w) A (eval e env) Q E s := by
  unfold partB at hp
  split at hp
  · exact wpAny_Constant_str (h _ _ _ (Nat.le_trans (of_decide_eq_true hp) (by decide)))
  · rename_i p pp c pos
    obtain ⟨hp, h4⟩ := b2 hp
    obtain ⟨hp, h3⟩ := b2 hp
    obtain ⟨h1, h2⟩ := b2 hp
    obtain ⟨u, hu, sv⟩ := hs p (decide (c = 114)) (by simp [shownP])
    have ld : ∀ {Q : Value → Shared → Prop}, Q u s → wpAny (model prog w) A (eval (.Name p pp) env) Q E s := fun q => wpAny_Name (wpAny_loadName_local hk (of_decide_eq_true h2) hn hu q) (bn h3)
    rcases Bool.or_eq_true_iff.mp h4 with hc | hc
    · have hc := of_decide_eq_true hc
      subst hc
      refine wpAny_FormattedValue_repr (ld ?_)
      rcases sv with ⟨y, t, rfl, l1, l2⟩ | ⟨i, t, rfl, l1, l2⟩ | ⟨_, rfl⟩ | ⟨_, b, rfl⟩
      · exact pyReprObj_str (wpAny_formatField_str (h _ _ _ l2) (h _ _ _ l2) (line_le (by omega))) (line_le (by omega))
      · exact pyReprObj_int l1 (wpAny_formatField_str (h _ _ _ (Nat.le_trans l2 (by decide))) (h _ _ _ (Nat.le_trans l2 (by decide))) (int_text_fits l1))
      · exact pyReprObj_none (wpAny_formatField_str (h _ _ _ (by decide)) (h _ _ _ (by decide)))
      · refine pyReprObj_bool (wpAny_formatField_str (h _ _ _ ?_) (h _ _ _ ?_) ?_) <;> cases b <;> first | decide | exact line_le (by decide)
    · have hc := of_decide_eq_true hc
      subst hc
      refine wpAny_FormattedValue_plain (ld ?_)
      rcases sv with ⟨y, t, rfl, l1, l2⟩ | ⟨i, t, rfl, l1, l2⟩ | ⟨z, _⟩ | ⟨z, _⟩
      · exact wpAny_formatField_str (h _ _ _ (by omega)) (h _ _ _ (by omega)) (line_le (by omega))
      · exact wpAny_formatField_int l1 (h _ _ _ (Nat.le_trans l2 (by decide)))
      · exact absurd z (by decide)
      · exact absurd z (by decide)
  · cases hp
theorem joins_run (hk : env.scope.kind = .function) : ∀ {es : List Expr} {s : Shared} {acc : Str} {Q : Str → Shared → Prop}, s.heap.Ns env.locals m → es.all (partB ps env.scope) = true → (∀ p r, (p, r) ∈ es.flatMap shownP → ∃ u, m p = some u ∧ ShV r u) →
    acc.length + es.length * 10000 ≤ 1000000 → (∀ out tk, out.length ≤ sizeLine → Q out { s with toks := tk }) → Joins (model prog w) A E (evalEach es env) acc Q s
  | [], s, acc, Q, hn, hp, hs, hl, h => by
    have e0 : evalEach [] env = [] := by first | rfl | simp [evalEach]
    rw [e0]
    exact h acc s.toks (line_le (by omega))
  | e :: es, s, acc, Q, hn, hp, hs, hl, h => by
    have e0 : evalEach (e :: es) env = eval e env :: evalEach es env := by first | rfl | simp [evalEach]
    rw [e0]
    have hp := b2 (show (partB ps env.scope e && es.all (partB ps env.scope)) = true from hp)
    refine part_run hk hn hp.1 (fun p r hpr => hs p r (by simp [hpr])) fun y tk tk' hy => ?_
    have hl2 : (acc ++ y).length = acc.length + y.length := strLen_append ..
    simp only [List.length_cons] at hl
    refine ⟨y, tk, rfl, line_le (by omega), ?_⟩
    exact joins_run hk (s := { s with toks := tk' }) hn hp.2 (fun p r hpr => hs p r (by simp [hpr])) (by omega) fun out t ho => h out t ho
theorem msg_run {s : Shared} {e : Expr} {Q : Value → Shared → Prop} (hk : env.scope.kind = .function) (hn : s.heap.Ns env.locals m) (hp : msgB ps env.scope e = true) (hs : ∀ p r, (p, r) ∈ shown e → ∃ u, m p = some u ∧ ShV r u)
    (h : ∀ y tk tk', Q (.str y tk) { s with toks := tk' }) : wpAny (model prog w) A (eval e env) Q E s := by
  unfold msgB at hp
  split at hp
  · exact wpAny_Constant_str (h _ _ _)
  · rename_i v1 v2 rest pos
    obtain ⟨h1, h2⟩ := b2 hp
    have h2 := of_decide_eq_true h2
    refine wpAny_JoinedStr (joins_run (ps := ps) hk hn h1 hs ?_ fun out tk ho => ⟨ho, h _ _ _⟩)
    show 0 + (v1 :: v2 :: rest).length * 10000 ≤ 1000000
    simp only [List.length_cons]
    omega
  · cases hp
end
end Sim
end
section
set_option Elab.async false
set_option linter.all false
set_option maxRecDepth 100000
set_option maxHeartbeats 2000000
/-! The Sim layer, Rb: the body of an exception's __init__. -/
namespace Sim
open PySem PySem.Spec PyProof.Rows L2

/-- self.f = f, for each field -/
def fldsB (self : Str) (sc : Scope) : List Str → List Stmt → Bool
  | [], [] => true
  | f :: fs, .Assign [.Attribute (.Name x _) g _] (.Name p _) _ :: r => decide (x = self) && decide (g = f) && decide (p = f) && decide (sc.names.lookup f = some .local) && decide (sc.names.lookup x = some .local) && !(f == ("__debug__" : Str)) && !(x == ("__debug__" : Str)) && fldsB self sc fs r
  | _, _ => false
/-- super().__init__(text), then the fields -/
def initB (self : Str) (ps : List Str) (sc : Scope) (fs : List Str) : List Stmt → Option (List (Str × Bool))
  | .Expr (.Call (.Attribute (.Call (.Name x _) [] [] _) m ap) [e] [] cp) _ :: r => if (ap.endLine == cp.line) && decide (x = "super") && decide (m = "__init__") && msgB ps sc e && !isStar e && fldsB self sc fs r then some (shown e) else none
  | _ => none

/-- the exception while its fields are set: m0 what its dict holds -/
def ExO (h : Heap) (L e C : Addr) (n : Nat) (m0 : Str → Option Value) : Prop :=
  (m0 = (fun _ => none) ∧ ∃ t1 : Addr, h.get? e = some (HandSPX.excO C t1)) ∨
  ∃ (t1 dx : Addr) (ns : List Str), h.get? e = some ({ cls := .ref C, dict := some dx, data := .fields #[.ref t1, .none, .none, .none, .bool false, .none] } : Obj) ∧ h.Ns1 dx m0 ∧ L < dx ∧ dx ≠ e ∧ Within m0 ns ∧ ns.length ≤ n
structure ExS (hp0 : Heap) (L e C : Addr) (m : Str → Option Value) (n : Nat) (m0 : Str → Option Value) (h : Heap) : Prop where
  keep : ∀ b o, b ≠ e → hp0.get? b = some o → h.get? b = some o
  ns : h.Ns L m
  ob : ExO h L e C n m0
def putX : List (Str × Value) → (Str → Option Value) → Str → Option Value
  | [], m0, y => m0 y
  | (f, u) :: r, m0, y => putX r (fun z => if z = f then some u else m0 z) y
section
variable {prog : Program} {w : World} {A : Around} {E : Value → Shared → Prop} {env : Env} {K : PySem.W.Frag} {C e L : Addr} {hp0 : Heap} {m : Str → Option Value} {g : Array GenState} {d : Drawn} {os : OsState} {self : Str}
theorem fld_run {h : Heap} {t n : Nat} {m0 : Str → Option Value} {f : Str} {u : Value} {Q : Unit → Shared → Prop} (T : OexC K C) (hL : env.locals = L) (hLe : e ≠ L) (hL0 : hp0.objs.size ≤ L) (kk : ∀ h : Heap, (∀ b o, b ≠ e → hp0.get? b = some o → h.get? b = some o) → K.In h) (hno : PySem.W.findIn K (.ref C) f = some none) (S : ExS hp0 L e C m n m0 h) (hn : n < 900)
    (hq : ∀ h' tk', ExS hp0 L e C m (n + 1) (fun z => if z = f then some u else m0 z) h' → Q () ⟨h', g, d, tk', os⟩) : wpAny (model prog w) A (setAttr (.ref e) f u) Q E ⟨h, g, d, t, os⟩ := by
  have X := kk h S.keep
  obtain ⟨nm, q, N, bs, bm, sn, sub, ab, col, dd, k0, k1, k2, k3, k5, hC, hbm⟩ := T.cls
  have hcl : PySem.W.clsIn K C = some { name := nm, bases := bs, mro := .ref C :: bm, ns := N, qualname := q, hasDict := true, slotNames := sn, subclasses := sub, abstract := ab, collection := col, hasDel := false } := by unfold PySem.W.clsIn; rw [hC] <;> rfl
  rcases S.ob with ⟨rfl, t1, he⟩ | ⟨t1, dx, ns, he, hns, hld, hde, hw, hl⟩
  · refine PySem.W.set_plain (s := ⟨h, g, d, t, os⟩) X (ox := HandSPX.excO C t1) (od := none) ⟨he, rfl, rfl, trivial⟩ T.sa ?_
    refine PySem.HandSPX.exc_osa X he hcl (show PySem.HandSPX.refsVE (.ref C :: bm) = true from hbm) rfl hno (fun h' tk' dx k dn dne hx hn1 => ?_)
    have hLlt : L < h.objs.size := S.ns.lt
    refine hq h' tk' ⟨fun b o hb ho => k b o hb (S.keep b o hb ho), S.ns.at fun o z => k _ o (Ne.symm hLe) z, .inr ⟨t1, dx, [f], hx, hn1, Nat.lt_of_lt_of_le hLlt dn, dne, ?_, ?_⟩⟩
    · exact Within.cons f u Within.nil
    · simp
  · obtain ⟨oD, _, _, hoD, _, _⟩ := hns.count hw
    refine PySem.W.set_plain (s := ⟨h, g, d, t, os⟩) X (ox := { cls := .ref C, dict := some dx, data := .fields #[.ref t1, .none, .none, .none, .bool false, .none] }) (od := some oD) ⟨he, rfl, rfl, hoD⟩ T.sa ?_
    refine PySem.OEX.osa_old X he hns hw (by omega) hcl (show PySem.HandSPX.refsVE (.ref C :: bm) = true from hbm) rfl hno (fun h' tk' k hn1 => ?_)
    have hne : ∀ b o, hp0.get? b = some o → b ≠ dx := fun b o ho => Nat.ne_of_lt (Nat.lt_of_lt_of_le (Heap.lt_size ho) (Nat.le_trans hL0 (Nat.le_of_lt hld)))
    refine hq h' tk' ⟨fun b o hb ho => k b o (hne b o ho) (S.keep b o hb ho), S.ns.at fun o z => k _ o (Nat.ne_of_lt hld) z, .inr ⟨t1, dx, f :: ns, k _ _ (Ne.symm hde) he, hn1, hld, hde, Within.cons f u hw, by simp; omega⟩⟩
theorem flds_run (T : OexC K C) (hL : env.locals = L) (hk : env.scope.kind = .function) (hLe : e ≠ L) (hL0 : hp0.objs.size ≤ L) (kk : ∀ h : Heap, (∀ b o, b ≠ e → hp0.get? b = some o → h.get? b = some o) → K.In h) (hse : m self = some (.ref e)) :
    ∀ {fs : List Str} {us : List Value} {sts : List Stmt} {h : Heap} {t n : Nat} {m0 : Str → Option Value} {Q : Flow → Shared → Prop}, fldsB self env.scope fs sts = true → fs.length = us.length → (∀ p ∈ fs.zip us, m p.1 = some p.2) → (∀ f ∈ fs, PySem.W.findIn K (.ref C) f = some none) → ExS hp0 L e C m n m0 h → n + fs.length < 900 →
    (∀ h' tk', ExS hp0 L e C m (n + fs.length) (putX (fs.zip us) m0) h' → Q .next ⟨h', g, d, tk', os⟩) → wpAny (model prog w) A (PySem.execs sts env) Q E ⟨h, g, d, t, os⟩ := by
  intro fs
  induction fs with
  | nil =>
    intro us sts h t n m0 Q hb hl hm hno S hn hq
    cases sts with
    | cons => cases hb
    | nil => exact wpAny_execs_nil (hq h t S)
  | cons f fs ih =>
    intro us sts h t n m0 Q hb hl hm hno S hn hq
    cases us with
    | nil => simp at hl
    | cons u us =>
      unfold fldsB at hb
      split at hb
      · rename_i h1 h2; exact absurd h2 (by simp)
      · rename_i f' fs' x px gg pg p pp pos r ef
        cases ef
        simp only [Bool.and_eq_true, decide_eq_true_eq, Bool.not_eq_true'] at hb
        obtain ⟨⟨⟨⟨⟨⟨⟨rfl, rfl⟩, rfl⟩, h4⟩, h5⟩, h6⟩, h7⟩, h8⟩ := hb
        have hns : h.Ns env.locals m := by rw [hL]; exact S.ns
        refine wpAny_execs_cons (plainObj_wpAny_Assign_Attribute (wpAny_Name (wpAny_loadName_local hk h4 hns (hm (_, u) (by simp)) (wpAny_Name (wpAny_loadName_local hk h5 hns hse ?_) h7)) h6))
        refine fld_run (n := n) T hL hLe hL0 kk (hno _ (by simp)) S (by omega) fun h' tk' S' => ?_
        have hlen : n + 1 + fs.length = n + (fs.length + 1) := by omega
        refine ih h8 (by simpa using hl) (fun q hq' => hm q (by simp [hq'])) (fun q hq' => hno q (by simp [hq'])) S' (by simp at hn; omega) fun h2 tk2 S2 => ?_
        rw [hlen] at S2
        exact hq h2 tk2 S2
      · cases hb
end
end Sim
end
section
set_option Elab.async false
set_option linter.all false
set_option maxRecDepth 100000
set_option maxHeartbeats 2000000
/-! The Sim layer, Rc: an exception's __init__, called. -/
namespace Sim
open PySem PySem.Spec PyProof.Rows L2

/-- what stands of an exception class and its __init__ -/
structure XiF (P : Program) (K : PySem.W.Frag) (C fI : Addr) (fs : List Str) (sh : List (Str × Bool)) : Prop where
  oex : OexC K C
  init : PySem.W.findIn K (.ref C) "__init__" = some (some (.ref fI))
  fnT : PySem.W.typeIn K (.ref fI) = some (.type "function")
  nof : ∀ f ∈ fs, PySem.W.findIn K (.ref C) f = some none
  sub : PySem.W.subIn K (.ref C) (.type "ValueError") = some true
  own : PySem.W.mroIn K C (.ref C) = some true
  sup : PySem.W.ks_superIn K C C "__init__" = some (some (.builtin "ValueError.__init__"))
  opq : PySem.W.nsIn K cStatics "thirdparty.any" = some none
  top : (P.main.scope.names.lookup ("super" : Str)).isSome = false
  fn : ∃ (oc : Value) (od : Option Addr) (osl : Array (Option Value)) (fd : FuncData) (body : List Stmt) (self : Str) (cc : Addr) (cl : Value) (cld : Option Addr) (csl : Array (Option Value)) (cda : Addr) (ccl : Value) (cdd : Option Addr) (vs : Array Value) (ccs : Array (Option Value)) (file : Str) (tf : Tok),
    K.lookup fI = some ⟨oc, od, .func fd, osl⟩ ∧ fd.body = .stmts body ∧ fd.globals = mainGlobals ∧ fd.builtins = builtinsNs ∧ fd.closure = [(("__class__" : Str), cc)] ∧ K.lookup cc = some ⟨cl, cld, .cell (some (.ref C)), csl⟩ ∧
    fd.code = .ref cda ∧ PySem.W.codeIn K (.ref cda) fd.qualname = true ∧ K.lookup cda = some ⟨ccl, cdd, .fields vs, ccs⟩ ∧ vs[2]? = some (.str file tf) ∧ (P.main.file == file) = true ∧
    fd.params.posonlyargs = [] ∧ fd.params.args.map (·.arg) = self :: fs ∧ fd.params.kwonlyargs = [] ∧ fd.params.vararg = none ∧ fd.params.kwarg = none ∧ fd.defaults = .none ∧ (self :: fs).Nodup ∧
    fd.scope.kind = .function ∧ fd.scope.isCoroutine = false ∧ fd.scope.isGenerator = false ∧ (∀ x ∈ fd.scope.names, x.2 ≠ .cell) ∧ fd.scope.names.lookup ("super" : Str) = some .globalImplicit ∧ fd.scope.names.lookup ("__class__" : Str) = some .free ∧ (∀ x ∈ self :: fs, fd.scope.names.lookup x = some .local) ∧
    initB self (self :: fs) fd.scope fs body = some sh

theorem lookup_mem {α : Type} : ∀ {l : List (Str × α)} {p : Str × α}, (l.map (·.1)).Nodup → p ∈ l → l.lookup p.1 = some p.2
  | [], p, _, h => by cases h
  | q :: l, p, nd, h => by
    simp only [List.map_cons, List.nodup_cons] at nd
    rcases List.mem_cons.mp h with rfl | h
    · obtain ⟨a, b⟩ := p
      simp [List.lookup_cons]
    · have : (p.1 == q.1) = false := by
        simp only [beq_eq_false_iff_ne, ne_eq]
        intro z
        exact nd.1 (by rw [← z]; exact List.mem_map_of_mem h)
      rw [show q = (q.1, q.2) from rfl, List.lookup_cons, this]
      exact lookup_mem nd.2 h
theorem zip_keys {α : Type} : ∀ {ps : List Str} {us : List α}, us.length = ps.length → (ps.zip us).map (·.1) = ps
  | [], _, _ => by simp
  | p :: ps, [], h => by simp at h
  | p :: ps, u :: us, h => by simp [zip_keys (ps := ps) (us := us) (by simpa using h)]
theorem meth_eqS {o : Expr} {m : Str} {apos pos : Pos} {e : Expr} {env : Env} (hl : (apos.endLine == pos.line) = true) (hp : isStar e = false) :
    eval (.Call (.Attribute o m apos) [e] [] pos) env = (do
      let ov ← attributeBase o m env (eval o env)
      standAt apos.atName
      let (f, first) ← holding [ov] (getMethod ov m (plainOf o env))
      callWith pos f first (backTo pos (starEach [e] env)) []) := by
  have e1 : eval (.Call (.Attribute o m apos) [e] [] pos) env = (do
      let ov ← attributeBase o m env (eval o env)
      standAt apos.atName
      methodCall o m apos pos env ov 1 (backTo pos (starEach [e] env)) (backToKw pos (keywordEach [] env))) := rfl
  rw [e1]
  have hf : methodCallForm 1 (backTo pos (starEach [e] env)) (backToKw pos (keywordEach [] env)) = true := by
    have q := back_plain (pos := pos) (env := env) (es := [e]) (by simp [hp])
    have q2 : (backTo pos (starEach [e] env)).all (!·.1) = true := by
      rw [List.all_eq_true]
      rw [List.any_eq_false] at q
      intro x hx
      have := q x hx
      simpa using this
    unfold methodCallForm
    rw [q2]
    simp [backToKw, keywordEach]
  congr 1
  funext ov
  congr 1
  funext _
  rw [mcall_line hf hl]
  rfl
theorem binds_at {ps : List Str} {us : List Value} (nd : ps.Nodup) (hl : us.length = ps.length) {p : Str × Value} (hp : p ∈ ps.zip us) : (ps.zip us).reverse.lookup p.1 = some p.2 := by
  refine lookup_mem ?_ (List.mem_reverse.mpr hp)
  rw [List.map_reverse, zip_keys hl]
  exact List.pairwise_reverse.mpr (List.Pairwise.imp (fun h => Ne.symm h) nd)
section
variable {P : Program} {w : World} {A : Around} {E : Value → Shared → Prop} {h : Heap} {g : Array GenState} {d : Drawn} {t : Nat} {os : OsState} {nm q : Str} {C N : Addr} {bs bm : List Value} {hdct : Bool} {sn : List Str} {sub : List Value} {ab : Bool} {col : Option Bool} {dd : Option Addr} {k0 k1 k2 k3 k5 : Option Value}
/-- the built-in __init__, bound, called: the args are laid anew -/
theorem call_bwV {u e t0 : Addr} {rest : List Value} {Q : Value → Shared → Prop}
    (hC : h.get? C = some (excClassObj nm q C N bs bm hdct sn sub ab col dd k0 k1 k2 k3 k5 "ValueError.__new__")) (he : h.get? e = some (HandSPX.excO C t0)) (hu : h.get? u = some (PySem.W.kxs_mw "ValueError.__init__" e)) (hrest : rest.length ≤ sizeLine)
    (hq : ∀ h' t1, (∀ b o, b ≠ e → h.get? b = some o → h'.get? b = some o) → h'.get? e = some (HandSPX.excO C t1) → Q .none ⟨h', g, d, t, os⟩) :
    wpAny (model P w) A (call (.ref u) rest) Q E ⟨h, g, d, t, os⟩ := by
  refine wpAny_call (codeAny_of_tree ?_)
  show wpAny _ A.in1 (callAny (.ref u) ⟨rest, []⟩) _ _ _
  simp only [callAny]
  refine wpAny_bind (wpAny_load hu ?_)
  simp only [PySem.W.kxs_mw, show (Value.type "method-wrapper" == Value.type "method" || Value.type "method-wrapper" == Value.type "builtin_function_or_method" || Value.type "method-wrapper" == Value.type "method-wrapper") = true by decide, if_true]
  refine W.KFB.if_so (by decide) ?_
  refine wpAny_bind (PySem.ESX.check_bound F.excBase_ValueError hC he rfl ?_)
  refine wpAny_bind (wpAny_pure (wpAny_pure ?_))
  refine ⟨Code.quiet_builtin _ (by decide +kernel), codeAny_builtin F.excBase_ValueError.initEntry ?_⟩
  rw [Around.under_plainId F.excBase_ValueError.init.plain _]
  wp_walk
  refine hq _ h.objs.size (fun b o hb ho => ?_) ?_
  · rw [Heap.get?_update_other _ _ (Ne.symm hb)]
    exact Heap.get?_push_of_some _ ho
  · rw [Heap.get?_update_self _ (Heap.get?_push_of_some _ he) rfl]
    rfl
end
section
variable {P : Program} {w : World} {A : Around} {K : PySem.W.Frag} {mg : Str → Option Value} {base hp : Heap} {C fI e t0 : Addr} {fs : List Str} {sh : List (Str × Bool)} {us : List Value} {g : Array GenState} {d : Drawn} {t : Nat} {os : OsState} {R : Result → Shared → Prop}
theorem init_run (F : XiF P K C fI fs sh) (mod : Mod K mg base) (hsup : mg "super" = none) (hbs : ∀ b o, base.get? b = some o → hp.get? b = some o) (hbe : base.get? e = none) (he : hp.get? e = some (HandSPX.excO C t0)) (hroom : A.depth < recursionLimit) (hl : us.length = fs.length) (hfl : fs.length < 100)
    (hsh : ∀ p r, (p, r) ∈ sh → ∃ u, (p, u) ∈ fs.zip us ∧ ShV r u)
    (hq : ∀ h' tk', (∀ b o, b ≠ e → hp.get? b = some o → h'.get? b = some o) → ExO h' hp.objs.size e C 900 (putX (fs.zip us) fun _ => none) → R (.ok (.ret .none)) ⟨h', g, d, tk', os⟩) :
    codeAny (model P w) A (.call (.ref fI) ⟨.ref e :: us, []⟩) R ⟨hp, g, d, t, os⟩ := by
  obtain ⟨oc, od, osl, fd, body, self, cc, cl, cld, csl, cda, ccl, cdd, vs, ccs, file, tf, lF, eb, eg, ebl, ecl, lc, ec, hcd, lcd, hvs, hfile, p1, p2, p3, p4, p5, p6, nd, sk, sco, sge, scl, ssu, scc, slo, hib⟩ := F.fn
  obtain ⟨nm, q, N, bs, bm, sn, sub, ab, col, dd, k0, k1, k2, k3, k5, hC, hbm⟩ := F.oex.cls
  have kk : ∀ h : Heap, (∀ b o, b ≠ e → hp.get? b = some o → h.get? b = some o) → K.In h := fun h k => mod.kin.keeps fun b o z => k b o (fun y => by rw [y, hbe] at z; cases z) (hbs b o z)
  have bk : ∀ h : Heap, (∀ b o, b ≠ e → hp.get? b = some o → h.get? b = some o) → ∀ b o, base.get? b = some o → h.get? b = some o := fun h k b o z => k b o (fun y => by rw [y, hbe] at z; cases z) (hbs b o z)
  have X0 : K.In hp := kk hp fun b o _ z => z
  have hcl : PySem.W.clsIn K C = some { name := nm, bases := bs, mro := .ref C :: bm, ns := N, qualname := q, hasDict := true, slotNames := sn, subclasses := sub, abstract := ab, collection := col, hasDel := false } := by unfold PySem.W.clsIn; rw [hC] <;> rfl
  have hlen : (Value.ref e :: us).length = (self :: fs).length := by simp [hl]
  have bnd : bindArgs fd ⟨.ref e :: us, []⟩ = pure ((self :: fs).zip (.ref e :: us)) := bind_plain p1 p2 p3 p4 p5 p6 nd hlen
  have hm : ∀ p ∈ (self :: fs).zip (Value.ref e :: us), (((self :: fs).zip (Value.ref e :: us)).reverse.lookup p.1) = some p.2 := fun p hp => binds_at nd hlen hp
  refine PySem.ks_codeAny_call_defAt (s := ⟨hp, g, d, t, os⟩) (fd := fd) (body := body) hroom (X0 _ _ lF) rfl (mod.nolimit.keeps hbs) (by rw [ec]; exact PySem.W.codeRec_of X0 hcd) eb (BindsTo.of_eq bnd) scl (fun x hx => ?_) (fun h₀ hns hk => ?_) sco sge sk
  · have hx1 : x.1 ∈ self :: fs := by
      have := List.mem_map_of_mem (f := (·.1)) hx
      rwa [zip_keys hlen] at this
    exact slo _ hx1
  obtain ⟨ar, har, hself⟩ : ∃ ar, (fd.params.posonlyargs ++ fd.params.args).head? = some ar ∧ ar.arg = self := by
    rw [p1, List.nil_append]
    cases z : fd.params.args with
    | nil => rw [z] at p2; cases p2
    | cons a r => rw [z] at p2; exact ⟨a, rfl, (List.cons.inj p2).1⟩
  unfold initB at hib
  split at hib
  · rename_i x0 px pp2 m0 pm arg pc pe rest
    split at hib
    · rename_i hcnd
      simp only [Bool.and_eq_true, decide_eq_true_eq, Bool.not_eq_true'] at hcnd
      obtain ⟨⟨⟨⟨⟨hline, rfl⟩, rfl⟩, hmsg⟩, hst⟩, hfld⟩ := hcnd
      have hib := Option.some.inj hib
      subst hib
      have envs : (callEnv fd hp.objs.size fI).scope = fd.scope := rfl
      have X1 : K.In h₀ := X0.keeps hk
      have he1 := hk _ _ he
      have I1 : PySem.W.InstAt h₀ e (HandSPX.excO C t0) C none := ⟨he1, rfl, rfl, trivial⟩
      obtain ⟨mb, hmb1, hmb2⟩ := mod.blt
      have bs1 : ∀ b o, base.get? b = some o → h₀.get? b = some o := fun b o z => hk b o (hbs b o z)
      refine ks_wpAt_execs_cons (ks_wpAt_Expr_any (ks_wpAt_MethodCall ?_ (meth_eqS hline hst)) (by unfold interactive; simp [callEnv, newEnv, sk]))
      refine ks_wpAt_super_base (env := callEnv fd hp.objs.size fI) ssu scc (by decide) rfl (X1 _ _ lF) rfl har ec (X1 _ _ lcd) rfl hvs hfile F.top ?_
      refine PySem.W.ks_loadName_global (env := callEnv fd hp.objs.size fI) sk ssu (Calls.loadGlobal_builtin (env := callEnv fd hp.objs.size fI) (by show h₀.Ns fd.globals mg; rw [eg]; exact mod.glob.keeps bs1) hsup (by show h₀.Ns fd.builtins mb; rw [ebl]; exact hmb1.keeps bs1) ((hmb2 _ (by decide)).trans (by first | exact PyProof.Rows.Boot.«super» | rfl | kernel_rfl)) ⟨rfl, ?_⟩)
      refine wpAny_loadName_free (env := callEnv fd hp.objs.size fI) sk scc (by show fd.closure.lookup _ = _; rw [ecl]; rfl) ⟨_, X1 _ _ lc, rfl⟩ ?_
      rw [hself]
      refine wpAny_loadName_local (env := callEnv fd hp.objs.size fI) sk (slo self (by simp)) hns (hm (self, .ref e) (by simp)) ?_
      refine ks_wpAny_isType_cls (X1 _ _ hC) rfl ⟨rfl, ?_⟩
      refine ks_wpAny_call_super (X1 _ _ hC) rfl he1 rfl (fun c z => by cases z) (PySem.W.looks_mroIn X1 F.own) (fun h2 hso k2 => ?_)
      have X2 : K.In h2 := X1.keeps k2
      have I2 : PySem.W.InstAt h2 e (HandSPX.excO C t0) C none := ⟨k2 _ _ he1, rfl, rfl, trivial⟩
      have hsup2 := F.sup
      unfold PySem.W.ks_superIn at hsup2
      rw [hcl] at hsup2
      refine PySem.W.kxs_getMethod PySem.W.kxs_ValueError hso (PySem.W.looks_opaque X2 F.opq) (l₀ := .ref C :: bm) ?_ rfl X2 hsup2 (I2.type.andThen (PySem.W.looks_subIn X2 F.sub)) (PySem.W.ks_ne X2 I2 hcl) (by decide) ?_
      · exact fun A Q E s k q => wpAny_bind ((PySem.W.looks_clsIn X2 hcl) A _ E s k (wpAny_pure q))
      · have k3 : ∀ b o, h2.get? b = some o → (h2.push (PySem.W.kxs_mw "ValueError.__init__" e)).get? b = some o := fun b o z => Heap.get?_push_of_some _ z
        have hu3 : (h2.push (PySem.W.kxs_mw "ValueError.__init__" e)).get? h2.objs.size = some (PySem.W.kxs_mw "ValueError.__init__" e) := Heap.get?_push_at rfl rfl
        have ns3 : (h2.push (PySem.W.kxs_mw "ValueError.__init__" e)).Ns hp.objs.size (fun x => ((self :: fs).zip (Value.ref e :: us)).reverse.lookup x) := (hns.keeps k2).keeps k3
        dsimp only
        rw [star_of hst]
        refine PySem.W.kxs_callWith (i := "ValueError.__init__") (x := e) rfl (Calls.evalArgs_plain (Calls.spliced_cons ?_))
        refine msg_run (ps := self :: fs) (env := callEnv fd hp.objs.size fI) (m := fun x => ((self :: fs).zip (Value.ref e :: us)).reverse.lookup x) sk ns3 hmsg (fun p r hpr => ?_) (fun y tk tk' => ?_)
        · obtain ⟨u, hu1, hu2⟩ := hsh p r hpr
          exact ⟨u, hm (p, u) (by simp [hu1]), hu2⟩
        refine Calls.spliced_nil ⟨hu3, ?_⟩
        refine call_bwV (X2.keeps k3 _ _ hC) (k3 _ _ (k2 _ _ he1)) hu3 (by simp [sizeLine_eq]) (fun h4 t4 k4 he4 => ?_)
        have hLe : e ≠ hp.objs.size := Nat.ne_of_lt (Heap.lt_size he)
        have kp4 : ∀ b o, b ≠ e → hp.get? b = some o → h4.get? b = some o := fun b o hb z => k4 b o hb (k3 _ _ (k2 _ _ (hk _ _ z)))
        have S4 : ExS hp hp.objs.size e C (fun x => ((self :: fs).zip (Value.ref e :: us)).reverse.lookup x) 0 (fun _ => none) h4 := ⟨kp4, ns3.at fun o z => k4 _ o (Ne.symm hLe) z, .inl ⟨rfl, t4, he4⟩⟩
        refine wpAt_of_wpAny ?_
        refine flds_run (fs := fs) (us := us) (self := self) (env := callEnv fd hp.objs.size fI) F.oex rfl sk hLe (Nat.le_refl _) kk (hm (self, .ref e) (by simp)) hfld hl.symm (fun p hp => hm p (by simp [hp])) F.nof S4 (by omega) (fun h5 tk5 S5 => ?_)
        refine hq h5 tk5 S5.keep ?_
        rcases S5.ob with z | ⟨t1, dx, ns, z1, z2, z3, z4, z5, z6⟩
        · exact .inl z
        · exact .inr ⟨t1, dx, ns, z1, z2, z3, z4, z5, by omega⟩
    · cases hib
  · cases hib
end
end Sim
end
section
set_option Elab.async false
set_option linter.all false
set_option maxRecDepth 100000
set_option maxHeartbeats 2000000
/-! The Sim layer, Rd: C(e, ..) of an exception class; raise. -/
namespace Sim
open PySem PySem.Spec PyProof.Rows L2
/-- a value whose text is shown -/
def ShD (r : Bool) : V → Prop
  | .str y => y.length ≤ 1000 ∧ (reprText y).length ≤ 10000
  | .int i => i.natAbs.log2 < 1920 ∧ (Str.ofString (toString i)).length ≤ 1000
  | .non => r = true
  | .bl _ => r = true
  | _ => False
theorem ShD.rel {r : Bool} : ∀ {v : V} {u : Value}, ShD r v → RelV v u → ShV r u
  | .str y, u, h, q => by
    obtain ⟨t, rfl⟩ := q
    exact .inl ⟨_, _, rfl, h.1, h.2⟩
  | .int i, u, h, q => by
    obtain ⟨t, rfl⟩ := q
    exact .inr (.inl ⟨_, _, rfl, h.1, h.2⟩)
  | .non, u, h, q => .inr (.inr (.inl ⟨h, q⟩))
  | .bl b, u, h, q => .inr (.inr (.inr ⟨h, b, q⟩))
theorem zip_rel : ∀ {fs : List Str} {vs : List V} {us : List Value} {p : Str} {v : V}, Vals vs us → (p, v) ∈ fs.zip vs → ∃ u, (p, u) ∈ fs.zip us ∧ RelV v u
  | [], _, _, _, _, _, h => by simp at h
  | f :: fs, _, _, _, _, .nil, h => by simp at h
  | f :: fs, _, _, p, v, .cons (a := v0) (b := u0) r rs, h => by
    rw [List.zip_cons_cons] at h
    rcases List.mem_cons.mp h with z | z
    · cases z
      exact ⟨u0, by simp, r⟩
    · obtain ⟨u, hu, ru⟩ := zip_rel rs z
      exact ⟨u, by simp [hu], ru⟩
theorem putX_ne : ∀ {l : List (Str × Value)} {m0 : Str → Option Value} {y : Str}, y ∉ l.map (·.1) → putX l m0 y = m0 y
  | [], _, _, _ => rfl
  | (f, u) :: r, m0, y, h => by
    show putX r _ y = _
    simp only [List.map_cons, List.mem_cons, not_or] at h
    rw [putX_ne h.2, if_neg h.1]
theorem putX_rel : ∀ {fs : List Str} {vs : List V} {us : List Value} {m0 : Str → Option Value}, fs.Nodup → vs.length = fs.length → Vals vs us → (∀ y, y ∉ fs → m0 y = none) → ∀ y, RelO ((fs.zip vs).lookup y) (putX (fs.zip us) m0 y)
  | [], _, _, m0, _, _, _, h, y => by
    show RelO none (m0 y)
    rw [h y (by simp)]
    exact True.intro
  | f :: fs, [], _, _, _, hl, _, _, _ => by simp at hl
  | f :: fs, v0 :: vs, [], m0, nd, hl, rr, h, y => by cases rr
  | f :: fs, v0 :: vs, u0 :: us, m0, nd, hl, rr, h, y => by
    have nd := List.nodup_cons.mp nd
    obtain ⟨r, rs⟩ : RelV v0 u0 ∧ Vals vs us := by cases rr with | cons a b => exact ⟨a, b⟩
    show RelO (((f, v0) :: fs.zip vs).lookup y) (putX (fs.zip us) (fun z => if z = f then some u0 else m0 z) y)
    rw [lookup_put]
    by_cases hy : y = f
    · subst hy
      rw [if_pos rfl, putX_ne]
      · simp only [if_pos rfl]; exact r
      · intro z
        obtain ⟨q, hq, e⟩ := List.mem_map.mp z
        have := (List.of_mem_zip hq).1
        rw [e] at this
        exact nd.1 this
    · rw [if_neg hy]
      have hz : ∀ z, z ∉ fs → (fun z => if z = f then some u0 else m0 z) z = (fun z => if z = f then some u0 else none) z := fun z hz => by
        show (if z = f then some u0 else m0 z) = (if z = f then some u0 else none)
        split
        · rfl
        · rename_i hzf
          exact h z (by simp [hz, hzf])
      have key : ∀ {l : List (Str × Value)} {m1 m2 : Str → Option Value}, (m1 y = m2 y) → putX l m1 y = putX l m2 y := by
        intro l
        induction l with
        | nil => intro m1 m2 e; exact e
        | cons q l ih =>
          intro m1 m2 e
          obtain ⟨a, b⟩ := q
          show putX l _ y = putX l _ y
          refine ih ?_
          show (if y = a then some b else m1 y) = (if y = a then some b else m2 y)
          rw [e]
      rw [key (m2 := fun z => m0 z) (show (if y = f then some u0 else m0 y) = m0 y from if_neg hy)]
      by_cases hf : m0 f = none
      · exact putX_rel nd.2 (by simpa using hl) rs (fun z hz => by
          by_cases e : z = f
          · rw [e]; exact hf
          · exact h z (by simp [hz, e])) y
      · rw [key (m2 := fun z => if z = f then none else m0 z) (show m0 y = (if y = f then none else m0 y) from (if_neg hy).symm)]
        exact putX_rel nd.2 (by simpa using hl) rs (fun z hz => by
          show (if z = f then none else m0 z) = none
          split
          · rfl
          · rename_i e
            exact h z (by simp [hz, e])) y
/-- C(e, ..) of an exception class -/
def tMkX (C : Addr) (fs : List Str) (sh : List (Str × Bool)) (ta : TA) : L2.St → Hp → XK → Prop := fun σ H Q => ta σ H fun vs H1 => vs.length = fs.length ∧ (∀ p r, (p, r) ∈ sh → ∃ v, (p, v) ∈ fs.zip vs ∧ ShD r v) ∧ (fs = [] → Q (.ref C) none H1) ∧ ∀ d, H1 d = none → Q (.ref C) (some d) (upd H1 d (.xd (fs.zip vs)))
section
variable {X : Cx} {es : List Expr} {ta : TA} {p pos : Pos} {x : Str} {C fI : Addr} {fs : List Str} {sh : List (Str × Bool)} {k : Nat}
theorem run_mkx (F : XiF X.prog X.K C fI fs sh) (hsup : X.mg "super" = none) (nd : fs.Nodup) (hfl : fs.length < 100) (hr : Room (k + 1) X.A) {pins : List (Addr × Obj)} {σ : L2.St} {H : Hp} {s : Shared} {Q : XK} {us : List Value} {vs : List V} (I : Inv X pins σ H s) (r : Vals vs us)
    (h1 : vs.length = fs.length) (h2 : ∀ p r, (p, r) ∈ sh → ∃ v, (p, v) ∈ fs.zip vs ∧ ShD r v) (h3 : fs = [] → Q (.ref C) none H) (h4 : ∀ d, H d = none → Q (.ref C) (some d) (upd H d (.xd (fs.zip vs)))) :
    wpAny (model X.prog X.w) X.A (call (.ref C) us) (MkP X pins σ Q) X.xe s := by
  obtain ⟨nm, q, N, bs, bm, sn, sub, ab, col, dd, k0, k1, k2, k3, k5, hC, hbm⟩ := F.oex.cls
  have hus : us.length = fs.length := by rw [← r.length]; exact h1
  obtain ⟨hp, g, dr, tk, os⟩ := s
  have kk : ∀ b o, hp.get? b = some o → ((hp.push (PySem.W.kdv_tup us)).push (PySem.HandSPX.excO C hp.objs.size)).get? b = some o := fun b o e => Heap.get?_push_of_some _ (Heap.get?_push_of_some _ e)
  have hget : ((hp.push (PySem.W.kdv_tup us)).push (PySem.HandSPX.excO C hp.objs.size)).get? (hp.objs.size + 1) = some (PySem.HandSPX.excO C hp.objs.size) := by heap_get
  have nhp : hp.get? (hp.objs.size + 1) = none := by
    cases z : hp.get? (hp.objs.size + 1) with
    | none => rfl
    | some o => exact absurd (Heap.lt_size z) (Nat.not_lt.mpr (Nat.le_succ _))
  have nhb : X.base.get? (hp.objs.size + 1) = none := by
    cases z : X.base.get? (hp.objs.size + 1) with
    | none => rfl
    | some o => rw [I.bk _ _ z] at nhp; cases nhp
  have na : H (hp.objs.size + 1) = none := I.hok.fresh (show hp.objs.size ≤ hp.objs.size + 1 from Nat.le_succ _)
  refine wpAny_call (PySem.HandSPX.call_own PySem.F.excBase_ValueError (fun Y => PySem.HandSPX.refsVE_contains Y bm hbm) (I.kIn _ _ hC) (PySem.W.looks_findIn I.kIn F.init) (fun self => PySem.W.bind_fn I.kIn self F.fnT) (by rw [hus, sizeLine_eq]; omega) ?_)
  refine init_run F I.ok.mod hsup (fun b o z => kk b o (I.bk b o z)) nhb hget (hr.make C us []).depth hus hfl (fun p r' hp => ?_) (fun h' tk' keep ob => ?_)
  · obtain ⟨v, hv, sv⟩ := h2 p r' hp
    obtain ⟨u, hu, ru⟩ := zip_rel r hv
    exact ⟨u, hu, sv.rel ru⟩
  · refine ⟨rfl, ?_⟩
    have kp : ∀ b o, hp.get? b = some o → h'.get? b = some o := fun b o z => keep b o (fun e => by rw [e, nhp] at z; cases z) (kk b o z)
    have rs := raises_own (X := X) F.oex.exC F.oex.tyC
    have sz : hp.objs.size ≤ ((hp.push (PySem.W.kdv_tup us)).push (PySem.HandSPX.excO C hp.objs.size)).objs.size := by
      rw [Heap.size_push, Heap.size_push]
      exact Nat.le_trans (Nat.le_succ _) (Nat.le_succ _)
    rcases ob with ⟨e0, t1, he⟩ | ⟨t1, dx, ns, he, hns, hld, hde, _, _⟩
    · have hf : fs = [] := by
        cases fs with
        | nil => rfl
        | cons f fs =>
          cases us with
          | nil => simp at hus
          | cons u us =>
            exfalso
            cases r with
            | @cons v0 _ vs0 _ r0 rs0 =>
              have z := putX_rel (m0 := fun _ => none) nd h1 (.cons r0 rs0) (fun _ _ => rfl) f
              rw [e0, List.zip_cons_cons, lookup_put, if_pos rfl] at z
              exact z
      exact ⟨hp.objs.size + 1, _, _, ⟨hp, g, dr, tk, os⟩, H, .ref C, none, rfl, I, kp, nhp, he, ⟨rfl, rfl⟩, rfl, rfl, na, rfl, I.bare, rs, h3 hf⟩
    · obtain ⟨G, g1, g2⟩ := restrict h' fun b => decide (b ≠ hp.objs.size + 1)
      have gk : ∀ b, b ≠ hp.objs.size + 1 → G.get? b = h'.get? b := fun b hb => g1 b (decide_eq_true hb)
      have ge : G.get? (hp.objs.size + 1) = none := g2 _ (by simp)
      have kG : ∀ b o, hp.get? b = some o → G.get? b = some o := fun b o z => by
        rw [gk b fun e => by rw [e, nhp] at z; cases z]
        exact kp b o z
      have hdx : hp.objs.size ≤ dx := Nat.le_trans sz (Nat.le_of_lt hld)
      have J : Inv X pins σ (upd H dx (.xd (fs.zip vs))) ⟨G, g, dr, tk', os⟩ := I.laid (t' := tk') (a := dx) (o := .xd (fs.zip vs)) (h' := G) kG hdx ⟨_, hns.at fun o z => (gk dx hde).trans z, putX_rel nd h1 r fun _ _ => rfl⟩
      refine ⟨hp.objs.size + 1, _, _, ⟨G, g, dr, tk', os⟩, _, .ref C, some dx, rfl, J, fun b o z => ?_, ge, he, ⟨rfl, rfl⟩, rfl, rfl, ?_, rfl, I.bare, rs, h4 dx (I.hok.fresh hdx)⟩
      · by_cases hb : b = hp.objs.size + 1
        · rw [hb, ge] at z; cases z
        · exact (gk b hb).symm.trans z
      · rw [upd_ne (Ne.symm hde)]; exact na
theorem pmk_x (F : XiF X.prog X.K C fI fs sh) (hsup : X.mg "super" = none) (nd : fs.Nodup) (hfl : fs.length < 100) (hr : Room (k + 1) X.A) (hg : Gl X x) (hm : X.mg x = some (.ref C)) (ha : PA X es ta) (hdb : (x == ("__debug__" : Str)) = false) (hpl : (es.all fun e => !isStar e) = true) :
    PMk X (.Call (.Name x p) es [] pos) (tMkX C fs sh ta) := by
  intro pins s σ H Q I h
  refine wpAny_Call_Name_kw (ld_glob I hg hm ?_ hdb)
  cases es with
  | nil =>
    refine PySem.W.callWith_K0 I.kIn F.oex.kC ?_
    have hh := ha.run pos pins s σ H _ I h
    have e0 : backTo pos (starEach [] X.env) = [] := rfl
    rw [e0] at hh
    have := Calls.spliced_nil (M := model X.prog X.w) (A := X.A) (E := X.xe) (s := s) (Q := fun us s1 => wpAny (model X.prog X.w) X.A (call (.ref C) us) (MkP X pins σ Q) X.xe s1)
    have hz : wpAny (model X.prog X.w) X.A (spliced [] >>= fun us => call (.ref C) us) (MkP X pins σ Q) X.xe s := by
      refine wpAny_bind (thn hh fun us s1 ⟨vs, H1, I1, r1, a1, a2, a3, a4⟩ => ?_)
      exact run_mkx F hsup nd hfl hr I1 r1 a1 a2 a3 a4
    exact hz
  | cons e es =>
    simp only [List.all_cons, Bool.and_eq_true, Bool.not_eq_true'] at hpl
    refine PySem.W.callWith_K (h₀ := X.base) I.ok.mod.kin F.oex.kC (thn (ha.run pos pins s σ H _ I h) fun us s1 ⟨vs, H1, I1, r1, a1, a2, a3, a4⟩ => ⟨I1.kIn, ?_⟩) (star_of hpl.1) (back_plain hpl.2)
    exact run_mkx F hsup nd hfl hr I1 r1 a1 a2 a3 a4
end
/-- what stands of an exception class of the table -/
structure XkF (T : Tab) (c : Ct) (P : Program) (K : PySem.W.Frag) (mg : Str → Option Value) (j : Nat) (q : Xk) : Prop where
  nm : mg q.name = some (.ref (c.xt j))
  rs : q.rs = true → ∃ fI, XiF P K (c.xt j) fI q.fs q.sh
  nd : q.fs.Nodup
  ln : q.fs.length < 100
  ex : ExcC K (c.xt j)
  cl : (PySem.W.clsIn K (c.xt j)).isSome = true
  nof : ∀ f ∈ q.fs, PySem.W.findIn K (.ref (c.xt j)) f = some none
  ups : ∀ i qi, T.xks[i]? = some qi → PySem.W.exmOne K (.ref (c.xt j)) (.ref (c.xt i)) = some (q.ups.contains i) ∧ PySem.W.kitOne K (.ref (c.xt j)) (.ref (c.xt i)) = some (q.ups.contains i)
end Sim
end
section
set_option Elab.async false
set_option linter.all false
set_option maxRecDepth 100000
set_option maxHeartbeats 1000000
/-! The Sim layer, T: statements. -/
namespace Sim
open PySem PySem.Spec PyProof.Rows L2
/-- what follows from a statement's result -/
def OutS (c : Ct) (hid ρ : List Addr) (lh : LH) (H : Hp) (D : Ends) (W : WX) : RS → Prop
  | .ok .nx env' lh' => ∀ (σ' : L2.St) (H' : Hp) (ρ' : List Addr), Stt c hid ρ' lh' H' → Ex hid ρ lh H ρ' lh' H' → REnv c ρ' (Gz hid ρ' lh' H') env' σ' → D.nx σ' H'
  | .ok .bk env' lh' => ∀ (σ' : L2.St) (H' : Hp) (ρ' : List Addr), Stt c hid ρ' lh' H' → Ex hid ρ lh H ρ' lh' H' → REnv c ρ' (Gz hid ρ' lh' H') env' σ' → D.bk σ' H'
  | .ok .ct env' lh' => ∀ (σ' : L2.St) (H' : Hp) (ρ' : List Addr), Stt c hid ρ' lh' H' → Ex hid ρ lh H ρ' lh' H' → REnv c ρ' (Gz hid ρ' lh' H') env' σ' → D.ct σ' H'
  | .ok (.rt d) _ lh' => ∀ (v : V) (H' : Hp) (ρ' : List Addr), Stt c hid ρ' lh' H' → Ex hid ρ lh H ρ' lh' H' → RL c ρ' (Gz hid ρ' lh' H') d v → D.rt v H'
  | .exc e env' lh' => ∀ (cls : Value) (d : Option Addr) (σ' : L2.St) (H' : Hp) (ρ' : List Addr), Stt c hid ρ' lh' H' → Ex hid ρ lh H ρ' lh' H' → REnv c ρ' (Gz hid ρ' lh' H') env' σ' → RX c (Gz hid ρ' lh' H') e cls d → W cls d σ' H'
  | .bad => False
theorem OutS.after {c : Ct} {hid ρ ρ1 : List Addr} {lh lh1 : LH} {H H1 : Hp} {D : Ends} {W : WX} (e : Ex hid ρ lh H ρ1 lh1 H1) : ∀ {r : RS}, OutS c hid ρ lh H D W r → OutS c hid ρ1 lh1 H1 D W r
  | .ok .nx _ _, h => fun σ' H' ρ' s x => h σ' H' ρ' s (e.trans x)
  | .ok .bk _ _, h => fun σ' H' ρ' s x => h σ' H' ρ' s (e.trans x)
  | .ok .ct _ _, h => fun σ' H' ρ' s x => h σ' H' ρ' s (e.trans x)
  | .ok (.rt _) _ _, h => fun v H' ρ' s x => h v H' ρ' s (e.trans x)
  | .exc _ _ _, h => fun cls d σ' H' ρ' s x => h cls d σ' H' ρ' s (e.trans x)
  | .bad, h => h
section
variable {T : Tab} {c : Ct} {cal : Cal} {k : Nat} {N : List Str} {sc : Scope} {X : Cx}
def WS (X : Cx) (st : Stmt) : TS := fun D σ H => ∀ (pins : List (Addr × Obj)) (s : Shared), Inv X pins σ H s → wpAny (model X.prog X.w) X.A (PySem.exec st X.env) (SP X pins D) X.xe s
theorem ps_ws {st : Stmt} : PS X st (WS X st) := ⟨fun pins s _ _ _ I h => h pins s I⟩
theorem WS.of {st : Stmt} {t : TS} (h : PS X st t) {D : Ends} {σ : L2.St} {H : Hp} (q : t D σ H) : WS X st D σ H := fun pins s I => h.run pins s σ H D I q
def WSs (X : Cx) (sts : List Stmt) : TS := fun D σ H => ∀ (pins : List (Addr × Obj)) (s : Shared), Inv X pins σ H s → wpAny (model X.prog X.w) X.A (PySem.execs sts X.env) (SP X pins D) X.xe s
theorem pss_ws {sts : List Stmt} : PSs X sts (WSs X sts) := ⟨fun pins s _ _ _ I h => h pins s I⟩
theorem WSs.of {sts : List Stmt} {t : TS} (h : PSs X sts t) {D : Ends} {σ : L2.St} {H : Hp} (q : t D σ H) : WSs X sts D σ H := fun pins s I => h.run pins s σ H D I q
variable (T c cal X) in
def SndS (q : S) (st : Stmt) : Prop := ∀ (hid ρ : List Addr) (lh : LH) (H : Hp) (σ : L2.St) (env : Env0) (D : Ends) (W : WX), Takes X W → Stt c hid ρ lh H → REnv c ρ (Gz hid ρ lh H) env σ →
  OutS c hid ρ lh H D W (exec T cal q env lh) → WS X st D σ H
variable (T c cal X) in
def SndSs (qs : List S) (sts : List Stmt) : Prop := ∀ (hid ρ : List Addr) (lh : LH) (H : Hp) (σ : L2.St) (env : Env0) (D : Ends) (W : WX), Takes X W → Stt c hid ρ lh H → REnv c ρ (Gz hid ρ lh H) env σ →
  OutS c hid ρ lh H D W (execs T cal qs env lh) → WSs X sts D σ H
/-- where a def's body stands -/
structure GF (T : Tab) (c : Ct) (k : Nat) (N : List Str) (sc : Scope) (X : Cx) : Prop extends GX T c k N sc X where
  stk : X.stack = X.env :: X.outer
  frm : X.env.frame = some X.env.locals
  own : PassesOwn (model X.prog X.w) X.A X.env X.xe
  fn : ∀ x, X.fn x = true
  xks : ∀ j q, T.xks[j]? = some q → XkF T c X.prog X.K X.mg j q
  sup : X.mg "super" = none
theorem locF_ok (g : GF T c k N sc X) : ∀ x, locF sc x = true → Loc X.env.scope x ∧ (X.fn x = true ∨ X.env.scope.names.lookup x = some .local) := by
  intro x h
  rw [g.hsc]
  unfold locF at h
  split at h
  · rename_i e
    exact ⟨.inl e, .inl (g.fn x)⟩
  · rename_i e
    exact ⟨.inr e, .inl (g.fn x)⟩
  · cases h
/-- a part runs, then the rest of the statement -/
theorem SndE.useS {q : C} {e : Expr} (s : SndE T c cal X q e) {hid ρ : List Addr} {lh : LH} {H : Hp} {σ : L2.St} {env : Env0} {D : Ends} {W : WX} {Q1 : VK} (tk : Takes X W) (st : Stt c hid ρ lh H) (re : REnv c ρ (Gz hid ρ lh H) env σ) {f : LV → LH → RS}
    (ho : OutS c hid ρ lh H D W ((ev T cal q env lh).then env f))
    (kk : ∀ (v : V) (H1 : Hp) (ρ1 : List Addr) (d : LV) (lh1 : LH), Stt c hid ρ1 lh1 H1 → Ex hid ρ lh H ρ1 lh1 H1 → RL c ρ1 (Gz hid ρ1 lh1 H1) d v → REnv c ρ1 (Gz hid ρ1 lh1 H1) env σ →
      OutS c hid ρ1 lh1 H1 D W (f d lh1) → Q1 v H1) : WE X e σ H Q1 := by
  refine s hid ρ lh H σ env Q1 W tk st re ?_
  cases er : ev T cal q env lh with
  | ok d lh1 =>
    rw [er] at ho
    exact fun v H1 ρ1 s1 x1 r1 => kk v H1 ρ1 d lh1 s1 x1 r1 (re.ex x1) (OutS.after x1 ho)
  | exc e1 lh1 =>
    rw [er] at ho
    exact fun cls d H1 ρ1 s1 x1 rx => ho cls d σ H1 ρ1 s1 x1 (re.ex x1) rx
  | bad =>
    rw [er] at ho
    exact ho
theorem SndA.useS {qs : List C} {es : List Expr} (s : SndA T c cal X qs es) {hid ρ : List Addr} {lh : LH} {H : Hp} {σ : L2.St} {env : Env0} {D : Ends} {W : WX} {Q1 : List V → Hp → Prop} (tk : Takes X W) (st : Stt c hid ρ lh H) (re : REnv c ρ (Gz hid ρ lh H) env σ) {f : List LV → LH → RS}
    (ho : OutS c hid ρ lh H D W ((evs T cal qs env lh).then env f))
    (kk : ∀ (vs : List V) (H1 : Hp) (ρ1 : List Addr) (ds : List LV) (lh1 : LH), Stt c hid ρ1 lh1 H1 → Ex hid ρ lh H ρ1 lh1 H1 → RLs c ρ1 (Gz hid ρ1 lh1 H1) ds vs → REnv c ρ1 (Gz hid ρ1 lh1 H1) env σ →
      OutS c hid ρ1 lh1 H1 D W (f ds lh1) → Q1 vs H1) : WA X es σ H Q1 := by
  refine s hid ρ lh H σ env Q1 W tk st re ?_
  cases er : evs T cal qs env lh with
  | ok d lh1 =>
    rw [er] at ho
    exact fun H1 ρ1 s1 x1 vs r1 => kk vs H1 ρ1 d lh1 s1 x1 r1 (re.ex x1) (OutS.after x1 ho)
  | exc e1 lh1 =>
    rw [er] at ho
    exact fun cls d H1 ρ1 s1 x1 rx => ho cls d σ H1 ρ1 s1 x1 (re.ex x1) rx
  | bad =>
    rw [er] at ho
    exact ho
/-! ### suites -/
theorem sndSs_nil : SndSs T c cal X [] [] := fun hid ρ lh H σ env D W tk st re ho => WSs.of pss_nil (ho σ H ρ st Ex.refl re)
theorem sndSs_cons {q : S} {st : Stmt} {qs : List S} {sts : List Stmt} (h1 : SndS T c cal X q st) (h2 : SndSs T c cal X qs sts) : SndSs T c cal X (q :: qs) (st :: sts) := by
  intro hid ρ lh H σ env D W tk stt re ho
  refine WSs.of (pss_cons ps_ws pss_ws) ?_
  show WS X st { D with nx := WSs X sts D } σ H
  refine h1 hid ρ lh H σ env _ W tk stt re ?_
  have ho : OutS c hid ρ lh H D W ((exec T cal q env lh).seq (execs T cal qs)) := ho
  cases er : exec T cal q env lh with
  | bad => rw [er] at ho; exact ho
  | exc e1 env1 lh1 => rw [er] at ho; exact ho
  | ok f env1 lh1 =>
    rw [er] at ho
    cases f with
    | nx => exact fun σ1 H1 ρ1 s1 x1 re1 => h2 hid ρ1 lh1 H1 σ1 env1 D W tk s1 re1 (OutS.after x1 ho)
    | rt v => exact ho
    | bk => exact ho
    | ct => exact ho
/-! ### plain statements -/
theorem snd_pass {pos : Pos} : SndS T c cal X .pass (.Pass pos) := fun hid ρ lh H σ env D W tk st re ho => WS.of ps_pass (ho σ H ρ st Ex.refl re)
theorem snd_brk {pos : Pos} : SndS T c cal X .brk (.Break pos) := fun hid ρ lh H σ env D W tk st re ho => WS.of ps_break (ho σ H ρ st Ex.refl re)
theorem snd_cnt {pos : Pos} : SndS T c cal X .cnt (.Continue pos) := fun hid ρ lh H σ env D W tk st re ho => WS.of ps_continue (ho σ H ρ st Ex.refl re)
theorem snd_ret {q : C} {e : Expr} {pos : Pos} (s : SndE T c cal X q e) : SndS T c cal X (.ret q) (.Return (some e) pos) := by
  intro hid ρ lh H σ env D W tk st re ho
  refine WS.of (ps_ret pe_we) ?_
  exact s.useS tk st re (f := fun v h => .ok (.rt v) env h) ho fun v H1 ρ1 d lh1 st1 ex1 r1 re1 ho1 => ho1 v H1 ρ1 st1 Ex.refl r1
theorem snd_retN {pos : Pos} : SndS T c cal X .retN (.Return none pos) := fun hid ρ lh H σ env D W tk st re ho => WS.of ps_retN (ho .non H ρ st Ex.refl .non)
theorem snd_ex {q : C} {e : Expr} {pos : Pos} (s : SndE T c cal X q e) (hc : isCompE e = false) : SndS T c cal X (.ex q) (.Expr e pos) := by
  intro hid ρ lh H σ env D W tk st re ho
  refine WS.of (ps_expr pe_we (swaps_of hc)) ?_
  exact s.useS tk st re (f := fun v h => .ok .nx env h) ho fun v H1 ρ1 d lh1 st1 ex1 r1 re1 ho1 => ho1 σ H1 ρ1 st1 Ex.refl re1
theorem snd_iteS {q : C} {e : Expr} {a b : List S} {ea eb : List Stmt} {pos : Pos} (s : SndT T c cal X q e) (sa : SndSs T c cal X a ea) (sb : SndSs T c cal X b eb) : SndS T c cal X (.ite q a b) (.If e ea eb pos) := by
  intro hid ρ lh H σ env D W tk st re ho
  refine WS.of (ps_if pt_wt pss_ws pss_ws) ?_
  have ho : OutS c hid ρ lh H D W ((ev T cal q env lh).then env fun x h => match x with | .p (.bl true) => execs T cal a env h | .p (.bl false) => execs T cal b env h | _ => .bad) := ho
  refine s hid ρ lh H σ env _ W tk st re ?_
  cases er : ev T cal q env lh with
  | bad => rw [er] at ho; exact ho
  | exc e1 lh1 => rw [er] at ho; exact fun cls d H1 ρ1 s1 x1 rx => ho cls d σ H1 ρ1 s1 x1 (re.ex x1) rx
  | ok d lh1 =>
    rw [er] at ho
    have ho : OutS c hid ρ lh H D W (match (generalizing := false) d with | .p (.bl true) => execs T cal a env lh1 | .p (.bl false) => execs T cal b env lh1 | _ => .bad) := ho
    split at ho
    · intro H1 ρ1 s1 x1
      rw [if_pos rfl]
      exact sa hid ρ1 lh1 H1 σ env D W tk s1 (re.ex x1) (OutS.after x1 ho)
    · intro H1 ρ1 s1 x1
      rw [if_neg (by decide)]
      exact sb hid ρ1 lh1 H1 σ env D W tk s1 (re.ex x1) (OutS.after x1 ho)
    · exact ho.elim
/-! ### assignments -/
theorem snd_set (g : GF T c k N sc X) {tg : Tg} {q : C} {tg' e : Expr} {pos : Pos} (s : SndE T c cal X q e) (ht : chkT N (locF sc) tg tg' = true) (hs : swapsWithSole [tg'] e pos.line X.env = pure false) (hw : swappedStores [tg'] e X.env = pure none) (hst : isStar tg' = false) : SndS T c cal X (.set tg q) (.Assign [tg'] e pos) := by
  intro hid ρ lh H σ env D W tk st re ho
  refine WS.of (ps_asg pe_we pg_wg hs hw (by rw [asgEach_of hst]; rfl)) ?_
  refine s.useS tk st re (f := fun v h => match bindT tg v env with | some env1 => .ok .nx env1 h | none => .bad) ho fun v H1 ρ1 d lh1 st1 ex1 r1 re1 ho1 => ?_
  split at ho1
  · rename_i env1 eb
    exact tg_ok g.hN g.nd (locF_ok g) g.hK g.calm tg ht re1 r1 eb fun σ1 rs _ => ho1 σ1 H1 ρ1 st1 Ex.refl rs
  · exact ho1.elim
/-- name = [ .. for .. ] on one line -/
theorem snd_setLc (g : GF T c k N sc X) {i : Nat} {y : Str} {live : Bool} {own : List (Str × Nat)} {tg : Tg} {ik : IK} {ia ifs : List C} {e : C} {tg' it elt : Expr} {ifs' : List Expr} {scope : Scope} {py pos spos : Pos} (hI : SndI T c cal X ik ia tg' it) (hb : blkC N sc scope own = true) (hi : tgIn (own.map (·.2)) tg = true)
    (ht : chkT N (locBk scope sc) tg tg' = true) (hset : isSetE it = false) (sT : ∀ s0 H0 C cl fp, SndTs T c cal (Bk X scope s0 H0 C cl fp) ifs ifs') (sE : ∀ s0 H0 C cl fp, SndE T c cal (Bk X scope s0 H0 C cl fp) e elt)
    (hy : nmIs N[i]? y = true) (hl : sc.names.lookup y = some .local) (hsw : swapsWith (.ListComp elt [⟨tg', it, ifs', 0⟩] scope pos) (some (.Name y py)) spos.line X.env = pure true) :
    SndS T c cal X (.set (.nm i) (.cmpr live own tg ik ia ifs e)) (.Assign [.Name y py] (.ListComp elt [⟨tg', it, ifs', 0⟩] scope pos) spos) := by
  intro hid ρ lh H σ env D W tk st re ho
  have ok : BlkOk X.N X.env.scope scope own := by
    rw [g.hN, g.hsc]
    exact blkOk_by hb
  refine WS.of (ps_setLc g.calm g.nd (by rw [g.hN]; exact nmIs_ok hy) (by rw [g.hsc]; exact hl) hsw pi_wi ok pg_wgb pt_wtb pe_web (fset_of hset)) ?_
  refine lc_wish (live := live) g.toGX hI hb hi ht hset sT sE tk st re (env := env) ?_
  have ho : OutS c hid ρ lh H D W ((ev T cal (.cmpr live own tg ik ia ifs e) env lh).then env fun v h => .ok .nx (env.set i (some v)) h) := ho
  cases er : ev T cal (.cmpr live own tg ik ia ifs e) env lh with
  | bad => rw [er] at ho; exact ho
  | exc e1 lh1 => rw [er] at ho; exact fun cls d H1 ρ1 s1 x1 rx => ho cls d σ H1 ρ1 s1 x1 (re.ex x1) rx
  | ok d lh1 =>
    rw [er] at ho
    exact fun v H1 ρ1 s1 x1 r1 => ho _ H1 ρ1 s1 x1 ((re.ex x1).set r1)
/-- o[i] = e -/
def setAny (X : Cx) : TSet := fun o i v H Q => ∃ t, PSet X t ∧ t o i v H Q
theorem setAny_ok : PSet X (setAny X) := by
  intro pins s σ H o i v ov iv u Q I ro ri rv h
  obtain ⟨t, ht, q⟩ := h
  exact ht pins s σ H o i v ov iv u Q I ro ri rv q
theorem rps_set {G : Hp} : ∀ {xs : List PD} {vs : List V} {n : Nat} {x : PD} {v : V}, RPs c G xs vs → RP c G x v → RPs c G (xs.set n x) (vs.set n v)
  | _, _, _, _, _, .nil, _ => .nil
  | _, _, 0, _, _, .cons _ t, r => .cons r t
  | _, _, n + 1, _, _, .cons r' t, r => .cons r' (rps_set t r)
theorem setD_ok (hu : X.A.units + 1 < cLine) {hid ρ : List Addr} {lh lh1 : LH} {H : Hp} {a v : LV} {i : PD} {o y z : V} {Q : Hp → Prop} (st : Stt c hid ρ lh H) (ra : RL c ρ (Gz hid ρ lh H) a o) (ri : RP c (Gz hid ρ lh H) i y) (rv : RL c ρ (Gz hid ρ lh H) v z) (e : setD a i v lh = some lh1)
    (q : ∀ H1, Stt c hid ρ lh1 H1 → Ex hid ρ lh H ρ lh1 H1 → Q H1) : setAny X o y z H Q := by
  cases a with
  | p d => cases e
  | ref n =>
    obtain ⟨p, hp, rfl⟩ := ra
    have e : (match lh[n]? with
      | some (some (.lst xs)) => match (generalizing := false) i, v with
        | .int j, .p x => match ixN xs.length j with
          | some k => some (lh.set n (some (.lst (xs.set k x))))
          | none => none
        | _, _ => none
      | some (some (.dct kvs)) => match kOf i with
        | some k => if kvs.length < 1000 then some (lh.set n (some (.dct (pput kvs i k v)))) else none
        | none => none
      | _ => none) = some lh1 := e
    split at e
    · rename_i xs el
      split at e
      · rename_i j x _
        split at e
        · rename_i m em
          cases e
          obtain ⟨u, hu', ro⟩ := st.ob n _ p el hp
          cases u <;> first | exact ro.elim | skip
          rename_i vs
          cases RP.int_inv ri
          have ro : RPs c (Gz hid ρ lh H) xs vs := ro
          obtain ⟨s1, x1⟩ := st.wrote (q := .lst (xs.set m x)) (u := .lst (vs.set m z)) el hp (show RPs c _ _ _ from rps_set ro rv)
          exact ⟨_, set_list, p, vs, j, m, rfl, rfl, hu', by rw [← ro.length]; exact em, q _ s1 x1⟩
        · cases e
      · cases e
    · rename_i kvs el
      split at e
      · rename_i kk ek
        split at e
        · rename_i hl
          cases e
          obtain ⟨u, hu', ro⟩ := st.ob n _ p el hp
          cases u <;> first | exact ro.elim | skip
          rename_i kws
          have ro : RKL c ρ (Gz hid ρ lh H) kvs kws := ro
          cases kOf_inv ek ri
          obtain ⟨s1, x1⟩ := st.wrote (q := .dct (pput kvs i kk v)) (u := .dK (putK kws kk z)) el hp (show RKL c _ _ _ _ from paired_put (R := fun x v => RL c ρ (Gz hid ρ lh H) x v) ro ek rv)
          refine ⟨_, set_dict hu, p, _, rfl, DPut.k hu' ?_, q _ s1 x1⟩
          rw [← Paired.length ro]
          exact Nat.lt_of_lt_of_le hl (by rw [sizeLine_eq]; decide)
        · cases e
      · cases e
    · cases e
end
end Sim
end
section
set_option Elab.async false
set_option linter.all false
set_option maxRecDepth 100000
set_option maxHeartbeats 1000000
/-! The Sim layer, U: stores and loops. -/
namespace Sim
open PySem PySem.Spec PyProof.Rows L2
section
variable {T : Tab} {c : Ct} {cal : Cal} {k : Nat} {N : List Str} {sc : Scope} {X : Cx}
theorem GX.units1 (g : GX T c k N sc X) : X.A.units + 1 < cLine := Nat.lt_of_le_of_lt (by omega) g.room.units
theorem sub_of {o i : Expr} {pos : Pos} (h : isSlc i = false) (v : Value) : assign (.Subscript o i pos) X.env v = (do
      let ov ← holding [v] (eval o X.env)
      let iv ← holding [v, ov] (eval i X.env)
      standAt pos
      holding [v, ov, iv] (setItem ov iv v)
      release [v, ov, iv] []) := by
  cases i <;> first | rfl | (cases h; done)
theorem sole_of {tg e : Expr} {l : Nat} {env : Env} (h : isCompE e = false) : swapsWithSole [tg] e l env = pure false := swaps_of h
theorem sole_sub {o i e : Expr} {p : Pos} {l : Nat} {env : Env} : swapsWithSole [.Subscript o i p] e l env = pure false := by
  cases e <;> rfl
theorem sole_att {o e : Expr} {f : Str} {p : Pos} {l : Nat} {env : Env} : swapsWith e (some (.Attribute o f p)) l env = pure false := by
  cases e <;> rfl
theorem stores_sub {o i e : Expr} {p : Pos} {env : Env} : swappedStores [.Subscript o i p] e env = pure none := by
  cases e <;> rfl
theorem snd_setI (g : GF T c k N sc X) {o i q : C} {eo ei e : Expr} {p pos : Pos} (s : SndE T c cal X q e) (so : SndE T c cal X o eo) (si : SndE T c cal X i ei) (hs : isSlc ei = false) : SndS T c cal X (.setI o i q) (.Assign [.Subscript eo ei p] e pos) := by
  intro hid ρ lh H σ env D W tk st re ho
  refine WS.of (ps_asg pe_we (pg_sub pe_we pe_we setAny_ok (sub_of hs)) sole_sub stores_sub) ?_
  refine s.useS tk st re (f := fun v h => (ev T cal o env h).then env fun a h => (ev T cal i env h).then env fun j h => match j with
    | .p j => match setD a j v h with
      | some h1 => .ok .nx env h1
      | none => .bad
    | _ => .bad) ho fun v H1 ρ1 d lh1 st1 ex1 r1 re1 ho1 => ?_
  refine so.useS tk st1 re1 ho1 fun vo H2 ρ2 dO lh2 st2 ex2 r2 re2 ho2 => ?_
  refine si.useS tk st2 re2 ho2 fun vi H3 ρ3 dI lh3 st3 ex3 r3 re3 ho3 => ?_
  split at ho3
  · rename_i j
    split at ho3
    · rename_i lh4 e4
      exact setD_ok g.units1 st3 (r2.ex ex3) r3 (r1.ex (ex2.trans ex3)) e4 fun H4 st4 ex4 => ho3 σ H4 ρ3 st4 ex4 (re3.ex ex4)
    · exact ho3.elim
  · exact ho3.elim
theorem fput_ok {ρ : List Addr} {G : Hp} {f : Str} {v : LV} {z : V} (r : RL c ρ G v z) : ∀ {fs : List (Str × LV)} {gs : List (Str × V)}, RFL c ρ G fs gs → RFL c ρ G (fput fs f v) (putF f z gs)
  | _, _, .nil => .cons ⟨rfl, r⟩ .nil
  | (g, x) :: t, (g', y) :: t', .cons h ht => by
    obtain ⟨h1, h2⟩ := h
    simp only at h1 h2
    subst h1
    show RFL c ρ G (if g = f then (g, v) :: t else (g, x) :: fput t f v) (if g = f then (g, z) :: t' else (g, y) :: putF f z t')
    by_cases e : g = f
    · rw [if_pos e, if_pos e]
      exact .cons ⟨rfl, r⟩ ht
    · rw [if_neg e, if_neg e]
      exact .cons ⟨rfl, h2⟩ (fput_ok r ht)
theorem setFd_ok (g : GX T c k N sc X) {hid ρ : List Addr} {lh lh1 : LH} {H : Hp} {a v : LV} {f : Str} {o z : V} (st : Stt c hid ρ lh H) (ra : RL c ρ (Gz hid ρ lh H) a o) (rv : RL c ρ (Gz hid ρ lh H) v z) (e : setFd T a f v lh = some lh1) :
    ∃ p C dx fs, o = .ref p ∧ H p = some (.ins C dx fs) ∧ Cls X.K C ∧ NoAttr X.K C f ∧ fs.length < 1000 ∧ Stt c hid ρ lh1 (upd H p (.ins C dx (putF f z fs))) ∧ Ex hid ρ lh H ρ lh1 (upd H p (.ins C dx (putF f z fs))) := by
  cases a with
  | p d => cases e
  | ref n =>
    obtain ⟨p, hp, rfl⟩ := ra
    have e : (match lh[n]? with
      | some (some (.ins c fs)) => if fldOk T c f && decide (fs.length < 100) then some (lh.set n (some (.ins c (fput fs f v)))) else none
      | _ => none) = some lh1 := e
    split at e
    · rename_i j fs el
      split at e
      · rename_i hc
        obtain ⟨h1, h2⟩ := b2 hc
        have h2 := of_decide_eq_true h2
        cases e
        obtain ⟨u, hu, ro⟩ := st.ob n _ p el hp
        cases u <;> first | exact ro.elim | skip
        rename_i C dx gs
        obtain ⟨rfl, ro⟩ := ro
        unfold fldOk at h1
        split at h1
        · rename_i kq ek
          obtain ⟨k1, k2, k3⟩ := g.kls j kq ek
          have ro : RFL c ρ (Gz hid ρ lh H) fs gs := ro
          obtain ⟨s1, x1⟩ := st.wrote (q := .ins j (fput fs f v)) (u := .ins (c.ct j) dx (putF f z gs)) el hp ⟨rfl, fput_ok rv ro⟩
          refine ⟨p, _, dx, gs, rfl, hu, k1, k3 f (of_decide_eq_true h1), ?_, s1, x1⟩
          rw [← Paired.length ro]
          omega
        · cases h1
      · cases e
    · cases e
theorem snd_setF (g : GF T c k N sc X) {o q : C} {f : Str} {eo e : Expr} {p pos : Pos} (s : SndE T c cal X q e) (so : SndE T c cal X o eo) : SndS T c cal X (.setF o f q) (.Assign [.Attribute eo f p] e pos) := by
  intro hid ρ lh H σ env D W tk st re ho
  refine WS.of (ps_fld pe_we pe_we sole_att) ?_
  refine s.useS tk st re (f := fun v h => (ev T cal o env h).then env fun a h => match setFd T a f v h with
    | some h1 => .ok .nx env h1
    | none => .bad) ho fun v H1 ρ1 d lh1 st1 ex1 r1 re1 ho1 => ?_
  refine so.useS tk st1 re1 ho1 fun vo H2 ρ2 dO lh2 st2 ex2 r2 re2 ho2 => ?_
  split at ho2
  · rename_i lh3 e3
    obtain ⟨p, C, dx, fs, e1, e2, e4, e5, e6, st3, ex3⟩ := setFd_ok g.toGX st2 r2 (r1.ex ex2) e3
    exact ⟨p, C, dx, fs, e1, e2, e4, e5, e6, ho2 σ _ ρ2 st3 ex3 (re2.ex ex3)⟩
  · exact ho2.elim
/-! ### augmented -/
theorem ip_ok {H : Hp} {op : BO} {op' : Operator} {a b d : PD} {x y : V} {Q : VK} (hb : bopB op op' = true) (e : bop op a b = some d) (rx : RP c H a x) (ry : RP c H b y) (q : ∀ v, (∀ G, RP c G d v) → Q v H) : oAny X (inplaceOp op') x y H Q ∨ op = .pow := by
  cases op <;> cases op' <;> first | (simp [bopB] at hb; done) | exact .inr rfl | skip
  all_goals left
  all_goals (cases a <;> cases b <;> first | (simp [bop] at e; done) | skip)
  · have e : some (PD.int _) = some d := e
    cases e
    cases rx.int_inv; cases ry.int_inv
    exact ⟨_, iop_add, _, _, rfl, rfl, q _ fun _ => .int _⟩
  · rename_i x1 y1
    have e : (if x1.length + y1.length ≤ sizeLine then some (PD.str (x1 ++ y1)) else none) = some d := e
    split at e
    · rename_i hl
      cases e
      cases rx.str_inv; cases ry.str_inv
      exact ⟨_, iop_add_str, _, _, rfl, rfl, hl, q _ fun _ => .str _⟩
    · cases e
  · have e : some (PD.int _) = some d := e
    cases e
    cases rx.int_inv; cases ry.int_inv
    exact ⟨_, iop_sub, _, _, rfl, rfl, q _ fun _ => .int _⟩
  · rename_i i j
    have e : (if (-(2 ^ 64) < i ∧ i < 2 ^ 64) ∨ (-(2 ^ 64) < j ∧ j < 2 ^ 64) then some (PD.int (i * j)) else none) = some d := e
    split at e
    · rename_i hl
      cases e
      cases rx.int_inv; cases ry.int_inv
      exact ⟨_, iop_mul, _, _, rfl, rfl, hl, q _ fun _ => .int _⟩
    · cases e
  · rename_i i j
    have e : (if 0 < j ∧ j < 1073741824 then some (PD.int (i / j)) else none) = some d := e
    split at e
    · rename_i hl
      cases e
      cases rx.int_inv; cases ry.int_inv
      exact ⟨_, iop_fdiv, _, _, rfl, rfl, hl, q _ fun _ => .int _⟩
    · cases e
  · rename_i i j
    have e : (if 0 < j then some (PD.int (i % j)) else none) = some d := e
    split at e
    · rename_i hl
      cases e
      cases rx.int_inv; cases ry.int_inv
      exact ⟨_, iop_mod, _, _, rfl, rfl, hl, q _ fun _ => .int _⟩
    · cases e
theorem ipAny_ok {op : Operator} : PIp X op (oAny X (inplaceOp op)) := fun pins s σ H x y v u Q I rx ry h => oAny_ok pins s σ H x y v u Q I rx ry h
theorem inAny_ok {op : Operator} : InOp X op (oAny X (inplaceOp op)) := fun pins s σ H x y v u Q I rx ry h => oAny_ok pins s σ H x y v u Q I rx ry h
theorem snd_aug (g : GF T c k N sc X) {i : Nat} {op : BO} {op' : Operator} {q : C} {x : Str} {e : Expr} {p pos : Pos} (s : SndE T c cal X q e) (hb : bopB op op' = true) (hp : op ≠ .pow) (hx : nmIs N[i]? x = true) (hl : locF sc x = true) : SndS T c cal X (.aug i op q) (.AugAssign (.Name x p) op' e pos) := by
  intro hid ρ lh H σ env D W tk st re ho
  obtain ⟨l1, l2⟩ := locF_ok g x hl
  refine WS.of (ps_aug g.nd (by rw [g.hN]; exact nmIs_ok hx) l1 pe_we ipAny_ok l2) ?_
  have ho : OutS c hid ρ lh H D W (match env[i]? with
    | some (some (.p x)) => (ev T cal q env lh).then env fun y h => match y with
      | .p y => match bop op x y with
        | some z => .ok .nx (env.set i (some (.p z))) h
        | none => .bad
      | _ => .bad
    | _ => .bad) := ho
  split at ho
  · rename_i a ea
    obtain ⟨v, hv, rv⟩ := re.2 i _ ea
    refine ⟨v, hv, ?_⟩
    refine s.useS tk st re ho fun y H1 ρ1 d lh1 st1 ex1 r1 re1 ho1 => ?_
    split at ho1
    · rename_i b
      split at ho1
      · rename_i z ez
        rcases ip_ok (X := X) (c := c) hb ez (RP.mono Gz_sub (RL.ex ex1 (x := .p a) rv)) (RP.mono Gz_sub r1) (Q := fun z H2 => D.nx (σ.set i (some z)) H2) (fun w hw => ho1 _ H1 ρ1 st1 Ex.refl (re1.set (d := .p z) (hw _))) with h | h
        · exact h
        · exact absurd h hp
      · exact ho1.elim
    · exact ho1.elim
  · exact ho.elim
theorem fld_at (g : GX T c k N sc X) {hid ρ : List Addr} {lh : LH} {H : Hp} {a : LV} {f : Str} {o : V} {n : Nat} {fs : List (Str × LV)} {j : Nat} (st : Stt c hid ρ lh H) (el : lh[n]? = some (some (.ins j fs))) (ra : RL c ρ (Gz hid ρ lh H) (.ref n) o) : ∃ p dx gs, o = .ref p ∧ H p = some (.ins (c.ct j) dx gs) ∧ RFL c ρ (Gz hid ρ lh H) fs gs := by
  obtain ⟨p, hp, rfl⟩ := ra
  obtain ⟨u, hu, ro⟩ := st.ob n _ p el hp
  cases u <;> first | exact ro.elim | skip
  rename_i C dx gs
  obtain ⟨rfl, ro⟩ := ro
  exact ⟨p, dx, gs, rfl, hu, ro⟩
end
end Sim
end
section
set_option Elab.async false
set_option linter.all false
set_option maxRecDepth 100000
set_option maxHeartbeats 2000000
/-! The Sim layer, Tr: try with several clauses, some of them with a name. -/
namespace Sim
open PySem PySem.Spec PyProof.Rows L2
/-- a clause: its class, the slot of its name, what its suite wishes -/
abbrev Cls1 := Value × Option Nat × (Addr → Value → Option Addr → TS)
/-- behind a clause with a name the name is gone -/
def goneD (D : Ends) : Option Nat → Ends
  | none => D
  | some i => { nx := fun σ H => D.nx (σ.set i none) H, rt := D.rt, bk := fun σ H => D.bk (σ.set i none) H, ct := fun σ H => D.ct (σ.set i none) H }
def boundS (σ : L2.St) (a : Addr) : Option Nat → L2.St
  | none => σ
  | some i => σ.set i (some (.ref a))
def wHd (K : PySem.W.Frag) (n : Nat) (Wout : WX) (D : Ends) : List Cls1 → WX
  | [] => Wout
  | (c, sl, ts) :: r => fun cls d σ H => ∃ b, PySem.W.exmOne K cls c = some b ∧ (b = true → ∀ a, H a = none → σ.length = n → ts a cls d (goneD D sl) (boundS σ a sl) H) ∧ (b = false → wHd K n Wout D r cls d σ H)
/-- the slot is the name's -/
def NmOk (X : Cx) : Option Str → Option Nat → Prop
  | none, none => True
  | some n, some i => X.N[i]? = some n ∧ X.env.kindOf n = some .local
  | _, _ => False
inductive HdOk (X : Cx) : List ExceptHandler → List Cls1 → Prop
  | nil : HdOk X [] []
  | cons {x : Str} {c : Value} {nm : Option Str} {sl : Option Nat} {ts : Addr → Value → Option Addr → TS} {b0 : Stmt} {suite : List Stmt} {np pos' : Pos} {hds : List ExceptHandler} {l : List Cls1} (hc : Names X x c) (hn : NmOk X nm sl)
      (hsu : ∀ (a : Addr) (oe : Obj) (cls : Value) (d : Option Addr) (pn : List (Addr × Obj)), Zc cls d oe → (∃ vs, oe.data = .fields vs) → PSs (X.suite a ((a, oe) :: pn)) (b0 :: suite) (ts a cls d)) (r : HdOk X hds l) :
      HdOk X (.ExceptHandler (some (.Name x np)) nm (b0 :: suite) pos' :: hds) ((c, sl, ts) :: l)
section
variable {X : Cx} {body : List Stmt} {h0 : ExceptHandler} {hds : List ExceptHandler} {l : List Cls1} {pos : Pos} {tb : WX → TS} {Wout : WX}
theorem ps_try_mix (hs : X.stack = X.env :: X.outer) (hf : X.env.frame = some X.env.locals) (hN : X.N.Nodup) (tk : Takes X Wout)
    (hb : ∀ (W : WX) (pn : List (Addr × Obj)) (xe : Value → Shared → Prop), Takes (X.tr pn xe) W → PassesOwn (model X.prog X.w) X.A X.env xe → PSs (X.tr pn xe) body (tb W))
    (hh : HdOk X (h0 :: hds) l) : PS X (.Try body (h0 :: hds) [] [] pos) (fun D σ H => tb (wHd X.K X.N.length Wout D l) D σ H) := by
  refine ⟨fun pins s σ H D I h => ?_⟩
  have ok := I.ok
  have hfr : X.A.frames = some (X.env :: X.outer) := by rw [ok.frames, hs]
  refine wpAny_Try_except ?_
  refine wpAny_mono ((hb (wHd X.K X.N.length Wout D l) (X.pn ++ pins) (fun e s1 => wpAny (model X.prog X.w) X.A (noteFrame e X.env) (fun _ s2 => wpAny (model X.prog X.w) X.A (setFlight e none) (fun _ s3 =>
    wpAny (model X.prog X.w) X.A (handleBy e X.env (h0 :: hds)) (SP X pins D) X.xe s3) X.xe s2) X.xe s1) (fun u s' xx => ?_) PassesOwn.looking).run [] s σ H D (I.toTry _) h) (fun f s1 hsp => ?_) (fun e s1 he => he)
  · obtain ⟨a, B, sI, pins', σ', H', cls, d, rfl, J', nb, up, sky, na, os, ag, w⟩ := xx
    have J : Inv X pins σ' H' sI := J'.ofTry ok
    have sky' : Sky B (X.env :: X.outer) a (Zc cls d) X.env.locals s'.heap := by rw [← hs]; exact sky
    show wpAny (model X.prog X.w) X.A (noteFrame (.ref a) X.env) _ _ _
    refine Sky.land Zc.steady hfr hf sky' fun h3 fl3 up3 => ?_
    have J3 : Inv X pins σ' H' { s' with heap := h3 } := J.landed nb fl3.1 (up.trans up3) os ag
    obtain ⟨oe3, vs3, he3, hz3, hd3⟩ := fl3.there
    have notFr : ∀ {h : Heap} {o : Obj} {vs : Array Value}, h.FunFrames B (X.env :: X.outer) → h.get? a = some o → o.data = .fields vs → a ∉ frs (X.env :: X.outer) := fun {h o vs} ff e dd hm => by
      obtain ⟨_, o', e', hnf⟩ := ff.mem hm
      rw [e] at e'
      cases e'
      exact hnf _ dd
    have nfr := notFr fl3.2.2.1 he3 hd3
    have nL : a ≠ X.env.locals := fun z => nfr (List.mem_filterMap.mpr ⟨X.env, List.mem_cons_self, by rw [hf, z]⟩)
    have nF : a ∉ X.fs := fun hm => by
      obtain ⟨e, he, q⟩ := List.mem_filterMap.mp hm
      exact nfr (List.mem_filterMap.mpr ⟨e, List.mem_cons_of_mem _ he, q⟩)
    have S3 := J3.suite he3 hd3 na nL nF
    have go : ∀ {hds' : List ExceptHandler} {l' : List Cls1}, HdOk X hds' l' → wHd X.K X.N.length Wout D l' cls d σ' H' →
        wpAny (model X.prog X.w) X.A (handleBy (.ref a) X.env hds') (SP X pins D) X.xe { s' with heap := h3 } := by
      intro hds' l' hk
      induction hk with
      | nil =>
        intro w
        refine wpAny_handleBy_nil ?_
        obtain ⟨k1, k2, k3, oe, vs, T, oT, ts', he, hz, hd, h1, hr⟩ := id fl3
        unfold PySem.passOn
        refine wpAny_bind (wpAny_field he hd h1 ?_)
        rw [if_neg (show ¬ ((Value.ref T == Value.none) = true) from by simp)]
        have fin : wpAny (model X.prog X.w) X.A (setFlight (.ref a) X.env.frame) (fun _ s4 => wpAny (model X.prog X.w) X.A (throw (.ref a) : Sem Flow) (SP X pins D) X.xe s4) X.xe { s' with heap := h3 } := by
          rw [hf]
          refine HandSPX.setFlight_upZ fl3 fun h4 hh4 up4 => wpAny_throw (tk _ _ ?_)
          exact ⟨a, B, sI, pins, σ', H', cls, d, rfl, J, nb, (up.trans up3).trans up4, .inr (.inr (by rw [hs]; exact hh4)), na, os, ag, w⟩
        first
          | exact wpAny_bind (wpAny_pure (wpAny_bind fin))
          | exact wpAny_bind fin
      | @cons x c nm sl ts b0 suite np pos' hds2 l2 hc hn hsu r ih =>
        intro w
        obtain ⟨b, hb1, hyes, hno⟩ := w
        refine wpAny_handleBy_cons (codeAny_handlers_test ?_) (by intro q; cases q)
        have LT : PySem.W.Looks (model X.prog X.w) h3 (typeOf (.ref a)) cls := fun A Q E s k q => wpAny_typeOf_ref (k _ _ he3) (by rw [hz3.1]; exact q)
        have LM := PySem.W.exm_one (M := model X.prog X.w) (J3.kIn) LT hb1
        have test : ∀ {Q : Value → Shared → Prop} {E : Value → Shared → Prop}, Q c { s' with heap := h3 } → wpAny (model X.prog X.w) (X.A.mark (some (.ref a))) (eval (.Name x np) X.env) Q E { s' with heap := h3 } := fun {Q E} q => by
          obtain ⟨hg, hdbg, hm | ⟨hm, hv, hnn⟩⟩ := hc
          · exact ld_glob (X := X.suite a ((a, oe3) :: (X.pn ++ pins))) S3 hg hm q hdbg
          · exact ld_blt (X := X.suite a ((a, oe3) :: (X.pn ++ pins))) S3 hg hm hv q hnn hdbg
        refine test (LM.here ?_)
        cases b with
        | false =>
          show wpAny _ X.A (handleBy (.ref a) X.env hds2) _ _ _
          exact ih (hno rfl)
        | true =>
          have hy := hyes rfl a na J3.len
          cases nm with
          | none =>
            cases sl with
            | some i => exact hn.elim
            | none =>
              refine codeAny_handlers_suite ?_
              refine HandSPX.lands_againZ fl3 fun h4 fl4 up4 => ?_
              have J4 : Inv X pins σ' H' { s' with heap := h4 } := J.landed nb fl4.1 ((up.trans up3).trans up4) os ag
              obtain ⟨oe4, vs4, he4, hz4, hd4⟩ := fl4.there
              have S4 := J4.suite he4 hd4 na nL nF
              refine wpAny_mono ((hsu a oe4 cls d (X.pn ++ pins) hz4 ⟨_, hd4⟩).run [] _ _ H' _ S4 hy) (fun f s6 hsp => ?_) (fun _ _ z => False.elim z)
              cases f with
              | ret u =>
                obtain ⟨v6, σ6, H6, S6, r6, q6⟩ := hsp
                exact ⟨_, _, _, S6.unsuite ok, r6, q6⟩
              | _ =>
                obtain ⟨σ6, H6, S6, q6⟩ := hsp
                exact ⟨_, _, S6.unsuite ok, q6⟩
          | some n =>
            cases sl with
            | none => exact hn.elim
            | some i =>
              obtain ⟨hi, hln⟩ := hn
              have hloc : Loc X.env.scope n := .inl hln
              refine codeAny_handlers_suite_as ?_
              refine HandSPX.lands_againZ fl3 fun h4 fl4 up4 => ?_
              have J4 : Inv X pins σ' H' { s' with heap := h4 } := J.landed nb fl4.1 ((up.trans up3).trans up4) os ag
              obtain ⟨oe4, vs4, he4, hz4, hd4⟩ := fl4.there
              have S4 := J4.suite he4 hd4 na nL nF
              refine store_ok (X := X.suite a ((a, oe4) :: (X.pn ++ pins))) (v := .ref a) S4 hN hi hloc rfl (fun s5 S5 => ?_) (.inr hln)
              refine wpAny_mono ((hsu a oe4 cls d (X.pn ++ pins) hz4 ⟨_, hd4⟩).run [] s5 _ H' _ S5 hy) (fun f s6 hsp => ?_) (fun _ _ z => False.elim z)
              have end_ : ∀ {σ6 : L2.St} {H6 : Hp} {Q : Shared → Prop}, Inv (X.suite a ((a, oe4) :: (X.pn ++ pins))) [] σ6 H6 s6 → (∀ s7, Inv X pins (σ6.set i none) H6 s7 → Q s7) →
                  wpAny (model X.prog X.w) X.A (do bindName X.env n .none; unbindBehindTheSuite X.env n pos') (fun _ s7 => Q s7) X.xe s6 := fun {σ6 H6 Q} S6 hq => gone_ok (S6.unsuite ok) hN hi hln hq
              cases f with
              | ret u =>
                obtain ⟨v6, σ6, H6, S6, r6, q6⟩ := hsp
                exact end_ S6 fun s7 J7 => ⟨_, _, _, J7, r6, q6⟩
              | next =>
                obtain ⟨σ6, H6, S6, q6⟩ := hsp
                exact end_ S6 fun s7 J7 => ⟨_, _, J7, q6⟩
              | brk =>
                obtain ⟨σ6, H6, S6, q6⟩ := hsp
                exact end_ S6 fun s7 J7 => ⟨_, _, J7, q6⟩
              | cont =>
                obtain ⟨σ6, H6, S6, q6⟩ := hsp
                exact end_ S6 fun s7 J7 => ⟨_, _, J7, q6⟩
    exact go hh w
  · cases f with
    | ret u =>
      obtain ⟨v, σ', H', J', r, q⟩ := hsp
      exact ⟨v, σ', H', J'.ofTry ok, r, q⟩
    | next =>
      obtain ⟨σ', H', J', q⟩ := hsp
      exact wpAny_execs_nil ⟨σ', H', J'.ofTry ok, q⟩
    | brk =>
      obtain ⟨σ', H', J', q⟩ := hsp
      exact ⟨σ', H', J'.ofTry ok, q⟩
    | cont =>
      obtain ⟨σ', H', J', q⟩ := hsp
      exact ⟨σ', H', J'.ofTry ok, q⟩
end
end Sim
end
section
set_option Elab.async false
set_option linter.all false
set_option maxRecDepth 100000
set_option maxHeartbeats 1000000
/-! The Sim layer, Ur: raise. -/
namespace Sim
open PySem PySem.Spec PyProof.Rows L2
section
variable {T : Tab} {c : Ct} {cal : Cal} {k : Nat} {N : List Str} {sc : Scope} {X : Cx}
theorem frzs_then {r : R (List LV)} {env : Env0} {f : List PD → LH → RS} : (r.frzs.then env f) = r.then env fun ds h => match Sim.frzs ds h with | some (x, h') => f x h' | none => .bad := by
  cases r with
  | ok ds h =>
    show ((match Sim.frzs ds h with | some (x, h') => R.ok x h' | none => .bad).then env f) = (match Sim.frzs ds h with | some (x, h') => f x h' | none => .bad)
    split <;> rfl
  | exc => rfl
  | bad => rfl
theorem rfs_zip {G : Hp} : ∀ {fs : List Str} {xs : List PD} {vs : List V}, RPs c G xs vs → RFs c G (fs.zip xs) (fs.zip vs)
  | [], _, _, _ => by simp; exact .nil
  | f :: fs, _, _, .nil => by simp; exact .nil
  | f :: fs, _, _, .cons h r => .cons h (rfs_zip r)
theorem fget_zip {G : Hp} : ∀ {fs : List Str} {xs : List PD} {vs : List V} {f : Str} {x : PD}, RPs c G xs vs → fget (fs.zip xs) f = some x → ∃ v, (f, v) ∈ fs.zip vs ∧ RP c G x v
  | [], _, _, _, _, _, e => by cases e
  | g :: fs, _, _, _, _, .nil, e => by cases e
  | g :: fs, _, _, f, x, .cons (x := x0) (v := v0) h r, e => by
    have e : (if f = g then some x0 else fget (fs.zip _) f) = some x := e
    split at e
    · rename_i z
      cases e
      subst z
      exact ⟨v0, by simp, h⟩
    · obtain ⟨v, hv, rv⟩ := fget_zip r e
      exact ⟨v, by simp [hv], rv⟩
theorem shOk_ok {G : Hp} {r : Bool} {x : PD} {v : V} (h : shOk r x = true) (rp : RP c G x v) : ShD r v := by
  cases x <;> first | (cases h; done) | skip
  · cases rp; exact h
  · cases rp; exact h
  · cases rp
    obtain ⟨h1, h2⟩ := b2 h
    exact ⟨of_decide_eq_true h1, of_decide_eq_true h2⟩
  · cases rp
    obtain ⟨h1, h2⟩ := b2 h
    exact ⟨of_decide_eq_true h1, of_decide_eq_true h2⟩
theorem snd_rse (g : GF T c k N sc X) {j : Nat} {qs : List C} {es : List Expr} {x : Str} {p pos cpos : Pos} (s : SndA T c cal X qs es) (hp : (es.all fun e => !isStar e) = true) (hx : nmIs (T.xks[j]?.map (·.name)) x = true) (hr : ∀ q, T.xks[j]? = some q → q.rs = true) (hg : glbB sc x = true) (hn : nmB x = true) : SndS T c cal X (.rse j qs) (.Raise (some (.Call (.Name x p) es [] cpos)) none pos) := by
  intro hid ρ lh H σ env D W tk st re ho
  have ho : OutS c hid ρ lh H D W ((evs T cal qs env lh).frzs.then env fun xs h => match T.xks[j]? with
    | some q => if q.rs && decide (xs.length = q.fs.length) && shAll (q.fs.zip xs) q.sh then .exc ⟨j, q.fs.zip xs⟩ env h else .bad
    | none => .bad) := ho
  rw [frzs_then] at ho
  cases eq : T.xks[j]? with
  | none => rw [eq] at hx; cases hx
  | some q =>
    rw [eq] at ho hx
    dsimp only at ho
    obtain rfl : q.name = x := Option.some.inj (nmIs_ok hx)
    have F := g.xks j q eq
    obtain ⟨fI, FI⟩ := F.rs (hr q eq)
    refine WS.of (ps_raise g.calm tk (pmk_x FI g.sup F.nd F.ln (k := k + 1) g.room (g.gl hg) F.nm pa_wa (nmB_ok hn).1 hp)) ?_
    refine s.useS tk st re ho fun vs H1 ρ1 ds lh1 st1 ex1 rs re1 ho1 => ?_
    split at ho1
    · rename_i xs lh2 ef
      obtain ⟨st2, ex2, rp⟩ := frzs_ok st1 rs ef
      split at ho1
      · rename_i hc
        obtain ⟨hc, h3⟩ := b2 hc
        obtain ⟨h1, h2⟩ := b2 hc
        have h2 := of_decide_eq_true h2
        refine ⟨by rw [← rp.length]; exact h2, fun f r hf => ?_, fun he => ?_, fun d hd => ?_⟩
        · have z := List.all_eq_true.mp h3 (f, r) hf
          simp only at z
          split at z
          · rename_i v ev
            obtain ⟨u, hu, ru⟩ := fget_zip rp ev
            exact ⟨u, hu, shOk_ok z ru⟩
          · cases z
        · exact ho1 _ _ σ H1 ρ1 st2 ex2 (re1.ex ex2) ⟨rfl, .inl ⟨rfl, by rw [he]; rfl⟩⟩
        · obtain ⟨st3, ex3⟩ := st2.lay hd (.xd (q.fs.zip vs))
          exact ho1 _ _ σ _ ρ1 st3 (ex2.trans ex3) ((re1.ex ex2).ex ex3) ⟨rfl, .inr ⟨d, _, rfl, st2.layAt hd, rfs_zip (RPs.mono ex3.keep rp)⟩⟩
      · exact ho1.elim
    · exact ho1.elim
end
end Sim
end
section
set_option Elab.async false
set_option linter.all false
set_option maxRecDepth 100000
set_option maxHeartbeats 1000000
/-! The Sim layer, Su: except suites. -/
namespace Sim
open PySem PySem.Spec PyProof.Rows L2
section
variable (T : Tab)
/-- the name of the clause: its slot -/
def nmH (N : List Str) (sc : Scope) (sl : Option Nat) (x : Str) : Bool := match sl with
  | some i => nmIs N[i]? x && decide (sc.names.lookup x = some .local) && nmB x
  | none => false
mutual
def chkH (N : List Str) (sc : Scope) (sl : Option Nat) : HE → Expr → Bool
  | .cst v, .Constant k _ _ => cstB v k
  | .fld f, .Attribute (.Name x _) f' _ => decide (f = f') && nmH N sc sl x
  | .isx j, .Call (.Name x _) [.Name y _, .Name z _] [] _ => decide (x = "isinstance") && glbB sc x && nmH N sc sl y && nmIs (T.xks[j]?.map (·.name)) z && glbB sc z && nmB z
  | .lst es, .List es' _ => decide (es.length ≤ 1000) && chkHs N sc sl es es'
  | .ite j a b, .IfExp t a' b' _ => chkH N sc sl (.isx j) t && chkH N sc sl a a' && chkH N sc sl b b'
  | _, _ => false
def chkHs (N : List Str) (sc : Scope) (sl : Option Nat) : List HE → List Expr → Bool
  | [], [] => true
  | q :: qs, e :: es => !isStar e && chkH N sc sl q e && chkHs N sc sl qs es
  | _, _ => false
end
end
theorem nmH_ok {N : List Str} {sc : Scope} {sl : Option Nat} {x : Str} (h : nmH N sc sl x = true) : ∃ i, sl = some i ∧ N[i]? = some x ∧ sc.names.lookup x = some .local ∧ nmB x = true := by
  unfold nmH at h
  split at h
  · rename_i i
    obtain ⟨h, h3⟩ := b2 h
    obtain ⟨h1, h2⟩ := b2 h
    exact ⟨i, rfl, nmIs_ok h1, of_decide_eq_true h2, h3⟩
  · cases h
/-- isinstance(e, C), e the exception that the suite holds, with or without a dict -/
def rIsX (K : PySem.W.Frag) (D a : Addr) (dd : Option Addr) : List V → Hp → VK → Prop := fun xs H Q => ∃ (c : V) (cv : Value) (b : Bool), xs = [.ref a, c] ∧ (∀ u, RelV c u → u = cv) ∧ PySem.W.kitOne K (.ref D) cv = some b ∧ (dd = none ∨ ∃ d gs, dd = some d ∧ H d = some (.xd gs)) ∧ Q (.bl b) H
theorem call_isX {X : Cx} {a D : Addr} {oe : Obj} {dd : Option Addr} {pn : List (Addr × Obj)} (C : ExcC X.K D) (cl : (PySem.W.clsIn X.K D).isSome = true) (hz : Zc (.ref D) dd oe) (hf : ∃ vs, oe.data = .fields vs) : CallR (X.suite a ((a, oe) :: pn)) (.builtin "isinstance") (rIsX X.K D a dd) := by
  intro pins s σ H xs us Q I r h
  obtain ⟨c, cv, b, rfl, hcv, e, hdd, q⟩ := h
  cases r with
  | cons rx rr =>
    cases rr with
    | cons rt rr =>
      cases rr
      cases rx
      have ec := hcv _ rt
      subst ec
      obtain ⟨hget, _⟩ := I.pin (a, oe) (List.mem_append.mpr (.inl List.mem_cons_self))
      obtain ⟨vs, hv⟩ := hf
      obtain ⟨od, J⟩ : ∃ od, PySem.W.InstAt s.heap a oe D od := by
        obtain ⟨oc, odd, oda, osl⟩ := oe
        obtain ⟨h1, h2⟩ := hz
        dsimp only at h1 h2 hv
        subst h1 h2 hv
        rcases hdd with rfl | ⟨d, gs, rfl, hd⟩
        · exact ⟨none, hget, rfl, rfl, trivial⟩
        · have hx : ObjOk X.prog X.w H s.heap d (.xd gs) := I.hok d _ hd
          obtain ⟨mA, hns, hr⟩ := hx
          obtain ⟨od, ho, hl⟩ := lookIn_ns hns
          exact ⟨some od, hget, rfl, rfl, ho⟩
      exact PySem.W.kia_one (PySem.W.kitx_exc cl C.hg C.hk C.hs C.ha C.hn C.ht C.hm) I.kIn J e (fun z => nomatch z) fun tk => ⟨.bl b, H, I.kept (t' := tk) fun _ _ z => z, rfl, q⟩
theorem rfs_fget {c : Ct} {G : Hp} : ∀ {fs : List (Str × PD)} {gs : List (Str × V)} {f : Str} {x : PD}, RFs c G fs gs → fget fs f = some x → ∃ v, gs.lookup f = some v ∧ RP c G x v
  | _, _, _, _, .nil, e => by cases e
  | _, _, f, x, .cons (f := g) (x := x0) (v := v0) (r := r) (r' := r') h t, e => by
    have e : (if f = g then some x0 else fget r f) = some x := e
    rw [lookup_put]
    split at e
    · rename_i z
      cases e
      rw [if_pos z]
      exact ⟨v0, rfl, h⟩
    · rename_i z
      rw [if_neg z]
      exact rfs_fget t e
section
variable {T : Tab} {c : Ct} {cal : Cal} {k : Nat} {N : List Str} {sc : Scope} {X : Cx} {x : Exn} {xq : Xk} {cls : Value} {dd : Option Addr} {a : Addr} {oe : Obj} {pn : List (Addr × Obj)} {sl : Option Nat}
variable (T c X x cls dd a oe pn sl) in
def SndH (q : HE) (e : Expr) : Prop := ∀ (v : PD) (hid ρ : List Addr) (lh : LH) (H : Hp) (σ : L2.St) (Q : VK), evH T x q = some v → Stt c hid ρ lh H → RX c (Gz hid ρ lh H) x cls dd → (∀ i, sl = some i → σ[i]? = some (some (.ref a))) →
  (∀ u H', Stt c hid ρ lh H' → Ex hid ρ lh H ρ lh H' → RP c (Gz hid ρ lh H') v u → Q u H') → WE (X.suite a ((a, oe) :: pn)) e σ H Q
variable (T c X x cls dd a oe pn sl) in
def SndHs (qs : List HE) (es : List Expr) : Prop := ∀ (vs : List PD) (hid ρ : List Addr) (lh : LH) (H : Hp) (σ : L2.St) (Q : List V → Hp → Prop), evHs T x qs = some vs → Stt c hid ρ lh H → RX c (Gz hid ρ lh H) x cls dd → (∀ i, sl = some i → σ[i]? = some (some (.ref a))) →
  (∀ us H', Stt c hid ρ lh H' → Ex hid ρ lh H ρ lh H' → RPs c (Gz hid ρ lh H') vs us → Q us H') → WA (X.suite a ((a, oe) :: pn)) es σ H Q
theorem nm_run (g : GF T c k N sc X) {y : Str} {p : Pos} (h : nmH N sc sl y = true) : ∃ i, sl = some i ∧ PE (X.suite a ((a, oe) :: pn)) (.Name y p) (tVar i) := by
  obtain ⟨i, h1, h2, h3, h4⟩ := nmH_ok h
  exact ⟨i, h1, pe_var (X := X.suite a ((a, oe) :: pn)) (by show X.N[i]? = _; rw [g.hN]; exact h2) (by show Vis X.env.scope y; rw [g.hsc]; exact .inl h3) (nmB_ok h4).1 (nmB_ok h4).2.1⟩
theorem sndH_isx (g : GF T c k N sc X) (hx : T.xks[x.c]? = some xq) (hz : Zc cls dd oe) (hf : ∃ vs, oe.data = .fields vs) {j : Nat} {e : Expr} (h : chkH T N sc sl (.isx j) e = true) : SndH T c X x cls dd a oe pn sl (.isx j) e := by
  intro v hid ρ lh H σ Q ev st rx hs hq
  cases e <;> first | (cases h; done) | skip
  rename_i fn es ks pos
  cases fn <;> first | (cases h; done) | skip
  rename_i x0 p0
  cases es with
  | nil => cases h
  | cons e1 es =>
    cases es with
    | nil => cases e1 <;> cases h
    | cons e2 es =>
      cases es with
      | cons => cases e1 <;> first | (cases h; done) | (cases e2 <;> cases h)
      | nil =>
        cases e1 <;> first | (cases h; done) | skip
        cases e2 <;> first | (cases h; done) | skip
        cases ks with
        | cons => cases h
        | nil =>
          rename_i y py z pz
          have h : (decide (x0 = "isinstance") && glbB sc x0 && nmH N sc sl y && nmIs (T.xks[j]?.map (·.name)) z && glbB sc z && nmB z) = true := h
          obtain ⟨h, h6⟩ := b2 h
          obtain ⟨h, h5⟩ := b2 h
          obtain ⟨h, h4⟩ := b2 h
          obtain ⟨h, h3⟩ := b2 h
          obtain ⟨h1, h2⟩ := b2 h
          have h1 : x0 = "isinstance" := of_decide_eq_true h1
          subst h1
          obtain ⟨i, hi, hn⟩ := nm_run (a := a) (oe := oe) (pn := pn) (p := py) g h3
          cases ej : T.xks[j]? with
          | none => rw [ej] at h4; cases h4
          | some qj =>
            rw [ej] at h4
            obtain rfl : qj.name = z := Option.some.inj (nmIs_ok h4)
            have Fj := g.xks j qj ej
            have Fx := g.xks x.c xq hx
            obtain ⟨rc, rd⟩ := rx
            subst rc
            have ev : (upsOf T x.c j).map PD.bl = some v := ev
            unfold upsOf at ev
            rw [hx] at ev
            have ev : some (PD.bl (xq.ups.contains j)) = some v := ev
            cases ev
            have pz' : PE (X.suite a ((a, oe) :: pn)) (.Name qj.name pz) (tC (.ref (c.xt j))) := pe_glob (X := X.suite a ((a, oe) :: pn)) (g.gl h5) Fj.nm rfl (nmB_ok h6).1
            refine WE.of (pe_callB (X := X.suite a ((a, oe) :: pn)) (call_isX Fx.ex Fx.cl hz hf) (g.gl h2) (g.blt _ (by decide)) (by first | exact PyProof.Rows.Boot.«isinstance» | rfl | kernel_rfl) (pa_cons hn (pa_cons pz' pa_nil))) ?_
            refine ⟨.ref a, hs i hi, ?_⟩
            refine ⟨.ref (c.xt j), .ref (c.xt j), _, rfl, fun u r => r, (Fx.ups j qj ej).2, ?_, hq _ H st Ex.refl (.bl _)⟩
            rcases rd with ⟨r1, _⟩ | ⟨d, gs, r1, r2, _⟩
            · exact .inl r1
            · exact .inr ⟨d, gs, r1, (Fz.not r2).2⟩
mutual
theorem sndH (g : GF T c k N sc X) (hx : T.xks[x.c]? = some xq) (hz : Zc cls dd oe) (hf : ∃ vs, oe.data = .fields vs) : ∀ (q : HE) {e : Expr}, chkH T N sc sl q e = true → SndH T c X x cls dd a oe pn sl q e
  | .cst w, e, h => by
    intro v hid ρ lh H σ Q ev st rx hs hq
    obtain ⟨kk, j, pos, rfl⟩ : ∃ kk j pos, e = .Constant kk j pos := by cases e <;> first | (cases h; done) | exact ⟨_, _, _, rfl⟩
    have h : cstB w kk = true := h
    have ev : some w = some v := ev
    cases ev
    cases w <;> cases kk <;> first
      | (simp [cstB] at h; done)
      | exact WE.of pe_non (hq _ H st Ex.refl .non)
      | (have e := eq_of_beq (show (_ == _) = true from h); subst e; exact WE.of pe_bl (hq _ H st Ex.refl (.bl _)))
      | (have e := of_decide_eq_true (show decide (_ = _) = true from h); subst e; exact WE.of pe_int (hq _ H st Ex.refl (.int _)))
      | (have e := of_decide_eq_true (show decide (_ = _) = true from h); subst e; exact WE.of pe_str (hq _ H st Ex.refl (.str _)))
  | .fld f, e, h => by
    intro v hid ρ lh H σ Q ev st rx hs hq
    cases e <;> first | (cases h; done) | skip
    rename_i o f' pos
    cases o <;> first | (cases h; done) | skip
    rename_i y py
    have h : (decide (f = f') && nmH N sc sl y) = true := h
    obtain ⟨h1, h2⟩ := b2 h
    cases of_decide_eq_true h1
    obtain ⟨i, hi, hn⟩ := nm_run (a := a) (oe := oe) (pn := pn) (p := py) g h2
    have Fx := g.xks x.c xq hx
    have ev : (match T.xks[x.c]? with | some q => if f ∈ q.fs then fget x.fs f else none | none => none) = some v := ev
    rw [hx] at ev
    have ev : (if f ∈ xq.fs then fget x.fs f else none) = some v := ev
    split at ev
    · rename_i hmem
      obtain ⟨rc, rd⟩ := rx
      subst rc
      rcases rd with ⟨_, r2⟩ | ⟨d, gs, r1, r2, r3⟩
      · rw [r2] at ev; cases ev
      · obtain ⟨u, hu, ru⟩ := rfs_fget r3 ev
        refine WE.of (pe_xf (C := c.xt x.c) (cls := .ref (c.xt x.c)) (d := dd) ⟨Fx.ex.hg, Fx.ex.hk, Fx.ex.hs, Fx.ex.hd⟩ (Fx.nof f hmem) hz hf hn (base_of rfl)) ?_
        exact ⟨.ref a, hs i hi, rfl, rfl, d, gs, u, r1, (Fz.not r2).2, hu, hq u H st Ex.refl ru⟩
    · cases ev
  | .isx j, e, h => sndH_isx g hx hz hf h
  | .lst qs, e, h => by
    intro v hid ρ lh H σ Q ev st rx hs hq
    obtain ⟨es, pos, rfl⟩ : ∃ x pos, e = .List x pos := by cases e <;> first | (cases h; done) | exact ⟨_, _, rfl⟩
    have h : (decide (qs.length ≤ 1000) && chkHs T N sc sl qs es) = true := h
    obtain ⟨h1, h2⟩ := b2 h
    have ev : (evHs T x qs).map PD.lst = some v := ev
    obtain ⟨vs, ev2, rfl⟩ := Option.map_eq_some_iff.mp ev
    refine WE.of (pe_lst pa_wa) ?_
    refine sndHs g hx hz hf qs h2 vs hid ρ lh H σ _ ev2 st rx hs fun us H1 st1 ex1 rs => ?_
    refine ⟨?_, fun p hp => ?_⟩
    · rw [← rs.length]
      have : ∀ {qs : List HE} {vs : List PD}, evHs T x qs = some vs → vs.length = qs.length := by
        intro qs
        induction qs with
        | nil => intro vs e; have e : some [] = some vs := e; cases e; rfl
        | cons q qs ih =>
          intro vs e
          have e : (match evH T x q, evHs T x qs with | some v, some vs => some (v :: vs) | _, _ => none) = some vs := e
          split at e
          · rename_i v' vs' e1 e2
            cases e
            simp [ih e2]
          · cases e
      rw [this ev2]
      exact small (of_decide_eq_true h1)
    · obtain ⟨st2, ex2⟩ := st1.lay hp (.lst us)
      exact hq _ _ st2 (ex1.trans ex2) (.lst (st1.layAt hp) (RPs.mono ex2.keep rs))
  | .ite j qa qb, e, h => by
    intro v hid ρ lh H σ Q ev st rx hs hq
    obtain ⟨t, ea, eb, pos, rfl⟩ : ∃ t a b pos, e = .IfExp t a b pos := by cases e <;> first | (cases h; done) | exact ⟨_, _, _, _, rfl⟩
    have h : (chkH T N sc sl (.isx j) t && chkH T N sc sl qa ea && chkH T N sc sl qb eb) = true := h
    obtain ⟨h, h3⟩ := b2 h
    obtain ⟨h1, h2⟩ := b2 h
    have pl : plainT t = true := by cases t <;> first | rfl | (cases h1; done)
    refine WE.of (pe_ifExp (X := X.suite a ((a, oe) :: pn)) (pt_val pe_we (plainT_of pl)) pe_we pe_we) ?_
    have ev : (match upsOf T x.c j with | some true => evH T x qa | some false => evH T x qb | none => none) = some v := ev
    cases eu : upsOf T x.c j with
    | none => rw [eu] at ev; cases ev
    | some b =>
      rw [eu] at ev
      refine sndH_isx g hx hz hf h1 (.bl b) hid ρ lh H σ _ (by show (upsOf T x.c j).map PD.bl = _; rw [eu]; rfl) st rx hs fun u H1 st1 ex1 ru => ?_
      cases ru
      refine ⟨b, rfl, ?_⟩
      have rx1 : RX c (Gz hid ρ lh H1) x cls dd := rx.mono ex1.keep
      cases b with
      | true =>
        show (if (true : Bool) = true then WE (X.suite a ((a, oe) :: pn)) ea σ H1 Q else WE (X.suite a ((a, oe) :: pn)) eb σ H1 Q)
        rw [if_pos rfl]
        exact sndH g hx hz hf qa h2 v hid ρ lh H1 σ Q ev st1 rx1 hs fun u H2 st2 ex2 ru => hq u H2 st2 (ex1.trans ex2) ru
      | false =>
        show (if (false : Bool) = true then WE (X.suite a ((a, oe) :: pn)) ea σ H1 Q else WE (X.suite a ((a, oe) :: pn)) eb σ H1 Q)
        rw [if_neg (by decide)]
        exact sndH g hx hz hf qb h3 v hid ρ lh H1 σ Q ev st1 rx1 hs fun u H2 st2 ex2 ru => hq u H2 st2 (ex1.trans ex2) ru
theorem sndHs (g : GF T c k N sc X) (hx : T.xks[x.c]? = some xq) (hz : Zc cls dd oe) (hf : ∃ vs, oe.data = .fields vs) : ∀ (qs : List HE) {es : List Expr}, chkHs T N sc sl qs es = true → SndHs T c X x cls dd a oe pn sl qs es
  | [], es, h => by
    intro vs hid ρ lh H σ Q ev st rx hs hq
    cases es with
    | cons => cases h
    | nil =>
      have ev : some [] = some vs := ev
      cases ev
      exact WA.of pa_nil (hq [] H st Ex.refl .nil)
  | q :: qs, es, h => by
    intro vs hid ρ lh H σ Q ev st rx hs hq
    cases es with
    | nil => cases h
    | cons e es =>
      have h : (!isStar e && chkH T N sc sl q e && chkHs T N sc sl qs es) = true := h
      obtain ⟨h, h3⟩ := b2 h
      obtain ⟨h1, h2⟩ := b2 h
      have ev : (match evH T x q, evHs T x qs with | some v, some vs => some (v :: vs) | _, _ => none) = some vs := ev
      split at ev
      · rename_i v' vs' e1 e2
        cases ev
        refine WA.of (pa_cons pe_we pa_wa (star_of (bn h1))) ?_
        refine sndH g hx hz hf q h2 v' hid ρ lh H σ _ e1 st rx hs fun u H1 st1 ex1 ru => ?_
        refine sndHs g hx hz hf qs h3 vs' hid ρ lh H1 σ _ e2 st1 (rx.mono ex1.keep) hs fun us H2 st2 ex2 rs => ?_
        exact hq _ _ st2 (ex1.trans ex2) (.cons (RP.mono ex2.keep ru) rs)
      · cases ev
end
end
end Sim
end
section
set_option Elab.async false
set_option linter.all false
set_option maxRecDepth 100000
set_option maxHeartbeats 1000000
/-! The Sim layer, St: try. -/
namespace Sim
open PySem PySem.Spec PyProof.Rows L2
section
variable (T : Tab)
def slB (N : List Str) (sc : Scope) : Option Nat → Option Str → Bool
  | none, none => true
  | some i, some n => nmIs N[i]? n && decide (sc.names.lookup n = some .local)
  | _, _ => false
def chkHd (N : List Str) (sc : Scope) : Hd → ExceptHandler → Bool
  | ⟨j, sl, tgt, q⟩, .ExceptHandler (some (.Name x _)) nm [.Assign [.Name y _] e _] _ => nmIs (T.xks[j]?.map (·.name)) x && glbB sc x && nmB x && slB N sc sl nm && nmIs N[tgt]? y && locF sc y && !isCompE e && chkH T N sc sl q e
  | _, _ => false
def chkHds (N : List Str) (sc : Scope) : List Hd → List ExceptHandler → Bool
  | [], [] => true
  | d :: ds, h :: hs => chkHd T N sc d h && chkHds N sc ds hs
  | _, _ => false
end
section
variable {T : Tab} {c : Ct} {cal : Cal} {k : Nat} {N : List Str} {sc : Scope} {X : Cx}
theorem GF.tr (g : GF T c k N sc X) {pn : List (Addr × Obj)} {xe : Value → Shared → Prop} (h : PassesOwn (model X.prog X.w) X.A X.env xe) : GF T c k N sc (X.tr pn xe) where
  hN := g.hN
  nd := g.nd
  hsc := g.hsc
  hK := g.hK
  hP := g.hP
  hw := g.hw
  calm := g.calm
  room := g.room
  glb := g.glb
  blt := g.blt
  fns := g.fns
  kls := g.kls
  mks := g.mks
  mts := g.mts
  stk := g.stk
  frm := g.frm
  own := h
  fn := g.fn
  xks := g.xks
  sup := g.sup
theorem REnv.unset {ρ : List Addr} {G : Hp} {env : Env0} {σ : L2.St} {i : Nat} {v : Option V} (h : REnv c ρ G env σ) : REnv c ρ G (env.set i none) (σ.set i v) := by
  refine ⟨by simp [h.1], fun j d e => ?_⟩
  by_cases hj : i = j
  · subst hj
    by_cases hl : i < env.length
    · rw [List.getElem?_set_self hl] at e; cases e
    · rw [List.getElem?_eq_none (by simpa using hl)] at e; cases e
  · rw [List.getElem?_set_ne hj] at e
    obtain ⟨v', h1, h2⟩ := h.2 j d e
    exact ⟨v', by rw [List.getElem?_set_ne hj]; exact h1, h2⟩
theorem set_thru {α : Type} {l : List α} {i t : Nat} {a b e : α} : ((l.set i a).set t b).set i e = (l.set t b).set i e := by
  by_cases h : i = t
  · subst h
    simp
  · rw [List.set_comm _ _ h]
    simp [List.set_comm _ _ h]
/-- what a clause's suite wishes -/
def tsH (T : Tab) (c : Ct) (d : Hd) (a : Addr) (cls : Value) (dd : Option Addr) : TS := fun D σ H => ∃ (hid ρ : List Addr) (lh : LH) (x : Exn) (q : Xk) (v : PD), Stt c hid ρ lh H ∧ RX c (Gz hid ρ lh H) x cls dd ∧ (∀ i, d.slot = some i → σ[i]? = some (some (.ref a))) ∧ T.xks[x.c]? = some q ∧ evH T x d.e = some v ∧
  ∀ u H', Stt c hid ρ lh H' → Ex hid ρ lh H ρ lh H' → RP c (Gz hid ρ lh H') v u → D.nx (σ.set d.tgt (some u)) H'
def clsL (T : Tab) (c : Ct) (hs : List Hd) : List Cls1 := hs.map fun d => (.ref (c.xt d.k), d.slot, tsH T c d)
theorem chkHd_inv {d : Hd} {h : ExceptHandler} (hc : chkHd T N sc d h = true) : ∃ x px nm y py e pa pos q, h = .ExceptHandler (some (.Name x px)) nm [.Assign [.Name y py] e pa] pos ∧ T.xks[d.k]? = some q ∧ q.name = x ∧ glbB sc x = true ∧ nmB x = true ∧ slB N sc d.slot nm = true ∧ N[d.tgt]? = some y ∧ locF sc y = true ∧ isCompE e = false ∧ chkH T N sc d.slot d.e e = true := by
  obtain ⟨j, sl, tgt, q⟩ := d
  unfold chkHd at hc
  split at hc
  · rename_i j' sl' tgt' q' x px nm y py e pa pos hd
    cases hd
    obtain ⟨hc, h8⟩ := b2 hc
    obtain ⟨hc, h7⟩ := b2 hc
    obtain ⟨hc, h6⟩ := b2 hc
    obtain ⟨hc, h5⟩ := b2 hc
    obtain ⟨hc, h4⟩ := b2 hc
    obtain ⟨hc, h3⟩ := b2 hc
    obtain ⟨h1, h2⟩ := b2 hc
    cases ej : T.xks[j]? with
    | none => rw [ej] at h1; cases h1
    | some qj =>
      rw [ej] at h1
      exact ⟨_, _, _, _, _, _, _, _, qj, rfl, rfl, Option.some.inj (nmIs_ok h1), h2, h3, h4, nmIs_ok h5, h6, bn h7, h8⟩
  · cases hc
theorem nmOk_of (g : GF T c k N sc X) {sl : Option Nat} {nm : Option Str} (h : slB N sc sl nm = true) : NmOk X nm sl := by
  cases sl with
  | none =>
    cases nm with
    | none => exact True.intro
    | some => cases h
  | some i =>
    cases nm with
    | none => cases h
    | some n =>
      have h : (nmIs N[i]? n && decide (sc.names.lookup n = some .local)) = true := h
      obtain ⟨k1, k2⟩ := b2 h
      exact ⟨by rw [g.hN]; exact nmIs_ok k1, by show X.env.scope.names.lookup n = _; rw [g.hsc]; exact of_decide_eq_true k2⟩
theorem slB_len {i : Nat} {nm : Option Str} (h : slB N sc (some i) nm = true) : i < N.length := by
  cases nm with
  | none => cases h
  | some n =>
    have h : (nmIs N[i]? n && decide (sc.names.lookup n = some .local)) = true := h
    exact (List.getElem?_eq_some_iff.mp (nmIs_ok (b2 h).1)).1
theorem hdOk_of (g : GF T c k N sc X) : ∀ {hs : List Hd} {hds : List ExceptHandler}, chkHds T N sc hs hds = true → HdOk X hds (clsL T c hs)
  | [], [], _ => .nil
  | [], _ :: _, h => by cases h
  | _ :: _, [], h => by cases h
  | d :: hs, h :: hds, hc => by
    have hc := b2 (show (chkHd T N sc d h && chkHds T N sc hs hds) = true from hc)
    obtain ⟨x, px, nm, y, py, e, pa, pos, q, rfl, ej, rfl, h2, h3, h4, h5, h6, h7, h8⟩ := chkHd_inv hc.1
    refine .cons ⟨g.gl h2, (nmB_ok h3).1, .inl (g.xks _ q ej).nm⟩ ?_ (fun a oe cls dd pn hz hf => ?_) (hdOk_of g hc.2)
    · exact nmOk_of g h4
    · obtain ⟨l1, l2⟩ := locF_ok g y h6
      refine ⟨fun pins s σ H D I hw => ?_⟩
      obtain ⟨hid, ρ, lh, x, xq, v, st, rx, hs', hx, ev, hq⟩ := hw
      refine (pss_cons (ps_set (X := X.suite a ((a, oe) :: pn)) (i := d.tgt) g.nd (by show X.N[d.tgt]? = _; rw [g.hN]; exact h5) l1 pe_we (swaps_of h7) l2) pss_nil).run pins s σ H D I ?_
      exact sndH g hx hz hf d.e h8 v hid ρ lh H σ _ ev st rx hs' fun u H1 st1 ex1 ru => hq u H1 st1 ex1 ru
theorem wHd_of (g : GF T c k N sc X) {D : Ends} {W : WX} {hid ρ ρ1 : List Addr} {lh lh1 : LH} {H H1 : Hp} {σ1 : L2.St} {env1 : Env0} {x : Exn} {cls : Value} {dd : Option Addr} (st1 : Stt c hid ρ1 lh1 H1) (ex1 : Ex hid ρ lh H ρ1 lh1 H1) (re1 : REnv c ρ1 (Gz hid ρ1 lh1 H1) env1 σ1) (rx : RX c (Gz hid ρ1 lh1 H1) x cls dd) :
    ∀ {hs : List Hd} {hds : List ExceptHandler}, chkHds T N sc hs hds = true → OutS c hid ρ lh H D W (handle T hs x env1 lh1) → wHd X.K X.N.length W D (clsL T c hs) cls dd σ1 H1
  | [], _, _, ho => ho cls dd σ1 H1 ρ1 st1 ex1 re1 rx
  | d :: hs, [], h, _ => by cases h
  | d :: hs, h :: hds, hc, ho => by
    have hc := b2 (show (chkHd T N sc d h && chkHds T N sc hs hds) = true from hc)
    obtain ⟨_, _, _, _, _, _, _, _, q, _, ej, _, _, _, hsl, _⟩ := chkHd_inv hc.1
    have ho : OutS c hid ρ lh H D W (match upsOf T x.c d.k with
      | some true => match evH T x d.e with
        | some v => .ok .nx (match d.slot with
          | some i => (env1.set d.tgt (some (.p v))).set i none
          | none => env1.set d.tgt (some (.p v))) lh1
        | none => .bad
      | some false => handle T hs x env1 lh1
      | none => .bad) := ho
    cases eu : upsOf T x.c d.k with
    | none => rw [eu] at ho; exact ho.elim
    | some b =>
      rw [eu] at ho
      obtain ⟨xq, hx, hb⟩ : ∃ xq, T.xks[x.c]? = some xq ∧ xq.ups.contains d.k = b := by
        unfold upsOf at eu
        obtain ⟨xq, e1, e2⟩ := Option.map_eq_some_iff.mp eu
        exact ⟨xq, e1, e2⟩
      refine ⟨b, ?_, fun hbt a ha hln => ?_, fun hbf => ?_⟩
      · rw [← hb, rx.1]
        exact ((g.xks _ xq hx).ups _ q ej).1
      · subst hbt
        have ho : OutS c hid ρ lh H D W (match evH T x d.e with
          | some v => .ok .nx (match d.slot with
            | some i => (env1.set d.tgt (some (.p v))).set i none
            | none => env1.set d.tgt (some (.p v))) lh1
          | none => .bad) := ho
        cases ee : evH T x d.e with
        | none => rw [ee] at ho; exact ho.elim
        | some v =>
          rw [ee] at ho
          have ho : ∀ (σ' : L2.St) (H' : Hp) (ρ' : List Addr), Stt c hid ρ' lh1 H' → Ex hid ρ lh H ρ' lh1 H' → REnv c ρ' (Gz hid ρ' lh1 H') (match d.slot with
            | some i => (env1.set d.tgt (some (.p v))).set i none
            | none => env1.set d.tgt (some (.p v))) σ' → D.nx σ' H' := ho
          refine ⟨hid, ρ1, lh1, x, xq, v, st1, rx, fun i hi => ?_, hx, ee, fun u H2 st2 ex2 ru => ?_⟩
          · rw [hi]
            show (σ1.set i (some (.ref a)))[i]? = _
            refine List.getElem?_set_self ?_
            rw [hln, g.hN]
            rw [hi] at hsl
            exact slB_len hsl
          · cases es : d.slot with
            | none =>
              rw [es] at ho
              exact ho _ H2 ρ1 st2 (ex1.trans ex2) ((re1.ex ex2).set (d := .p v) ru)
            | some i =>
              rw [es] at ho
              refine ho _ H2 ρ1 st2 (ex1.trans ex2) ?_
              show REnv c ρ1 (Gz hid ρ1 lh1 H2) ((env1.set d.tgt (some (.p v))).set i none) (((σ1.set i (some (.ref a))).set d.tgt (some u)).set i none)
              rw [← set_thru]
              exact REnv.unset (REnv.set (d := .p v) (REnv.unset (REnv.ex ex2 re1)) ru)
      · subst hbf
        exact wHd_of g st1 ex1 re1 rx hc.2 ho
theorem snd_try (g : GF T c k N sc X) {body : List S} {hs : List Hd} {sts : List Stmt} {h0 : ExceptHandler} {hds : List ExceptHandler} {pos : Pos} (sb : ∀ pn xe, GF T c k N sc (X.tr pn xe) → SndSs T c cal (X.tr pn xe) body sts) (hc : chkHds T N sc hs (h0 :: hds) = true) :
    SndS T c cal X (.tryS body hs) (.Try sts (h0 :: hds) [] [] pos) := by
  intro hid ρ lh H σ env D W tk st re ho
  refine WS.of (ps_try_mix g.stk g.frm g.nd tk (tb := fun W' D σ H => ∃ (hid ρ : List Addr) (lh : LH) (env : Env0), Stt c hid ρ lh H ∧ REnv c ρ (Gz hid ρ lh H) env σ ∧ OutS c hid ρ lh H D W' (execs T cal body env lh)) (fun W' pn xe tk' po => ⟨fun pins s σ H D I hw => ?_⟩) (hdOk_of g hc)) ?_
  · obtain ⟨hid, ρ, lh, env, st, re, ho⟩ := hw
    exact sb pn xe (g.tr po) hid ρ lh H σ env D W' tk' st re ho pins s I
  · refine ⟨hid, ρ, lh, env, st, re, ?_⟩
    have ho : OutS c hid ρ lh H D W (match execs T cal body env lh with
      | .exc e env1 h1 => handle T hs e env1 h1
      | r => r) := ho
    cases er : execs T cal body env lh with
    | bad => rw [er] at ho; exact ho
    | ok f env1 lh1 =>
      rw [er] at ho
      cases f <;> exact ho
    | exc e env1 lh1 =>
      rw [er] at ho
      exact fun cls d σ1 H1 ρ1 st1 ex1 re1 rx => wHd_of g st1 ex1 re1 rx hc ho
end
end Sim
end
section
set_option Elab.async false
set_option linter.all false
set_option maxRecDepth 100000
set_option maxHeartbeats 1000000
/-! The Sim layer, V: loops; several names at once. -/
namespace Sim
open PySem PySem.Spec PyProof.Rows L2
section
variable {T : Tab} {c : Ct} {cal : Cal} {k : Nat} {N : List Str} {sc : Scope} {X : Cx}
/-- a loop's turn ends -/
theorem loop_out {hid ρ ρ' : List Addr} {lh lh' : LH} {H H' : Hp} {D : Ends} {W : WX} {r : RS} {f : Env0 → LH → RS} {Nx : L2.St → Hp → Prop} (ex : Ex hid ρ lh H ρ' lh' H') (ho : OutS c hid ρ lh H D W (r.loop f))
    (q : ∀ (env1 : Env0) (lh1 : LH), OutS c hid ρ lh H D W (f env1 lh1) → ∀ σ1 H1 ρ1, Stt c hid ρ1 lh1 H1 → Ex hid ρ' lh' H' ρ1 lh1 H1 → REnv c ρ1 (Gz hid ρ1 lh1 H1) env1 σ1 → Nx σ1 H1) : OutS c hid ρ' lh' H' { D with nx := Nx, ct := Nx, bk := D.nx } W r := by
  cases r with
  | bad => exact ho
  | exc e env1 lh1 => exact OutS.after ex (show OutS c hid ρ lh H D W (.exc e env1 lh1) from ho)
  | ok fl env1 lh1 =>
    cases fl with
    | nx => exact fun σ1 H1 ρ1 s1 x1 re1 => q env1 lh1 ho σ1 H1 ρ1 s1 x1 re1
    | ct => exact fun σ1 H1 ρ1 s1 x1 re1 => q env1 lh1 ho σ1 H1 ρ1 s1 x1 re1
    | bk => exact fun σ1 H1 ρ1 s1 x1 re1 => ho σ1 H1 ρ1 s1 (ex.trans x1) re1
    | rt v => exact fun v1 H1 ρ1 s1 x1 r1 => ho v1 H1 ρ1 s1 (ex.trans x1) r1
theorem snd_for (g : GF T c k N sc X) {tg : Tg} {ik : IK} {ia : List C} {body : List S} {tg' it : Expr} {bd : List Stmt} {pos : Pos} (hI : SndI T c cal X ik ia tg' it) (ht : chkT N (locF sc) tg tg' = true) (hset : isSetE it = false) (hb : SndSs T c cal X body bd) :
    SndS T c cal X (.forS tg ik ia body) (.For tg' it bd [] pos) := by
  intro hid ρ lh H σ env D W tk st re ho
  refine WS.of (ps_for g.own g.calm pi_wi pg_wg pss_ws (fset_of hset)) ?_
  refine hI hid ρ lh H σ env _ W tk st re ?_
  have ho : OutS c hid ρ lh H D W ((evs T cal ia env lh).then env fun ds h => match itOf ik ds h with | some (.its xs) => forGo tg (execs T cal body) xs env h | _ => .bad) := ho
  cases er : evs T cal ia env lh with
  | bad => rw [er] at ho; exact ho
  | exc e1 lh1 => rw [er] at ho; exact fun cls d H1 ρ1 s1 x1 rx => ho cls d σ H1 ρ1 s1 x1 (re.ex x1) rx
  | ok ds lh1 =>
    rw [er] at ho
    have ho : OutS c hid ρ lh H D W (match itOf ik ds lh1 with | some (.its xs) => forGo tg (execs T cal body) xs env lh1 | _ => .bad) := ho
    intro H1 ρ1 st1 ex1
    show (match itOf ik ds lh1 with | some (.its xs) => _ | _ => False)
    cases ei : itOf ik ds lh1 with
    | none => rw [ei] at ho; exact ho.elim
    | some z =>
      cases z with
      | liv n => rw [ei] at ho; exact ho.elim
      | its xs =>
        rw [ei] at ho
        have ho : OutS c hid ρ lh H D W (forGo tg (execs T cal body) xs env lh1) := ho
        intro J wk
        refine ⟨fun i m σ' H' => m = xs.length - i ∧ i ≤ xs.length ∧ ∃ ρ' lh' env', Stt c hid ρ' lh' H' ∧ Ex hid ρ lh H ρ' lh' H' ∧ Le (Gz hid ρ1 lh1 H1) (Gz hid ρ' lh' H') ∧ REnv c ρ' (Gz hid ρ' lh' H') env' σ' ∧
          OutS c hid ρ lh H D W (forGo tg (execs T cal body) (xs.drop i) env' lh'), ⟨_, rfl, Nat.zero_le _, ρ1, lh1, env, st1, ex1, Le.refl _, re.ex ex1, ho⟩, ?_⟩
        rintro i m σ' H' ⟨rfl, hi, ρ', lh', env', st', ex', le', re', ho'⟩
        obtain ⟨w1, w2⟩ := wk hid ρ' lh' H' st' le' i
        cases ex : xs[i]? with
        | none =>
          have el : xs.length ≤ i := List.getElem?_eq_none_iff.mp ex
          rw [List.drop_eq_nil_of_le el] at ho'
          exact .inl ⟨w2 ex, ho' σ' H' ρ' st' ex' re'⟩
        | some x =>
          obtain ⟨hlt, hx⟩ := List.getElem?_eq_some_iff.mp ex
          obtain ⟨go, yl⟩ := w1 x ex
          refine .inr ⟨go, fun σ9 H9 => ∃ m', m' < xs.length - i ∧ (m' = xs.length - (i + 1) ∧ i + 1 ≤ xs.length ∧ ∃ ρ' lh' env', Stt c hid ρ' lh' H9 ∧ Ex hid ρ lh H ρ' lh' H9 ∧ Le (Gz hid ρ1 lh1 H1) (Gz hid ρ' lh' H9) ∧ REnv c ρ' (Gz hid ρ' lh' H9) env' σ9 ∧
            OutS c hid ρ lh H D W (forGo tg (execs T cal body) (xs.drop (i + 1)) env' lh')), fun _ _ h => h, fun v H3 hy => ?_⟩
          obtain ⟨st3, ex3, rv⟩ := yl v H3 hy
          rw [List.drop_eq_getElem_cons hlt, hx] at ho'
          have ho' : OutS c hid ρ lh H D W (match bindT tg (.p x) env' with | some env1 => (execs T cal body env1 lh').loop (forGo tg (execs T cal body) (xs.drop (i + 1))) | none => .bad) := ho'
          cases eb : bindT tg (.p x) env' with
          | none => rw [eb] at ho'; exact ho'.elim
          | some env1 =>
            rw [eb] at ho'
            refine tg_ok g.hN g.nd (locF_ok g) g.hK g.calm tg ht (re'.ex ex3) (show RL c ρ' _ (.p x) v from rv) eb fun σ2 re2 _ => ?_
            refine hb hid ρ' lh' H3 σ2 env1 _ W tk st3 re2 ?_
            exact loop_out (ex'.trans ex3) ho' fun env2 lh2 ho2 σ3 H4 ρ4 st4 ex4 re4 => ⟨_, by omega, rfl, hlt, ρ4, lh2, env2, st4, (ex'.trans ex3).trans ex4, (le'.trans ex3.keep).trans ex4.keep, re4, ho2⟩
theorem snd_whl (g : GF T c k N sc X) {q : C} {body : List S} {e : Expr} {bd : List Stmt} {pos : Pos} (hc : SndT T c cal X q e) (hb : SndSs T c cal X body bd) : SndS T c cal X (.whl q body) (.While e bd [] pos) := by
  intro hid ρ lh H σ env D W tk st re ho
  refine WS.of (ps_while g.own pt_wt pss_ws) ?_
  refine ⟨fun m σ' H' => ∃ ρ' lh' env', Stt c hid ρ' lh' H' ∧ Ex hid ρ lh H ρ' lh' H' ∧ REnv c ρ' (Gz hid ρ' lh' H') env' σ' ∧ OutS c hid ρ lh H D W (whGo (ev T cal q) (execs T cal body) m env' lh'), ⟨whMost, ρ, lh, env, st, Ex.refl, re, ho⟩, ?_⟩
  rintro m σ' H' ⟨ρ', lh', env', st', ex', re', ho'⟩
  cases m with
  | zero => exact ho'.elim
  | succ m =>
    have ho' : OutS c hid ρ lh H D W ((ev T cal q env' lh').then env' fun x h => match x with
      | .p (.bl true) => (execs T cal body env' h).loop (whGo (ev T cal q) (execs T cal body) m)
      | .p (.bl false) => .ok .nx env' h
      | _ => .bad) := ho'
    refine hc hid ρ' lh' H' σ' env' _ W tk st' re' ?_
    cases er : ev T cal q env' lh' with
    | bad => rw [er] at ho'; exact ho'
    | exc e1 lh1 => rw [er] at ho'; exact fun cls d H1 ρ1 s1 x1 rx => ho' cls d σ' H1 ρ1 s1 (ex'.trans x1) (re'.ex x1) rx
    | ok d lh1 =>
      rw [er] at ho'
      have ho' : OutS c hid ρ lh H D W (match (generalizing := false) d with
        | .p (.bl true) => (execs T cal body env' lh1).loop (whGo (ev T cal q) (execs T cal body) m)
        | .p (.bl false) => .ok .nx env' lh1
        | _ => .bad) := ho'
      split at ho'
      · intro H1 ρ1 s1 x1
        rw [if_pos rfl]
        refine ⟨fun σ9 H9 => ∃ m', m' < m + 1 ∧ ∃ ρ' lh' env', Stt c hid ρ' lh' H9 ∧ Ex hid ρ lh H ρ' lh' H9 ∧ REnv c ρ' (Gz hid ρ' lh' H9) env' σ9 ∧ OutS c hid ρ lh H D W (whGo (ev T cal q) (execs T cal body) m' env' lh'), fun _ _ h => h, ?_⟩
        refine hb hid ρ1 lh1 H1 σ' env' _ W tk s1 (re'.ex x1) ?_
        exact loop_out (ex'.trans x1) ho' fun env2 lh2 ho2 σ3 H4 ρ4 st4 ex4 re4 => ⟨m, by omega, ρ4, lh2, env2, st4, (ex'.trans x1).trans ex4, re4, ho2⟩
      · intro H1 ρ1 s1 x1
        rw [if_neg (by decide)]
        exact ho' σ' H1 ρ1 s1 (ex'.trans x1) (re'.ex x1)
      · exact ho'.elim
/-- a, b = x, y -/
theorem snd_par2 (g : GF T c k N sc X) {i j : Nat} {qs : List C} {x y : Str} {a b : Expr} {px py pt pos pt2 : Pos} {kt k2 : Nat} (s : SndA T c cal X qs [a, b]) (hi : nmIs N[i]? x = true) (hj : nmIs N[j]? y = true) (hij : i ≠ j) (hx : sc.names.lookup x = some .local) (hy : sc.names.lookup y = some .local)
    (hw : swappedStores [.Tuple [.Name x px, .Name y py] kt pt] (.Tuple [a, b] k2 pt2) X.env = pure (some [x, y])) :
    SndS T c cal X (.par [i, j] qs) (.Assign [.Tuple [.Name x px, .Name y py] kt pt] (.Tuple [a, b] k2 pt2) pos) := by
  intro hid ρ lh H σ env D W tk st re ho
  refine WS.of (ps_par g.calm g.nd (by rw [g.hN]; exact nmIs_ok hi) (by rw [g.hN]; exact nmIs_ok hj) hij (by rw [g.hsc]; exact hx) (by rw [g.hsc]; exact hy) pa_wa hw) ?_
  refine s.useS tk st re (f := fun ds h => if ds.length = 2 then .ok .nx (setAll [i, j] ds env) h else .bad) ho fun vs H1 ρ1 ds lh1 st1 ex1 rs re1 ho1 => ?_
  split at ho1
  · rename_i hl
    cases rs with
    | nil => cases hl
    | cons r1 rr =>
      cases rr with
      | nil => cases hl
      | cons r2 rr =>
        cases rr with
        | cons => simp at hl
        | nil => exact ⟨_, _, rfl, ho1 _ H1 ρ1 st1 Ex.refl ((re1.set r1).set r2)⟩
  · exact ho1.elim
end
end Sim
end
section
set_option Elab.async false
set_option linter.all false
set_option maxRecDepth 100000
set_option maxHeartbeats 1000000
/-! The Sim layer, W: what is looked at is so. -/
namespace Sim
open PySem PySem.Spec PyProof.Rows L2
section
variable {T : Tab} {c : Ct} {k : Nat} {N : List Str} {sc : Scope} {X : Cx}
/-- both forms -/
def Both (T : Tab) (c : Ct) (k : Nat) (X : Cx) (q : C) (e : Expr) : Prop := SndE T c (callD T k) X q e ∧ (tstB e = true → SndT T c (callD T k) X q e)
theorem Both.plain {q : C} {e : Expr} (h : plainT e = true) (s : SndE T c (callD T k) X q e) : Both T c k X q e := ⟨s, fun _ => sndT_plain h s⟩
theorem fn_name {f : Expr} {es : List Expr} {ks : List Keyword} {pos : Pos} {q : C} {b : Bool} (h : (match f, ks with | .Name _ _, [] => b | _, _ => false) = true) : ∃ x p, f = .Name x p ∧ ks = [] := by
  cases f <;> first | (cases h; done) | skip
  cases ks with
  | cons => cases h
  | nil => exact ⟨_, _, rfl, rfl⟩
theorem inv_call {q : C} {e : Expr} (hq : (match q with | .cal .. => true | .mk .. => true | .bf .. => true | .isi .. => true | _ => false) = true) (h : chk T N sc q e = true) : ∃ x p es pos, e = .Call (.Name x p) es [] pos := by
  cases q <;> first | (cases hq; done) | skip
  all_goals (cases e <;> first | (cases h; done) | skip)
  all_goals (rename_i fn args kws pos; cases fn <;> first | (cases h; done) | skip)
  all_goals (cases kws <;> first | exact ⟨_, _, _, _, rfl⟩ | skip)
  all_goals first | (cases h; done) | skip
  all_goals (cases args <;> first | (cases h; done) | skip)
  all_goals (rename_i a as; cases as <;> first | (cases h; done) | skip)
  all_goals (rename_i a2 as; cases a2 <;> cases as <;> first | (cases h; done) | skip)
theorem inv_met {m : Str} {pu : Bool} {a : C} {qs : List C} {e : Expr} (h : chk T N sc (.met m pu a qs) e = true) : ∃ ea ap es pos, e = .Call (.Attribute ea m ap) es [] pos := by
  cases e <;> first | (cases h; done) | skip
  rename_i fn args kws pos
  cases fn <;> first | (cases h; done) | skip
  rename_i ea m' ap
  cases kws with
  | cons => cases h
  | nil =>
    have h' : (decide (m = m') && baseB ea && (ap.endLine == pos.line) && decide (args.length < 20) && chk T N sc a ea && chks T N sc qs args) = true := h
    simp only [Bool.and_eq_true, decide_eq_true_eq] at h'
    obtain ⟨⟨⟨⟨⟨rfl, _⟩, _⟩, _⟩, _⟩, _⟩ := h'
    exact ⟨_, _, _, _, rfl⟩
theorem inv_isi {a : C} {t : TY} {x : Str} {p pos : Pos} {es : List Expr} (h : chk T N sc (.isi a t) (.Call (.Name x p) es [] pos) = true) : ∃ ea y p2, es = [ea, .Name y p2] := by
  cases es with
  | nil => cases h
  | cons ea es =>
    cases es with
    | nil => cases h
    | cons b es =>
      cases b <;> first | (cases h; done) | skip
      cases es with
      | cons => cases h
      | nil => exact ⟨_, _, _, rfl⟩
theorem itEs_inv {ik : IK} {tg it : Expr} {es : List Expr} (h : itEs sc ik tg it = some es) : isSetE it = false := by
  cases it <;> first | rfl | skip
  cases ik <;> cases h
/-- a walk, by its arguments -/
theorem walk_of (g : GX T c k N sc X) {cal : Cal} {ik : IK} {ia : List C} {tg it : Expr} {es : List Expr} (h : itEs sc ik tg it = some es) (pl : (es.all fun e => !isStar e) = true) (sl : SndL T c cal X ia es) : SndI T c cal X ik ia tg it := by
  cases ik with
  | seq =>
    have h : (if isSetE it then none else some [it]) = some es := h
    split at h
    · cases h
    · cases h
      cases sl with
      | cons s t =>
        cases t
        exact sndI_seq g s
  | rng1 =>
    cases it <;> first | (cases h; done) | skip
    rename_i fn args kws pos
    cases fn <;> first | (cases h; done) | skip
    rename_i x p
    cases args with
    | nil => cases h
    | cons a args =>
      cases args with
      | cons => cases h
      | nil =>
        cases kws with
        | cons => cases h
        | nil =>
          have h : (if decide (x = "range") && glbB sc x then some [a] else none) = some es := h
          split at h
          · rename_i hc
            cases h
            obtain ⟨h1, h2⟩ := b2 hc
            cases of_decide_eq_true h1
            simp only [List.all_cons, Bool.and_eq_true, Bool.not_eq_true'] at pl
            exact sndI_rng1 g h2 (sl.args (by simp [pl.1])) pl.1
          · cases h
  | rng2 =>
    cases it <;> first | (cases h; done) | skip
    rename_i fn args kws pos
    cases fn <;> first | (cases h; done) | skip
    rename_i x p
    cases args with
    | nil => cases h
    | cons a args =>
      cases args with
      | nil => cases h
      | cons b args =>
        cases args with
        | cons => cases h
        | nil =>
          cases kws with
          | cons => cases h
          | nil =>
            have h : (if decide (x = "range") && glbB sc x then some [a, b] else none) = some es := h
            split at h
            · rename_i hc
              cases h
              obtain ⟨h1, h2⟩ := b2 hc
              cases of_decide_eq_true h1
              simp only [List.all_cons, Bool.and_eq_true, Bool.not_eq_true'] at pl
              exact sndI_rng2 g h2 (sl.args (by simp [pl.1, pl.2.1])) pl.1 pl.2.1
            · cases h
  | enm =>
    cases it <;> first | (cases h; done) | skip
    rename_i fn args kws pos
    cases fn <;> first | (cases h; done) | skip
    rename_i x p
    cases args with
    | nil => cases h
    | cons a args =>
      cases args with
      | cons => cases h
      | nil =>
        cases kws with
        | cons => cases h
        | nil =>
          have h : (if decide (x = "enumerate") && glbB sc x && isTup tg then some [a] else none) = some es := h
          split at h
          · rename_i hc
            cases h
            obtain ⟨hc, h3⟩ := b2 hc
            obtain ⟨h1, h2⟩ := b2 hc
            cases of_decide_eq_true h1
            cases tg <;> first | (cases h3; done) | skip
            simp only [List.all_cons, Bool.and_eq_true, Bool.not_eq_true'] at pl
            exact sndI_enm g h2 (sl.args (by simp [pl.1])) pl.1
          · cases h
  | zp =>
    cases it <;> first | (cases h; done) | skip
    rename_i fn args kws pos
    cases fn <;> first | (cases h; done) | skip
    rename_i x p
    cases args with
    | nil => cases h
    | cons a args =>
      cases args with
      | nil => cases h
      | cons b args =>
        cases args with
        | cons => cases h
        | nil =>
          cases kws with
          | cons => cases h
          | nil =>
            have h : (if decide (x = "zip") && glbB sc x && isTup tg then some [a, b] else none) = some es := h
            split at h
            · rename_i hc
              cases h
              obtain ⟨hc, h3⟩ := b2 hc
              obtain ⟨h1, h2⟩ := b2 hc
              cases of_decide_eq_true h1
              cases tg <;> first | (cases h3; done) | skip
              simp only [List.all_cons, Bool.and_eq_true, Bool.not_eq_true'] at pl
              exact sndI_zp g h2 (sl.args (by simp [pl.1, pl.2.1])) pl.1 pl.2.1
            · cases h
  | itm =>
    cases it <;> first | (cases h; done) | skip
    rename_i fn args kws pos
    cases fn <;> first | (cases h; done) | skip
    rename_i a m ap
    cases args with
    | cons => cases h
    | nil =>
      cases kws with
      | cons => cases h
      | nil =>
        have h : (if decide (m = "items") && baseB a && (ap.endLine == pos.line) && isTup tg then some [a] else none) = some es := h
        split at h
        · rename_i hc
          cases h
          obtain ⟨hc, h4⟩ := b2 hc
          obtain ⟨hc, h3⟩ := b2 hc
          obtain ⟨h1, h2⟩ := b2 hc
          cases of_decide_eq_true h1
          cases tg <;> first | (cases h4; done) | skip
          cases sl with
          | cons s t =>
            cases t
            exact sndI_itm g s h2 h3
        · cases h
end
end Sim
end
section
set_option Elab.async false
set_option linter.all false
set_option maxRecDepth 100000
set_option maxHeartbeats 2000000
/-! The Sim layer, X: every expression that was looked at. -/
namespace Sim
open PySem PySem.Spec PyProof.Rows L2
theorem chk_and {T : Tab} {N : List Str} {sc : Scope} {a b : C} {ea eb : Expr} {r : List Expr} {pos : Pos} (h : chk T N sc (.and a b) (.BoolOp .And (ea :: eb :: r) pos) = true) : chk T N sc a ea = true ∧ ((r = [] ∧ chk T N sc b eb = true) ∨ chk T N sc b (.BoolOp .And (eb :: r) pos) = true) := by
  cases r with
  | nil =>
    have h : (chk T N sc a ea && chk T N sc b eb) = true := h
    exact ⟨(b2 h).1, .inl ⟨rfl, (b2 h).2⟩⟩
  | cons x r =>
    have h : (chk T N sc a ea && chk T N sc b (.BoolOp .And (eb :: x :: r) pos)) = true := h
    exact ⟨(b2 h).1, .inr (b2 h).2⟩
theorem chk_or {T : Tab} {N : List Str} {sc : Scope} {a b : C} {ea eb : Expr} {r : List Expr} {pos : Pos} (h : chk T N sc (.or a b) (.BoolOp .Or (ea :: eb :: r) pos) = true) : chk T N sc a ea = true ∧ ((r = [] ∧ chk T N sc b eb = true) ∨ chk T N sc b (.BoolOp .Or (eb :: r) pos) = true) := by
  cases r with
  | nil =>
    have h : (chk T N sc a ea && chk T N sc b eb) = true := h
    exact ⟨(b2 h).1, .inl ⟨rfl, (b2 h).2⟩⟩
  | cons x r =>
    have h : (chk T N sc a ea && chk T N sc b (.BoolOp .Or (eb :: x :: r) pos)) = true := h
    exact ⟨(b2 h).1, .inr (b2 h).2⟩
theorem inv_bool {T : Tab} {N : List Str} {sc : Scope} {a b : C} {e : Expr} (h : chk T N sc (.and a b) e = true) : ∃ ea eb r pos, e = .BoolOp .And (ea :: eb :: r) pos := by
  cases e <;> first | (cases h; done) | skip
  rename_i op es pos
  cases op <;> first | (cases h; done) | skip
  cases es with
  | nil => cases h
  | cons a es =>
    cases es with
    | nil => cases h
    | cons b es => exact ⟨_, _, _, _, rfl⟩
theorem inv_boolO {T : Tab} {N : List Str} {sc : Scope} {a b : C} {e : Expr} (h : chk T N sc (.or a b) e = true) : ∃ ea eb r pos, e = .BoolOp .Or (ea :: eb :: r) pos := by
  cases e <;> first | (cases h; done) | skip
  rename_i op es pos
  cases op <;> first | (cases h; done) | skip
  cases es with
  | nil => cases h
  | cons a es =>
    cases es with
    | nil => cases h
    | cons b es => exact ⟨_, _, _, _, rfl⟩
theorem inv_cmp {T : Tab} {N : List Str} {sc : Scope} {op : CO} {a b : C} {e : Expr} (h : chk T N sc (.cmp op a b) e = true) : ∃ ea op' eb pos, e = .Compare ea [op'] [eb] pos := by
  cases e <;> first | (cases h; done) | skip
  rename_i ea ops es pos
  cases ops with
  | nil => cases h
  | cons o ops =>
    cases ops with
    | cons => cases h
    | nil =>
      cases es with
      | nil => cases h
      | cons b es =>
        cases es with
        | cons => cases h
        | nil => exact ⟨_, _, _, _, rfl⟩
theorem inv_chn {T : Tab} {N : List Str} {sc : Scope} {op op2 : CO} {a b d : C} {e : Expr} (h : chk T N sc (.chn op op2 a b d) e = true) : ∃ ea o1 o2 eb ed pos, e = .Compare ea [o1, o2] [eb, ed] pos := by
  cases e <;> first | (cases h; done) | skip
  rename_i ea ops es pos
  cases ops with
  | nil => cases h
  | cons o ops =>
    cases ops with
    | nil => cases h
    | cons o2 ops =>
      cases ops with
      | cons => cases h
      | nil =>
        cases es with
        | nil => cases h
        | cons b es =>
          cases es with
          | nil => cases h
          | cons d es =>
            cases es with
            | cons => cases h
            | nil => exact ⟨_, _, _, _, _, _, rfl⟩
theorem inv_un {T : Tab} {N : List Str} {sc : Scope} {q a : C} {e : Expr} (hq : q = .neg a ∨ q = .nt a) (h : chk T N sc q e = true) : ∃ op ea pos, e = .UnaryOp op ea pos ∧ chk T N sc a ea = true ∧ ((q = .neg a ∧ op = .USub) ∨ (q = .nt a ∧ op = .Not)) := by
  rcases hq with rfl | rfl
  · cases e <;> first | (cases h; done) | skip
    rename_i op ea pos
    cases op <;> first | (cases h; done) | exact ⟨_, _, _, rfl, h, .inl ⟨rfl, rfl⟩⟩
  · cases e <;> first | (cases h; done) | skip
    rename_i op ea pos
    cases op <;> first | (cases h; done) | exact ⟨_, _, _, rfl, h, .inr ⟨rfl, rfl⟩⟩
theorem inv_slc {T : Tab} {N : List Str} {sc : Scope} {live : Bool} {a : C} {lo hi : List C} {e : Expr} (h : chk T N sc (.slc live a lo hi) e = true) : ∃ ea lo' hi' p pos, e = .Subscript ea (.Slice lo' hi' none p) pos := by
  cases e <;> first | (cases h; done) | skip
  rename_i ea i pos
  cases i <;> first | (cases h; done) | skip
  rename_i lo' hi' st p
  cases st with
  | some => cases h
  | none => exact ⟨_, _, _, _, _, rfl⟩
theorem inv_cat {T : Tab} {N : List Str} {sc : Scope} {live : Bool} {a b : C} {e : Expr} (h : chk T N sc (.cat live a b) e = true) : ∃ ea eb pos, e = .BinOp ea .Add eb pos := by
  cases e <;> first | (cases h; done) | skip
  rename_i ea op eb pos
  cases op <;> first | (cases h; done) | exact ⟨_, _, _, rfl⟩
theorem inv_cmpr {T : Tab} {N : List Str} {sc : Scope} {live : Bool} {own : List (Str × Nat)} {tg : Tg} {ik : IK} {ia ifs : List C} {q : C} {e : Expr} (h : chk T N sc (.cmpr live own tg ik ia ifs q) e = true) : ∃ elt tg' it ifs' scope pos es, e = .ListComp elt [⟨tg', it, ifs', 0⟩] scope pos ∧
    blkC N sc scope own = true ∧ tgIn (own.map (·.2)) tg = true ∧ chkT N (locBk scope sc) tg tg' = true ∧ itEs sc ik tg' it = some es ∧ chks T N sc ia es = true ∧ ifs'.length ≤ 1 ∧ ifs'.all tstB = true ∧ chks T N (relS scope sc) ifs ifs' = true ∧ chk T N (relS scope sc) q elt = true := by
  cases e <;> first | (cases h; done) | skip
  rename_i elt gs scope pos
  cases gs with
  | nil => cases h
  | cons g gs =>
    obtain ⟨tg', it, ifs', as⟩ := g
    cases gs with
    | cons => cases h
    | nil =>
      have h : (decide (as = 0) && blkC N sc scope own && tgIn (own.map (·.2)) tg && chkT N (locBk scope sc) tg tg' && (match itEs sc ik tg' it with
        | some es => chks T N sc ia es
        | none => false) && decide (ifs'.length ≤ 1) && ifs'.all tstB && chks T N (relS scope sc) ifs ifs' && chk T N (relS scope sc) q elt) = true := h
      obtain ⟨h, h9⟩ := b2 h
      obtain ⟨h, h8⟩ := b2 h
      obtain ⟨h, h7⟩ := b2 h
      obtain ⟨h, h6⟩ := b2 h
      obtain ⟨h, h5⟩ := b2 h
      obtain ⟨h, h4⟩ := b2 h
      obtain ⟨h, h3⟩ := b2 h
      obtain ⟨h1, h2⟩ := b2 h
      cases of_decide_eq_true h1
      cases ei : itEs sc ik tg' it with
      | none => rw [ei] at h5; cases h5
      | some es =>
        rw [ei] at h5
        exact ⟨_, _, _, _, _, _, es, rfl, h2, h3, h4, ei, h5, of_decide_eq_true h6, h7, h8, h9⟩
theorem inv_dcmp {T : Tab} {N : List Str} {sc : Scope} {live : Bool} {own : List (Str × Nat)} {tg : Tg} {ik : IK} {ia : List C} {kq vq : C} {e : Expr} (h : chk T N sc (.dcmp live own tg ik ia kq vq) e = true) : ∃ ke ve tg' it scope pos es, e = .DictComp ke ve [⟨tg', it, [], 0⟩] scope pos ∧
    blkC N sc scope own = true ∧ tgIn (own.map (·.2)) tg = true ∧ chkT N (locBk scope sc) tg tg' = true ∧ itEs sc ik tg' it = some es ∧ chks T N sc ia es = true ∧ chk T N (relS scope sc) kq ke = true ∧ chk T N (relS scope sc) vq ve = true := by
  cases e <;> first | (cases h; done) | skip
  rename_i ke ve gs scope pos
  cases gs with
  | nil => cases h
  | cons g gs =>
    obtain ⟨tg', it, ifs', as⟩ := g
    cases gs with
    | cons => cases h
    | nil =>
      have h : (decide (as = 0) && ifs'.isEmpty && blkC N sc scope own && tgIn (own.map (·.2)) tg && chkT N (locBk scope sc) tg tg' && (match itEs sc ik tg' it with
        | some es => chks T N sc ia es
        | none => false) && chk T N (relS scope sc) kq ke && chk T N (relS scope sc) vq ve) = true := h
      obtain ⟨h, h8⟩ := b2 h
      obtain ⟨h, h7⟩ := b2 h
      obtain ⟨h, h5⟩ := b2 h
      obtain ⟨h, h4⟩ := b2 h
      obtain ⟨h, h3⟩ := b2 h
      obtain ⟨h, h2⟩ := b2 h
      obtain ⟨h1, h0⟩ := b2 h
      cases of_decide_eq_true h1
      cases ifs' with
      | cons => cases h0
      | nil =>
        cases ei : itEs sc ik tg' it with
        | none => rw [ei] at h5; cases h5
        | some es =>
          rw [ei] at h5
          exact ⟨_, _, _, _, _, _, es, rfl, h2, h3, h4, ei, h5, h7, h8⟩
theorem inv_srt {T : Tab} {N : List Str} {sc : Scope} {live : Bool} {a : C} {e : Expr} (h : chk T N sc (.srt live a) e = true) : ∃ x p y p2 ea q2 pos, e = .Call (.Name x p) [.Call (.Name y p2) [ea] [] q2] [] pos := by
  cases e <;> first | (cases h; done) | skip
  rename_i fn args kws pos
  cases fn <;> first | (cases h; done) | skip
  cases args with
  | nil => cases h
  | cons e1 args =>
    cases e1 <;> first | (cases h; done) | skip
    rename_i fn2 args2 kws2 pos2
    cases fn2 <;> first | (cases h; done) | skip
    cases args2 with
    | nil => cases h
    | cons ea args2 =>
      cases args2 with
      | cons => cases h
      | nil =>
        cases kws2 with
        | cons => cases h
        | nil =>
          cases args with
          | cons => cases h
          | nil =>
            cases kws with
            | cons => cases h
            | nil => exact ⟨_, _, _, _, _, _, _, rfl⟩
theorem snd_fz {T : Tab} {c : Ct} {cal : Cal} {X : Cx} {a : C} {e : Expr} (s : SndE T c cal X a e) : SndE T c cal X (.fz a) e := by
  intro hid ρ lh H σ env Q W tk st re ho
  refine s.use tk st re (f := fun x h => match frz 9 x h with | some (y, h') => .ok (.p y) h' | none => .bad) ho fun v H1 ρ1 d lh1 st1 ex1 r1 re1 ho1 => ?_
  split at ho1
  · rename_i y lh2 ef
    obtain ⟨st2, ex2, r2⟩ := frz_ok 9 _ _ _ _ _ st1 r1 ef
    exact ho1 v H1 ρ1 st2 ex2 r2
  · exact ho1.elim
theorem sndT_fz {T : Tab} {c : Ct} {cal : Cal} {X : Cx} {a : C} {e : Expr} (s : SndT T c cal X a e) : SndT T c cal X (.fz a) e := by
  intro hid ρ lh H σ env Q W tk st re ho
  refine s hid ρ lh H σ env Q W tk st re ?_
  have ho : OutB c hid ρ lh H Q (fun cls d H' => W cls d σ H') ((ev T cal a env lh).bind fun x h => match frz 9 x h with | some (y, h') => .ok (.p y) h' | none => .bad) := ho
  cases er : ev T cal a env lh with
  | bad => rw [er] at ho; exact ho
  | exc e1 lh1 => rw [er] at ho; exact ho
  | ok d lh1 =>
    rw [er] at ho
    have ho : OutB c hid ρ lh H Q (fun cls d H' => W cls d σ H') (match frz 9 d lh1 with | some (y, h') => .ok (.p y) h' | none => .bad) := ho
    cases d with
    | p d => exact ho
    | ref n =>
      split at ho
      · rename_i y lh2 ef
        exfalso
        have : ∃ z, (y = .lst z) ∨ (∃ w, y = .dct w) ∨ ∃ i w, y = .obj i w := by
          unfold frz at ef
          split at ef
          · cases ef; exact ⟨_, .inl rfl⟩
          · split at ef
            · split at ef
              · cases ef; exact ⟨[], .inr (.inl ⟨_, rfl⟩)⟩
              · cases ef
            · cases ef
          · split at ef
            · split at ef
              · cases ef; exact ⟨[], .inr (.inr ⟨_, _, rfl⟩)⟩
              · cases ef
            · cases ef
          · cases ef
        obtain ⟨z, rfl | ⟨w, rfl⟩ | ⟨i, w, rfl⟩⟩ := this
        · exact ho
        · exact ho
        · exact ho
      · exact ho.elim
mutual
theorem sndC {T : Tab} {c : Ct} {k : Nat} : ∀ (q : C) {N : List Str} {sc : Scope} {X : Cx} {e : Expr}, GX T c k N sc X → chk T N sc q e = true → Both T c k X q e
  | .var i, N, sc, X, e, g, h => by
    obtain ⟨x, pos, rfl⟩ : ∃ x pos, e = .Name x pos := by cases e <;> first | (cases h; done) | exact ⟨_, _, rfl⟩
    exact .plain rfl (snd_var g h)
  | .cst v, N, sc, X, e, g, h => by
    obtain ⟨x, j, pos, rfl⟩ : ∃ x j pos, e = .Constant x j pos := by cases e <;> first | (cases h; done) | exact ⟨_, _, _, rfl⟩
    exact .plain rfl (snd_cst h)
  | .glb i, N, sc, X, e, g, h => by
    obtain ⟨x, pos, rfl⟩ : ∃ x pos, e = .Name x pos := by cases e <;> first | (cases h; done) | exact ⟨_, _, rfl⟩
    exact .plain rfl (snd_glb g h)
  | .tup qs, N, sc, X, e, g, h => by
    obtain ⟨es, j, pos, rfl⟩ : ∃ x j pos, e = .Tuple x j pos := by cases e <;> first | (cases h; done) | exact ⟨_, _, _, rfl⟩
    have h : (decide (qs.length ≤ 1000) && chks T N sc qs es) = true := h
    exact .plain rfl (snd_tup ((sndCs qs g (b2 h).2).args (chks_plain (b2 h).2).1) (of_decide_eq_true (b2 h).1))
  | .lst live qs, N, sc, X, e, g, h => by
    obtain ⟨es, pos, rfl⟩ : ∃ x pos, e = .List x pos := by cases e <;> first | (cases h; done) | exact ⟨_, _, rfl⟩
    have h : (decide (qs.length ≤ 1000) && chks T N sc qs es) = true := h
    exact .plain rfl (snd_lst ((sndCs qs g (b2 h).2).args (chks_plain (b2 h).2).1) (of_decide_eq_true (b2 h).1))
  | .star a, N, sc, X, e, g, h => by cases e <;> cases h
  | .fz a, N, sc, X, e, g, h => by
    have h : chk T N sc a e = true := h
    obtain ⟨s1, t1⟩ := sndC a g h
    exact ⟨snd_fz s1, fun ht => sndT_fz (t1 ht)⟩
  | .dct live ks vs, N, sc, X, e, g, h => by
    obtain ⟨ks', es, pos, rfl⟩ : ∃ x j pos, e = .Dict x j pos := by cases e <;> first | (cases h; done) | exact ⟨_, _, _, rfl⟩
    have h : (keyB ks ks' && decide (ks.length = vs.length) && decide (ks.length ≤ 15) && chks T N sc vs es) = true := h
    exact .plain rfl (snd_dct g (b2 h).1 (sndCs vs g (b2 h).2))
  | .cat live a b, N, sc, X, e, g, h => by
    obtain ⟨ea, eb, pos, rfl⟩ := inv_cat h
    have h : (chk T N sc a ea && chk T N sc b eb) = true := h
    exact .plain rfl (snd_cat g (sndC a g (b2 h).1).1 (sndC b g (b2 h).2).1)
  | .dctU live d q1 q2, N, sc, X, e, g, h => by cases e <;> cases h
  | .bin op a b, N, sc, X, e, g, h => by
    obtain ⟨ea, op', eb, pos, rfl⟩ : ∃ x o y pos, e = .BinOp x o y pos := by cases e <;> first | (cases h; done) | exact ⟨_, _, _, _, rfl⟩
    have h : (bopB op op' && chk T N sc a ea && chk T N sc b eb) = true := h
    exact .plain rfl (snd_bin (b2 (b2 h).1).1 (sndC a g (b2 (b2 h).1).2).1 (sndC b g (b2 h).2).1)
  | .neg a, N, sc, X, e, g, h => by
    obtain ⟨op, ea, pos, rfl, h, ⟨_, rfl⟩ | ⟨z, _⟩⟩ := inv_un (.inl rfl) h
    · exact .plain rfl (snd_neg (sndC a g h).1)
    · cases z
  | .nt a, N, sc, X, e, g, h => by
    obtain ⟨op, ea, pos, rfl, h, ⟨z, _⟩ | ⟨_, rfl⟩⟩ := inv_un (.inr rfl) h
    · cases z
    · obtain ⟨s1, s2⟩ := sndC a g h
      exact ⟨snd_nt s1, fun ht => sndT_nt (s2 ht)⟩
  | .cmp op a b, N, sc, X, e, g, h => by
    obtain ⟨ea, op', eb, pos, rfl⟩ := inv_cmp h
    have h : (copB op op' && !isSetE eb && chk T N sc a ea && chk T N sc b eb) = true := h
    obtain ⟨h, h4⟩ := b2 h
    obtain ⟨h, h3⟩ := b2 h
    obtain ⟨h1, h2⟩ := b2 h
    exact ⟨snd_cmp g h1 (bn h2) (sndC a g h3).1 (sndC b g h4).1, fun _ => sndT_cmp g h1 (bn h2) (sndC a g h3).1 (sndC b g h4).1⟩
  | .chn op1 op2 a b d, N, sc, X, e, g, h => by
    obtain ⟨ea, o1, o2, eb, ed, pos, rfl⟩ := inv_chn h
    have h : (copB op1 o1 && copB op2 o2 && !isSetE ed && chk T N sc a ea && chk T N sc b eb && chk T N sc d ed) = true := h
    obtain ⟨h, h6⟩ := b2 h
    obtain ⟨h, h5⟩ := b2 h
    obtain ⟨h, h4⟩ := b2 h
    obtain ⟨h, h3⟩ := b2 h
    obtain ⟨h1, h2⟩ := b2 h
    exact ⟨snd_chn g h1 h2 (bn h3) (sndC a g h4).1 (sndC b g h5).1 (sndC d g h6).1, fun _ => sndT_chn g h1 h2 (bn h3) (sndC a g h4).1 (sndC b g h5).1 (sndC d g h6).1⟩
  | .and a b, N, sc, X, e, g, h => by
    obtain ⟨ea, eb, r, pos, rfl⟩ := inv_bool h
    obtain ⟨h1, h2⟩ := chk_and h
    obtain ⟨s1, t1⟩ := sndC a g h1
    rcases h2 with ⟨rfl, h2⟩ | h2
    · obtain ⟨s2, t2⟩ := sndC b g h2
      refine ⟨snd_and s1 (snd_one s2), fun ht => ?_⟩
      have ht : (tstB ea && (tstB eb && true)) = true := ht
      exact sndT_and (t1 (b2 ht).1) (sndT_one (t2 (b2 (b2 ht).2).1))
    · obtain ⟨s2, t2⟩ := sndC b g h2
      refine ⟨snd_and s1 s2, fun ht => ?_⟩
      have ht : (tstB ea && tstB (.BoolOp .And (eb :: r) pos)) = true := ht
      exact sndT_and (t1 (b2 ht).1) (t2 (b2 ht).2)
  | .or a b, N, sc, X, e, g, h => by
    obtain ⟨ea, eb, r, pos, rfl⟩ := inv_boolO h
    obtain ⟨h1, h2⟩ := chk_or h
    obtain ⟨s1, t1⟩ := sndC a g h1
    rcases h2 with ⟨rfl, h2⟩ | h2
    · obtain ⟨s2, t2⟩ := sndC b g h2
      refine ⟨snd_or s1 (snd_one s2), fun ht => ?_⟩
      have ht : (tstB ea && (tstB eb && true)) = true := ht
      exact sndT_or (t1 (b2 ht).1) (sndT_one (t2 (b2 (b2 ht).2).1))
    · obtain ⟨s2, t2⟩ := sndC b g h2
      refine ⟨snd_or s1 s2, fun ht => ?_⟩
      have ht : (tstB ea && tstB (.BoolOp .Or (eb :: r) pos)) = true := ht
      exact sndT_or (t1 (b2 ht).1) (t2 (b2 ht).2)
  | .ite d a b, N, sc, X, e, g, h => by
    obtain ⟨ed, ea, eb, pos, rfl⟩ : ∃ x o y pos, e = .IfExp x o y pos := by cases e <;> first | (cases h; done) | exact ⟨_, _, _, _, rfl⟩
    have h : (tstB ed && chk T N sc d ed && chk T N sc a ea && chk T N sc b eb) = true := h
    obtain ⟨h, h4⟩ := b2 h
    obtain ⟨h, h3⟩ := b2 h
    obtain ⟨h1, h2⟩ := b2 h
    exact ⟨snd_ite ((sndC d g h2).2 h1) (sndC a g h3).1 (sndC b g h4).1, fun z => by cases z⟩
  | .att a f, N, sc, X, e, g, h => by
    obtain ⟨ea, f', pos, rfl⟩ : ∃ x j pos, e = .Attribute x j pos := by cases e <;> first | (cases h; done) | exact ⟨_, _, _, rfl⟩
    have h : (decide (f = f') && baseB ea && chk T N sc a ea) = true := h
    obtain ⟨h, h3⟩ := b2 h
    obtain ⟨h1, h2⟩ := b2 h
    cases of_decide_eq_true h1
    exact .plain rfl (snd_att g h2 (sndC a g h3).1)
  | .idx a i, N, sc, X, e, g, h => by
    obtain ⟨ea, ei, pos, rfl⟩ : ∃ x j pos, e = .Subscript x j pos := by cases e <;> first | (cases h; done) | exact ⟨_, _, _, rfl⟩
    have h : (!isSlc ei && chk T N sc a ea && chk T N sc i ei) = true := h
    exact .plain rfl (snd_idx g (bn (b2 (b2 h).1).1) (sndC a g (b2 (b2 h).1).2).1 (sndC i g (b2 h).2).1)
  | .slc live a lo hi, N, sc, X, e, g, h => by
    obtain ⟨ea, lo', hi', p, pos, rfl⟩ := inv_slc h
    have h : (chk T N sc a ea && chks T N sc lo lo'.toList && chks T N sc hi hi'.toList) = true := h
    exact .plain rfl (snd_slc g (sndC a g (b2 (b2 h).1).1).1 (sndCs lo g (b2 (b2 h).1).2) (sndCs hi g (b2 h).2))
  | .rev a, N, sc, X, e, g, h => by cases e <;> cases h
  | .cal f pu qs, N, sc, X, e, g, h => by
    obtain ⟨x, p, es, pos, rfl⟩ := inv_call rfl h
    have h2 : chks T N sc qs es = true := (b2 (show (((match T.fns[f]? with | some q => decide (q.name = x) && q.cls.isNone | none => false) && glbB sc x && nmB x) && chks T N sc qs es) = true from h)).2
    exact .plain rfl (snd_cal g h ((sndCs qs g h2).args (chks_plain h2).1))
  | .mk j fz qs, N, sc, X, e, g, h => by
    obtain ⟨x, p, es, pos, rfl⟩ := inv_call rfl h
    have h2 : chks T N sc qs es = true := (b2 (show ((nmIs (T.kls[j]?.map (·.name)) x && glbB sc x && nmB x) && chks T N sc qs es) = true from h)).2
    exact .plain rfl (snd_mk g h ((sndCs qs g h2).args (chks_plain h2).1))
  | .met m pu a qs, N, sc, X, e, g, h => by
    obtain ⟨ea, ap, es, pos, rfl⟩ := inv_met h
    have h2 : (((decide (m = m) && baseB ea && (ap.endLine == pos.line) && decide (es.length < 20)) && chk T N sc a ea) && chks T N sc qs es) = true := h
    exact .plain rfl (snd_met g h (sndC a g (b2 (b2 h2).1).2).1 ((sndCs qs g (b2 h2).2).args (chks_plain (b2 h2).2).1))
  | .prp m a, N, sc, X, e, g, h => by cases e <;> cases h
  | .bf b live qs, N, sc, X, e, g, h => by
    obtain ⟨x, p, es, pos, rfl⟩ := inv_call rfl h
    have h2 : chks T N sc qs es = true := (b2 (show ((nmIs (bfNm b) x && glbB sc x && nmB x && !es.isEmpty) && chks T N sc qs es) = true from h)).2
    exact .plain rfl (snd_bf g h ((sndCs qs g h2).args (chks_plain h2).1))
  | .bm m a qs, N, sc, X, e, g, h => by cases e <;> cases h
  | .srt live a, N, sc, X, e, g, h => by
    obtain ⟨x, p, y, p2, ea, q2, pos, rfl⟩ := inv_srt h
    have h : (decide (x = "sorted") && glbB sc x && decide (y = "set") && glbB sc y && !isStar ea && chk T N sc a ea) = true := h
    obtain ⟨h, h6⟩ := b2 h
    obtain ⟨h, h5⟩ := b2 h
    obtain ⟨h, h4⟩ := b2 h
    obtain ⟨h, h3⟩ := b2 h
    obtain ⟨h1, h2⟩ := b2 h
    have h1 : x = "sorted" := of_decide_eq_true h1
    have h3 : y = "set" := of_decide_eq_true h3
    subst h1 h3
    exact .plain rfl (snd_srt g h2 h4 (bn h5) (sndC a g h6).1)
  | .isi a t, N, sc, X, e, g, h => by
    obtain ⟨x, p, es, pos, rfl⟩ := inv_call rfl h
    obtain ⟨ea, y, p2, rfl⟩ := inv_isi h
    have h2 : (decide (x = "isinstance") && nmIs (tyNm T t) y && (tyS t).isSome && glbB sc x && glbB sc y && nmB y && !isStar ea && chk T N sc a ea) = true := h
    exact .plain rfl (snd_isi g h (b2 (b2 (b2 (b2 (b2 (b2 h2).1).1).1).1).1).2 (sndC a g (b2 h2).2).1)
  | .cmpr live own tg ik ia ifs q, N, sc, X, e, g, h => by
    obtain ⟨elt, tg', it, ifs', scope, pos, es, rfl, h1, h2, h3, h4, h5, h6, h7, h8, h9⟩ := inv_cmpr h
    refine .plain rfl (snd_cmpr g (walk_of g h4 (chks_plain h5).1 (sndCs ia g h5)) h1 h2 h3 (itEs_inv h4) (fun s0 H0 C cl fp => ?_) (fun s0 H0 C cl fp => (sndC q (g.blk scope s0 H0 C cl fp) h9).1))
    exact sndTsC ifs (g.blk scope s0 H0 C cl fp) h8 h6 h7
  | .cmpr2 _ _ _ _ _ _ _ _ _ _, N, sc, X, e, g, h => by cases e <;> cases h
  | .dcmp live own tg ik ia kq vq, N, sc, X, e, g, h => by
    obtain ⟨ke, ve, tg', it, scope, pos, es, rfl, h1, h2, h3, h4, h5, h6, h7⟩ := inv_dcmp h
    exact .plain rfl (snd_dcmp g (walk_of g h4 (chks_plain h5).1 (sndCs ia g h5)) h1 h2 h3 (itEs_inv h4) (fun s0 H0 C cl fp => (sndC kq (g.blk scope s0 H0 C cl fp) h6).1) (fun s0 H0 C cl fp => (sndC vq (g.blk scope s0 H0 C cl fp) h7).1))
theorem sndCs {T : Tab} {c : Ct} {k : Nat} : ∀ (qs : List C) {N : List Str} {sc : Scope} {X : Cx} {es : List Expr}, GX T c k N sc X → chks T N sc qs es = true → SndL T c (callD T k) X qs es
  | [], N, sc, X, es, g, h => by
    cases es with
    | nil => exact .nil
    | cons => cases h
  | q :: qs, N, sc, X, es, g, h => by
    cases es with
    | nil => cases h
    | cons e es =>
      have h : (!isStar e && chk T N sc q e && chks T N sc qs es) = true := h
      exact .cons (sndC q g (b2 (b2 h).1).2).1 (sndCs qs g (b2 h).2)
theorem sndTsC {T : Tab} {c : Ct} {k : Nat} : ∀ (qs : List C) {N : List Str} {sc : Scope} {X : Cx} {es : List Expr}, GX T c k N sc X → chks T N sc qs es = true → es.length ≤ 1 → es.all tstB = true → SndTs T c (callD T k) X qs es
  | [], N, sc, X, es, g, h, hl, ht => by
    cases es with
    | nil => exact sndTs_nil
    | cons => cases h
  | q :: qs, N, sc, X, es, g, h, hl, ht => by
    cases es with
    | nil => cases h
    | cons e es =>
      have h : (!isStar e && chk T N sc q e && chks T N sc qs es) = true := h
      cases es with
      | cons => simp at hl
      | nil =>
        cases qs with
        | cons => cases (b2 h).2
        | nil =>
          simp only [List.all_cons, List.all_nil, Bool.and_true] at ht
          exact sndTs_one ((sndC q g (b2 (b2 h).1).2).2 ht)
end
end Sim
end
section
set_option Elab.async false
set_option linter.all false
set_option maxRecDepth 100000
set_option maxHeartbeats 2000000
/-! The Sim layer, Y: every statement that was looked at. -/
namespace Sim
open PySem PySem.Spec PyProof.Rows L2
theorem swap2 {env : Env} {x y : Str} {px py pt pt2 : Pos} {kt k2 : Nat} {a b : Expr} (hk : env.scope.kind = .function) (hx : env.scope.names.lookup x = some .local) (hy : env.scope.names.lookup y = some .local) (hl : (py.line == px.line) = true) (hxy : x ≠ y) (ha : isStar a = false) (hb : isStar b = false)
    (hf : (foldedForSure 8 a && foldedForSure 8 b) = false) (hc : (constantsAlone 8 a && constantsAlone 8 b) = false) : swappedStores [.Tuple [.Name x px, .Name y py] kt pt] (.Tuple [a, b] k2 pt2) env = pure (some [x, y]) := by
  have hbk : env.blockKind = .function := by unfold Env.blockKind; rw [hk]; rfl
  have kx : env.kindOf x = some .local := hx
  have ky : env.kindOf y = some .local := hy
  have hf' : ([a, b].all (foldedForSure 8)) = false := by simpa using hf
  have hc' : ([a, b].all (constantsAlone 8)) = false := by simpa using hc
  have hd : ([x, y].eraseDups.length != [x, y].length) = false := by
    have : [x, y].eraseDups = [x, y] := by
      simp [List.eraseDups_cons, Ne.symm hxy]
    rw [this]
    rfl
  unfold swappedStores
  simp only [hbk]
  refine (if_neg (by simp)).trans ?_
  refine (if_neg ?_).trans ?_
  · intro q
    simp only [List.any_cons, List.any_nil, Bool.or_false, Bool.or_eq_true] at q
    rcases q with q | q
    · cases a <;> first | (cases q; done) | (cases ha; done)
    · cases b <;> first | (cases q; done) | (cases hb; done)
  have e1 : ∀ {f : Expr → Option Str}, f (.Name x px) = some x → f (.Name y py) = some y → [Expr.Name x px, .Name y py].filterMap f = [x, y] := fun h1 h2 => by
    rw [List.filterMap_cons_some h1, List.filterMap_cons_some h2]
    rfl
  rw [e1 (by simp [kx]; rfl) (by simp [ky]; exact eq_of_beq hl)]
  refine (if_neg ?_).trans ?_
  · rw [hd]
    exact Bool.false_ne_true
  refine (if_neg ?_).trans ?_
  · rw [hf']
    exact Bool.false_ne_true
  refine (if_neg ?_).trans ?_
  · rw [hc']
    exact Bool.false_ne_true
  rfl
def funB (sc : Scope) : Bool := match sc.kind with
  | .function => true
  | _ => false
def swapB (sc : Scope) (y : Str) (py p : Pos) (scope : Scope) : Bool := (sc.names.lookup y == some .local) && (py.line == p.line) && !(scope.names.any fun (n, k) => n == y && (k == .local || k == .cell))
theorem swaps_lc {env : Env} {sc scope : Scope} {y : Str} {py p : Pos} {elt : Expr} {gs : List Comprehension} {l : Nat} (he : env.scope = sc) (hf : funB sc = true) : swapsWith (.ListComp elt gs scope p) (some (.Name y py)) l env = pure (swapB sc y py p scope) := by
  have hk : env.scope.kind = .function := by
    rw [he]
    unfold funB at hf
    split at hf
    · assumption
    · cases hf
  have hbk : env.blockKind = .function := by unfold Env.blockKind; rw [hk]; rfl
  show (pure (env.blockKind == .function && env.kindOf y == some .local && py.line == p.line && !(scope.names.any fun (n, k) => n == y && (k == .local || k == .cell))) : Sem Bool) = _
  rw [hbk]
  unfold Env.kindOf swapB
  rw [he]
  rfl
/-- a target that is no local name -/
def cellB (sc : Scope) : Expr → Bool
  | .Name x _ => !(sc.names.lookup x == some .local)
  | _ => false
theorem fm_lt {α β : Type} {f : α → Option β} : ∀ {l : List α}, (∃ a ∈ l, f a = none) → (l.filterMap f).length < l.length
  | [], h => by obtain ⟨a, h, _⟩ := h; simp at h
  | b :: l, h => by
    obtain ⟨a, h, e⟩ := h
    have le := List.length_filterMap_le f l
    cases eb : f b with
    | none =>
      rw [List.filterMap_cons_none eb]
      exact Nat.lt_succ_of_le le
    | some z =>
      rw [List.filterMap_cons_some eb]
      rcases List.mem_cons.mp h with rfl | h
      · rw [e] at eb; cases eb
      · exact Nat.succ_lt_succ (fm_lt ⟨a, h, e⟩)
theorem swap_none {env : Env} {sc : Scope} {ts vs : List Expr} {k1 k2 : Nat} {p1 p2 : Pos} (he : env.scope = sc) (h : ts.any (cellB sc) = true) : swappedStores [.Tuple ts k1 p1] (.Tuple vs k2 p2) env = pure none := by
  obtain ⟨t, ht, hb⟩ := List.any_eq_true.mp h
  unfold swappedStores
  simp only
  by_cases c1 : (!(ts.length == 2 || ts.length == 3) || vs.length != ts.length || env.blockKind != .function) = true
  · rw [if_pos c1]
  rw [if_neg c1]
  refine (apply_ite (fun z : Sem (Option (List Str)) => z = pure none) _ _ _).mpr ?_
  split
  · rfl
  refine (if_pos ?_).trans rfl
  rw [Bool.or_eq_true]
  left
  have := fm_lt (f := fun
    | .Name id pos => if env.kindOf id == some .local && pos.line == (ts.head?.map (·.pos.line)).getD 0 then some id else none
    | _ => none) (l := ts) ⟨t, ht, by
      cases t <;> first | (cases hb; done) | skip
      rename_i x pos
      have hb : (!(sc.names.lookup x == some .local)) = true := hb
      have hb := bn hb
      have e : (env.kindOf x == some .local) = false := by
        unfold Env.kindOf
        rw [he]
        exact hb
      simp only [e, Bool.false_and]
      rfl⟩
  simp only [bne_iff_ne, ne_eq]
  exact Nat.ne_of_lt this
/-- how an assignment goes: by the swap, or plainly -/
def asgB (sc : Scope) : Expr → Expr → Option Bool
  | .Name y py, .ListComp _ _ scope p => if funB sc then some (swapB sc y py p scope) else none
  | .Name _ _, .SetComp .. => none
  | .Name _ _, .DictComp .. => none
  | .Name _ _, _ => some false
  | .Tuple ts _ _, .Tuple _ _ _ => if ts.any (cellB sc) then some false else none
  | .Tuple .., _ => some false
  | _, _ => none
theorem asgB_plain {env : Env} {sc : Scope} {tg e : Expr} {l : Nat} (he : env.scope = sc) (h : asgB sc tg e = some false) : swapsWithSole [tg] e l env = pure false ∧ swappedStores [tg] e env = pure none ∧ isStar tg = false := by
  cases tg <;> first | (cases h; done) | skip
  · rename_i y py
    refine ⟨?_, ?_, rfl⟩
    · cases e <;> first | rfl | (cases h; done) | skip
      rename_i elt gs scope p
      have h : (if funB sc then some (swapB sc y py p scope) else none) = some false := h
      split at h
      · rename_i hf
        have z := swaps_lc (elt := elt) (gs := gs) (scope := scope) (y := y) (py := py) (p := p) (l := l) he hf
        rw [Option.some.inj h] at z
        exact z
      · cases h
    · cases e <;> rfl
  · refine ⟨?_, ?_, rfl⟩
    · cases e <;> rfl
    · cases e <;> first | rfl | skip
      rename_i ts k1 p1 vs k2 p2
      have h : (if ts.any (cellB sc) then some false else none) = some false := h
      split at h
      · rename_i hc
        exact swap_none he hc
      · cases h
theorem asgB_swap {sc : Scope} {tg e : Expr} (h : asgB sc tg e = some true) : ∃ y py elt gs scope p, tg = .Name y py ∧ e = .ListComp elt gs scope p := by
  cases tg with
  | Name y py =>
    cases e <;> first | (cases h; done) | exact ⟨_, _, _, _, _, _, rfl, rfl⟩
  | Tuple ts k1 p1 =>
    cases e with
    | Tuple vs k2 p2 =>
      have h : (if ts.any (cellB sc) then some false else none) = some true := h
      split at h <;> cases h
    | _ => cases h
  | _ => cases h
def isCm : C → Bool
  | .cmpr .. => true
  | _ => false
def par2B (sc : Scope) (i j : Nat) (N : List Str) (x y : Str) (px py : Pos) (a b : Expr) : Bool := funB sc && nmIs N[i]? x && nmIs N[j]? y && decide (i ≠ j) && decide (x ≠ y) && decide (sc.names.lookup x = some .local) && decide (sc.names.lookup y = some .local) && (py.line == px.line) && !(foldedForSure 8 a && foldedForSure 8 b) && !(constantsAlone 8 a && constantsAlone 8 b)
section
variable (T : Tab)
mutual
def chkS (N : List Str) (sc : Scope) : S → Stmt → Bool
  | .set tg q, .Assign [tg'] e _ => chk T N sc q e && (match asgB sc tg' e with
    | some false => chkT N (locF sc) tg tg'
    | some true => (match tg, tg' with
      | .nm i, .Name y _ => isCm q && nmIs N[i]? y && decide (sc.names.lookup y = some .local)
      | _, _ => false)
    | none => false)
  | .par [i, j] qs, .Assign [.Tuple [.Name x px, .Name y py] _ _] (.Tuple [a, b] _ _) _ => par2B sc i j N x y px py a b && chks T N sc qs [a, b]
  | .setI o i q, .Assign [.Subscript eo ei _] e _ => !isSlc ei && chk T N sc q e && chk T N sc o eo && chk T N sc i ei
  | .setF o f q, .Assign [.Attribute eo f' _] e _ => decide (f = f') && chk T N sc q e && chk T N sc o eo
  | .aug i op q, .AugAssign (.Name x _) op' e _ => bopB op op' && (match op with
    | .pow => false
    | _ => true) && nmIs N[i]? x && locF sc x && chk T N sc q e
  | .ex q, .Expr e _ => !isCompE e && chk T N sc q e
  | .ret q, .Return (some e) _ => chk T N sc q e
  | .retN, .Return none _ => true
  | .ite q a b, .If e ea eb _ => tstB e && chk T N sc q e && chkSs N sc a ea && chkSs N sc b eb
  | .forS tg ik ia body, .For tg' it bd [] _ => chkT N (locF sc) tg tg' && (match itEs sc ik tg' it with
    | some es => chks T N sc ia es
    | none => false) && chkSs N sc body bd
  | .whl q body, .While e bd [] _ => tstB e && chk T N sc q e && chkSs N sc body bd
  | .rse j qs, .Raise (some (.Call (.Name x _) es [] _)) none _ => nmIs (T.xks[j]?.map (·.name)) x && (match T.xks[j]? with
    | some q => q.rs
    | none => false) && glbB sc x && nmB x && chks T N sc qs es
  | .tryS body hs, .Try bd (h0 :: hds) [] [] _ => chkSs N sc body bd && chkHds T N sc hs (h0 :: hds)
  | .pass, .Pass _ => true
  | .brk, .Break _ => true
  | .cnt, .Continue _ => true
  | _, _ => false
def chkSs (N : List Str) (sc : Scope) : List S → List Stmt → Bool
  | [], [] => true
  | s :: r, s' :: r' => chkS N sc s s' && chkSs N sc r r'
  | _, _ => false
end
end
section
variable {T : Tab} {N : List Str} {sc : Scope} {st : Stmt}
theorem sv_set {tg : Tg} {q : C} (h : chkS T N sc (.set tg q) st = true) : ∃ tg' e pos, st = .Assign [tg'] e pos := by
  cases st <;> first | (cases h; done) | skip
  rename_i tgs e pos
  cases tgs with
  | nil => cases h
  | cons t ts =>
    cases ts with
    | nil => exact ⟨_, _, _, rfl⟩
    | cons => cases h
theorem sv_setI {o i q : C} (h : chkS T N sc (.setI o i q) st = true) : ∃ eo ei p e pos, st = .Assign [.Subscript eo ei p] e pos := by
  cases st <;> first | (cases h; done) | skip
  rename_i tgs e pos
  cases tgs with
  | nil => cases h
  | cons t ts =>
    cases t <;> first | (cases h; done) | skip
    cases ts with
    | nil => exact ⟨_, _, _, _, _, rfl⟩
    | cons => cases h
theorem sv_setF {o q : C} {f : Str} (h : chkS T N sc (.setF o f q) st = true) : ∃ eo f' p e pos, st = .Assign [.Attribute eo f' p] e pos := by
  cases st <;> first | (cases h; done) | skip
  rename_i tgs e pos
  cases tgs with
  | nil => cases h
  | cons t ts =>
    cases t <;> first | (cases h; done) | skip
    cases ts with
    | nil => exact ⟨_, _, _, _, _, rfl⟩
    | cons => cases h
theorem sv_aug {i : Nat} {op : BO} {q : C} (h : chkS T N sc (.aug i op q) st = true) : ∃ x p op' e pos, st = .AugAssign (.Name x p) op' e pos := by
  cases st <;> first | (cases h; done) | skip
  rename_i t op' e pos
  cases t <;> first | (cases h; done) | exact ⟨_, _, _, _, _, rfl⟩
theorem sv_for {tg : Tg} {ik : IK} {ia : List C} {body : List S} (h : chkS T N sc (.forS tg ik ia body) st = true) : ∃ tg' it bd pos, st = .For tg' it bd [] pos := by
  cases st <;> first | (cases h; done) | skip
  rename_i a b d e pos
  cases e with
  | nil => exact ⟨_, _, _, _, rfl⟩
  | cons => cases h
theorem sv_whl {q : C} {body : List S} (h : chkS T N sc (.whl q body) st = true) : ∃ e bd pos, st = .While e bd [] pos := by
  cases st <;> first | (cases h; done) | skip
  rename_i a b e pos
  cases e with
  | nil => exact ⟨_, _, _, rfl⟩
  | cons => cases h
theorem sv_ret {q : C} (h : chkS T N sc (.ret q) st = true) : ∃ e pos, st = .Return (some e) pos := by
  cases st <;> first | (cases h; done) | skip
  rename_i a pos
  cases a with
  | some => exact ⟨_, _, rfl⟩
  | none => cases h
theorem sv_retN (h : chkS T N sc .retN st = true) : ∃ pos, st = .Return none pos := by
  cases st <;> first | (cases h; done) | skip
  rename_i a pos
  cases a with
  | none => exact ⟨_, rfl⟩
  | some => cases h
theorem sv_par {is : List Nat} {qs : List C} (h : chkS T N sc (.par is qs) st = true) : ∃ i j x px y py kt pt a b k2 pt2 pos, is = [i, j] ∧ st = .Assign [.Tuple [.Name x px, .Name y py] kt pt] (.Tuple [a, b] k2 pt2) pos := by
  cases is with
  | nil => cases st <;> cases h
  | cons i is =>
    cases is with
    | nil => cases st <;> cases h
    | cons j is =>
      cases is with
      | cons => cases st <;> cases h
      | nil =>
        cases st <;> first | (cases h; done) | skip
        rename_i tgs e pos
        cases tgs with
        | nil => cases h
        | cons t ts =>
          cases t <;> first | (cases h; done) | skip
          rename_i es kt pt
          cases es with
          | nil => cases h
          | cons x es =>
            cases x <;> first | (cases h; done) | skip
            cases es with
            | nil => cases h
            | cons y es =>
              cases y <;> first | (cases h; done) | skip
              cases es with
              | cons => cases h
              | nil =>
                cases ts with
                | cons => cases h
                | nil =>
                  cases e <;> first | (cases h; done) | skip
                  rename_i vs k2 pt2
                  cases vs with
                  | nil => cases h
                  | cons a vs =>
                    cases vs with
                    | nil => cases h
                    | cons b vs =>
                      cases vs with
                      | cons => cases h
                      | nil => exact ⟨_, _, _, _, _, _, _, _, _, _, _, _, _, rfl, rfl⟩
theorem sv_rse {j : Nat} {qs : List C} (h : chkS T N sc (.rse j qs) st = true) : ∃ x p es cpos pos, st = .Raise (some (.Call (.Name x p) es [] cpos)) none pos := by
  cases st <;> first | (cases h; done) | skip
  rename_i e ca pos
  cases e with
  | none => cases h
  | some e =>
    cases e <;> first | (cases h; done) | skip
    rename_i fn es ks cpos
    cases fn <;> first | (cases h; done) | skip
    cases ks with
    | cons => cases h
    | nil =>
      cases ca with
      | some => cases h
      | none => exact ⟨_, _, _, _, _, rfl⟩
theorem sv_try {body : List S} {hs : List Hd} (h : chkS T N sc (.tryS body hs) st = true) : ∃ bd h0 hds pos, st = .Try bd (h0 :: hds) [] [] pos := by
  cases st <;> first | (cases h; done) | skip
  rename_i bd hds oe fi pos
  cases hds with
  | nil => cases h
  | cons h0 hds =>
    cases oe with
    | cons => cases h
    | nil =>
      cases fi with
      | cons => cases h
      | nil => exact ⟨_, _, _, _, rfl⟩
theorem cmpr_of {q : C} (h : isCm q = true) : ∃ live own tg ik ia ifs e, q = .cmpr live own tg ik ia ifs e := by
  cases q <;> first | (cases h; done) | exact ⟨_, _, _, _, _, _, _, rfl⟩
end
mutual
theorem sndS {T : Tab} {c : Ct} {k : Nat} : ∀ (q : S) {N : List Str} {sc : Scope} {X : Cx} {st : Stmt}, GF T c k N sc X → chkS T N sc q st = true → SndS T c (callD T k) X q st
  | .set tg q, N, sc, X, st, g, h => by
    obtain ⟨tg', e, pos, rfl⟩ := sv_set h
    have h : (chk T N sc q e && (match asgB sc tg' e with
      | some false => chkT N (locF sc) tg tg'
      | some true => (match (generalizing := false) tg, tg' with
        | .nm i, .Name y _ => isCm q && nmIs N[i]? y && decide (sc.names.lookup y = some .local)
        | _, _ => false)
      | none => false)) = true := h
    obtain ⟨h1, h2⟩ := b2 h
    cases ea : asgB sc tg' e with
    | none => rw [ea] at h2; cases h2
    | some b =>
      rw [ea] at h2
      cases b with
      | false =>
        obtain ⟨z1, z2, z3⟩ := asgB_plain (l := pos.line) g.hsc ea
        exact snd_set g (sndC q g.toGX h1).1 h2 z1 z2 z3
      | true =>
        · obtain ⟨y, py, elt, gs, scope, p, rfl, rfl⟩ := asgB_swap ea
          cases tg with
          | tp => cases h2
          | nm i =>
            have h2 : (isCm q && nmIs N[i]? y && decide (sc.names.lookup y = some .local)) = true := h2
            obtain ⟨h2, h2c⟩ := b2 h2
            obtain ⟨hq, h2b⟩ := b2 h2
            obtain ⟨live, own, tg2, ik, ia, ifs, q2, rfl⟩ := cmpr_of hq
            obtain ⟨elt2, tg3, it, ifs', scope2, pos2, es, ee, k1, k2, k3, k4, k5, k6, k7, k8, k9⟩ := inv_cmpr h1
            cases ee
            have ea' : (if funB sc then some (swapB sc y py p scope) else none) = some true := ea
            split at ea'
            · rename_i hf
              have sw := swaps_lc (elt := elt) (gs := [⟨tg3, it, ifs', 0⟩]) (scope := scope) (y := y) (py := py) (p := p) (l := pos.line) g.hsc hf
              rw [Option.some.inj ea'] at sw
              exact snd_setLc g (walk_of g.toGX k4 (chks_plain k5).1 (sndCs ia g.toGX k5)) k1 k2 k3 (itEs_inv k4) (fun s0 H0 C cl fp => sndTsC ifs (g.toGX.blk scope s0 H0 C cl fp) k8 k6 k7) (fun s0 H0 C cl fp => (sndC q2 (g.toGX.blk scope s0 H0 C cl fp) k9).1) h2b (of_decide_eq_true h2c) sw
            · cases ea'
  | .par is qs, N, sc, X, st, g, h => by
    obtain ⟨i, j, x, px, y, py, kt, pt, a, b, k2, pt2, pos, rfl, rfl⟩ := sv_par h
    have h : (par2B sc i j N x y px py a b && chks T N sc qs [a, b]) = true := h
    obtain ⟨h, hc⟩ := b2 h
    unfold par2B at h
    simp only [Bool.and_eq_true, decide_eq_true_eq, Bool.not_eq_true'] at h
    obtain ⟨⟨⟨⟨⟨⟨⟨⟨⟨h0, h1⟩, h2⟩, h3⟩, h4⟩, h5⟩, h6⟩, h7⟩, h8⟩, h9⟩ := h
    have pl := (chks_plain hc).1
    simp only [List.all_cons, Bool.and_eq_true, Bool.not_eq_true'] at pl
    have hk : X.env.scope.kind = .function := by
      rw [g.hsc]
      unfold funB at h0
      split at h0
      · assumption
      · cases h0
    exact snd_par2 g ((sndCs qs g.toGX hc).args (chks_plain hc).1) h1 h2 h3 h5 h6 (swap2 hk (by rw [g.hsc]; exact h5) (by rw [g.hsc]; exact h6) h7 h4 pl.1 pl.2.1 h8 h9)
  | .setI o i q, N, sc, X, st, g, h => by
    obtain ⟨eo, ei, p, e, pos, rfl⟩ := sv_setI h
    have h : (!isSlc ei && chk T N sc q e && chk T N sc o eo && chk T N sc i ei) = true := h
    exact snd_setI g (sndC q g.toGX (b2 (b2 (b2 h).1).1).2).1 (sndC o g.toGX (b2 (b2 h).1).2).1 (sndC i g.toGX (b2 h).2).1 (bn (b2 (b2 (b2 h).1).1).1)
  | .setF o f q, N, sc, X, st, g, h => by
    obtain ⟨eo, f', p, e, pos, rfl⟩ := sv_setF h
    have h : (decide (f = f') && chk T N sc q e && chk T N sc o eo) = true := h
    cases of_decide_eq_true (b2 (b2 h).1).1
    exact snd_setF g (sndC q g.toGX (b2 (b2 h).1).2).1 (sndC o g.toGX (b2 h).2).1
  | .aug i op q, N, sc, X, st, g, h => by
    obtain ⟨x, p, op', e, pos, rfl⟩ := sv_aug h
    have h : (bopB op op' && (match (generalizing := false) op with
      | .pow => false
      | _ => true) && nmIs N[i]? x && locF sc x && chk T N sc q e) = true := h
    obtain ⟨h, h5⟩ := b2 h
    obtain ⟨h, h4⟩ := b2 h
    obtain ⟨h, h3⟩ := b2 h
    obtain ⟨h1, h2⟩ := b2 h
    exact snd_aug g (sndC q g.toGX h5).1 h1 (fun z => by subst z; cases h2) h3 h4
  | .augF o f op q, N, sc, X, st, g, h => by cases st <;> cases h
  | .augI o i op q, N, sc, X, st, g, h => by cases st <;> cases h
  | .ex q, N, sc, X, st, g, h => by
    obtain ⟨e, pos, rfl⟩ : ∃ e pos, st = .Expr e pos := by cases st <;> first | (cases h; done) | exact ⟨_, _, rfl⟩
    have h : (!isCompE e && chk T N sc q e) = true := h
    exact snd_ex (sndC q g.toGX (b2 h).2).1 (bn (b2 h).1)
  | .ret q, N, sc, X, st, g, h => by
    obtain ⟨e, pos, rfl⟩ := sv_ret h
    exact snd_ret (sndC q g.toGX h).1
  | .retN, N, sc, X, st, g, h => by
    obtain ⟨pos, rfl⟩ := sv_retN h
    exact snd_retN
  | .ite q a b, N, sc, X, st, g, h => by
    obtain ⟨e, ea, eb, pos, rfl⟩ : ∃ e a b pos, st = .If e a b pos := by cases st <;> first | (cases h; done) | exact ⟨_, _, _, _, rfl⟩
    have h : (tstB e && chk T N sc q e && chkSs T N sc a ea && chkSs T N sc b eb) = true := h
    exact snd_iteS ((sndC q g.toGX (b2 (b2 (b2 h).1).1).2).2 (b2 (b2 (b2 h).1).1).1) (sndSs a g (b2 (b2 h).1).2) (sndSs b g (b2 h).2)
  | .forS tg ik ia body, N, sc, X, st, g, h => by
    obtain ⟨tg', it, bd, pos, rfl⟩ := sv_for h
    have h : (chkT N (locF sc) tg tg' && (match itEs sc ik tg' it with
      | some es => chks T N sc ia es
      | none => false) && chkSs T N sc body bd) = true := h
    obtain ⟨h, h3⟩ := b2 h
    obtain ⟨h1, h2⟩ := b2 h
    cases ei : itEs sc ik tg' it with
    | none => rw [ei] at h2; cases h2
    | some es =>
      rw [ei] at h2
      exact snd_for g (walk_of g.toGX ei (chks_plain h2).1 (sndCs ia g.toGX h2)) h1 (itEs_inv ei) (sndSs body g h3)
  | .whl q body, N, sc, X, st, g, h => by
    obtain ⟨e, bd, pos, rfl⟩ := sv_whl h
    have h : (tstB e && chk T N sc q e && chkSs T N sc body bd) = true := h
    exact snd_whl g ((sndC q g.toGX (b2 (b2 h).1).2).2 (b2 (b2 h).1).1) (sndSs body g (b2 h).2)
  | .rse kk qs, N, sc, X, st, g, h => by
    obtain ⟨x, p, es, cpos, pos, rfl⟩ := sv_rse h
    have h : (nmIs (T.xks[kk]?.map (·.name)) x && (match T.xks[kk]? with
      | some q => q.rs
      | none => false) && glbB sc x && nmB x && chks T N sc qs es) = true := h
    obtain ⟨h, h5⟩ := b2 h
    obtain ⟨h, h4⟩ := b2 h
    obtain ⟨h, h3⟩ := b2 h
    obtain ⟨h1, h2⟩ := b2 h
    exact snd_rse g ((sndCs qs g.toGX h5).args (chks_plain h5).1) (chks_plain h5).1 h1 (fun q eq => by rw [eq] at h2; exact h2) h3 h4
  | .tryS body hs, N, sc, X, st, g, h => by
    obtain ⟨bd, h0, hds, pos, rfl⟩ := sv_try h
    have h : (chkSs T N sc body bd && chkHds T N sc hs (h0 :: hds)) = true := h
    exact snd_try g (fun pn xe g' => sndSs body g' (b2 h).1) (b2 h).2
  | .mtch q cs d, N, sc, X, st, g, h => by cases st <;> cases h
  | .pass, N, sc, X, st, g, h => by
    obtain ⟨pos, rfl⟩ : ∃ pos, st = .Pass pos := by cases st <;> first | (cases h; done) | exact ⟨_, rfl⟩
    exact snd_pass
  | .brk, N, sc, X, st, g, h => by
    obtain ⟨pos, rfl⟩ : ∃ pos, st = .Break pos := by cases st <;> first | (cases h; done) | exact ⟨_, rfl⟩
    exact snd_brk
  | .cnt, N, sc, X, st, g, h => by
    obtain ⟨pos, rfl⟩ : ∃ pos, st = .Continue pos := by cases st <;> first | (cases h; done) | exact ⟨_, rfl⟩
    exact snd_cnt
theorem sndSs {T : Tab} {c : Ct} {k : Nat} : ∀ (qs : List S) {N : List Str} {sc : Scope} {X : Cx} {sts : List Stmt}, GF T c k N sc X → chkSs T N sc qs sts = true → SndSs T c (callD T k) X qs sts
  | [], N, sc, X, sts, g, h => by
    cases sts with
    | nil => exact sndSs_nil
    | cons => cases h
  | q :: qs, N, sc, X, sts, g, h => by
    cases sts with
    | nil => cases h
    | cons st sts =>
      have h : (chkS T N sc q st && chkSs T N sc qs sts) = true := h
      exact sndSs_cons (sndS q g (b2 h).1) (sndSs qs g (b2 h).2)
end
end Sim
end
section
set_option Elab.async false
set_option linter.all false
set_option maxRecDepth 100000
set_option maxHeartbeats 2000000
/-! The Sim layer, Z: every def. -/
namespace Sim
open PySem PySem.Spec PyProof.Rows L2
theorem _root_.L2.FunD.lk {K : PySem.W.Frag} {x qual : Str} {params : Arguments} {body : List Stmt} {scope : Scope} {dvs : List V} {kws : List (Str × V)} {f : Addr} {fd : FuncData} (F : FunD K x qual params body scope dvs kws f fd) : ∃ (oc : Value) (od : Option Addr) (osl : Array (Option Value)), K.lookup f = some ⟨oc, od, .func fd, osl⟩ := by
  obtain ⟨oc, od, dV, kV, doc, pm, an, cdv, ct, osl, _, lk, _⟩ := F.ex
  exact ⟨oc, od, osl, lk⟩
/-- what the head has told -/
structure Top (T : Tab) (c : Ct) (mg : Str → Option Value) (base : Heap) : Prop where
  fn : ∀ (i : Nat) (f : Fn), T.fns[i]? = some f → ∃ (a : Addr) (fd : FuncData) (params : Arguments) (body : List Stmt), FunD c.K f.name f.qual params body f.sc [] [] a fd ∧ Binds c.K fd f.ps [] ∧ FnScope f.N f.ps f.sc ∧ chkSs T f.N f.sc f.body body = true ∧
    (f.cls = none → mg f.name = some (.ref a)) ∧ ∀ j, f.cls = some j → Meth c.K (c.ct j) f.name a
  glb : ∀ (i : Nat) (q : Str × PD), T.gs[i]? = some q → ∃ (u : Value) (v : V), mg q.1 = some u ∧ RelV v u ∧ ∀ G, RP c G q.2 v
  blt : ∀ x ∈ bltNames, mg x = none
  kls : ∀ (j : Nat) (q : Kl), T.kls[j]? = some q → Cls c.K (c.ct j) ∧ mg q.name = some (.ref (c.ct j)) ∧ ∀ f ∈ q.flds, NoAttr c.K (c.ct j) f
  mks : ∀ (j : Nat) (q : Kl) (f : Fn) (a : Addr), T.kls[j]? = some q → T.fns[q.init]? = some f → Meth c.K (c.ct j) f.name a → Mk c.K (c.ct j) a
  mts : ∀ (j : Nat) (q : Kl), T.kls[j]? = some q → (∃ f, T.fns[q.init]? = some f ∧ f.cls = some j ∧ f.name = "__init__") ∧ ∀ m i, fget q.ms m = some i → (∃ f, T.fns[i]? = some f ∧ f.cls = some j ∧ f.name = m) ∧ m ∉ q.flds
  xks : ∀ j q, T.xks[j]? = some q → XkF T c c.P c.K mg j q
  sup : mg "super" = none
section
variable {T : Tab} {c : Ct} {mg : Str → Option Value} {base : Heap}
theorem start_ok {ρ : List Addr} {G : Hp} {n : Nat} : ∀ {ds : List LV} {vs : List V}, RLs c ρ G ds vs → REnv c ρ G (ds.map some ++ List.replicate (n - ds.length) none) (vs.map some ++ List.replicate (n - vs.length) none) := by
  intro ds vs rs
  have hl : ds.length = vs.length := Paired.length rs
  refine ⟨by simp [hl], fun i d e => ?_⟩
  by_cases hi : i < ds.length
  · rw [List.getElem?_append_left (by simpa using hi), List.getElem?_map] at e
    obtain ⟨x, ex, e⟩ := Option.map_eq_some_iff.mp e
    cases e
    obtain ⟨v, ev, rv⟩ := paired_get rs ex
    refine ⟨v, ?_, rv⟩
    rw [List.getElem?_append_left (by simpa [← hl] using hi), List.getElem?_map, ev]
    rfl
  · rw [List.getElem?_append_right (by simpa using hi)] at e
    have := List.mem_of_getElem? e
    rw [List.mem_replicate] at this
    cases this.2
theorem gf_of (Tp : Top T c mg base) {k : Nat} {f : Fn} {N ps : List Str} {qual : Str} {sc : Scope} {a : Addr} {cdv : Value} {A : Around} {outer : List Env} {s : Shared} {H : Hp} {E : XK} (S : FnScope N ps sc) (hr : Room (k + 2) (A.deeper (envOfC qual sc s.heap.objs.size a cdv)))
    (ih : ∀ (i : Nat) (f : Fn), T.fns[i]? = some f → ∃ (a : Addr) (fd : FuncData), FnAt T c k c.P c.w c.K mg base i f a fd ∧ (f.cls = none → mg f.name = some (.ref a)) ∧ ∀ j, f.cls = some j → Meth c.K (c.ct j) f.name a) :
    GF T c k N sc (cxOf (CX c.P c.w) c.P c.w c.K mg base N qual sc a cdv A outer s H E) where
  hN := rfl
  nd := S.nd
  hsc := rfl
  hK := rfl
  hP := rfl
  hw := rfl
  calm := rfl
  room := hr
  glb := Tp.glb
  blt := Tp.blt
  fns := ih
  kls := Tp.kls
  mks := Tp.mks
  mts := Tp.mts
  stk := rfl
  frm := rfl
  own := passes_of rfl
  fn := fun _ => rfl
  xks := Tp.xks
  sup := Tp.sup
theorem fn_step (Tp : Top T c mg base) {k : Nat} (ih : ∀ (i : Nat) (f : Fn), T.fns[i]? = some f → ∃ (a : Addr) (fd : FuncData), FnAt T c k c.P c.w c.K mg base i f a fd ∧ (f.cls = none → mg f.name = some (.ref a)) ∧ ∀ j, f.cls = some j → Meth c.K (c.ct j) f.name a) :
    ∀ (i : Nat) (f : Fn), T.fns[i]? = some f → ∃ (a : Addr) (fd : FuncData), FnAt T c (k + 3) c.P c.w c.K mg base i f a fd ∧ (f.cls = none → mg f.name = some (.ref a)) ∧ ∀ j, f.cls = some j → Meth c.K (c.ct j) f.name a := by
  intro i f hf
  obtain ⟨a, fd, params, body, F, B, S, hc, h1, h2⟩ := Tp.fn i f hf
  refine ⟨a, fd, ⟨F.ok (k := k + 2) S ?_ ?_, F.kp, B, F.lk⟩, h1, h2⟩
  · rintro vs H Q E ⟨hid, ρ, lh, ds, st, rs, ho⟩
    have hl : ds.length = vs.length := Paired.length rs
    have ho : Out c hid ρ lh H Q E (match T.fns[i]? with | some f => runF T (callD T k) f ds lh | none => .bad) := ho
    rw [hf] at ho
    have ho : Out c hid ρ lh H Q E (runF T (callD T k) f ds lh) := ho
    unfold runF at ho
    split at ho
    · omega
    · exact ho.elim
  · rintro cdv A outer s H vs Q E hr ⟨hid, ρ, lh, ds, st, rs, ho⟩
    have ho : Out c hid ρ lh H Q E (match T.fns[i]? with | some f => runF T (callD T k) f ds lh | none => .bad) := ho
    rw [hf] at ho
    have ho : Out c hid ρ lh H Q E (runF T (callD T k) f ds lh) := ho
    refine ⟨_, pss_ws, ?_⟩
    have g := gf_of (E := E) (H := H) (s := s) (outer := outer) (A := A) (cdv := cdv) (a := a) (qual := f.qual) (f := f) Tp S hr ih
    refine sndSs f.body g hc hid ρ lh H _ (ds.map some ++ List.replicate (f.N.length - ds.length) none) _ (fun cls d _ H => E cls d H) (takes_of rfl rfl rfl rfl) st (start_ok rs) ?_
    unfold runF at ho
    split at ho
    · cases er : execs T (callD T k) f.body (ds.map some ++ List.replicate (f.N.length - ds.length) none) lh with
      | bad => rw [er] at ho; exact ho
      | exc e env1 lh1 =>
        rw [er] at ho
        exact fun cls d σ1 H1 ρ1 s1 x1 _ rx => ho cls d H1 ρ1 s1 x1 rx
      | ok fl env1 lh1 =>
        rw [er] at ho
        cases fl with
        | bk => exact ho.elim
        | ct => exact ho.elim
        | nx => exact fun σ1 H1 ρ1 s1 x1 _ => ho .non H1 ρ1 s1 x1 .non
        | rt v =>
          have ho : Out c hid ρ lh H Q E (if f.live then .ok v lh1 else match frz 9 v lh1 with | some (x, h2) => .ok (.p x) h2 | none => .bad) := ho
          intro w H1 ρ1 s1 x1 r1
          cases hlv : f.live with
          | true =>
            rw [hlv] at ho
            exact ho w H1 ρ1 s1 x1 r1
          | false =>
            rw [hlv] at ho
            have ho : Out c hid ρ lh H Q E (match frz 9 v lh1 with | some (x, h2) => .ok (.p x) h2 | none => .bad) := ho
            cases ef : frz 9 v lh1 with
            | none => rw [ef] at ho; exact ho.elim
            | some pr =>
              obtain ⟨x, lh2⟩ := pr
              rw [ef] at ho
              obtain ⟨s2, x2, r2⟩ := frz_ok 9 _ _ _ _ _ s1 r1 ef
              exact ho w H1 ρ1 s2 (x1.trans x2) r2
    · exact ho.elim
theorem fn_none (Tp : Top T c mg base) {k : Nat} (hk : ∀ i ds lh, callD T k i ds lh = .bad) : ∀ (i : Nat) (f : Fn), T.fns[i]? = some f → ∃ (a : Addr) (fd : FuncData), FnAt T c k c.P c.w c.K mg base i f a fd ∧ (f.cls = none → mg f.name = some (.ref a)) ∧ ∀ j, f.cls = some j → Meth c.K (c.ct j) f.name a := by
  intro i f hf
  obtain ⟨a, fd, params, body, F, B, S, hc, h1, h2⟩ := Tp.fn i f hf
  refine ⟨a, fd, ⟨?_, F.kp, B, F.lk⟩, h1, h2⟩
  have no : ∀ vs H Q E, ¬ spF T c k i vs H Q E := by
    rintro vs H Q E ⟨hid, ρ, lh, ds, st, rs, ho⟩
    rw [hk] at ho
    exact ho
  exact ⟨fun vs H Q E h => (no vs H Q E h).elim, by
    intros
    rename_i h _
    first | exact (no _ _ _ _ h).elim | (rename_i h2; exact (no _ _ _ _ h2).elim)⟩
/-- every def, at every level -/
theorem fn_all (Tp : Top T c mg base) : ∀ (k : Nat) (i : Nat) (f : Fn), T.fns[i]? = some f → ∃ (a : Addr) (fd : FuncData), FnAt T c k c.P c.w c.K mg base i f a fd ∧ (f.cls = none → mg f.name = some (.ref a)) ∧ ∀ j, f.cls = some j → Meth c.K (c.ct j) f.name a
  | 0 => fn_none Tp fun _ _ _ => rfl
  | 1 => fn_none Tp fun _ _ _ => rfl
  | 2 => fn_none Tp fun _ _ _ => rfl
  | k + 3 => fn_step Tp (fn_all Tp k)
end
end Sim
end
section
set_option Elab.async false
set_option linter.all false
set_option maxRecDepth 100000
set_option maxHeartbeats 2000000
/-! The Sim layer, Hd: from what the head says to what the layer asks. -/
namespace Sim
open PySem PySem.Spec PyProof.Rows L2
def AllP {α : Type} (P : α → Prop) : List α → Prop
  | [] => True
  | a :: r => P a ∧ AllP P r
theorem AllP.get {α : Type} {P : α → Prop} : ∀ {l : List α} {i : Nat} {a : α}, AllP P l → l[i]? = some a → P a
  | [], i, a, _, e => by simp at e
  | b :: r, 0, a, h, e => by
    simp at e
    subst e
    exact h.1
  | b :: r, i + 1, a, h, e => AllP.get h.2 (by simpa using e)
/-! ### a dict of the top -/
mutual
/-- the value stands for the data, in what is written -/
def pdB (K : PySem.W.Frag) : PD → Value → Bool
  | .non, .none => true
  | .bl b, .bool a => a == b
  | .int i, .int j _ => decide (i = j)
  | .str x, .str y _ => decide (x = y)
  | .tup ds, .ref a => match K.lookup a with
    | some ⟨.type n, _, .seq its _, _⟩ => decide (n = "tuple") && decide (its.size ≤ 1000) && pdBs K ds its.toList
    | _ => false
  | _, _ => false
def pdBs (K : PySem.W.Frag) : List PD → List Value → Bool
  | [], [] => true
  | d :: ds, u :: us => pdB K d u && pdBs K ds us
  | _, _ => false
end
mutual
theorem pdB_ok {c : Ct} : ∀ (d : PD) {u : Value}, pdB c.K d u = true → ∃ v, RelV v u ∧ ∀ G, RP c G d v
  | .non, u, h => by
    cases u <;> first | (cases h; done) | exact ⟨.non, rfl, fun _ => .non⟩
  | .bl b, u, h => by
    cases u <;> first | (cases h; done) | skip
    have e := eq_of_beq (show (_ == b) = true from h)
    subst e
    exact ⟨.bl _, rfl, fun _ => .bl _⟩
  | .int i, u, h => by
    cases u <;> first | (cases h; done) | skip
    rename_i j t
    have e : i = j := of_decide_eq_true h
    subst e
    exact ⟨.int i, ⟨t, rfl⟩, fun _ => .int _⟩
  | .str x, u, h => by
    cases u <;> first | (cases h; done) | skip
    rename_i y t
    have e : x = y := of_decide_eq_true h
    subst e
    exact ⟨.str x, ⟨t, rfl⟩, fun _ => .str _⟩
  | .tup ds, u, h => by
    cases u <;> first | (cases h; done) | skip
    rename_i a
    have h : (match c.K.lookup a with
      | some ⟨.type n, _, .seq its _, _⟩ => decide (n = "tuple") && decide (its.size ≤ 1000) && pdBs c.K ds its.toList
      | _ => false) = true := h
    split at h
    · rename_i n od its m osl e
      obtain ⟨h, h3⟩ := b2 h
      obtain ⟨h1, h2⟩ := b2 h
      obtain ⟨vs, rv, rp⟩ := pdBs_ok ds h3
      refine ⟨.ref a, rfl, fun G => .tup (.inr ⟨_, its, m, e, congrArg Value.type (of_decide_eq_true h1), rfl, ?_, rv⟩) (rp G)⟩
      rw [sizeLine_eq]
      exact Nat.le_trans (of_decide_eq_true h2) (by decide)
    · cases h
  | .lst _, u, h => by cases u <;> cases h
  | .dct _, u, h => by cases u <;> cases h
  | .obj _ _, u, h => by cases u <;> cases h
  | .scr _, u, h => by cases u <;> cases h
theorem pdBs_ok {c : Ct} : ∀ (ds : List PD) {us : List Value}, pdBs c.K ds us = true → ∃ vs, Vals vs us ∧ ∀ G, RPs c G ds vs
  | [], us, h => by
    cases us with
    | nil => exact ⟨[], .nil, fun _ => .nil⟩
    | cons => cases h
  | d :: ds, us, h => by
    cases us with
    | nil => cases h
    | cons u us =>
      have h : (pdB c.K d u && pdBs c.K ds us) = true := h
      obtain ⟨v, r1, r2⟩ := pdB_ok d (b2 h).1
      obtain ⟨vs, r3, r4⟩ := pdBs_ok ds (b2 h).2
      exact ⟨v :: vs, .cons r1 r3, fun G => .cons (r2 G) (r4 G)⟩
end
/-- the values of a dict that is written -/
def dvB (K : PySem.W.Frag) (a : Addr) (ds : List PD) : Bool := match K.lookup a with
  | some ⟨_, _, .dict es _, _⟩ => pdBs K ds (es.toList.map (·.val))
  | _ => false
theorem pairs_of {P : Program} {w : World} : ∀ {l : List DictEntry} {ks : List Str}, l.map He.keyOf = He.keysIn w.params ks → Pairs (mixKind P w) l ((ks.map Sum.inr).zip (l.map (·.val)))
  | [], ks, h => by
    cases ks with
    | nil => exact .nil
    | cons => cases h
  | e :: r, ks, h => by
    cases ks with
    | nil => cases h
    | cons q ks =>
      have h1 : He.keyOf e :: r.map He.keyOf = some (q, PyData.keyHash w.params q) :: He.keysIn w.params ks := h
      injection h1 with h2 h3
      refine .cons ?_ rfl (pairs_of h3)
      unfold He.keyOf at h2
      split at h2
      · rename_i x t ek
        injection h2 with h4
        injection h4 with h5 h6
        show keyIs (Sum.inr q) e.key = true
        rw [ek, h5]
        show decide _ = true
        first | exact decide_eq_true rfl | simp
      · cases h2
theorem keysOf_of {P : Program} {w : World} : ∀ {l : List DictEntry} {ks : List Str}, l.map He.keyOf = He.keysIn w.params ks → ∀ e ∈ l, ∃ q, (mixKind P w).is q e.key = true ∧ e.hash = (mixKind P w).hash q
  | [], ks, h, e, he => by simp at he
  | e0 :: r, ks, h, e, he => by
    cases ks with
    | nil => cases h
    | cons q ks =>
      have h1 : He.keyOf e0 :: r.map He.keyOf = some (q, PyData.keyHash w.params q) :: He.keysIn w.params ks := h
      injection h1 with h2 h3
      rcases List.mem_cons.mp he with rfl | he
      · unfold He.keyOf at h2
        split at h2
        · rename_i x t ek
          injection h2 with h4
          injection h4 with h5 h6
          refine ⟨Sum.inr q, ?_, h6⟩
          show keyIs (Sum.inr q) e.key = true
          rw [ek, h5]
          show decide _ = true
          first | exact decide_eq_true rfl | simp
        · cases h2
      · exact keysOf_of h3 e he
theorem kv_of : ∀ {ks : List Key} {vs : List V} {us : List Value}, Vals vs us → KV (ks.zip vs) (ks.zip us)
  | [], _, _, _ => .nil
  | q :: ks, _, _, .nil => .nil
  | q :: ks, _, _, .cons r t => .cons ⟨rfl, r⟩ (kv_of t)
theorem kdk_of {c : Ct} {a : Addr} {ks : List Str} {ds : List PD} (h : He.dicW c.K a = some (He.keysIn c.w.params ks)) (hv : dvB c.K a ds = true) (nd : ks.Nodup) (hl : ks.length ≤ 1000) : ∃ vs, KDk c a ((ks.map Sum.inr).zip vs) ∧ ∀ G, RPs c G ds vs := by
  obtain ⟨es, n, D⟩ := He.dicW_ok h
  have hk : es.toList.map He.keyOf = He.keysIn c.w.params ks := by
    unfold He.dicW at h
    rw [D.at_] at h
    simp only [D.low] at h
    exact Option.some.inj h
  have hr : pdBs c.K ds (es.toList.map (·.val)) = true := by
    unfold dvB at hv
    rw [D.at_] at hv
    exact hv
  obtain ⟨vs, rv, rp⟩ := pdBs_ok ds hr
  refine ⟨vs, ⟨?_, D.low, ⟨_, es, n, D.at_, ⟨rfl, rfl, rfl⟩, rfl⟩, fun hp kin => ⟨(ks.map Sum.inr).zip (es.toList.map (·.val)), kv_of rv, ?_⟩⟩, rp⟩
  · rw [List.length_zip, List.length_map, sizeLine_eq]
    omega
  · refine ⟨_, es, n, kin _ _ D.at_, ⟨rfl, rfl, rfl⟩, rfl, fun e he => keysOf_of hk e (by simpa using he), pairs_of hk, ?_⟩
    have z : (((ks.map Sum.inr).zip (es.toList.map (·.val))).map (·.1)) = (ks.map (Sum.inr : Str → Key)) := by
      have l1 : ks.length = es.toList.length := by
        have := congrArg List.length hk
        simpa [He.keysIn] using this.symm
      rw [List.map_fst_zip]
      simp [l1]
    rw [z]
    exact List.Pairwise.map _ (fun a b (h : a ≠ b) e => h (Sum.inr.inj e)) nd
theorem rks_zip {c : Ct} {G : Hp} : ∀ {ks : List Str} {ds : List PD} {vs : List V}, ks.length = ds.length → RPs c G ds vs → RKs c G ((ks.map PD.str).zip ds) ((ks.map (Sum.inr : Str → Key)).zip vs)
  | [], _, _, _, _ => .nil
  | q :: ks, _, _, hl, .nil => by cases hl
  | q :: ks, _, _, hl, .cons r t => .cons rfl r (rks_zip (Nat.succ.inj hl) t)
/-! ### the module's names -/
/-- a constant: its value stands there -/
def conB (K : PySem.W.Frag) (q : Str × PD) : Bool := match PySem.W.nsIn K mainGlobals q.1 with
  | some (some u) => pdB K q.2 u
  | _ => false
def GlbF (c : Ct) (mg : Str → Option Value) (q : Str × PD) : Prop := ∃ (u : Value) (v : V), mg q.1 = some u ∧ RelV v u ∧ ∀ G, RP c G q.2 v
theorem con_ok {c : Ct} {h : Heap} {mg : Str → Option Value} (X : c.K.In h) (G : h.Ns mainGlobals mg) {q : Str × PD} (hc : conB c.K q = true) : GlbF c mg q := by
  unfold conB at hc
  split at hc
  · rename_i u e
    obtain ⟨v, r, rp⟩ := pdB_ok q.2 hc
    exact ⟨u, v, PySem.W.mg_of X G e, r, rp⟩
  · cases hc
theorem dict_ok {c : Ct} {h : Heap} {mg : Str → Option Value} (X : c.K.In h) (G : h.Ns mainGlobals mg) {x : Str} {ks : List Str} {ds : List PD} (hg : (He.Fa.glo x).ok c.K = true) (hd : He.dicW c.K (He.ga c.K x) = some (He.keysIn c.w.params ks)) (hv : dvB c.K (He.ga c.K x) ds = true) (nd : ks.Nodup) (hl : ks.length ≤ 1000) (hn : ks.length = ds.length) :
    GlbF c mg (x, .dct ((ks.map PD.str).zip ds)) := by
  obtain ⟨vs, kd, rp⟩ := kdk_of hd hv nd hl
  exact ⟨_, .ref (He.ga c.K x), He.glo_ok X G hg, rfl, fun G => .dct (.inr kd) (rks_zip hn (rp G))⟩
/-! ### defs and classes -/
def FnF (T : Tab) (c : Ct) (mg : Str → Option Value) (f : Fn) : Prop := ∃ (a : Addr) (fd : FuncData) (params : Arguments) (body : List Stmt), FunD c.K f.name f.qual params body f.sc [] [] a fd ∧ Binds c.K fd f.ps [] ∧ FnScope f.N f.ps f.sc ∧ chkSs T f.N f.sc f.body body = true ∧
    (f.cls = none → mg f.name = some (.ref a)) ∧ ∀ j, f.cls = some j → Meth c.K (c.ct j) f.name a
def KlF (c : Ct) (mg : Str → Option Value) (j : Nat) (q : Kl) : Prop := Cls c.K (c.ct j) ∧ mg q.name = some (.ref (c.ct j)) ∧ ∀ f ∈ q.flds, NoAttr c.K (c.ct j) f
/-- the names that a def's parameters take: the look -/
def scpB (N ps : List Str) (sc : Scope) : Bool := funB sc && !sc.isCoroutine && !sc.isGenerator && decide N.Nodup && decide (N.take ps.length = ps) && (ps.all fun x => locF sc x) && sc.names.all fun y => decide (y.2 ≠ .free)
theorem scpB_ok {N ps : List Str} {sc : Scope} (h : scpB N ps sc = true) : FnScope N ps sc := by
  unfold scpB at h
  obtain ⟨h, h7⟩ := b2 h
  obtain ⟨h, h6⟩ := b2 h
  obtain ⟨h, h5⟩ := b2 h
  obtain ⟨h, h4⟩ := b2 h
  obtain ⟨h, h3⟩ := b2 h
  obtain ⟨h1, h2⟩ := b2 h
  refine ⟨?_, bn h2, bn h3, of_decide_eq_true h4, of_decide_eq_true h5, fun x hx => ?_, fun y hy => of_decide_eq_true (List.all_eq_true.mp h7 y hy)⟩
  · unfold funB at h1
    split at h1
    · assumption
    · cases h1
  · have z := List.all_eq_true.mp h6 x hx
    unfold locF at z
    split at z
    · rename_i e; exact .inl e
    · rename_i e; exact .inr e
    · cases z
section
variable {T : Tab} {c : Ct} {mg : Str → Option Value} {h : Heap} {fa : List He.Fa} {fn : List He.DefD}
/-- its parameters take what is given -/
abbrev BndB (d : He.DefD) (ps : List Str) : Prop := ∀ (kV doc pm : Value) (an : Option Addr) (cdv ct : Value) (us : List Value), us.length = ps.length → bindArgs (PySem.W.fnOf d.name d.qual d.params d.body d.scope .none kV doc pm an cdv ct) ⟨us, []⟩ = pure (ps.zip us)
theorem funD_of (s : He.SaysD fa fn c.K) {d : He.DefD} (hj : d ∈ fn) {f : Fn} (hn : d.name = f.name) (hq : d.qual = f.qual) (hs : d.scope = f.sc) (h0 : d.dfl = []) (h1 : d.kwd = []) (bnd : BndB d f.ps) : ∃ fd, FunD c.K f.name f.qual d.params d.body f.sc [] [] (He.fAd c.K d.at_) fd ∧ Binds c.K fd f.ps [] := by
  obtain ⟨fd, F⟩ := He.SaysD.defs s hj
  have e0 : d.dvs c.K = [] := by unfold He.DefD.dvs; rw [h0]; rfl
  have e1 : d.kws c.K = [] := by unfold He.DefD.kws; rw [h1]; rfl
  rw [e0, e1] at F
  have B := F.bindsN bnd
  rw [hn, hq, hs] at F
  exact ⟨fd, F, B⟩
theorem FnF.glob (X : c.K.In h) (G : h.Ns mainGlobals mg) (s : He.SaysD fa fn c.K) {d : He.DefD} (hj : d ∈ fn) {f : Fn} (hat : d.at_ = (f.name, none)) (hn : d.name = f.name) (hq : d.qual = f.qual) (hs : d.scope = f.sc) (h0 : d.dfl = []) (h1 : d.kwd = []) (bnd : BndB d f.ps)
    (hcl : f.cls = none) (hg : He.Fa.glo f.name ∈ fa) (hsc : scpB f.N f.ps f.sc = true) (hc : chkSs T f.N f.sc f.body d.body = true) : FnF T c mg f := by
  obtain ⟨fd, F, B⟩ := funD_of s hj hn hq hs h0 h1 bnd
  refine ⟨_, fd, _, _, F, B, scpB_ok hsc, hc, fun _ => ?_, fun j e => by rw [hcl] at e; cases e⟩
  rw [hat]
  exact He.glo_ok X G (He.SaysD.facts s hg)
theorem FnF.meth (s : He.SaysD fa fn c.K) {d : He.DefD} (hj : d ∈ fn) {f : Fn} {C : Str} {j : Nat} (hat : d.at_ = (C, some f.name)) (hn : d.name = f.name) (hq : d.qual = f.qual) (hs : d.scope = f.sc) (h0 : d.dfl = []) (h1 : d.kwd = []) (bnd : BndB d f.ps)
    (hcl : f.cls = some j) (hct : c.ct j = He.ga c.K C) (hg : He.Fa.meth C f.name ∈ fa) (hsc : scpB f.N f.ps f.sc = true) (hc : chkSs T f.N f.sc f.body d.body = true) : FnF T c mg f := by
  obtain ⟨fd, F, B⟩ := funD_of s hj hn hq hs h0 h1 bnd
  refine ⟨_, fd, _, _, F, B, scpB_ok hsc, hc, fun e => (by rw [hcl] at e; cases e), fun i e => ?_⟩
  rw [hcl] at e
  cases e
  rw [hat, hct]
  exact He.meth_ok (He.SaysD.facts s hg)
def KlsF (T : Tab) (c : Ct) (mg : Str → Option Value) (j : Nat) (q : Kl) : Prop := (Cls c.K (c.ct j) ∧ mg q.name = some (.ref (c.ct j)) ∧ ∀ f ∈ q.flds, NoAttr c.K (c.ct j) f) ∧ (∃ a, Meth c.K (c.ct j) "__init__" a ∧ Mk c.K (c.ct j) a) ∧
  (∃ f, T.fns[q.init]? = some f ∧ f.cls = some j ∧ f.name = "__init__") ∧ ∀ m i, fget q.ms m = some i → (∃ f, T.fns[i]? = some f ∧ f.cls = some j ∧ f.name = m) ∧ m ∉ q.flds
def AllI {α : Type} (P : Nat → α → Prop) : Nat → List α → Prop
  | _, [] => True
  | n, a :: r => P n a ∧ AllI P (n + 1) r
theorem AllI.get {α : Type} {P : Nat → α → Prop} : ∀ {l : List α} {n i : Nat} {a : α}, AllI P n l → l[i]? = some a → P (n + i) a
  | [], n, i, a, _, e => by simp at e
  | b :: r, n, 0, a, h, e => by
    simp at e
    subst e
    exact h.1
  | b :: r, n, i + 1, a, h, e => by
    have := AllI.get h.2 (show r[i]? = some a by simpa using e)
    rwa [show n + 1 + i = n + (i + 1) by omega] at this
/-- the methods of a class: the look -/
def msB (T : Tab) (j : Nat) (q : Kl) : Bool := (match T.fns[q.init]? with
  | some f => decide (f.cls = some j) && decide (f.name = "__init__")
  | none => false) && q.ms.all fun p => (match T.fns[p.2]? with
    | some f => decide (f.cls = some j) && decide (f.name = p.1)
    | none => false) && decide (p.1 ∉ q.flds)
theorem fget_mem {α : Type} : ∀ {l : List (Str × α)} {f : Str} {v : α}, fget l f = some v → (f, v) ∈ l
  | [], f, v, e => by cases e
  | (g, w) :: r, f, v, e => by
    have e : (if f = g then some w else fget r f) = some v := e
    split at e
    · rename_i z
      cases e
      subst z
      exact List.mem_cons_self
    · exact List.mem_cons_of_mem _ (fget_mem e)
theorem KlsF.of (X : c.K.In h) (G : h.Ns mainGlobals mg) (s : He.SaysD fa fn c.K) {j : Nat} {q : Kl} (hct : c.ct j = He.ga c.K q.name) (h1 : He.Fa.glo q.name ∈ fa) (h2 : He.Fa.cls q.name ∈ fa) (h3 : ∀ f ∈ q.flds, He.Fa.noat q.name f ∈ fa) (h4 : He.Fa.mkr q.name ∈ fa) (h5 : He.Fa.meth q.name "__init__" ∈ fa) (hm : msB T j q = true) : KlsF T c mg j q := by
  unfold msB at hm
  obtain ⟨m1, m2⟩ := b2 hm
  refine ⟨⟨?_, ?_, fun f hf => ?_⟩, ⟨He.ma c.K (He.ga c.K q.name) "__init__", ?_, ?_⟩, ?_, fun m i e => ?_⟩
  · rw [hct]; exact He.cls_ok (He.SaysD.facts s h2)
  · rw [hct]; exact He.glo_ok X G (He.SaysD.facts s h1)
  · rw [hct]; exact He.noat_ok (He.SaysD.facts s (h3 f hf))
  · rw [hct]; exact He.meth_ok (He.SaysD.facts s h5)
  · rw [hct]; exact He.mkr_ok (He.SaysD.facts s h4)
  · split at m1
    · rename_i f e
      exact ⟨f, e, of_decide_eq_true (b2 m1).1, of_decide_eq_true (b2 m1).2⟩
    · cases m1
  · have z := List.all_eq_true.mp m2 _ (fget_mem e)
    obtain ⟨z1, z2⟩ := b2 z
    refine ⟨?_, of_decide_eq_true z2⟩
    split at z1
    · rename_i f e
      exact ⟨f, e, of_decide_eq_true (b2 z1).1, of_decide_eq_true (b2 z1).2⟩
    · cases z1
/-- all that the layer asks -/
theorem top_of (X : c.K.In h) (G : h.Ns mainGlobals mg) (s : He.SaysD fa fn c.K) {base : Heap} (hf : AllP (FnF T c mg) T.fns) (hg : AllP (GlbF c mg) T.gs) (hk : AllI (KlsF T c mg) 0 T.kls) (hb : ∀ x ∈ bltNames, He.Fa.free x ∈ fa) (hx : ∀ j q, T.xks[j]? = some q → XkF T c c.P c.K mg j q) (hs : He.Fa.free "super" ∈ fa) : Top T c mg base where
  fn := fun i f e => hf.get e
  glb := fun i q e => hg.get e
  blt := fun x hx => He.free_ok X G (He.SaysD.facts s (hb x hx))
  kls := fun j q e => by
    have := hk.get e
    rw [Nat.zero_add] at this
    exact this.1
  mks := fun j q f a e1 e2 hm => by
    have := hk.get e1
    rw [Nat.zero_add] at this
    obtain ⟨_, ⟨b, hb1, hb2⟩, ⟨f', e3, _, e4⟩, _⟩ := this
    rw [e2] at e3
    cases e3
    rw [e4] at hm
    have ee : a = b := by
      have := hm.at_.symm.trans hb1.at_
      cases this
      rfl
    rw [ee]
    exact hb2
  mts := fun j q e => by
    have := hk.get e
    rw [Nat.zero_add] at this
    exact ⟨this.2.2.1, this.2.2.2⟩
  xks := hx
  sup := He.free_ok X G (He.SaysD.facts s hs)
end
end Sim
end
section
set_option Elab.async false
set_option linter.all false
set_option maxRecDepth 100000
set_option maxHeartbeats 2000000
/-! The Sim layer, Hx: exception classes, from a look at the written part. -/
namespace Sim
open PySem PySem.Spec PyProof.Rows L2
def oexB (K : PySem.W.Frag) (C : Addr) : Bool := (match K.lookup C with
  | some ⟨.type t, _, .cls cd, sl⟩ => decide (t = "type") && (match cd.mro with
    | .ref C' :: bm => decide (C' = C) && HandSPX.refsVE bm
    | _ => false) && cd.hasDict && !cd.hasDel && (match sl.toList with
    | [_, _, _, _, some (.builtin n), _] => decide (n = "ValueError.__new__")
    | _ => false)
  | _ => false) && decide (PySem.W.findIn K (.ref C) "__setattr__" = some (some (.builtin "object.__setattr__"))) && decide (PySem.W.subIn K (.ref C) (.type "BaseException") = some true) && decide (PySem.W.typeIn K (.ref C) = some (.type "type")) && PySem.W.keepIn K (.ref C)
theorem oexB_ok {K : PySem.W.Frag} {C : Addr} (h : oexB K C = true) : OexC K C := by
  unfold oexB at h
  obtain ⟨h, h5⟩ := b2 h
  obtain ⟨h, h4⟩ := b2 h
  obtain ⟨h, h3⟩ := b2 h
  obtain ⟨h1, h2⟩ := b2 h
  refine ⟨?_, of_decide_eq_true h2, of_decide_eq_true h3, of_decide_eq_true h4, h5⟩
  split at h1
  · rename_i t dd cd sl e
    obtain ⟨h1, k5⟩ := b2 h1
    obtain ⟨h1, k4⟩ := b2 h1
    obtain ⟨h1, k3⟩ := b2 h1
    obtain ⟨k1, k2⟩ := b2 h1
    have k1 := of_decide_eq_true k1
    subst k1
    obtain ⟨nm, bs, mro, ns, q, hd, sn, sub, ab, col, hdel⟩ := cd
    simp only at k2 k3 k4
    have k4 := bn k4
    subst k3 k4
    obtain ⟨bm, rfl, z2⟩ : ∃ bm, mro = .ref C :: bm ∧ HandSPX.refsVE bm = true := by
      cases mro with
      | nil => cases k2
      | cons m0 bm =>
        cases m0 <;> first | (cases k2; done) | skip
        obtain ⟨z1, z2⟩ := b2 k2
        exact ⟨bm, by rw [of_decide_eq_true z1], z2⟩
    split at k5
    · rename_i k0 k1 k2' k3' n k5' es
      have z := of_decide_eq_true k5
      subst z
      obtain ⟨l⟩ := sl
      simp only at es
      subst es
      exact ⟨nm, q, ns, bs, bm, sn, sub, ab, col, dd, k0, k1, k2', k3', k5', e, z2⟩
    · cases k5
  · cases h1
def ifnB (P : Program) (K : PySem.W.Frag) (C fI : Addr) (fs : List Str) (sh : List (Str × Bool)) : Bool := match K.lookup fI with
  | some ⟨_, _, .func fd, _⟩ => (match fd.body, fd.closure, fd.code, fd.params.args with
    | .stmts body, [(cn, cc)], .ref cda, a0 :: rest => decide (cn = "__class__") && decide (fd.globals = mainGlobals) && decide (fd.builtins = builtinsNs) && (match K.lookup cc with
        | some ⟨_, _, .cell (some (.ref C')), _⟩ => decide (C' = C)
        | _ => false) && PySem.W.codeIn K (.ref cda) fd.qualname && (match K.lookup cda with
        | some ⟨_, _, .fields vs, _⟩ => (match (vs[2]? : Option Value) with
          | some (.str file _) => P.main.file == file
          | _ => false)
        | _ => false) && fd.params.posonlyargs.isEmpty && decide (rest.map (·.arg) = fs) && fd.params.kwonlyargs.isEmpty && fd.params.vararg.isNone && fd.params.kwarg.isNone && (match fd.defaults with
        | .none => true
        | _ => false) && decide ((a0.arg :: fs).Nodup) && decide (fd.scope.kind = .function) && !fd.scope.isCoroutine && !fd.scope.isGenerator && (fd.scope.names.all fun x => decide (x.2 ≠ .cell)) && decide (fd.scope.names.lookup ("super" : Str) = some .globalImplicit) && decide (fd.scope.names.lookup ("__class__" : Str) = some .free) &&
        ((a0.arg :: fs).all fun x => decide (fd.scope.names.lookup x = some .local)) && decide (initB a0.arg (a0.arg :: fs) fd.scope fs body = some sh)
    | _, _, _, _ => false)
  | _ => false
theorem isEmpty_ok {α : Type} {l : List α} (h : l.isEmpty = true) : l = [] := by cases l <;> first | rfl | cases h
theorem isNone_ok {α : Type} {l : Option α} (h : l.isNone = true) : l = none := by cases l <;> first | rfl | cases h
def xiB (P : Program) (K : PySem.W.Frag) (C : Addr) (fs : List Str) (sh : List (Str × Bool)) : Bool := oexB K C && (match PySem.W.findIn K (.ref C) "__init__" with
  | some (some (.ref fI)) => decide (PySem.W.typeIn K (.ref fI) = some (.type "function")) && ifnB P K C fI fs sh
  | _ => false) && (fs.all fun f => decide (PySem.W.findIn K (.ref C) f = some none)) && decide (PySem.W.subIn K (.ref C) (.type "ValueError") = some true) && decide (PySem.W.mroIn K C (.ref C) = some true) && decide (PySem.W.ks_superIn K C C "__init__" = some (some (.builtin "ValueError.__init__"))) &&
  decide (PySem.W.nsIn K cStatics "thirdparty.any" = some none) && !(P.main.scope.names.lookup ("super" : Str)).isSome
theorem xiB_ok {P : Program} {K : PySem.W.Frag} {C : Addr} {fs : List Str} {sh : List (Str × Bool)} (h : xiB P K C fs sh = true) : ∃ fI, XiF P K C fI fs sh := by
  unfold xiB at h
  obtain ⟨h, h8⟩ := b2 h
  obtain ⟨h, h7⟩ := b2 h
  obtain ⟨h, h6⟩ := b2 h
  obtain ⟨h, h5⟩ := b2 h
  obtain ⟨h, h4⟩ := b2 h
  obtain ⟨h, h3⟩ := b2 h
  obtain ⟨h1, h2⟩ := b2 h
  split at h2
  · rename_i fI ei
    obtain ⟨k1, k2⟩ := b2 h2
    refine ⟨fI, ⟨oexB_ok h1, ei, of_decide_eq_true k1, fun f hf => of_decide_eq_true (List.all_eq_true.mp h3 f hf), of_decide_eq_true h4, of_decide_eq_true h5, of_decide_eq_true h6, of_decide_eq_true h7, bn h8, ?_⟩⟩
    unfold ifnB at k2
    split at k2
    · rename_i oc od fd osl el
      split at k2
      · rename_i body cn cc cda a0 rest e1 e2 e3 e4
        obtain ⟨k2, m21⟩ := b2 k2
        obtain ⟨k2, m20⟩ := b2 k2
        obtain ⟨k2, m19⟩ := b2 k2
        obtain ⟨k2, m18⟩ := b2 k2
        obtain ⟨k2, m17⟩ := b2 k2
        obtain ⟨k2, m16⟩ := b2 k2
        obtain ⟨k2, m15⟩ := b2 k2
        obtain ⟨k2, m14⟩ := b2 k2
        obtain ⟨k2, m13⟩ := b2 k2
        obtain ⟨k2, m12⟩ := b2 k2
        obtain ⟨k2, m11⟩ := b2 k2
        obtain ⟨k2, m10⟩ := b2 k2
        obtain ⟨k2, m9⟩ := b2 k2
        obtain ⟨k2, m8⟩ := b2 k2
        obtain ⟨k2, m7⟩ := b2 k2
        obtain ⟨k2, m6⟩ := b2 k2
        obtain ⟨k2, m5⟩ := b2 k2
        obtain ⟨k2, m4⟩ := b2 k2
        obtain ⟨k2, m3⟩ := b2 k2
        obtain ⟨m1, m2⟩ := b2 k2
        split at m4
        · rename_i cl cld C' csl ec
          have m4 := of_decide_eq_true m4
          subst m4
          split at m6
          · rename_i ccl cdd vs ccs ed
            split at m6
            · rename_i file tf ef
              have m1 := of_decide_eq_true m1
              subst m1
              have hd : fd.defaults = .none := by
                split at m12
                · assumption
                · cases m12
              refine ⟨oc, od, osl, fd, body, a0.arg, cc, cl, cld, csl, cda, ccl, cdd, vs, ccs, file, tf, el, e1, of_decide_eq_true m2, of_decide_eq_true m3, e2, ec, e3, m5, ed, ef, m6, isEmpty_ok m7, ?_, isEmpty_ok m9, isNone_ok m10, isNone_ok m11, hd, of_decide_eq_true m13, of_decide_eq_true m14, bn m15, bn m16, fun x hx => of_decide_eq_true (List.all_eq_true.mp m17 x hx), of_decide_eq_true m18, of_decide_eq_true m19, fun x hx => of_decide_eq_true (List.all_eq_true.mp m20 x hx), of_decide_eq_true m21⟩
              rw [e4, List.map_cons, of_decide_eq_true m8]
            · cases m6
          · cases m6
        · cases m4
      · cases k2
    · cases k2
  · cases h2
def exB (K : PySem.W.Frag) (D : Addr) : Bool := decide (PySem.W.findIn K (.ref D) "__getattribute__" = some (some (.builtin "BaseException.__getattribute__"))) && decide (PySem.W.findIn K (.ref D) "__getattr__" = some none) && decide (PySem.W.subIn K (.ref D) (.type "BaseException") = some true) && PySem.W.hasDictIn K D && decide (PySem.W.findIn K (.ref D) "__class__" = some (some (.builtin "object.__class__"))) &&
  decide (PySem.W.specialIn K (.builtin "object.__class__") "__get__" = some (some (.builtin "getset_descriptor.__get__"))) && decide (PySem.W.takesIn K (.builtin "object.__class__") = some true) && decide (PySem.W.mroIn K D (.type "object") = some true) && (PySem.W.clsIn K D).isSome
theorem exB_ok {K : PySem.W.Frag} {D : Addr} (h : exB K D = true) : ExcC K D ∧ (PySem.W.clsIn K D).isSome = true := by
  unfold exB at h
  obtain ⟨h, h9⟩ := b2 h
  obtain ⟨h, h8⟩ := b2 h
  obtain ⟨h, h7⟩ := b2 h
  obtain ⟨h, h6⟩ := b2 h
  obtain ⟨h, h5⟩ := b2 h
  obtain ⟨h, h4⟩ := b2 h
  obtain ⟨h, h3⟩ := b2 h
  obtain ⟨h1, h2⟩ := b2 h
  exact ⟨⟨of_decide_eq_true h1, of_decide_eq_true h2, of_decide_eq_true h3, h4, of_decide_eq_true h5, of_decide_eq_true h6, of_decide_eq_true h7, of_decide_eq_true h8⟩, h9⟩
def upsB (K : PySem.W.Frag) (C : Addr) (ups : List Nat) : Nat → List Xk → Bool
  | _, [] => true
  | i, q :: r => decide (PySem.W.exmOne K (.ref C) (.ref (He.ga K q.name)) = some (ups.contains i)) && decide (PySem.W.kitOne K (.ref C) (.ref (He.ga K q.name)) = some (ups.contains i)) && upsB K C ups (i + 1) r
theorem upsB_ok {K : PySem.W.Frag} {C : Addr} {ups : List Nat} : ∀ {l : List Xk} {n i : Nat} {q : Xk}, upsB K C ups n l = true → l[i]? = some q → PySem.W.exmOne K (.ref C) (.ref (He.ga K q.name)) = some (ups.contains (n + i)) ∧ PySem.W.kitOne K (.ref C) (.ref (He.ga K q.name)) = some (ups.contains (n + i))
  | [], n, i, q, _, e => by simp at e
  | p :: l, n, 0, q, h, e => by
    simp at e
    subst e
    obtain ⟨h, _⟩ := b2 (show ((decide (_ = _) && decide (_ = _)) && upsB K C ups (n + 1) l) = true from h)
    obtain ⟨h1, h2⟩ := b2 h
    exact ⟨of_decide_eq_true h1, of_decide_eq_true h2⟩
  | p :: l, n, i + 1, q, h, e => by
    obtain ⟨_, h⟩ := b2 (show ((decide (_ = _) && decide (_ = _)) && upsB K C ups (n + 1) l) = true from h)
    have := upsB_ok h (show l[i]? = some q by simpa using e)
    rwa [show n + 1 + i = n + (i + 1) by omega] at this
def xkB (P : Program) (K : PySem.W.Frag) (xs : List Xk) (q : Xk) : Bool := (He.Fa.glo q.name).ok K && (!q.rs || xiB P K (He.ga K q.name) q.fs q.sh) && decide q.fs.Nodup && decide (q.fs.length < 100) && exB K (He.ga K q.name) && (q.fs.all fun f => decide (PySem.W.findIn K (.ref (He.ga K q.name)) f = some none)) && upsB K (He.ga K q.name) q.ups 0 xs
theorem xkB_ok {T : Sim.Tab} {c : Ct} {h : Heap} {mg : Str → Option Value} (X : c.K.In h) (G : h.Ns mainGlobals mg) (hct : ∀ i q, T.xks[i]? = some q → c.xt i = He.ga c.K q.name) {j : Nat} {q : Xk} (ej : T.xks[j]? = some q) (hb : xkB c.P c.K T.xks q = true) : XkF T c c.P c.K mg j q := by
  unfold xkB at hb
  obtain ⟨hb, h7⟩ := b2 hb
  obtain ⟨hb, h6⟩ := b2 hb
  obtain ⟨hb, h5⟩ := b2 hb
  obtain ⟨hb, h4⟩ := b2 hb
  obtain ⟨hb, h3⟩ := b2 hb
  obtain ⟨h1, h2⟩ := b2 hb
  have ec := hct j q ej
  obtain ⟨x1, x2⟩ := exB_ok h5
  refine ⟨?_, fun hr => ?_, of_decide_eq_true h3, of_decide_eq_true h4, ?_, ?_, fun f hf => ?_, fun i qi ei => ?_⟩
  · rw [ec]; exact He.glo_ok X G h1
  · rw [hr] at h2
    rw [ec]
    exact xiB_ok (by simpa using h2)
  · rw [ec]; exact x1
  · rw [ec]; exact x2
  · rw [ec]; exact of_decide_eq_true (List.all_eq_true.mp h6 f hf)
  · rw [ec, hct i qi ei]
    have := upsB_ok h7 ei
    rwa [Nat.zero_add] at this
end Sim
end
section
set_option Elab.async false
set_option linter.all false
set_option maxRecDepth 100000
set_option maxHeartbeats 2000000
/-! The Sim layer, He: the head's Hook of a table, and the law's end. -/
namespace Sim
open PySem PySem.Spec PyProof.Rows L2
/-! ### a table's facts -/
def klN (T : Tab) (j : Nat) : Str := (T.kls[j]?.map (·.name)).getD Str.empty
def xkN (T : Tab) (j : Nat) : Str := (T.xks[j]?.map (·.name)).getD Str.empty
def plc (T : Tab) (f : Fn) : Str × Option Str := match f.cls with
  | none => (f.name, none)
  | some j => (klN T j, some f.name)
def mkD (T : Tab) (f : Fn) (st : Stmt) : He.DefD := ⟨plc T f, f.name, f.qual, defArgs st, defBody st, f.sc, [], []⟩
def dKeys : List (PD × PD) → Option (List Str)
  | [] => some []
  | (.str k, _) :: r => (dKeys r).map (k :: ·)
  | _ => none
def dictG (q : Str × PD) : Option (Str × List Str × List PD) := match q.2 with
  | .dct kvs => (dKeys kvs).map fun ks => (q.1, ks, kvs.map (·.2))
  | _ => none
def faOf (T : Tab) : List He.Fa := (T.fns.map fun f => match f.cls with
    | none => He.Fa.glo f.name
    | some j => He.Fa.meth (klN T j) f.name) ++ (T.kls.flatMap fun q => [He.Fa.glo q.name, He.Fa.cls q.name, He.Fa.mkr q.name, He.Fa.meth q.name "__init__"] ++ q.flds.map fun f => He.Fa.noat q.name f) ++ (bltNames.map fun x => He.Fa.free x) ++ [He.Fa.free "super"] ++ (T.gs.filterMap dictG).map fun t => He.Fa.glo t.1
def fnOf (T : Tab) (sts : List Stmt) : List He.DefD := List.zipWith (mkD T) T.fns sts
def tsOf (T : Tab) : List He.Tab := (T.gs.filterMap dictG).map fun t => (fun K => He.ga K t.1, t.2.1)
def gB (K : PySem.W.Frag) (q : Str × PD) : Bool := match dictG q with
  | some t => dvB K (He.ga K t.1) t.2.2 && decide t.2.1.Nodup && decide (t.2.1.length ≤ 1000)
  | none => conB K q
def exOf (P : Program) (T : Tab) (K : PySem.W.Frag) : Bool := T.gs.all (gB K) && T.xks.all (xkB P K T.xks)
/-- the look at a def's parameters -/
def argsB (a : Arguments) (ps : List Str) : Bool := a.posonlyargs.isEmpty && decide (a.args.map (·.arg) = ps) && a.kwonlyargs.isEmpty && a.vararg.isNone && a.kwarg.isNone && decide ps.Nodup
def fnB (T : Tab) (f : Fn) (st : Stmt) : Bool := argsB (defArgs st) f.ps && scpB f.N f.ps f.sc && chkSs T f.N f.sc f.body (defBody st) && (match f.cls with
  | none => true
  | some j => (T.kls[j]?).isSome)
def klB : Nat → Tab → List Kl → Bool
  | _, _, [] => true
  | j, T, q :: r => msB T j q && klB (j + 1) T r
def allB (T : Tab) (sts : List Stmt) : Bool := decide (T.fns.length = sts.length) && (T.fns.zip sts).all (fun p => fnB T p.1 p.2) && klB 0 T T.kls
theorem dKeys_ok : ∀ {kvs : List (PD × PD)} {ks : List Str}, dKeys kvs = some ks → (ks.map PD.str).zip (kvs.map (·.2)) = kvs ∧ ks.length = (kvs.map (·.2)).length
  | [], ks, h => by
    cases h
    exact ⟨rfl, rfl⟩
  | (.str k, v) :: r, ks, h => by
    obtain ⟨l, h1, rfl⟩ := Option.map_eq_some_iff.mp (show (dKeys r).map (k :: ·) = some ks from h)
    obtain ⟨z1, z2⟩ := dKeys_ok h1
    refine ⟨?_, by simp [z2]⟩
    show (PD.str k, v) :: (l.map PD.str).zip (r.map (·.2)) = _
    rw [z1]
  | (.non, _) :: _, ks, h => by cases h
  | (.bl _, _) :: _, ks, h => by cases h
  | (.int _, _) :: _, ks, h => by cases h
  | (.tup _, _) :: _, ks, h => by cases h
  | (.lst _, _) :: _, ks, h => by cases h
  | (.dct _, _) :: _, ks, h => by cases h
  | (.obj _ _, _) :: _, ks, h => by cases h
  | (.scr _, _) :: _, ks, h => by cases h
theorem zipWith_mem {α β γ : Type} {g : α → β → γ} : ∀ {as : List α} {bs : List β} {i : Nat} {a : α}, as.length = bs.length → as[i]? = some a → ∃ b, (a, b) ∈ as.zip bs ∧ g a b ∈ List.zipWith g as bs
  | [], _, i, a, _, e => by simp at e
  | x :: as, [], i, a, h, _ => by simp at h
  | x :: as, y :: bs, 0, a, h, e => by
    simp at e
    subst e
    exact ⟨y, by simp, by simp⟩
  | x :: as, y :: bs, i + 1, a, h, e => by
    obtain ⟨b, h1, h2⟩ := zipWith_mem (g := g) (bs := bs) (by simpa using h) (show as[i]? = some a by simpa using e)
    exact ⟨b, by simp [h1], by simp [h2]⟩
theorem argsB_ok {st : Stmt} {T : Tab} {f : Fn} (h : argsB (defArgs st) f.ps = true) : BndB (mkD T f st) f.ps := by
  intro kV doc pm an cdv ct us hl
  unfold argsB at h
  obtain ⟨h, h6⟩ := b2 h
  obtain ⟨h, h5⟩ := b2 h
  obtain ⟨h, h4⟩ := b2 h
  obtain ⟨h, h3⟩ := b2 h
  obtain ⟨h1, h2⟩ := b2 h
  exact bind_plain (isEmpty_ok h1) (of_decide_eq_true h2) (isEmpty_ok h3) (isNone_ok h4) (isNone_ok h5) rfl (of_decide_eq_true h6) hl
theorem klB_ok : ∀ {l : List Kl} {n i : Nat} {T : Tab} {q : Kl}, klB n T l = true → l[i]? = some q → msB T (n + i) q = true
  | [], n, i, T, q, _, e => by simp at e
  | p :: l, n, 0, T, q, h, e => by
    simp at e
    subst e
    exact (b2 (show (msB T n p && klB (n + 1) T l) = true from h)).1
  | p :: l, n, i + 1, T, q, h, e => by
    have := klB_ok (b2 (show (msB T n p && klB (n + 1) T l) = true from h)).2 (show l[i]? = some q by simpa using e)
    rwa [show n + 1 + i = n + (i + 1) by omega] at this
theorem allP_of {α : Type} {P : α → Prop} : ∀ {l : List α}, (∀ (i : Nat) (a : α), l[i]? = some a → P a) → AllP P l
  | [], _ => True.intro
  | a :: l, h => ⟨h 0 a rfl, allP_of fun i b e => h (i + 1) b (by simpa using e)⟩
theorem allI_of {α : Type} {P : Nat → α → Prop} : ∀ {l : List α} {n : Nat}, (∀ (i : Nat) (a : α), l[i]? = some a → P (n + i) a) → AllI P n l
  | [], _, _ => True.intro
  | a :: l, n, h => ⟨h 0 a rfl, allI_of fun i b e => by
    have := h (i + 1) b (by simpa using e)
    rwa [show n + (i + 1) = n + 1 + i by omega] at this⟩
/-- where the classes stand -/
def ctOf (P : Program) (w : World) (T : Tab) (K : PySem.W.Frag) : Ct := ⟨P, w, K, fun j => He.ga K (klN T j), fun j => He.ga K (xkN T j)⟩
theorem top_all {P : Program} {w : World} {T : Tab} {sts : List Stmt} {K : PySem.W.Frag} {h : Heap} {mg : Str → Option Value} (X : K.In h) (G : h.Ns mainGlobals mg) (sT : He.SaysT (faOf T) (fnOf T sts) (tsOf T) w K) (hex : exOf P T K = true) (hc : allB T sts = true) {base : Heap} : Top T (ctOf P w T K) mg base := by
  have s : He.SaysD (faOf T) (fnOf T sts) K := congrArg (fun z : He.AlT => z.1) sT
  have t2 : (tsOf T).map (fun t => He.dicW K (t.1 K)) = (tsOf T).map (fun t => some (He.keysIn w.params t.2)) := congrArg (fun z : He.AlT => z.2) sT
  unfold allB at hc
  obtain ⟨hc, hk⟩ := b2 hc
  obtain ⟨hl, hf⟩ := b2 hc
  have hl := of_decide_eq_true hl
  unfold exOf at hex
  obtain ⟨he1, he2⟩ := b2 hex
  have hkn : ∀ j q, T.kls[j]? = some q → klN T j = q.name := fun j q e => by unfold klN; rw [e]; rfl
  have hxn : ∀ j q, T.xks[j]? = some q → xkN T j = q.name := fun j q e => by unfold xkN; rw [e]; rfl
  refine top_of (c := ctOf P w T K) X G s (allP_of fun i f e => ?_) (allP_of fun i q e => ?_) (allI_of fun j q e => ?_) (fun x hx => ?_) (fun j q e => ?_) ?_
  · obtain ⟨st, m1, m2⟩ := zipWith_mem (g := mkD T) hl e
    have hb := List.all_eq_true.mp hf _ m1
    unfold fnB at hb
    obtain ⟨hb, h4⟩ := b2 hb
    obtain ⟨hb, h3⟩ := b2 hb
    obtain ⟨h1, h2⟩ := b2 hb
    have hmem : f ∈ T.fns := List.mem_of_getElem? e
    cases ec : f.cls with
    | none =>
      refine FnF.glob (c := ctOf P w T K) X G s m2 (by show plc T f = _; unfold plc; rw [ec]) rfl rfl rfl rfl rfl (argsB_ok h1) ec ?_ h2 h3
      unfold faOf
      simp only [List.append_assoc]
      refine List.mem_append_left _ (List.mem_map.mpr ⟨f, hmem, ?_⟩)
      rw [ec]
    | some j =>
      refine FnF.meth (c := ctOf P w T K) (C := klN T j) (j := j) s m2 (by show plc T f = _; unfold plc; rw [ec]) rfl rfl rfl rfl rfl (argsB_ok h1) ec rfl ?_ h2 h3
      unfold faOf
      simp only [List.append_assoc]
      refine List.mem_append_left _ (List.mem_map.mpr ⟨f, hmem, ?_⟩)
      rw [ec]
  · have hb := List.all_eq_true.mp he1 q (List.mem_of_getElem? e)
    unfold gB at hb
    split at hb
    · rename_i t et
      obtain ⟨hb, h3⟩ := b2 hb
      obtain ⟨h1, h2⟩ := b2 hb
      have hm : t ∈ T.gs.filterMap dictG := List.mem_filterMap.mpr ⟨q, List.mem_of_getElem? e, et⟩
      obtain ⟨x, d⟩ := q
      unfold dictG at et
      cases d <;> first | (cases et; done) | skip
      rename_i kvs
      obtain ⟨ks, ek, rfl⟩ := Option.map_eq_some_iff.mp (show (dKeys kvs).map (fun ks => (x, ks, kvs.map (·.2))) = some t from et)
      obtain ⟨z1, z2⟩ := dKeys_ok ek
      have hd : He.dicW K (He.ga K x) = some (He.keysIn w.params ks) := by
        have := List.map_inj_left.mp t2 ((fun K => He.ga K x, ks) : He.Tab) (List.mem_map.mpr ⟨_, hm, rfl⟩)
        exact this
      have hg : (He.Fa.glo x).ok (ctOf P w T K).K = true := He.SaysD.facts s (f := .glo x) (by
        unfold faOf
        exact List.mem_append_right _ (List.mem_map.mpr ⟨_, hm, rfl⟩))
      have hd' : dvB (ctOf P w T K).K (He.ga (ctOf P w T K).K x) (kvs.map (fun z : PD × PD => z.2)) = true := h1
      have := dict_ok (c := ctOf P w T K) X G hg hd hd' (of_decide_eq_true h2) (of_decide_eq_true h3) z2
      rw [z1] at this
      exact this
    · exact con_ok (c := ctOf P w T K) X G hb
  · rw [Nat.zero_add]
    have hq := klB_ok hk e
    rw [Nat.zero_add] at hq
    have hmem : q ∈ T.kls := List.mem_of_getElem? e
    have inK : ∀ x ∈ ([He.Fa.glo q.name, He.Fa.cls q.name, He.Fa.mkr q.name, He.Fa.meth q.name "__init__"] ++ q.flds.map fun f => He.Fa.noat q.name f), x ∈ faOf T := fun x hx => by
      unfold faOf
      refine List.mem_append_left _ (List.mem_append_left _ (List.mem_append_left _ (List.mem_append_right _ ?_)))
      exact List.mem_flatMap.mpr ⟨q, hmem, hx⟩
    refine KlsF.of (c := ctOf P w T K) X G s (by show He.ga K (klN T j) = _; rw [hkn j q e]; rfl) (inK _ (by simp)) (inK _ (by simp)) (fun f hf => inK _ ?_) (inK _ (by simp)) (inK _ (by simp)) hq
    exact List.mem_append_right _ (List.mem_map.mpr ⟨f, hf, rfl⟩)
  · unfold faOf
    exact List.mem_append_left _ (List.mem_append_left _ (List.mem_append_right _ (List.mem_map.mpr ⟨x, hx, rfl⟩)))
  · exact xkB_ok (c := ctOf P w T K) X G (fun i qi ei => by show He.ga K (xkN T i) = _; rw [hxn i qi ei]; rfl) e (List.all_eq_true.mp he2 q (List.mem_of_getElem? e))
  · unfold faOf
    exact List.mem_append_left _ (List.mem_append_right _ (by simp))
/-! ### the Hook -/
def asS (g : Addr → Option Obj) : Nat → List Addr
  | 0 => [mainGlobals, cStatics]
  | n + 1 => He.growD g (asS g n)
abbrev AlS : Type := He.AlT × Bool
def obsS (n : Nat) (P : Program) (T : Tab) (sts : List Stmt) (g : Addr → Option Obj) : AlS := (He.obsT (faOf T) (fnOf T sts) (tsOf T) (He.frG g (asS g n)), exOf P T (He.frG g (asS g n)))
def hookS (n : Nat) (P : Program) (T : Tab) (sts : List Stmt) : PySem.W.Hook where
  α := AlS
  obs := fun s => obsS n P T sts s.heap.get?
  val := fun w => (He.valT (fnOf T sts) (tsOf T) w, true)
  says := fun w h => ∃ K : PySem.W.Frag, K.In h ∧ He.SaysT (faOf T) (fnOf T sts) (tsOf T) w K ∧ exOf P T K = true
  of := fun _ _ e => ⟨_, He.frG_in, congrArg (fun z : AlS => z.1) e, congrArg (fun z : AlS => z.2) e⟩
  keeps := fun _ _ _ ⟨K, hK, c⟩ k => ⟨K, PySem.W.Frag.In.keeps hK k, c⟩
theorem obsS_eq {n : Nat} {P : Program} {T : Tab} {sts : List Stmt} {g : Addr → Option Obj} {s : Shared} (h : ∀ a, g a = s.heap.get? a) : obsS n P T sts g = (hookS n P T sts).obs s := by
  have e : g = s.heap.get? := funext h
  rw [e] <;> rfl
/-! ### the law's end -/
theorem Gz_nil {H : Hp} : Gz [] [] [] H = H := by
  funext a
  show Fz H ([] ++ []) a = H a
  unfold Fz
  simp
theorem stt_nil {c : Ct} {H : Hp} : Stt c [] [] [] H where
  len := rfl
  nd := List.nodup_nil
  nh := fun a h => by
    have h : a ∈ ([] : List Addr) := h
    simp at h
  tr := fun a h => by simp at h
  ob := fun i o a h _ => by simp at h
theorem law_sp {T : Tab} {c : Ct} {k : Nat} {h1 : LH} {ns : List Int} (hr : callD T k 0 [.p (.scr ns)] [] = .ok (.p (.bl true)) h1) {H : Hp} {a : Addr} (hS : SqL c.K H a (ns.map V.int)) : spF T c k 0 [.ref a] H (fun v _ => v = .bl true) fun _ _ _ => False := by
  refine ⟨[], [], [], [.p (.scr ns)], stt_nil, .cons ?_ .nil, ?_⟩
  · show RP c (Gz [] [] [] H) (.scr ns) (.ref a)
    rw [Gz_nil]
    exact .scr hS
  · rw [hr]
    intro v H' ρ' _ _ r
    exact RP.bl_inv r
theorem law_F {T : Tab} {P : Program} {w : World} {sts : List Stmt} {k : Nat} {f0 : Fn} {x : Str} (hc : allB T sts = true) (h0 : T.fns[0]? = some f0) (hcl : f0.cls = none) (hps : f0.ps = [x]) {K : PySem.W.Frag} {h : Heap} {mg : Str → Option Value} {fa : Addr} (X : K.In h) (G : h.Ns mainGlobals mg) (sT : He.SaysT (faOf T) (fnOf T sts) (tsOf T) w K) (hex : exOf P T K = true) (hfa : mg f0.name = some (.ref fa)) :
    ∃ fd : FuncData, (∀ (s : Shared) (u : Value), BindsTo s fd ⟨[u], []⟩ [(x, u)]) ∧ ∀ base : Heap, K.In base → base.Ns mainGlobals mg → FnOk P w K mg base (CX P w) (k + 3) fa fd [x] (spF T (ctOf P w T K) (k + 3) 0) := by
  have Tp : ∀ base, Top T (ctOf P w T K) mg base := fun base => top_all X G sT hex hc
  have hall := hc
  unfold allB at hall
  obtain ⟨hall, _⟩ := b2 hall
  obtain ⟨hl, hf⟩ := b2 hall
  obtain ⟨st, m1, m2⟩ := zipWith_mem (g := mkD T) (of_decide_eq_true hl) h0
  have hb := List.all_eq_true.mp hf _ m1
  unfold fnB at hb
  have h1 : argsB (defArgs st) f0.ps = true := (b2 (b2 (b2 hb).1).1).1
  have s : He.SaysD (faOf T) (fnOf T sts) K := congrArg (fun z : He.AlT => z.1) sT
  obtain ⟨fd, F⟩ := He.SaysD.defs s m2
  have F' : FunD K f0.name f0.qual (defArgs st) (defBody st) f0.sc [] [] (He.fAd K (mkD T f0 st).at_) fd := F
  have bA := FunD.bindsA (ps := f0.ps) F' (argsB_ok (T := T) h1)
  refine ⟨fd, fun s' u => ?_, fun base _ _ => ?_⟩
  · have := bA s' [u] (by rw [hps]; rfl)
    rw [hps] at this
    exact this
  · obtain ⟨a, fd2, FA, hm, _⟩ := fn_all (Tp base) (k + 3) 0 f0 h0
    have ea := (hm hcl).symm.trans hfa
    have ea : a = fa := by cases ea; rfl
    subst ea
    obtain ⟨oc, od, osl, l1⟩ := FA.lk
    obtain ⟨oc2, od2, osl2, l2⟩ := F'.lk
    have hat : (mkD T f0 st).at_ = (f0.name, none) := by
      show plc T f0 = _
      unfold plc
      rw [hcl]
    have hg : mg f0.name = some (.ref (He.ga K f0.name)) := He.glo_ok X G (He.SaysD.facts s (f := .glo f0.name) (by
      unfold faOf
      simp only [List.append_assoc]
      refine List.mem_append_left _ (List.mem_map.mpr ⟨f0, List.mem_of_getElem? h0, ?_⟩)
      rw [hcl]))
    have e2 : He.fAd K (mkD T f0 st).at_ = a := by
      rw [hat]
      have := (hm hcl).symm.trans hg
      cases this
      rfl
    rw [e2] at l2
    have l1 : K.lookup a = some ⟨oc, od, .func fd2, osl⟩ := l1
    rw [l1] at l2
    cases l2
    have ok := FA.ok
    rw [hps] at ok
    exact ok
theorem fnok0 {P : Program} {w : World} {K : PySem.W.Frag} {mg : Str → Option Value} {base : Heap} {k : Nat} {f : Addr} {fd : FuncData} {ps : List Str} {sp : Sp} (F : FnOk P w K mg base (CX P w) k f fd ps sp) : FnOk P w K mg base CX0 k f fd ps (fun vs H Q _ => sp vs H Q fun _ _ _ => False) where
  len := fun vs H Q _ h => F.len vs H Q _ h
  run := fun A outer s H args us vs Q E hr he hb hv h => codeAny_mono (F.run A outer s H args us vs Q _ hr he hb hv h) fun r s' q => by
    cases r with
    | ok fl => cases fl <;> exact q
    | error e =>
      obtain ⟨a, B, H', cls, d, _, _, _, _, _, _, _, z⟩ := (show CX P w outer H s (fun _ _ _ => False) e s' from q)
      exact z.elim
/-- all that a law's end asks -/
theorem law_all {T : Tab} {P : Program} {sts : List Stmt} {k n : Nat} {f0 : Fn} {x : Str} (hc : allB T sts = true) (h0 : T.fns[0]? = some f0) (hcl : f0.cls = none) (hps : f0.ps = [x]) (hpl : ∀ ns : List Int, ns.length ≤ n → ∃ h, callD T (k + 3) 0 [.p (.scr ns)] [] = .ok (.p (.bl true)) h)
    {dep : Nat} (w : World) (mg : Str → Option Value) (fa : Addr) (h : Heap) (Y : (hookS dep P T sts).says w h) (G : h.Ns mainGlobals mg) (hfa : mg f0.name = some (.ref fa)) :
    ∃ (K : PySem.W.Frag) (fd : FuncData) (sp : Sp), K.In h ∧ (∀ (s : Shared) (u : Value), BindsTo s fd ⟨[u], []⟩ [(x, u)]) ∧
      (∀ (H : Hp) (a : Addr) (ns : List Int), ns.length ≤ n → Only H → SqL K H a (ns.map V.int) → sp [.ref a] H (fun v _ => v = .bl true) fun _ _ _ => False) ∧
      ∀ base : Heap, K.In base → base.Ns mainGlobals mg → FnOk P w K mg base CX0 (k + 3) fa fd [x] sp := by
  obtain ⟨K, X, sT, hex⟩ := Y
  obtain ⟨fd, hb, hF⟩ := law_F (k := k) hc h0 hcl hps X G sT hex hfa
  refine ⟨K, fd, fun vs H Q _ => spF T (ctOf P w T K) (k + 3) 0 vs H Q fun _ _ _ => False, X, hb, fun H a ns hl _ hS => ?_, fun base b1 b2 => fnok0 (hF base b1 b2)⟩
  obtain ⟨h1, hr⟩ := hpl ns hl
  exact law_sp (c := ctOf P w T K) hr hS
end Sim
end
section
set_option Elab.async false
set_option linter.all false
set_option maxRecDepth 100000
set_option maxHeartbeats 0
namespace K01
open PySem PySem.Spec PyProof.Rows L2 Sim
/-! the table of the law, printed by gen.py -/
def top (i : Nat) : Stmt := (PySem.W.OpenLaw.row PySem.Challenge.rw_meansback_k01_books_refused).prog.main.body.getD i (.Pass ⟨0, 0, 0, 0⟩)
def clsB : Stmt → List Stmt
  | .ClassDef _ _ _ b _ _ _ _ _ _ _ => b
  | _ => []
abbrev s0 : Stmt := top 37
def b0 : List S := [.set (.nm 2) (.cal 1 false [.var 0]),
  .forS (.nm 4) .rng1 [.cst (.int 8)] [.set (.nm 3) (.cal 2 false [.var 2]), .forS (.nm 1) .rng1 [.cal 3 false [.var 2, .cst (.int 3)]] [.ex (.cal 4 false [.var 2, .var 3])], .ite (.cmp .ne (.cal 5 false [.var 3]) (.cal 6 false [.var 3])) [.ret (.cst (.bl false))] []],
  .ret (.cst (.bl true))]
def f0 : Fn := { name := "law", qual := "law", cls := none, ps := ["_law_script"], N := ["_law_script", "_law_k", "_law_row", "_law_t", "_law_turn"], sc := defScope s0, body := b0, live := false }
abbrev s1 : Stmt := top 25
def b1 : List S := [.ret (.lst true [.bf .list false [.var 0], .cst (.int 0), .cst (.int 0), .cst (.int 7)])]
def f1 : Fn := { name := "_law_draws", qual := "_law_draws", cls := none, ps := ["_law_script"], N := ["_law_script"], sc := defScope s1, body := b1, live := true }
abbrev s2 : Stmt := top 30
def b2 : List S := [.set (.nm 1) (.lst false [.tup [.cst (.int 1)], .tup [.cst (.int 2)], .tup [.cst (.int 3)], .tup [.cst (.int 1), .cst (.int 1)], .tup [.cst (.int 1), .cst (.int 2)], .tup [.cst (.int 2), .cst (.int 1)], .tup [.cst (.int 1), .cst (.int 1), .cst (.int 1)], .tup [.cst (.int 2), .cst (.int 2)], .tup [.cst (.int 1), .cst (.int 1), .cst (.int 2)], .tup [.cst (.int 3), .cst (.int 1)]]),
  .set (.nm 2) (.dct true [.str "pieces", .str "rule", .str "cap"] [.idx (.var 1) (.cal 3 false [.var 0, .cst (.int 10)]), .cal 8 false [.var 0], .cal 3 false [.var 0, .cst (.int 5)]]),
  .setI (.var 2) (.cst (.str "means")) (.fz (.cal 7 false [.var 0, .lst false [.cst (.str "card"), .cst (.str "cash"), .cst (.str "gift")]])),
  .ite (.cmp .eq (.idx (.var 2) (.cst (.str "means"))) (.tup [])) [.setI (.var 2) (.cst (.str "means")) (.fz (.tup [.idx (.lst false [.cst (.str "card"), .cst (.str "cash"), .cst (.str "gift")]) (.cal 3 false [.var 0, .cst (.int 3)])]))] [],
  .setI (.var 2) (.cst (.str "gift")) (.fz (.cal 3 false [.var 0, .bin .add (.idx (.var 2) (.cst (.str "cap"))) (.cst (.int 1))])),
  .setI (.var 2) (.cst (.str "words")) (.fz (.cal 7 false [.var 0, .lst false [.cst (.str "close"), .cst (.str "lapse"), .cst (.str "new")]])),
  .ret (.var 2)]
def f2 : Fn := { name := "_law_drawn", qual := "_law_drawn", cls := none, ps := ["_law_row"], N := ["_law_row", "_law_every", "_law_t"], sc := defScope s2, body := b2, live := true }
abbrev s3 : Stmt := top 26
def b3 : List S := [.ite (.cmp .eq (.idx (.var 0) (.cst (.int 2))) (.cst (.int 0))) [.ite (.cmp .lt (.idx (.var 0) (.cst (.int 1))) (.bf .len false [.idx (.var 0) (.cst (.int 0))])) [.set (.nm 2) (.idx (.idx (.var 0) (.cst (.int 0))) (.idx (.var 0) (.cst (.int 1)))), .setI (.var 0) (.cst (.int 1)) (.fz (.bin .add (.idx (.var 0) (.cst (.int 1))) (.cst (.int 1)))), .ite (.cmp .ge (.var 2) (.bin .pow (.cst (.int 10)) (.cst (.int 18)))) [.setI (.var 0) (.cst (.int 2)) (.fz (.var 2))] [.setI (.var 0) (.cst (.int 3)) (.fz (.bin .md (.bf .int false [.bin .add (.bin .add (.bin .mul (.idx (.var 0) (.cst (.int 3))) (.cst (.int 48271))) (.bin .mul (.var 2) (.cst (.int 69621)))) (.cst (.int 11))]) (.cst (.int 2147483647))))]] [.setI (.var 0) (.cst (.int 3)) (.fz (.bin .md (.bf .int false [.bin .add (.bin .mul (.idx (.var 0) (.cst (.int 3))) (.cst (.int 48271))) (.cst (.int 7))]) (.cst (.int 2147483647))))]] [],
  .ite (.cmp .gt (.idx (.var 0) (.cst (.int 2))) (.cst (.int 0))) [.set (.nm 3) (.bin .md (.bf .int false [.idx (.var 0) (.cst (.int 2))]) (.var 1)), .setI (.var 0) (.cst (.int 2)) (.fz (.bin .fdiv (.idx (.var 0) (.cst (.int 2))) (.var 1))), .ret (.var 3)] [],
  .ret (.bin .md (.bin .md (.bf .int false [.bin .mul (.idx (.var 0) (.cst (.int 3))) (.cst (.int 16807))]) (.cst (.int 2147483629))) (.var 1))]
def f3 : Fn := { name := "_law_pick", qual := "_law_pick", cls := none, ps := ["_law_row", "_law_many"], N := ["_law_row", "_law_many", "_law_cell", "_law_found"], sc := defScope s3, body := b3, live := false }
abbrev s4 : Stmt := top 36
def b4 : List S := [.set (.nm 2) (.cal 3 false [.var 0, .cst (.int 5)]),
  .ite (.cmp .eq (.var 2) (.cst (.int 0))) [.setI (.var 1) (.cst (.str "means")) (.fz (.idx (.lst false [.tup [], .cst (.non), .lst false [.cst (.str "card")], .tup [.cst (.str "cash"), .cst (.str "card")], .tup [.cst (.str "card"), .cst (.str "card")], .tup [.cst (.str "bank")], .tup [.cst (.int 1)]]) (.cal 3 false [.var 0, .cst (.int 7)])))] [.ite (.cmp .eq (.var 2) (.cst (.int 1))) [.set (.nm 5) (.lst false [.tup [], .cst (.non), .lst false [.cst (.int 1)], .tup [.cst (.int 0)], .tup [.cst (.int 4)], .tup [.cst (.int 2), .cst (.int 3)], .tup [.cst (.bl true)], .tup [.cst (.int 1), .cst (.int 1), .cst (.int 1), .cst (.int 1)], .tup [.cst (.str "1")], .tup [.cst (.int 2), .cst (.int 2)]]), .setI (.var 1) (.cst (.str "pieces")) (.fz (.idx (.var 5) (.cal 3 false [.var 0, .cst (.int 10)])))] [.ite (.cmp .eq (.var 2) (.cst (.int 2))) [.setI (.var 1) (.idx (.lst false [.cst (.str "cap"), .cst (.str "gift")]) (.cal 3 false [.var 0, .cst (.int 2)])) (.fz (.idx (.lst false [.neg (.cst (.int 1)), .cst (.int 5), .cst (.non), .cst (.bl true), .cst (.str "1"), .cst (.int 4)]) (.cal 3 false [.var 0, .cst (.int 6)])))] [.ite (.cmp .eq (.var 2) (.cst (.int 3))) [.set (.nm 4) (.ite (.isi (.idx (.var 1) (.cst (.str "rule"))) .dict) (.bf .dict true [.idx (.var 1) (.cst (.str "rule"))]) (.dct true [] [])), .set (.nm 3) (.idx (.lst false [.cst (.str "base"), .cst (.str "closed"), .cst (.str "order"), .cst (.str "rounding"), .cst (.str "more")]) (.cal 3 false [.var 0, .cst (.int 5)])), .setI (.var 4) (.var 3) (.fz (.idx (.lst false [.cst (.str "all"), .cst (.str ""), .cst (.non), .cst (.int 5)]) (.cal 3 false [.var 0, .cst (.int 4)]))), .setI (.var 1) (.cst (.str "rule")) (.fz (.ite (.cmp .gt (.cal 3 false [.var 0, .cst (.int 5)]) (.cst (.int 0))) (.var 4) (.idx (.lst false [.cst (.non), .dct false [] [], .lst false []]) (.cal 3 false [.var 0, .cst (.int 3)]))))] [.setI (.var 1) (.cst (.str "words")) (.fz (.idx (.lst false [.cst (.non), .lst false [.cst (.str "new")], .tup [.cst (.str "new"), .cst (.str "close")], .tup [.cst (.str "new"), .cst (.str "new")], .tup [.cst (.str "pay")], .tup [.cst (.non)], .cst (.str "new")]) (.cal 3 false [.var 0, .cst (.int 7)])))]]]]]
def f4 : Fn := { name := "_law_spoil", qual := "_law_spoil", cls := none, ps := ["_law_row", "_law_t"], N := ["_law_row", "_law_t", "_law_at", "_law_point", "_law_rule_here", "_law_some_here"], sc := defScope s4, body := b4, live := false }
abbrev s5 : Stmt := top 35
def b5 : List S := [.set (.nm 1) (.cst (.non)),
  .tryS [.ex (.cal 9 false [.var 0])] [⟨0, some 2, 1, .ite 5 (.lst [.cst (.str "means")]) (.cst (.str "another"))⟩, ⟨1, none, 1, .lst [.cst (.str "pieces")]⟩, ⟨2, none, 1, .lst [.cst (.str "purse")]⟩, ⟨3, some 2, 1, .lst [.cst (.str "rule"), .fld "point"]⟩, ⟨4, none, 1, .lst [.cst (.str "words")]⟩],
  .ret (.var 1)]
def f5 : Fn := { name := "_law_told", qual := "_law_told", cls := none, ps := ["_law_t"], N := ["_law_t", "_law_told_here", "e"], sc := defScope s5, body := b5, live := false }
abbrev s6 : Stmt := top 34
def b6 : List S := [.ite (.or (.nt (.cal 11 true [.idx (.var 0) (.cst (.str "means")), .lst false [.cst (.str "card"), .cst (.str "cash"), .cst (.str "gift")]])) (.cmp .eq (.idx (.var 0) (.cst (.str "means"))) (.tup []))) [.ret (.lst false [.cst (.str "means")])] [],
  .ite (.or (.nt (.isi (.idx (.var 0) (.cst (.str "pieces"))) .tuple)) (.nt (.chn .le .le (.cst (.int 1)) (.bf .len false [.idx (.var 0) (.cst (.str "pieces"))]) (.cst (.int 3))))) [.ret (.lst false [.cst (.str "pieces")])] [],
  .ite (.or (.nt (.bf .all false [.cmpr false [("_law_price", 3)] (.nm 3) .seq [.idx (.var 0) (.cst (.str "pieces"))] [] (.cal 12 true [.var 3, .cst (.int 1), .cst (.int 3)])])) (.cmp .gt (.bf .sum false [.idx (.var 0) (.cst (.str "pieces"))]) (.cst (.int 4)))) [.ret (.lst false [.cst (.str "pieces")])] [],
  .ite (.or (.nt (.cal 12 true [.idx (.var 0) (.cst (.str "cap")), .cst (.int 0), .cst (.int 4)])) (.nt (.cal 12 true [.idx (.var 0) (.cst (.str "gift")), .cst (.int 0), .idx (.var 0) (.cst (.str "cap"))]))) [.ret (.lst false [.cst (.str "purse")])] [],
  .set (.tp [.nm 1, .nm 4]) (.tup [.cmpr false [("_law_point", 2), ("_law_words", 5)] (.tp [.nm 2, .nm 5]) .seq [.cal 10 true []] [] (.var 2), .idx (.var 0) (.cst (.str "rule"))]),
  .ite (.or (.nt (.isi (.var 4) .dict)) (.or (.cmp .ne (.bf .len false [.var 4]) (.cst (.int 5))) (.cmp .ne (.cmpr false [("_law_point", 2)] (.nm 2) .seq [.var 1] [.cmp .notin (.var 2) (.var 4)] (.var 2)) (.lst false [])))) [.ret (.lst false [.cst (.str "rule"), .cst (.str "")])] [],
  .forS (.tp [.nm 2, .nm 5]) .seq [.cal 10 true []] [.ite (.or (.nt (.isi (.idx (.var 4) (.var 2)) .str)) (.cmp .notin (.idx (.var 4) (.var 2)) (.var 5))) [.ret (.lst false [.cst (.str "rule"), .var 2])] []],
  .ret (.ite (.cal 11 true [.idx (.var 0) (.cst (.str "words")), .lst false [.cst (.str "close"), .cst (.str "lapse"), .cst (.str "new")]]) (.cst (.non)) (.lst false [.cst (.str "words")]))]
def f6 : Fn := { name := "_law_due", qual := "_law_due", cls := none, ps := ["_law_t"], N := ["_law_t", "_law_names", "_law_point", "_law_price", "_law_rule_here", "_law_words"], sc := defScope s6, body := b6, live := false }
abbrev s7 : Stmt := top 29
def b7 : List S := [.ret (.bf .tuple false [.cmpr false [("_law_one", 2)] (.nm 2) .seq [.var 1] [.cmp .eq (.cal 3 false [.var 0, .cst (.int 2)]) (.cst (.int 0))] (.var 2)])]
def f7 : Fn := { name := "_law_some", qual := "_law_some", cls := none, ps := ["_law_row", "_law_every"], N := ["_law_row", "_law_every", "_law_one"], sc := defScope s7, body := b7, live := false }
abbrev s8 : Stmt := top 28
def b8 : List S := [.set (.nm 1) (.dct true [] []),
  .forS (.tp [.nm 2, .nm 3]) .seq [.cal 10 true []] [.setI (.var 1) (.var 2) (.fz (.idx (.var 3) (.cal 3 false [.var 0, .bf .len false [.var 3]])))],
  .ite (.cmp .eq (.cal 3 false [.var 0, .cst (.int 3)]) (.cst (.int 0))) [.setI (.var 1) (.cst (.str "order")) (.fz (.cst (.str "shares")))] [],
  .ret (.var 1)]
def f8 : Fn := { name := "_law_rule", qual := "_law_rule", cls := none, ps := ["_law_row"], N := ["_law_row", "_law_found", "_law_point", "_law_words"], sc := defScope s8, body := b8, live := false }
abbrev s9 : Stmt := top 31
def b9 : List S := [.ret (.mk 0 true [.idx (.var 0) (.cst (.str "means")), .idx (.var 0) (.cst (.str "pieces")), .idx (.var 0) (.cst (.str "gift")), .idx (.var 0) (.cst (.str "cap")), .idx (.var 0) (.cst (.str "rule")), .idx (.var 0) (.cst (.str "words"))])]
def f9 : Fn := { name := "_law_made", qual := "_law_made", cls := none, ps := ["_law_t"], N := ["_law_t"], sc := defScope s9, body := b9, live := false }
abbrev s10 : Stmt := top 27
def b10 : List S := [.set (.nm 0) (.lst false [.tup [.cst (.str "base"), .lst false [.cst (.str "all"), .cst (.str "left")]], .tup [.cst (.str "closed"), .lst false [.cst (.str "cash"), .cst (.str "gift"), .cst (.str "lost")]], .tup [.cst (.str "gifts"), .lst false [.cst (.str "cash"), .cst (.str "gift")]]]),
  .ret (.cat false (.var 0) (.lst false [.tup [.cst (.str "order"), .lst false [.cst (.str "first"), .cst (.str "last"), .cst (.str "shares")]], .tup [.cst (.str "rounding"), .lst false [.cst (.str "down"), .cst (.str "rest"), .cst (.str "up")]]]))]
def f10 : Fn := { name := "_law_points", qual := "_law_points", cls := none, ps := [], N := ["_law_found"], sc := defScope s10, body := b10, live := false }
abbrev s11 : Stmt := top 33
def b11 : List S := [.ite (.or (.nt (.isi (.var 0) .tuple)) (.cmp .ne (.cmpr false [("_law_one", 2)] (.nm 2) .seq [.var 0] [.cmp .notin (.var 2) (.var 1)] (.var 2)) (.lst false []))) [.ret (.cst (.bl false))] [],
  .ret (.cmp .eq (.bf .list false [.var 0]) (.srt false (.var 0)))]
def f11 : Fn := { name := "_law_are", qual := "_law_are", cls := none, ps := ["_law_value", "_law_every"], N := ["_law_value", "_law_every", "_law_one"], sc := defScope s11, body := b11, live := false }
abbrev s12 : Stmt := top 32
def b12 : List S := [.ret (.and (.isi (.var 0) .int) (.and (.nt (.isi (.var 0) .bool)) (.chn .le .le (.var 1) (.var 0) (.var 2))))]
def f12 : Fn := { name := "_law_int", qual := "_law_int", cls := none, ps := ["_law_value", "_law_low", "_law_high"], N := ["_law_value", "_law_low", "_law_high"], sc := defScope s12, body := b12, live := false }
abbrev s13 : Stmt := (clsB (top 22)).getD 0 (.Pass ⟨0, 0, 0, 0⟩)
def b13 : List S := [.ite (.or (.nt (.cal 16 true [.var 1, .glb 2])) (.cmp .eq (.var 1) (.tup []))) [.rse 0 []] [],
  .ite (.nt (.cal 15 true [.var 2])) [.rse 1 []] [],
  .ite (.or (.nt (.cal 17 true [.var 4, .cst (.int 0), .glb 3])) (.nt (.cal 17 true [.var 3, .cst (.int 0), .var 4]))) [.rse 2 []] [],
  .ex (.cal 14 true [.var 5]),
  .ite (.nt (.cal 16 true [.var 6, .glb 0])) [.rse 4 []] [],
  .setF (.var 0) "kinds" (.var 1),
  .setF (.var 0) "prices" (.var 2),
  .setF (.var 0) "at_first" (.var 3),
  .setF (.var 0) "limit" (.var 4),
  .setF (.var 0) "points" (.dcmp false [("point", 7)] (.nm 7) .seq [.glb 1] (.var 7) (.idx (.var 5) (.var 7))),
  .setF (.var 0) "allowed" (.var 6)]
def f13 : Fn := { name := "__init__", qual := "Book.__init__", cls := some 0, ps := ["self", "means", "pieces", "gift", "cap", "rule", "words"], N := ["self", "means", "pieces", "gift", "cap", "rule", "words", "point"], sc := defScope s13, body := b13, live := false }
abbrev s14 : Stmt := top 21
def b14 : List S := [.ite (.or (.nt (.isi (.var 0) .dict)) (.cmp .ne (.bf .len false [.var 0]) (.bf .len false [.glb 1]))) [.rse 3 [.cst (.str "")]] [],
  .ite (.nt (.bf .all false [.cmpr false [("point", 1)] (.nm 1) .seq [.var 0] [] (.cal 18 true [.var 1, .bf .list false [.glb 1]])])) [.rse 3 [.cst (.str "")]] [],
  .forS (.nm 1) .seq [.glb 1] [.ite (.nt (.cal 18 true [.idx (.var 0) (.var 1), .idx (.glb 1) (.var 1)])) [.rse 3 [.var 1]] []]]
def f14 : Fn := { name := "check_rule", qual := "check_rule", cls := none, ps := ["rule"], N := ["rule", "point"], sc := defScope s14, body := b14, live := false }
abbrev s15 : Stmt := top 20
def b15 : List S := [.ite (.or (.nt (.isi (.var 0) .tuple)) (.nt (.chn .le .le (.cst (.int 1)) (.bf .len false [.var 0]) (.glb 5)))) [.ret (.cst (.bl false))] [],
  .ret (.and (.bf .all false [.cmpr false [("price", 1)] (.nm 1) .seq [.var 0] [] (.cal 17 true [.var 1, .cst (.int 1), .glb 6])]) (.cmp .le (.bf .sum false [.var 0]) (.glb 4)))]
def f15 : Fn := { name := "are_pieces", qual := "are_pieces", cls := none, ps := ["value"], N := ["value", "price"], sc := defScope s15, body := b15, live := false }
abbrev s16 : Stmt := top 19
def b16 : List S := [.ite (.or (.nt (.isi (.var 0) .tuple)) (.nt (.bf .all false [.cmpr false [("one", 2)] (.nm 2) .seq [.var 0] [] (.cal 18 true [.var 2, .var 1])]))) [.ret (.cst (.bl false))] [],
  .ret (.bf .all false [.cmpr false [("one", 2), ("other", 3)] (.tp [.nm 2, .nm 3]) .zp [.var 0, .slc false (.var 0) [.cst (.int 1)] []] [] (.cmp .lt (.var 2) (.var 3))])]
def f16 : Fn := { name := "are_some_of", qual := "are_some_of", cls := none, ps := ["value", "some"], N := ["value", "some", "one", "other"], sc := defScope s16, body := b16, live := false }
abbrev s17 : Stmt := top 17
def b17 : List S := [.ret (.and (.cal 19 true [.var 0]) (.chn .le .le (.var 1) (.var 0) (.var 2)))]
def f17 : Fn := { name := "is_from", qual := "is_from", cls := none, ps := ["value", "low", "high"], N := ["value", "low", "high"], sc := defScope s17, body := b17, live := false }
abbrev s18 : Stmt := top 18
def b18 : List S := [.ret (.and (.isi (.var 0) .str) (.cmp .isin (.var 0) (.var 1)))]
def f18 : Fn := { name := "is_one_of", qual := "is_one_of", cls := none, ps := ["value", "some"], N := ["value", "some"], sc := defScope s18, body := b18, live := false }
abbrev s19 : Stmt := top 16
def b19 : List S := [.ret (.and (.isi (.var 0) .int) (.nt (.isi (.var 0) .bool)))]
def f19 : Fn := { name := "is_integer", qual := "is_integer", cls := none, ps := ["value"], N := ["value"], sc := defScope s19, body := b19, live := false }
def kls : List Kl := [{ name := "Book", init := 13, ms := [], flds := ["kinds", "prices", "at_first", "limit", "points", "allowed"] }]
def xks : List Xk := [{ name := "BadMeans", fs := [], ups := [0, 5], sh := [], rs := true }, { name := "BadPieces", fs := [], ups := [1, 5], sh := [], rs := true }, { name := "BadPurse", fs := [], ups := [2, 5], sh := [], rs := true }, { name := "BadRule", fs := ["point"], ups := [3, 5], sh := [("point", true)], rs := true }, { name := "BadWords", fs := [], ups := [4, 5], sh := [], rs := true }, { name := "BackError", fs := [], ups := [5], sh := [], rs := false }]
def gls : List (Str × PD) := [("WORDS", .tup [.str "close", .str "lapse", .str "new"]), ("POINTS", .dct [(.str "base", .tup [.str "all", .str "left"]), (.str "closed", .tup [.str "cash", .str "gift", .str "lost"]), (.str "gifts", .tup [.str "cash", .str "gift"]), (.str "order", .tup [.str "first", .str "last", .str "shares"]), (.str "rounding", .tup [.str "down", .str "rest", .str "up"])]), ("MEANS", .tup [.str "card", .str "cash", .str "gift"]), ("MOST_CAP", .int 4), ("MOST_TOTAL", .int 4), ("MOST_PIECES", .int 3), ("MOST_PRICE", .int 3)]
def T : Tab := ⟨[f0, f1, f2, f3, f4, f5, f6, f7, f8, f9, f10, f11, f12, f13, f14, f15, f16, f17, f18, f19], kls, xks, gls⟩
def sts : List Stmt := [s0, s1, s2, s3, s4, s5, s6, s7, s8, s9, s10, s11, s12, s13, s14, s15, s16, s17, s18, s19]
def names0 : List PySem.Str := ["_wall", "BackError", "BadMeans", "BadPieces", "BadPurse", "BadRule", "BadWords", "MEANS", "POINTS", "WORDS", "MOST_PIECES", "MOST_PRICE", "MOST_TOTAL", "MOST_CAP", "is_integer", "is_from", "is_one_of", "are_some_of", "are_pieces", "check_rule", "Book", "frame_of", "_law_draws", "_law_pick", "_law_points", "_law_rule", "_law_some", "_law_drawn", "_law_made", "_law_int"]
def names1 : List PySem.Str := ["_law_are", "_law_due", "_law_told", "_law_spoil"]
def names : List PySem.Str := names0 ++ names1
abbrev RR : PySem.W.OpenRow := PySem.W.OpenLaw.row PySem.Challenge.rw_meansback_k01_books_refused
abbrev qv : Program := PySem.W.view RR.prog [37]
def lawAt : Nat := 37
end K01
end
section
set_option Elab.async false
set_option linter.all false
set_option maxRecDepth 100000
set_option maxHeartbeats 0
namespace K01
open PySem PySem.Spec PyProof.Rows L2 Sim
abbrev hk : PySem.W.Hook := hookS 5 RR.prog T sts
def ob (s : PySem.W.SharedT) : AlS := obsS 5 RR.prog T sts (HandSHeadRun.getT s)
theorem ob_eq (s : PySem.W.SharedT) : ob s = hk.obs s.abs := obsS_eq (HandSHeadRun.getT_eq s)
theorem run_f (w : World) : HandSHeadRun.RunEq RR qv hk ob 4000 names (w.withFollow "special-get-raises" false) := by
  intro os
  kernel_rfl
theorem run_t (w : World) : HandSHeadRun.RunEq RR qv hk ob 4000 names (w.withFollow "special-get-raises" true) := by
  intro os
  kernel_rfl
theorem run (w : World) : HandSHeadRun.RunEq RR qv hk ob 4000 names w := PySem.W.byRow2 "special-get-raises" (P := fun w => HandSHeadRun.RunEq RR qv hk ob 4000 names w) run_f run_t w
end K01
end
section
set_option Elab.async false
set_option linter.all false
set_option maxRecDepth 100000
set_option maxHeartbeats 4000000
namespace K01
open Sim
def rowD (ns : List Int) (i : Nat) (c s : Int) : List PD := [.lst (ns.map .int), .int i, .int c, .int s]
theorem pick_c (k : Nat) (rest : LH) (ns : List Int) (i : Nat) (c s m : Int) (hm : 0 < m) (hm2 : m < 1000) (hc : 0 < c) :
   callD T (k + 3) 3 [.ref 0, .p (.int m)] (some (.lst (rowD ns i c s)) :: rest) = .ok (.p (.int (c % m))) (some (.lst (rowD ns i (c / m) s)) :: rest) := by
  have h0 : ¬ c = 0 := by omega
  have hm3 : m < 1073741824 := by omega
  show runF T (callD T k) f3 _ _ = _
  simp [runF, f3, b3, Sim.execs, Sim.exec, ev, evs, R.bind, R.then, R.of, RS.seq, idxD, setD, peek, sh, bfn, cop, bop, psh, peq, rowD, L2.atI, L2.ixN, bindT, Sim.frz, h0, hc, hm, hm3]
theorem pick_e (k : Nat) (rest : LH) (ns : List Int) (i : Nat) (s m : Int) (hm : 0 < m) (hm2 : m < 1000) (hi : ¬ i < ns.length) :
   ∃ s', callD T (k + 3) 3 [.ref 0, .p (.int m)] (some (.lst (rowD ns i 0 s)) :: rest) = .ok (.p (.int (s' * 16807 % 2147483629 % m))) (some (.lst (rowD ns i 0 s')) :: rest) := by
  refine ⟨(s * 48271 + 7) % 2147483647, ?_⟩
  show runF T (callD T k) f3 _ _ = _
  simp [runF, f3, b3, Sim.execs, Sim.exec, ev, evs, R.bind, R.then, R.of, RS.seq, idxD, setD, peek, sh, bfn, cop, bop, psh, peq, rowD, L2.atI, L2.ixN, bindT, Sim.frz, hm, hi]
theorem pick_s (k : Nat) (rest : LH) (ns : List Int) (i : Nat) (s m : Int) (hm : 0 < m) (hm2 : m < 1000) (hi : i < ns.length) (hb : ¬ (10 ^ 18 : Int) ≤ ns[i]) :
   ∃ s', callD T (k + 3) 3 [.ref 0, .p (.int m)] (some (.lst (rowD ns i 0 s)) :: rest) = .ok (.p (.int (s' * 16807 % 2147483629 % m))) (some (.lst (rowD ns (i + 1) 0 s')) :: rest) := by
  refine ⟨(s * 48271 + ns[i] * 69621 + 11) % 2147483647, ?_⟩
  have hb2 : ¬ (1000000000000000000 : Int) ≤ ns[i] := by simpa using hb
  show runF T (callD T k) f3 _ _ = _
  simp [runF, f3, b3, Sim.execs, Sim.exec, ev, evs, R.bind, R.then, R.of, RS.seq, idxD, setD, peek, sh, bfn, cop, bop, psh, peq, rowD, L2.atI, L2.ixN, bindT, Sim.frz, hm, hi, hb2]
theorem pick_b (k : Nat) (rest : LH) (ns : List Int) (i : Nat) (s m : Int) (hm : 0 < m) (hm2 : m < 1000) (hi : i < ns.length) (hb : (10 ^ 18 : Int) ≤ ns[i]) :
   callD T (k + 3) 3 [.ref 0, .p (.int m)] (some (.lst (rowD ns i 0 s)) :: rest) = .ok (.p (.int (ns[i] % m))) (some (.lst (rowD ns (i + 1) (ns[i] / m) s)) :: rest) := by
  have hb2 : (1000000000000000000 : Int) ≤ ns[i] := by simpa using hb
  have hb3 : 0 < ns[i] := by omega
  have hm3 : m < 1073741824 := by omega
  show runF T (callD T k) f3 _ _ = _
  simp [runF, f3, b3, Sim.execs, Sim.exec, ev, evs, R.bind, R.then, R.of, RS.seq, idxD, setD, peek, sh, bfn, cop, bop, psh, peq, rowD, L2.atI, L2.ixN, bindT, Sim.frz, hm, hi, hb2, hb3, hm3]
/-- a row that picks -/
structure RowOk (o : Option LO) (ns : List Int) : Prop where
  ex : ∃ i c s, o = some (.lst (rowD ns i c s)) ∧ i ≤ ns.length ∧ 0 ≤ c
theorem pick (k : Nat) {o : Option LO} {ns : List Int} (R : RowOk o ns) (rest : LH) (m : Int) (hm : 0 < m) (hm2 : m < 1000) :
    ∃ r o', callD T (k + 3) 3 [.ref 0, .p (.int m)] (o :: rest) = .ok (.p (.int r)) (o' :: rest) ∧ RowOk o' ns ∧ 0 ≤ r ∧ r < m := by
  obtain ⟨i, c, s, rfl, hi, hc⟩ := R.ex
  by_cases h0 : c = 0
  · subst h0
    by_cases hl : i < ns.length
    · by_cases hb : (10 ^ 18 : Int) ≤ ns[i]
      · exact ⟨_, _, pick_b k rest ns i s m hm hm2 hl hb, ⟨_, _, _, rfl, hl, Int.ediv_nonneg (by omega) (by omega)⟩, Int.emod_nonneg _ (by omega), Int.emod_lt_of_pos _ hm⟩
      · obtain ⟨s', e⟩ := pick_s k rest ns i s m hm hm2 hl hb
        exact ⟨_, _, e, ⟨_, _, _, rfl, hl, Int.le_refl _⟩, Int.emod_nonneg _ (by omega), Int.emod_lt_of_pos _ hm⟩
    · obtain ⟨s', e⟩ := pick_e k rest ns i s m hm hm2 hl
      exact ⟨_, _, e, ⟨_, _, _, rfl, hi, Int.le_refl _⟩, Int.emod_nonneg _ (by omega), Int.emod_lt_of_pos _ hm⟩
  · have hc' : 0 < c := by omega
    exact ⟨_, _, pick_c k rest ns i c s m hm hm2 hc', ⟨_, _, _, rfl, hi, Int.ediv_nonneg (by omega) (by omega)⟩, Int.emod_nonneg _ (by omega), Int.emod_lt_of_pos _ hm⟩
end K01
end
section
set_option Elab.async false
set_option linter.all false
set_option maxRecDepth 100000
set_option maxHeartbeats 4000000
namespace K01
open Sim
def subs (a b c : PySem.Str) : List PD := [.tup [], .tup [.str a], .tup [.str b], .tup [.str c], .tup [.str a, .str b], .tup [.str a, .str c], .tup [.str b, .str c], .tup [.str a, .str b, .str c]]
theorem some_ok (k : Nat) {o : Option LO} {ns : List Int} (R : RowOk o ns) (rest : LH) (a b c : PySem.Str) :
    ∃ m o', callD T (k + 6) 7 [.ref 0, .p (.lst [.str a, .str b, .str c])] (o :: rest) = .ok (.p m) (o' :: rest) ∧ RowOk o' ns ∧ m ∈ subs a b c := by
  obtain ⟨r1, o1, e1, R1, _⟩ := pick k R rest 2 (by decide) (by decide)
  obtain ⟨r2, o2, e2, R2, _⟩ := pick k R1 rest 2 (by decide) (by decide)
  obtain ⟨r3, o3, e3, R3, _⟩ := pick k R2 rest 2 (by decide) (by decide)
  refine ⟨.tup ((if r1 = 0 then [.str a] else []) ++ (if r2 = 0 then [.str b] else []) ++ (if r3 = 0 then [.str c] else [])), o3, ?_, R3, ?_⟩
  · by_cases h1 : r1 = 0 <;> by_cases h2 : r2 = 0 <;> by_cases h3 : r3 = 0
    all_goals
      show runF T (callD T (k + 3)) f7 _ _ = _
      simp [runF, f7, b7, Sim.execs, Sim.exec, ev, evs, evAll, Sim.R.bind, Sim.R.then, Sim.R.of, Sim.RS.seq, Sim.R.frz, Sim.R.noX, itOf, pitems, lcGo, wipeE, mkLst, calA, peek, sh, bfn, cop, psh, peq, bindT, Sim.frz, e1, e2, e3, h1, h2, h3]
  · by_cases h1 : r1 = 0 <;> by_cases h2 : r2 = 0 <;> by_cases h3 : r3 = 0 <;> simp [subs, h1, h2, h3]
end K01
end
section
set_option Elab.async false
set_option linter.all false
set_option maxRecDepth 100000
set_option maxHeartbeats 4000000
namespace K01
open Sim
theorem at_mem {α : Type} {xs : List α} {r : Int} (h0 : 0 ≤ r) (h1 : r < xs.length) : ∃ x, L2.atI xs r = some x ∧ x ∈ xs := by
  unfold L2.atI L2.ixN
  rw [if_pos h0, if_pos h1]
  have h2 : r.toNat < xs.length := by omega
  refine ⟨xs[r.toNat], ?_, List.getElem_mem h2⟩
  show xs[r.toNat]? = _
  exact List.getElem?_eq_getElem h2
def w1 : List PD := [.str "all", .str "left"]
def w2 : List PD := [.str "cash", .str "gift", .str "lost"]
def w3 : List PD := [.str "cash", .str "gift"]
def w4 : List PD := [.str "first", .str "last", .str "shares"]
def w5 : List PD := [.str "down", .str "rest", .str "up"]
def ptsD : List PD := [.tup [.str "base", .lst w1], .tup [.str "closed", .lst w2], .tup [.str "gifts", .lst w3], .tup [.str "order", .lst w4], .tup [.str "rounding", .lst w5]]
theorem points_ok (k : Nat) : callD T (k + 3) 10 [] [] = .ok (.p (.lst ptsD)) [] := by
  show runF T (callD T k) f10 _ _ = _
  simp [runF, f10, b10, Sim.execs, Sim.exec, ev, evs, Sim.R.bind, Sim.R.then, Sim.R.of, Sim.RS.seq, Sim.R.frzs, Sim.frzs, mkLst, sh, bindT, Sim.frz, ptsD, w1, w2, w3, w4, w5]
def d5 (v1 v2 v3 v4 v5 : PD) : List (PD × PD) := [(.str "base", v1), (.str "closed", v2), (.str "gifts", v3), (.str "order", v4), (.str "rounding", v5)]
theorem set_last {α : Type} {l : List α} {x y : α} : (l ++ [x]).set l.length y = l ++ [y] := by
  rw [List.set_append_right _ _ (Nat.le_refl _)]
  simp
theorem rule_ok (k : Nat) {o : Option LO} {ns : List Int} (Rw : RowOk o ns) (rest : LH) :
    ∃ v1 v2 v3 v4 v5 o', callD T (k + 6) 8 [.ref 0] (o :: rest) = .ok (.p (.dct (d5 v1 v2 v3 v4 v5))) (o' :: (rest ++ [none])) ∧ RowOk o' ns ∧ v1 ∈ w1 ∧ v2 ∈ w2 ∧ v3 ∈ w3 ∧ v4 ∈ w4 ∧ v5 ∈ w5 := by
  obtain ⟨r1, o1, e1, R1, a1, b1'⟩ := pick k Rw (rest ++ [some (.dct [])]) 2 (by decide) (by decide)
  obtain ⟨v1, g1, m1⟩ := at_mem (xs := w1) a1 b1'
  obtain ⟨r2, o2, e2, R2, a2, b2'⟩ := pick k R1 (rest ++ [some (.dct [(.str "base", .p v1)])]) 3 (by decide) (by decide)
  obtain ⟨v2, g2, m2⟩ := at_mem (xs := w2) a2 b2'
  obtain ⟨r3, o3, e3, R3, a3, b3'⟩ := pick k R2 (rest ++ [some (.dct [(.str "base", .p v1), (.str "closed", .p v2)])]) 2 (by decide) (by decide)
  obtain ⟨v3, g3, m3⟩ := at_mem (xs := w3) a3 b3'
  obtain ⟨r4, o4, e4, R4, a4, b4'⟩ := pick k R3 (rest ++ [some (.dct [(.str "base", .p v1), (.str "closed", .p v2), (.str "gifts", .p v3)])]) 3 (by decide) (by decide)
  obtain ⟨v4, g4, m4⟩ := at_mem (xs := w4) a4 b4'
  obtain ⟨r5, o5, e5, R5, a5, b5'⟩ := pick k R4 (rest ++ [some (.dct [(.str "base", .p v1), (.str "closed", .p v2), (.str "gifts", .p v3), (.str "order", .p v4)])]) 3 (by decide) (by decide)
  obtain ⟨v5, g5, m5⟩ := at_mem (xs := w5) a5 b5'
  obtain ⟨r6, o6, e6, R6, _⟩ := pick k R5 (rest ++ [some (.dct [(.str "base", .p v1), (.str "closed", .p v2), (.str "gifts", .p v3), (.str "order", .p v4), (.str "rounding", .p v5)])]) 3 (by decide) (by decide)
  have pt := points_ok k
  simp only [w1] at g1
  simp only [w2] at g2
  simp only [w3] at g3
  simp only [w4] at g4
  simp only [w5] at g5
  by_cases h6 : r6 = 0
  · refine ⟨v1, v2, v3, .str "shares", v5, o6, ?_, R6, m1, m2, m3, by simp [w4], m5⟩
    show runF T (callD T (k + 3)) f8 _ _ = _
    simp (decide := true) [runF, f8, b8, Sim.execs, Sim.exec, ev, evs, Sim.R.bind, Sim.R.then, Sim.R.of, Sim.RS.seq, Sim.RS.loop, forGo, dKey, dMerge, newO, calA, calP, allP, itOf, pitems, bindT, bindTs, ptsD, pt, idxD, setD, kOf, pput, sh, bfn, peek, cop, psh, peq, Sim.frz, frzK, d5, w1, w2, w3, w4, w5, e1, e2, e3, e4, e5, e6, h6, g1, g2, g3, g4, g5, set_last, show ∀ a b : PySem.Str, (decide (a = b) = true) = (a = b) from fun a b => by simp]
  · refine ⟨v1, v2, v3, v4, v5, o6, ?_, R6, m1, m2, m3, m4, m5⟩
    show runF T (callD T (k + 3)) f8 _ _ = _
    simp (decide := true) [runF, f8, b8, Sim.execs, Sim.exec, ev, evs, Sim.R.bind, Sim.R.then, Sim.R.of, Sim.RS.seq, Sim.RS.loop, forGo, dKey, dMerge, newO, calA, calP, allP, itOf, pitems, bindT, bindTs, ptsD, pt, idxD, setD, kOf, pput, sh, bfn, peek, cop, psh, peq, Sim.frz, frzK, d5, w1, w2, w3, w4, w5, e1, e2, e3, e4, e5, e6, h6, g1, g2, g3, g4, g5, set_last, show ∀ a b : PySem.Str, (decide (a = b) = true) = (a = b) from fun a b => by simp]
end K01
end
section
set_option Elab.async false
set_option linter.all false
set_option maxRecDepth 100000
set_option maxHeartbeats 4000000
namespace K01
open Sim
def pcs : List PD := [.tup [.int 1], .tup [.int 2], .tup [.int 3], .tup [.int 1, .int 1], .tup [.int 1, .int 2], .tup [.int 2, .int 1], .tup [.int 1, .int 1, .int 1], .tup [.int 2, .int 2], .tup [.int 1, .int 1, .int 2], .tup [.int 3, .int 1]]
def mns : List PD := subs "card" "cash" "gift"
def wds : List PD := subs "close" "lapse" "new"
theorem set_last2 {α : Type} {l : List α} {z x y : α} : (l ++ [z, x]).set (l.length + 1) y = l ++ [z, y] := by
  rw [List.set_append_right _ _ (Nat.le_succ _)]
  simp
theorem get_last2 {α : Type} {l : List α} {z x : α} : (l ++ [z, x])[l.length + 1]? = some x := by
  rw [List.getElem?_append_right (Nat.le_succ _)]
  simp
/-- a book's draw as it stands in the store -/
def tD (p r c m g w : PD) : List (PD × LV) := [(.str "pieces", .p p), (.str "rule", .p r), (.str "cap", .p c), (.str "means", .p m), (.str "gift", .p g), (.str "words", .p w)]
theorem drawn_ok (k : Nat) {o : Option LO} {ns : List Int} (Rw : RowOk o ns) (rest : LH) :
    ∃ p v1 v2 v3 v4 v5 c m g w o', callD T (k + 9) 2 [.ref 0] (o :: rest) = .ok (.ref (rest.length + 2)) (o' :: (rest ++ [none, some (.dct (tD p (.dct (d5 v1 v2 v3 v4 v5)) (.int c) m (.int g) w))])) ∧ RowOk o' ns ∧ p ∈ pcs ∧ v1 ∈ w1 ∧ v2 ∈ w2 ∧ v3 ∈ w3 ∧ v4 ∈ w4 ∧ v5 ∈ w5 ∧ 0 ≤ c ∧ c < 5 ∧ m ∈ mns ∧ 0 ≤ g ∧ g < c + 1 ∧ w ∈ wds := by
  obtain ⟨r1, o1, e1, R1, a1, b1'⟩ := pick (k + 3) Rw rest 10 (by decide) (by decide)
  obtain ⟨p, g1, m1⟩ := at_mem (xs := pcs) a1 b1'
  obtain ⟨v1, v2, v3, v4, v5, o2, e2, R2, q1, q2, q3, q4, q5⟩ := rule_ok k R1 rest
  obtain ⟨c, o3, e3, R3, c0, c1⟩ := pick (k + 3) R2 (rest ++ [none]) 5 (by decide) (by decide)
  obtain ⟨m, o4, e4, R4, m4⟩ := some_ok k R3 (rest ++ [none, some (.dct [(.str "pieces", .p p), (.str "rule", .p (.dct (d5 v1 v2 v3 v4 v5))), (.str "cap", .p (.int c))])]) "card" "cash" "gift"
  obtain ⟨b, hb⟩ : ∃ b, cop .eq m (.tup []) = some b := by
    have : mns.all (fun m => (cop .eq m (.tup [])).isSome) = true := by decide +kernel
    exact Option.isSome_iff_exists.mp (List.all_eq_true.mp this m m4)
  cases b with
  | false =>
    obtain ⟨gg, o5, e5, R5, g0, g2⟩ := pick (k + 3) R4 (rest ++ [none, some (.dct [(.str "pieces", .p p), (.str "rule", .p (.dct (d5 v1 v2 v3 v4 v5))), (.str "cap", .p (.int c)), (.str "means", .p m)])]) (c + 1) (by omega) (by omega)
    obtain ⟨w, o6, e6, R6, m6⟩ := some_ok k R5 (rest ++ [none, some (.dct [(.str "pieces", .p p), (.str "rule", .p (.dct (d5 v1 v2 v3 v4 v5))), (.str "cap", .p (.int c)), (.str "means", .p m), (.str "gift", .p (.int gg))])]) "close" "lapse" "new"
    refine ⟨p, v1, v2, v3, v4, v5, c, m, gg, w, o6, ?_, R6, m1, q1, q2, q3, q4, q5, c0, c1, m4, g0, g2, m6⟩
    show runF T (callD T (k + 6)) f2 _ _ = _
    simp only [pcs] at g1
    simp only [d5] at e2 e4 e5 e6
    simp (decide := true) [runF, f2, b2, Sim.execs, Sim.exec, ev, evs, Sim.R.bind, Sim.R.then, Sim.R.of, Sim.RS.seq, Sim.R.frzs, Sim.frzs, mkLst, dKey, dMerge, newO, calA, bindT, idxD, setD, kOf, pput, pval, peek, Sim.frz, bop, set_last2, get_last2, d5, tD, e1, e2, e3, e4, e5, e6, g1, hb]
  | true =>
    obtain ⟨r7, o7, e7, R7, a7, b7'⟩ := pick (k + 3) R4 (rest ++ [none, some (.dct [(.str "pieces", .p p), (.str "rule", .p (.dct (d5 v1 v2 v3 v4 v5))), (.str "cap", .p (.int c)), (.str "means", .p m)])]) 3 (by decide) (by decide)
    obtain ⟨x, g7, m7⟩ := at_mem (xs := ([.str "card", .str "cash", .str "gift"] : List PD)) a7 b7'
    obtain ⟨gg, o5, e5, R5, g0, g2⟩ := pick (k + 3) R7 (rest ++ [none, some (.dct [(.str "pieces", .p p), (.str "rule", .p (.dct (d5 v1 v2 v3 v4 v5))), (.str "cap", .p (.int c)), (.str "means", .p (.tup [x]))])]) (c + 1) (by omega) (by omega)
    obtain ⟨w, o6, e6, R6, m6⟩ := some_ok k R5 (rest ++ [none, some (.dct [(.str "pieces", .p p), (.str "rule", .p (.dct (d5 v1 v2 v3 v4 v5))), (.str "cap", .p (.int c)), (.str "means", .p (.tup [x])), (.str "gift", .p (.int gg))])]) "close" "lapse" "new"
    refine ⟨p, v1, v2, v3, v4, v5, c, .tup [x], gg, w, o6, ?_, R6, m1, q1, q2, q3, q4, q5, c0, c1, ?_, g0, g2, m6⟩
    rotate_left
    · simp only [List.mem_cons, List.not_mem_nil, or_false] at m7
      rcases m7 with rfl | rfl | rfl <;> simp [mns, subs]
    show runF T (callD T (k + 6)) f2 _ _ = _
    simp only [pcs] at g1
    simp only [d5] at e2 e4 e5 e6 e7
    simp (decide := true) [runF, f2, b2, Sim.execs, Sim.exec, ev, evs, Sim.R.bind, Sim.R.then, Sim.R.of, Sim.RS.seq, Sim.R.frzs, Sim.frzs, mkLst, dKey, dMerge, newO, calA, bindT, idxD, setD, kOf, pput, pval, peek, Sim.frz, bop, set_last2, get_last2, d5, tD, e1, e2, e3, e4, e5, e6, g1, hb, e7, g7]
end K01
end
section
set_option Elab.async false
set_option linter.all false
set_option maxRecDepth 100000
set_option maxHeartbeats 4000000
namespace K01
open Sim
/-! what a field may be behind some spoilings -/
def spM : List PD := [.tup [], .non, .lst [.str "card"], .tup [.str "cash", .str "card"], .tup [.str "card", .str "card"], .tup [.str "bank"], .tup [.int 1]]
def spP : List PD := [.tup [], .non, .lst [.int 1], .tup [.int 0], .tup [.int 4], .tup [.int 2, .int 3], .tup [.bl true], .tup [.int 1, .int 1, .int 1, .int 1], .tup [.str "1"], .tup [.int 2, .int 2]]
def spC : List PD := [.int (-1), .int 5, .non, .bl true, .str "1", .int 4]
def spV : List PD := [.str "all", .str "", .non, .int 5]
def spW : List PD := [.non, .lst [.str "new"], .tup [.str "new", .str "close"], .tup [.str "new", .str "new"], .tup [.str "pay"], .tup [.non], .str "new"]
def spR : List PD := [.non, .dct [], .lst []]
def MNS : List PD := mns ++ spM
def PCS : List PD := pcs ++ spP
def CPS : List PD := [.int 0, .int 1, .int 2, .int 3, .int 4] ++ spC
def WDS : List PD := wds ++ spW
/-- the rule behind n spoilings -/
def RK (n : Nat) (r : PD) : Prop := (∃ v1 v2 v3 v4 v5, r = .dct (d5 v1 v2 v3 v4 v5) ∧ v1 ∈ w1 ++ spV ∧ v2 ∈ w2 ++ spV ∧ v3 ∈ w3 ++ spV ∧ v4 ∈ w4 ++ spV ∧ v5 ∈ w5 ++ spV) ∨ r = .non ∨ r = .lst [] ∨ ∃ kvs, r = .dct kvs ∧ (6 ≤ kvs.length ∨ kvs.length ≤ n) ∧ kvs.length ≤ 6 + n
def lv (kvs : List (PD × PD)) : List (PD × LV) := kvs.map fun q => (q.1, .p q.2)
theorem pput_len {α : Type} {kvs : List (PD × α)} {k : PD} {q : L2.Key} {v : α} : kvs.length ≤ (pput kvs k q v).length ∧ (pput kvs k q v).length ≤ kvs.length + 1 := by
  unfold pput
  split <;> simp
theorem pput_lv {kvs : List (PD × PD)} {k : PD} {q : L2.Key} {v : PD} : pput (lv kvs) k q (.p v) = lv (pput kvs k q v) := by
  unfold pput lv
  simp only [List.any_map, List.map_map]
  have e : ((fun p : PD × LV => decide (kOf p.1 = some q)) ∘ fun q : PD × PD => (q.1, LV.p q.2)) = fun p : PD × PD => decide (kOf p.1 = some q) := rfl
  rw [e]
  split
  · rw [List.map_map]
    congr 1
    funext p
    show (if kOf p.1 = some q then (p.1, LV.p v) else (p.1, LV.p p.2)) = _
    show _ = ((if kOf p.1 = some q then (p.1, v) else p).1, LV.p (if kOf p.1 = some q then (p.1, v) else p).2)
    split <;> rfl
  · simp
theorem frz_lv {n : Nat} {h : LH} : ∀ {kvs : List (PD × PD)}, frzK (Sim.frz n) (lv kvs) h = some (kvs, h)
  | [] => by simp [lv, frzK]
  | (k, v) :: r => by
    have e : Sim.frz n (.p v) h = some (v, h) := by cases n <;> simp [Sim.frz]
    have ih := frz_lv (n := n) (h := h) (kvs := r)
    show frzK (Sim.frz n) ((k, LV.p v) :: lv r) h = _
    unfold frzK
    simp only [e, ih]
theorem RK.put {n : Nat} {kvs : List (PD × PD)} {pt v : PD} {q : L2.Key} (h : RK n (.dct kvs)) (hp : pt ∈ ([.str "base", .str "closed", .str "order", .str "rounding", .str "more"] : List PD)) (hq : kOf pt = some q) (hv : v ∈ spV) : RK (n + 1) (.dct (pput kvs pt q v)) := by
  rcases h with ⟨v1, v2, v3, v4, v5, e, m1, m2, m3, m4, m5⟩ | e | e | ⟨kvs', e, h1, h2⟩
  · cases e
    simp only [List.mem_cons, List.not_mem_nil, or_false] at hp
    rcases hp with rfl | rfl | rfl | rfl | rfl
    · cases hq
      exact .inl ⟨v, v2, v3, v4, v5, by simp (decide := true) [pput, d5, kOf], List.mem_append_right _ hv, m2, m3, m4, m5⟩
    · cases hq
      exact .inl ⟨v1, v, v3, v4, v5, by simp (decide := true) [pput, d5, kOf], m1, List.mem_append_right _ hv, m3, m4, m5⟩
    · cases hq
      exact .inl ⟨v1, v2, v3, v, v5, by simp (decide := true) [pput, d5, kOf], m1, m2, m3, List.mem_append_right _ hv, m5⟩
    · cases hq
      exact .inl ⟨v1, v2, v3, v4, v, by simp (decide := true) [pput, d5, kOf], m1, m2, m3, m4, List.mem_append_right _ hv⟩
    · cases hq
      refine .inr (.inr (.inr ⟨_, rfl, .inl ?_, ?_⟩)) <;> simp (decide := true) [pput, d5, kOf]
  · cases e
  · cases e
  · cases e
    have hl := pput_len (kvs := kvs) (k := pt) (q := q) (v := v)
    exact .inr (.inr (.inr ⟨_, rfl, by omega, by omega⟩))
theorem RK.empty {n : Nat} {pt v : PD} {q : L2.Key} (hq : kOf pt = some q) : RK (n + 1) (.dct (pput [] pt q v)) := by
  have hl := pput_len (kvs := ([] : List (PD × PD))) (k := pt) (q := q) (v := v)
  exact .inr (.inr (.inr ⟨_, rfl, by simp at hl; omega, by simp at hl; omega⟩))
theorem RK.mono {n : Nat} {r : PD} (h : RK n r) : RK (n + 1) r := by
  rcases h with h | h | h | ⟨kvs, e, h1, h2⟩
  · exact .inl h
  · exact .inr (.inl h)
  · exact .inr (.inr (.inl h))
  · exact .inr (.inr (.inr ⟨kvs, e, by omega, by omega⟩))
theorem RK.sp {n : Nat} {r : PD} (h : r ∈ spR) : RK n r := by
  simp only [spR, List.mem_cons, List.not_mem_nil, or_false] at h
  rcases h with rfl | rfl | rfl
  · exact .inr (.inl rfl)
  · exact .inr (.inr (.inr ⟨[], rfl, .inr (by simp), by simp⟩))
  · exact .inr (.inr (.inl rfl))
/-- the fields behind n spoilings -/
structure FOk (n : Nat) (p r c m g w : PD) : Prop where
  p : p ∈ PCS
  r : RK n r
  c : c ∈ CPS
  m : m ∈ MNS
  g : g ∈ CPS
  w : w ∈ WDS
end K01
end
section
set_option Elab.async false
set_option linter.all false
set_option maxRecDepth 100000
set_option maxHeartbeats 4000000
namespace K01
open Sim
/-! the store's steps at a book's draw -/
section
variable {o : Option LO} {L : LH} {j : Nat} {p r c m g w : PD}
theorem get_t (hj : L[j]? = some (some (.dct (tD p r c m g w)))) : (o :: L)[j + 1]? = some (some (.dct (tD p r c m g w))) := by simpa using hj
theorem app_t (hj : L[j]? = some (some (.dct (tD p r c m g w)))) {x : Option LO} : (L ++ [x])[j]? = some (some (.dct (tD p r c m g w))) := by
  have hl : j < L.length := by
    rcases Nat.lt_or_ge j L.length with h | h
    · exact h
    · rw [List.getElem?_eq_none h] at hj; cases hj
  rw [List.getElem?_append_left hl, hj]
theorem setM (hj : L[j]? = some (some (.dct (tD p r c m g w)))) {x : PD} : setD (.ref (j + 1)) (.str "means") (.p x) (o :: L) = some (o :: L.set j (some (.dct (tD p r c x g w)))) := by
  simp only [setD, get_t hj]
  simp (decide := true) [kOf, tD, pput]
theorem setP (hj : L[j]? = some (some (.dct (tD p r c m g w)))) {x : PD} : setD (.ref (j + 1)) (.str "pieces") (.p x) (o :: L) = some (o :: L.set j (some (.dct (tD x r c m g w)))) := by
  simp only [setD, get_t hj]
  simp (decide := true) [kOf, tD, pput]
theorem setC (hj : L[j]? = some (some (.dct (tD p r c m g w)))) {x : PD} : setD (.ref (j + 1)) (.str "cap") (.p x) (o :: L) = some (o :: L.set j (some (.dct (tD p r x m g w)))) := by
  simp only [setD, get_t hj]
  simp (decide := true) [kOf, tD, pput]
theorem setG (hj : L[j]? = some (some (.dct (tD p r c m g w)))) {x : PD} : setD (.ref (j + 1)) (.str "gift") (.p x) (o :: L) = some (o :: L.set j (some (.dct (tD p r c m x w)))) := by
  simp only [setD, get_t hj]
  simp (decide := true) [kOf, tD, pput]
theorem setR (hj : L[j]? = some (some (.dct (tD p r c m g w)))) {x : PD} : setD (.ref (j + 1)) (.str "rule") (.p x) (o :: L) = some (o :: L.set j (some (.dct (tD p x c m g w)))) := by
  simp only [setD, get_t hj]
  simp (decide := true) [kOf, tD, pput]
theorem setW (hj : L[j]? = some (some (.dct (tD p r c m g w)))) {x : PD} : setD (.ref (j + 1)) (.str "words") (.p x) (o :: L) = some (o :: L.set j (some (.dct (tD p r c m g x)))) := by
  simp only [setD, get_t hj]
  simp (decide := true) [kOf, tD, pput]
theorem idxM (hj : L[j]? = some (some (.dct (tD p r c m g w)))) : idxD (.ref (j + 1)) (.str "means") (o :: L) = some (.p m) := by
  simp only [idxD, get_t hj]
  simp (decide := true) [kOf, tD, pval]
theorem idxP (hj : L[j]? = some (some (.dct (tD p r c m g w)))) : idxD (.ref (j + 1)) (.str "pieces") (o :: L) = some (.p p) := by
  simp only [idxD, get_t hj]
  simp (decide := true) [kOf, tD, pval]
theorem idxC (hj : L[j]? = some (some (.dct (tD p r c m g w)))) : idxD (.ref (j + 1)) (.str "cap") (o :: L) = some (.p c) := by
  simp only [idxD, get_t hj]
  simp (decide := true) [kOf, tD, pval]
theorem idxG (hj : L[j]? = some (some (.dct (tD p r c m g w)))) : idxD (.ref (j + 1)) (.str "gift") (o :: L) = some (.p g) := by
  simp only [idxD, get_t hj]
  simp (decide := true) [kOf, tD, pval]
theorem idxR (hj : L[j]? = some (some (.dct (tD p r c m g w)))) : idxD (.ref (j + 1)) (.str "rule") (o :: L) = some (.p r) := by
  simp only [idxD, get_t hj]
  simp (decide := true) [kOf, tD, pval]
theorem idxW (hj : L[j]? = some (some (.dct (tD p r c m g w)))) : idxD (.ref (j + 1)) (.str "words") (o :: L) = some (.p w) := by
  simp only [idxD, get_t hj]
  simp (decide := true) [kOf, tD, pval]
theorem set_at (hj : L[j]? = some (some (.dct (tD p r c m g w)))) {x : Option LO} : (L.set j x)[j]? = some x := by
  have hl : j < L.length := by
    rcases Nat.lt_or_ge j L.length with h | h
    · exact h
    · rw [List.getElem?_eq_none h] at hj; cases hj
  simp [hl]
end
theorem idxL {xs : List PD} {r : Int} {h : LH} : idxD (.p (.lst xs)) (.int r) h = (L2.atI xs r).map .p := rfl
theorem set_d {o : Option LO} {L : LH} {kvs : List (PD × PD)} {pt v : PD} {q : L2.Key} (hq : kOf pt = some q) (hl : kvs.length < 1000) :
    setD (.ref (L.length + 1)) pt (.p v) (o :: (L ++ [some (.dct (lv kvs))])) = some (o :: (L ++ [some (.dct (lv (pput kvs pt q v)))])) := by
  have e : (o :: (L ++ [some (.dct (lv kvs))]))[L.length + 1]? = some (some (LO.dct (lv kvs))) := by simp
  have hl' : (lv kvs).length < 1000 := by simpa [lv] using hl
  simp only [setD, e, hq, if_pos hl', pput_lv]
  simp [set_last]
theorem frz_d {o : Option LO} {L : LH} {kvs : List (PD × PD)} :
    Sim.frz 9 (.ref (L.length + 1)) (o :: (L ++ [some (.dct (lv kvs))])) = some (.dct kvs, o :: (L ++ [none])) := by
  have e : (o :: (L ++ [some (.dct (lv kvs))]))[L.length + 1]? = some (some (LO.dct (lv kvs))) := by simp
  simp only [Sim.frz, e, frz_lv]
  simp [set_last]
theorem new_d {o : Option LO} {L : LH} {kvs : List (PD × PD)} : mkDct true kvs (o :: L) = .ok (.ref (L.length + 1)) (o :: (L ++ [some (.dct (lv kvs))])) := rfl
end K01
end
section
set_option Elab.async false
set_option linter.all false
set_option maxRecDepth 100000
set_option maxHeartbeats 4000000
namespace K01
open Sim
theorem frz_p {n : Nat} {v : PD} {h : LH} : Sim.frz n (.p v) h = some (v, h) := by cases n <;> simp [Sim.frz]
def ptL : List PD := [.str "base", .str "closed", .str "order", .str "rounding", .str "more"]
theorem RK.len {n : Nat} {kvs : List (PD × PD)} (h : RK n (.dct kvs)) (hn : n < 900) : kvs.length < 1000 := by
  rcases h with ⟨v1, v2, v3, v4, v5, e, _⟩ | e | e | ⟨kvs', e, h1, h2⟩
  · cases e; simp [d5]
  · cases e
  · cases e
  · cases e; omega
theorem RK.isd {n : Nat} {r : PD} (h : RK n r) : (∃ kvs, r = .dct kvs) ∨ isiB .dict r = some false := by
  rcases h with ⟨v1, v2, v3, v4, v5, e, _⟩ | e | e | ⟨kvs', e, h1, h2⟩
  · exact .inl ⟨_, e⟩
  · subst e; exact .inr (by decide)
  · subst e; exact .inr (by decide)
  · exact .inl ⟨_, e⟩
theorem isd_d {kvs : List (PD × PD)} : isiB .dict (.dct kvs) = some true := rfl
section
variable {o : Option LO} {L : LH} {j : Nat} {p r c m g w : PD} {ns : List Int} {n : Nat}
def Spoilt (ns : List Int) (n j : Nat) (R : Sim.R LV) : Prop := ∃ o' L' p' r' c' m' g' w', R = .ok (.p .non) (o' :: L') ∧ RowOk o' ns ∧ L'[j]? = some (some (.dct (tD p' r' c' m' g' w'))) ∧ FOk (n + 1) p' r' c' m' g' w'
theorem spoil0 (k : Nat) (hj : L[j]? = some (some (.dct (tD p r c m g w)))) (F : FOk n p r c m g w) {o1 : Option LO} (R1 : RowOk o1 ns) (e1 : callD T (k + 3) 3 [.ref 0, .p (.int 5)] (o :: L) = .ok (.p (.int 0)) (o1 :: L)) :
    Spoilt ns n j (callD T (k + 6) 4 [.ref 0, .ref (j + 1)] (o :: L)) := by
  obtain ⟨r2, o2, e2, R2, a2, b2'⟩ := pick k R1 L 7 (by decide) (by decide)
  obtain ⟨x, g2, m2⟩ := at_mem (xs := spM) a2 b2'
  refine ⟨o2, L.set j (some (.dct (tD p r c x g w))), p, r, c, x, g, w, ?_, R2, set_at hj, ⟨F.p, F.r.mono, F.c, List.mem_append_right _ m2, F.g, F.w⟩⟩
  simp only [spM] at g2
  show runF T (callD T (k + 3)) f4 _ _ = _
  simp (decide := true) [runF, f4, b4, Sim.execs, Sim.exec, ev, evs, evAll, Sim.R.bind, Sim.R.then, Sim.R.of, Sim.RS.seq, Sim.R.frzs, Sim.frzs, frz_p, mkLst, calA, bindT, peek, sh, cop, psh, peq, e1, e2, idxL, g2, setM hj]
theorem spoil1 (k : Nat) (hj : L[j]? = some (some (.dct (tD p r c m g w)))) (F : FOk n p r c m g w) {o1 : Option LO} (R1 : RowOk o1 ns) (e1 : callD T (k + 3) 3 [.ref 0, .p (.int 5)] (o :: L) = .ok (.p (.int 1)) (o1 :: L)) :
    Spoilt ns n j (callD T (k + 6) 4 [.ref 0, .ref (j + 1)] (o :: L)) := by
  obtain ⟨r2, o2, e2, R2, a2, b2'⟩ := pick k R1 L 10 (by decide) (by decide)
  obtain ⟨x, g2, m2⟩ := at_mem (xs := spP) a2 b2'
  refine ⟨o2, L.set j (some (.dct (tD x r c m g w))), x, r, c, m, g, w, ?_, R2, set_at hj, ⟨List.mem_append_right _ m2, F.r.mono, F.c, F.m, F.g, F.w⟩⟩
  simp only [spP] at g2
  show runF T (callD T (k + 3)) f4 _ _ = _
  simp (decide := true) [runF, f4, b4, Sim.execs, Sim.exec, ev, evs, evAll, Sim.R.bind, Sim.R.then, Sim.R.of, Sim.RS.seq, Sim.R.frzs, Sim.frzs, frz_p, mkLst, calA, bindT, peek, sh, cop, psh, peq, e1, e2, idxL, g2, setP hj]
theorem spoil2 (k : Nat) (hj : L[j]? = some (some (.dct (tD p r c m g w)))) (F : FOk n p r c m g w) {o1 : Option LO} (R1 : RowOk o1 ns) (e1 : callD T (k + 3) 3 [.ref 0, .p (.int 5)] (o :: L) = .ok (.p (.int 2)) (o1 :: L)) :
    Spoilt ns n j (callD T (k + 6) 4 [.ref 0, .ref (j + 1)] (o :: L)) := by
  obtain ⟨r2, o2, e2, R2, a2, b2'⟩ := pick k R1 L 6 (by decide) (by decide)
  obtain ⟨x, g2, m2⟩ := at_mem (xs := spC) a2 b2'
  obtain ⟨r3, o3, e3, R3, a3, b3'⟩ := pick k R2 L 2 (by decide) (by decide)
  obtain ⟨y, g3, m3⟩ := at_mem (xs := ([.str "cap", .str "gift"] : List PD)) a3 b3'
  simp only [spC] at g2
  simp only [List.mem_cons, List.not_mem_nil, or_false] at m3
  rcases m3 with rfl | rfl
  · refine ⟨o3, L.set j (some (.dct (tD p r x m g w))), p, r, x, m, g, w, ?_, R3, set_at hj, ⟨F.p, F.r.mono, List.mem_append_right _ m2, F.m, F.g, F.w⟩⟩
    show runF T (callD T (k + 3)) f4 _ _ = _
    simp (decide := true) [runF, f4, b4, Sim.execs, Sim.exec, ev, evs, evAll, Sim.R.bind, Sim.R.then, Sim.R.of, Sim.RS.seq, Sim.R.frzs, Sim.frzs, frz_p, mkLst, calA, bindT, peek, sh, cop, psh, peq, e1, e2, e3, idxL, g2, g3, setC hj]
  · refine ⟨o3, L.set j (some (.dct (tD p r c m x w))), p, r, c, m, x, w, ?_, R3, set_at hj, ⟨F.p, F.r.mono, F.c, F.m, List.mem_append_right _ m2, F.w⟩⟩
    show runF T (callD T (k + 3)) f4 _ _ = _
    simp (decide := true) [runF, f4, b4, Sim.execs, Sim.exec, ev, evs, evAll, Sim.R.bind, Sim.R.then, Sim.R.of, Sim.RS.seq, Sim.R.frzs, Sim.frzs, frz_p, mkLst, calA, bindT, peek, sh, cop, psh, peq, e1, e2, e3, idxL, g2, g3, setG hj]
theorem spoil4 (k : Nat) (hj : L[j]? = some (some (.dct (tD p r c m g w)))) (F : FOk n p r c m g w) {o1 : Option LO} (R1 : RowOk o1 ns) (e1 : callD T (k + 3) 3 [.ref 0, .p (.int 5)] (o :: L) = .ok (.p (.int 4)) (o1 :: L)) :
    Spoilt ns n j (callD T (k + 6) 4 [.ref 0, .ref (j + 1)] (o :: L)) := by
  obtain ⟨r2, o2, e2, R2, a2, b2'⟩ := pick k R1 L 7 (by decide) (by decide)
  obtain ⟨x, g2, m2⟩ := at_mem (xs := spW) a2 b2'
  refine ⟨o2, L.set j (some (.dct (tD p r c m g x))), p, r, c, m, g, x, ?_, R2, set_at hj, ⟨F.p, F.r.mono, F.c, F.m, F.g, List.mem_append_right _ m2⟩⟩
  simp only [spW] at g2
  show runF T (callD T (k + 3)) f4 _ _ = _
  simp (decide := true) [runF, f4, b4, Sim.execs, Sim.exec, ev, evs, evAll, Sim.R.bind, Sim.R.then, Sim.R.of, Sim.RS.seq, Sim.R.frzs, Sim.frzs, frz_p, mkLst, calA, bindT, peek, sh, cop, psh, peq, e1, e2, idxL, g2, setW hj]
/-- what the rule becomes -/
theorem spoil3 (k : Nat) (hn : n < 900) (hj : L[j]? = some (some (.dct (tD p r c m g w)))) (F : FOk n p r c m g w) {o1 : Option LO} (R1 : RowOk o1 ns) (e1 : callD T (k + 3) 3 [.ref 0, .p (.int 5)] (o :: L) = .ok (.p (.int 3)) (o1 :: L)) :
    Spoilt ns n j (callD T (k + 6) 4 [.ref 0, .ref (j + 1)] (o :: L)) := by
  obtain ⟨kvs, hlen, hkv, hnew⟩ : ∃ kvs : List (PD × PD), kvs.length < 1000 ∧ (∀ pt v q, pt ∈ ptL → kOf pt = some q → v ∈ spV → RK (n + 1) (.dct (pput kvs pt q v))) ∧ ((r = .dct kvs) ∨ (isiB .dict r = some false ∧ kvs = [])) := by
    rcases F.r.isd with ⟨kvs, rfl⟩ | hf
    · exact ⟨kvs, F.r.len hn, fun pt v q h1 h2 h3 => F.r.put h1 h2 h3, .inl rfl⟩
    · exact ⟨[], by simp, fun pt v q h1 h2 h3 => RK.empty h2, .inr ⟨hf, rfl⟩⟩
  obtain ⟨r2, o2, e2, R2, a2, b2'⟩ := pick k R1 (L ++ [some (.dct (lv kvs))]) 5 (by decide) (by decide)
  obtain ⟨pt, g2, m2⟩ := at_mem (xs := ptL) a2 b2'
  obtain ⟨r3, o3, e3, R3, a3, b3'⟩ := pick k R2 (L ++ [some (.dct (lv kvs))]) 4 (by decide) (by decide)
  obtain ⟨v, g3, m3⟩ := at_mem (xs := spV) a3 b3'
  obtain ⟨q, hq⟩ : ∃ q, kOf pt = some q := by
    have : ptL.all (fun m => (kOf m).isSome) = true := by decide +kernel
    exact Option.isSome_iff_exists.mp (List.all_eq_true.mp this pt m2)
  obtain ⟨r4, o4, e4, R4, a4, b4'⟩ := pick k R3 (L ++ [some (.dct (lv (pput kvs pt q v)))]) 5 (by decide) (by decide)
  obtain ⟨r5, o5, e5, R5, a5, b5'⟩ := pick k R4 (L ++ [some (.dct (lv (pput kvs pt q v)))]) 3 (by decide) (by decide)
  obtain ⟨y, g5, m5⟩ := at_mem (xs := spR) a5 b5'
  simp only [spR] at g5
  simp only [spV] at g3
  simp only [ptL] at g2
  have hj1 := app_t hj (x := some (LO.dct (lv (pput kvs pt q v))))
  have hj2 := app_t hj (x := none)
  by_cases h4 : 0 < r4
  · refine ⟨o4, (L ++ [none]).set j (some (.dct (tD p (.dct (pput kvs pt q v)) c m g w))), p, .dct (pput kvs pt q v), c, m, g, w, ?_, R4, set_at hj2, ⟨F.p, hkv pt v q m2 hq m3, F.c, F.m, F.g, F.w⟩⟩
    rcases hnew with rfl | ⟨hf, rfl⟩
    · show runF T (callD T (k + 3)) f4 _ _ = _
      simp (decide := true) [runF, f4, b4, Sim.execs, Sim.exec, ev, evs, evAll, Sim.R.bind, Sim.R.then, Sim.R.of, Sim.RS.seq, Sim.R.frzs, Sim.frzs, frz_p, mkLst, bfn, calA, bindT, peek, sh, cop, psh, peq, e1, e2, e3, e4, idxL, g2, g3, h4, idxR hj, isd_d, new_d, set_d hq hlen, frz_d, setR hj2]
    · have hn1 : newO (LO.dct []) (o1 :: L) = .ok (.ref (L.length + 1)) (o1 :: (L ++ [some (.dct (lv []))])) := rfl
      show runF T (callD T (k + 3)) f4 _ _ = _
      simp (decide := true) [runF, f4, b4, Sim.execs, Sim.exec, ev, evs, evAll, Sim.R.bind, Sim.R.then, Sim.R.of, Sim.RS.seq, Sim.R.frzs, Sim.frzs, frz_p, mkLst, bfn, dKey, dMerge, hn1, calA, bindT, peek, sh, cop, psh, peq, e1, e2, e3, e4, idxL, g2, g3, h4, idxR hj, hf, new_d, set_d hq hlen, frz_d, setR hj2]
  · refine ⟨o5, (L ++ [some (LO.dct (lv (pput kvs pt q v)))]).set j (some (.dct (tD p y c m g w))), p, y, c, m, g, w, ?_, R5, set_at hj1, ⟨F.p, RK.sp m5, F.c, F.m, F.g, F.w⟩⟩
    rcases hnew with rfl | ⟨hf, rfl⟩
    · show runF T (callD T (k + 3)) f4 _ _ = _
      simp (decide := true) [runF, f4, b4, Sim.execs, Sim.exec, ev, evs, evAll, Sim.R.bind, Sim.R.then, Sim.R.of, Sim.RS.seq, Sim.R.frzs, Sim.frzs, frz_p, mkLst, bfn, dKey, dMerge, frzK, calA, bindT, peek, sh, cop, psh, peq, e1, e2, e3, e4, e5, idxL, g2, g3, g5, h4, idxR hj, isd_d, new_d, set_d hq hlen, setR hj1]
    · have hn1 : newO (LO.dct []) (o1 :: L) = .ok (.ref (L.length + 1)) (o1 :: (L ++ [some (.dct (lv []))])) := rfl
      show runF T (callD T (k + 3)) f4 _ _ = _
      simp (decide := true) [runF, f4, b4, Sim.execs, Sim.exec, ev, evs, evAll, Sim.R.bind, Sim.R.then, Sim.R.of, Sim.RS.seq, Sim.R.frzs, Sim.frzs, frz_p, mkLst, bfn, dKey, dMerge, frzK, hn1, calA, bindT, peek, sh, cop, psh, peq, e1, e2, e3, e4, e5, idxL, g2, g3, g5, h4, idxR hj, hf, new_d, set_d hq hlen, setR hj1]
theorem spoil_ok (k : Nat) (hn : n < 900) {ns : List Int} (Rw : RowOk o ns) (hj : L[j]? = some (some (.dct (tD p r c m g w)))) (F : FOk n p r c m g w) :
    Spoilt ns n j (callD T (k + 6) 4 [.ref 0, .ref (j + 1)] (o :: L)) := by
  obtain ⟨r1, o1, e1, R1, a1, b1'⟩ := pick k Rw L 5 (by decide) (by decide)
  have : r1 = 0 ∨ r1 = 1 ∨ r1 = 2 ∨ r1 = 3 ∨ r1 = 4 := by omega
  rcases this with rfl | rfl | rfl | rfl | rfl
  · exact spoil0 k hj F R1 e1
  · exact spoil1 k hj F R1 e1
  · exact spoil2 k hj F R1 e1
  · exact spoil3 k hn hj F R1 e1
  · exact spoil4 k hj F R1 e1
end
end K01
end
section
set_option Elab.async false
set_option linter.all false
set_option maxRecDepth 100000
set_option maxHeartbeats 4000000
namespace K01
open Sim
/-- a call's plain answer -/
def pb (r : Sim.R LV) : Option Bool := match r with
  | .ok (.p (.bl b)) _ => some b
  | _ => none
theorem calP_pb {cal : Cal} {f : Nat} {xs : List PD} {h : LH} {b : Bool} (e : pb (cal f (xs.map .p) []) = some b) : calP cal f xs h = .ok (.p (.bl b)) h := by
  unfold calP
  revert e
  cases cal f (xs.map .p) [] with
  | ok v h1 => cases v with
    | p v => cases v <;> simp [pb]
    | ref n => simp [pb]
  | exc x h1 => simp [pb]
  | bad => simp [pb]
def meansT : PD := .tup [.str "card", .str "cash", .str "gift"]
def wordsT : PD := .tup [.str "close", .str "lapse", .str "new"]
def meansL : PD := .lst [.str "card", .str "cash", .str "gift"]
def wordsL : PD := .lst [.str "close", .str "lapse", .str "new"]
theorem factM : MNS.all (fun m => match pb (callD T 12 16 [.p m, .p meansT] []), pb (callD T 18 11 [.p m, .p meansL] []), cop .eq m (.tup []) with
    | some a, some b, some _ => a == b
    | _, _, _ => false) = true := by decide +kernel
theorem factW : WDS.all (fun m => match pb (callD T 12 16 [.p m, .p wordsT] []), pb (callD T 18 11 [.p m, .p wordsL] []) with
    | some a, some b => a == b
    | _, _ => false) = true := by decide +kernel
theorem factC : CPS.all (fun c => match pb (callD T 12 17 [.p c, .p (.int 0), .p (.int 4)] []), pb (callD T 18 12 [.p c, .p (.int 0), .p (.int 4)] []) with
    | some a, some b => a == b && (!a || CPS.all fun g => match pb (callD T 12 17 [.p g, .p (.int 0), .p c] []), pb (callD T 18 12 [.p g, .p (.int 0), .p c] []) with
      | some a, some b => a == b
      | _, _ => false)
    | _, _ => false) = true := by decide +kernel
theorem factP : PCS.all (fun p => (pb (callD T 12 15 [.p p] [])).isSome) = true := by decide +kernel
/-- a word of a point is looked at in two ways -/
def wordB (ws : List PD) (v : PD) : Bool := match pb (callD T 9 18 [.p v, .p (.tup ws)] []), isiB .str v with
  | some a, some true => match cop .notin v (.lst ws) with
    | some b => b == !a
    | none => false
  | some a, some false => !a
  | _, _ => false
theorem fact1 : (w1 ++ spV).all (wordB w1) = true := by decide +kernel
theorem fact2 : (w2 ++ spV).all (wordB w2) = true := by decide +kernel
theorem fact3 : (w3 ++ spV).all (wordB w3) = true := by decide +kernel
theorem fact4 : (w4 ++ spV).all (wordB w4) = true := by decide +kernel
theorem fact5 : (w5 ++ spV).all (wordB w5) = true := by decide +kernel
end K01
end
section
set_option Elab.async false
set_option linter.all false
set_option maxRecDepth 100000
set_option maxHeartbeats 4000000
namespace K01
open Sim
/-! __init__ -/
theorem Tgs : T.gs = gls := rfl
theorem Txs : T.xks = xks := rfl
theorem Tks : T.kls = kls := rfl
section
variable {p r c m g w : PD}
theorem initM {bm bz : Bool} (hm : pb (callD T 12 16 [.p m, .p meansT] []) = some bm) (hz : cop .eq m (.tup []) = some bz) (hb : bm = false ∨ bz = true) :
    callD T 15 13 [.ref 0, .p m, .p p, .p g, .p c, .p r, .p w] [some (.ins 0 [])] = .exc ⟨0, []⟩ [some (.ins 0 [])] := by
  have c1 := fun h => calP_pb (cal := callD T 12) (f := 16) (xs := [m, meansT]) (h := h) hm
  simp only [meansT] at c1
  show runF T (callD T 12) f13 _ _ = _
  cases bm <;> cases bz <;> simp at hb <;>
  simp (decide := true) [runF, f13, b13, Sim.execs, Sim.exec, ev, evs, evAll, Sim.R.bind, Sim.R.then, Sim.R.of, Sim.RS.seq, Sim.R.frzs, Sim.frzs, frz_p, mkLst, calA, allP, bindT, peek, Tgs, Txs, gls, xks, shAll, c1, hz]
theorem initP {bp : Bool} (hm : pb (callD T 12 16 [.p m, .p meansT] []) = some true) (hz : cop .eq m (.tup []) = some false) (hp : pb (callD T 12 15 [.p p] []) = some false) :
    callD T 15 13 [.ref 0, .p m, .p p, .p g, .p c, .p r, .p w] [some (.ins 0 [])] = .exc ⟨1, []⟩ [some (.ins 0 [])] := by
  have c1 := fun h => calP_pb (cal := callD T 12) (f := 16) (xs := [m, meansT]) (h := h) hm
  have c2 := fun h => calP_pb (cal := callD T 12) (f := 15) (xs := [p]) (h := h) hp
  simp only [meansT] at c1
  show runF T (callD T 12) f13 _ _ = _
  simp (decide := true) [runF, f13, b13, Sim.execs, Sim.exec, ev, evs, evAll, Sim.R.bind, Sim.R.then, Sim.R.of, Sim.RS.seq, Sim.R.frzs, Sim.frzs, frz_p, mkLst, calA, allP, bindT, peek, Tgs, Txs, gls, xks, shAll, c1, c2, hz]
theorem initC (hm : pb (callD T 12 16 [.p m, .p meansT] []) = some true) (hz : cop .eq m (.tup []) = some false) (hp : pb (callD T 12 15 [.p p] []) = some true) (hc : pb (callD T 12 17 [.p c, .p (.int 0), .p (.int 4)] []) = some false) :
    callD T 15 13 [.ref 0, .p m, .p p, .p g, .p c, .p r, .p w] [some (.ins 0 [])] = .exc ⟨2, []⟩ [some (.ins 0 [])] := by
  have c1 := fun h => calP_pb (cal := callD T 12) (f := 16) (xs := [m, meansT]) (h := h) hm
  have c2 := fun h => calP_pb (cal := callD T 12) (f := 15) (xs := [p]) (h := h) hp
  simp only [meansT] at c1
  have c3 := fun h => calP_pb (cal := callD T 12) (f := 17) (xs := [c, .int 0, .int 4]) (h := h) hc
  show runF T (callD T 12) f13 _ _ = _
  simp (decide := true) [runF, f13, b13, Sim.execs, Sim.exec, ev, evs, evAll, Sim.R.bind, Sim.R.then, Sim.R.of, Sim.RS.seq, Sim.R.frzs, Sim.frzs, frz_p, mkLst, calA, allP, bindT, peek, Tgs, Txs, gls, xks, shAll, c1, c2, c3, hz]
theorem initG (hm : pb (callD T 12 16 [.p m, .p meansT] []) = some true) (hz : cop .eq m (.tup []) = some false) (hp : pb (callD T 12 15 [.p p] []) = some true) (hc : pb (callD T 12 17 [.p c, .p (.int 0), .p (.int 4)] []) = some true) (hg : pb (callD T 12 17 [.p g, .p (.int 0), .p c] []) = some false) :
    callD T 15 13 [.ref 0, .p m, .p p, .p g, .p c, .p r, .p w] [some (.ins 0 [])] = .exc ⟨2, []⟩ [some (.ins 0 [])] := by
  have c1 := fun h => calP_pb (cal := callD T 12) (f := 16) (xs := [m, meansT]) (h := h) hm
  have c2 := fun h => calP_pb (cal := callD T 12) (f := 15) (xs := [p]) (h := h) hp
  simp only [meansT] at c1
  have c3 := fun h => calP_pb (cal := callD T 12) (f := 17) (xs := [c, .int 0, .int 4]) (h := h) hc
  have c4 := fun h => calP_pb (cal := callD T 12) (f := 17) (xs := [g, .int 0, c]) (h := h) hg
  show runF T (callD T 12) f13 _ _ = _
  simp (decide := true) [runF, f13, b13, Sim.execs, Sim.exec, ev, evs, evAll, Sim.R.bind, Sim.R.then, Sim.R.of, Sim.RS.seq, Sim.R.frzs, Sim.frzs, frz_p, mkLst, calA, allP, bindT, peek, Tgs, Txs, gls, xks, shAll, c1, c2, c3, c4, hz]
theorem initR (hm : pb (callD T 12 16 [.p m, .p meansT] []) = some true) (hz : cop .eq m (.tup []) = some false) (hp : pb (callD T 12 15 [.p p] []) = some true) (hc : pb (callD T 12 17 [.p c, .p (.int 0), .p (.int 4)] []) = some true) (hg : pb (callD T 12 17 [.p g, .p (.int 0), .p c] []) = some true) {e : Exn} {h' : LH} (hr : callD T 12 14 [.p r] [] = .exc e h') :
    callD T 15 13 [.ref 0, .p m, .p p, .p g, .p c, .p r, .p w] [some (.ins 0 [])] = .exc e [some (.ins 0 [])] := by
  have c1 := fun h => calP_pb (cal := callD T 12) (f := 16) (xs := [m, meansT]) (h := h) hm
  have c2 := fun h => calP_pb (cal := callD T 12) (f := 15) (xs := [p]) (h := h) hp
  simp only [meansT] at c1
  have c3 := fun h => calP_pb (cal := callD T 12) (f := 17) (xs := [c, .int 0, .int 4]) (h := h) hc
  have c4 := fun h => calP_pb (cal := callD T 12) (f := 17) (xs := [g, .int 0, c]) (h := h) hg
  have c5 : ∀ h, calP (callD T 12) 14 [r] h = .exc e h := fun h => by simp [calP, hr]
  show runF T (callD T 12) f13 _ _ = _
  simp (decide := true) [runF, f13, b13, Sim.execs, Sim.exec, ev, evs, evAll, Sim.R.bind, Sim.R.then, Sim.R.of, Sim.RS.seq, Sim.R.frzs, Sim.frzs, frz_p, mkLst, calA, allP, bindT, peek, Tgs, Txs, gls, xks, shAll, c1, c2, c3, c4, c5, hz]
theorem initW (hm : pb (callD T 12 16 [.p m, .p meansT] []) = some true) (hz : cop .eq m (.tup []) = some false) (hp : pb (callD T 12 15 [.p p] []) = some true) (hc : pb (callD T 12 17 [.p c, .p (.int 0), .p (.int 4)] []) = some true) (hg : pb (callD T 12 17 [.p g, .p (.int 0), .p c] []) = some true) {h' : LH} (hr : callD T 12 14 [.p r] [] = .ok (.p .non) h') (hw : pb (callD T 12 16 [.p w, .p wordsT] []) = some false) :
    callD T 15 13 [.ref 0, .p m, .p p, .p g, .p c, .p r, .p w] [some (.ins 0 [])] = .exc ⟨4, []⟩ [some (.ins 0 [])] := by
  have c1 := fun h => calP_pb (cal := callD T 12) (f := 16) (xs := [m, meansT]) (h := h) hm
  have c2 := fun h => calP_pb (cal := callD T 12) (f := 15) (xs := [p]) (h := h) hp
  simp only [meansT] at c1
  have c3 := fun h => calP_pb (cal := callD T 12) (f := 17) (xs := [c, .int 0, .int 4]) (h := h) hc
  have c4 := fun h => calP_pb (cal := callD T 12) (f := 17) (xs := [g, .int 0, c]) (h := h) hg
  have c5 : ∀ h, calP (callD T 12) 14 [r] h = .ok (.p .non) h := fun h => by simp [calP, hr]
  have c6 := fun h => calP_pb (cal := callD T 12) (f := 16) (xs := [w, wordsT]) (h := h) hw
  simp only [wordsT] at c6
  show runF T (callD T 12) f13 _ _ = _
  simp (decide := true) [runF, f13, b13, Sim.execs, Sim.exec, ev, evs, evAll, Sim.R.bind, Sim.R.then, Sim.R.of, Sim.RS.seq, Sim.R.frzs, Sim.frzs, frz_p, mkLst, calA, allP, bindT, peek, Tgs, Txs, gls, xks, shAll, c1, c2, c3, c4, c5, c6, hz]
theorem initY {v1 v2 v3 v4 v5 : PD} (hm : pb (callD T 12 16 [.p m, .p meansT] []) = some true) (hz : cop .eq m (.tup []) = some false) (hp : pb (callD T 12 15 [.p p] []) = some true) (hc : pb (callD T 12 17 [.p c, .p (.int 0), .p (.int 4)] []) = some true) (hg : pb (callD T 12 17 [.p g, .p (.int 0), .p c] []) = some true) {h' : LH} (hr : callD T 12 14 [.p (.dct (d5 v1 v2 v3 v4 v5))] [] = .ok (.p .non) h') (hw : pb (callD T 12 16 [.p w, .p wordsT] []) = some true) :
    callD T 15 13 [.ref 0, .p m, .p p, .p g, .p c, .p (.dct (d5 v1 v2 v3 v4 v5)), .p w] [some (.ins 0 [])] = .ok (.p .non) [some (.ins 0 [("kinds", .p m), ("prices", .p p), ("at_first", .p g), ("limit", .p c), ("points", .p (.dct (d5 v1 v2 v3 v4 v5))), ("allowed", .p w)])] := by
  have c1 := fun h => calP_pb (cal := callD T 12) (f := 16) (xs := [m, meansT]) (h := h) hm
  have c2 := fun h => calP_pb (cal := callD T 12) (f := 15) (xs := [p]) (h := h) hp
  simp only [meansT] at c1
  have c3 := fun h => calP_pb (cal := callD T 12) (f := 17) (xs := [c, .int 0, .int 4]) (h := h) hc
  have c4 := fun h => calP_pb (cal := callD T 12) (f := 17) (xs := [g, .int 0, c]) (h := h) hg
  have c5 : ∀ h, calP (callD T 12) 14 [.dct (d5 v1 v2 v3 v4 v5)] h = .ok (.p .non) h := fun h => by simp [calP, hr]
  have c6 := fun h => calP_pb (cal := callD T 12) (f := 16) (xs := [w, wordsT]) (h := h) hw
  simp only [wordsT] at c6
  simp only [d5] at c5
  show runF T (callD T 12) f13 _ _ = _
  simp (decide := true) [runF, f13, b13, Sim.execs, Sim.exec, ev, evs, evAll, Sim.R.bind, Sim.R.then, Sim.R.of, Sim.RS.seq, Sim.R.frzs, Sim.frzs, frz_p, mkLst, calA, allP, bindT, peek, Tgs, Txs, gls, xks, shAll, c1, c2, c3, c4, c5, c6, hz, d5, Sim.R.frz, Sim.R.noX, itOf, pitems, dcGo, wipeE, mkDct, idxD, kOf, pput, pval, setFd, fldOk, Tks, kls, fput]
end
end K01
end
section
set_option Elab.async false
set_option linter.all false
set_option maxRecDepth 100000
set_option maxHeartbeats 4000000
namespace K01
open Sim
section
variable {o : Option LO} {L : LH} {j : Nat} {p r c m g w : PD}
/-! what is told -/
theorem madeX (hj : L[j]? = some (some (.dct (tD p r c m g w)))) {e : Exn} {h' : LH} (hi : callD T 15 13 [.ref 0, .p m, .p p, .p g, .p c, .p r, .p w] [some (.ins 0 [])] = .exc e h') :
    callD T 18 9 [.ref (j + 1)] (o :: L) = .exc e (o :: L) := by
  show runF T (callD T 15) f9 _ _ = _
  simp (decide := true) [runF, f9, b9, Sim.execs, Sim.exec, ev, evs, Sim.R.bind, Sim.R.then, Sim.R.of, Sim.RS.seq, mkO, allP, Tks, kls, idxM hj, idxP hj, idxG hj, idxC hj, idxR hj, idxW hj, hi]
theorem madeY (hj : L[j]? = some (some (.dct (tD p r c m g w)))) {fs : List (PySem.Str × PD)} (hi : callD T 15 13 [.ref 0, .p m, .p p, .p g, .p c, .p r, .p w] [some (.ins 0 [])] = .ok (.p .non) [some (.ins 0 (fs.map fun q => (q.1, .p q.2)))])
    (hf : Sim.frz 9 (.ref 0) [some (.ins 0 (fs.map fun q => (q.1, .p q.2)))] = some (.obj 0 fs, [none])) :
    callD T 18 9 [.ref (j + 1)] (o :: L) = .ok (.p (.obj 0 fs)) (o :: L) := by
  show runF T (callD T 15) f9 _ _ = _
  simp (decide := true) [runF, f9, b9, Sim.execs, Sim.exec, ev, evs, Sim.R.bind, Sim.R.then, Sim.R.of, Sim.RS.seq, mkO, allP, Tks, kls, idxM hj, idxP hj, idxG hj, idxC hj, idxR hj, idxW hj, hi, hf, frz_p]
def saidE (x : Exn) : Option PD := match x.c with
  | 0 => some (.lst [.str "means"])
  | 1 => some (.lst [.str "pieces"])
  | 2 => some (.lst [.str "purse"])
  | 3 => (fget x.fs "point").map fun y => .lst [.str "rule", y]
  | 4 => some (.lst [.str "words"])
  | _ => none
theorem toldX {x : Exn} {v : PD} (hm : callD T 18 9 [.ref (j + 1)] (o :: L) = .exc x (o :: L)) (hv : saidE x = some v) :
    callD T 21 5 [.ref (j + 1)] (o :: L) = .ok (.p v) (o :: L) := by
  obtain ⟨n, fs⟩ := x
  show runF T (callD T 18) f5 _ _ = _
  match n, hv with
  | 0, hv => cases hv; simp (decide := true) [runF, f5, b5, Sim.execs, Sim.exec, ev, evs, Sim.R.bind, Sim.R.then, Sim.R.of, Sim.RS.seq, calA, bindT, handle, upsOf, Txs, xks, evH, evHs, hm, frz_p]
  | 1, hv => cases hv; simp (decide := true) [runF, f5, b5, Sim.execs, Sim.exec, ev, evs, Sim.R.bind, Sim.R.then, Sim.R.of, Sim.RS.seq, calA, bindT, handle, upsOf, Txs, xks, evH, evHs, hm, frz_p]
  | 2, hv => cases hv; simp (decide := true) [runF, f5, b5, Sim.execs, Sim.exec, ev, evs, Sim.R.bind, Sim.R.then, Sim.R.of, Sim.RS.seq, calA, bindT, handle, upsOf, Txs, xks, evH, evHs, hm, frz_p]
  | 3, hv =>
    obtain ⟨y, hy, rfl⟩ := Option.map_eq_some_iff.mp hv
    simp only at hy
    simp (decide := true) [runF, f5, b5, Sim.execs, Sim.exec, ev, evs, Sim.R.bind, Sim.R.then, Sim.R.of, Sim.RS.seq, calA, bindT, handle, upsOf, Txs, xks, evH, evHs, hm, frz_p, hy]
  | 4, hv => cases hv; simp (decide := true) [runF, f5, b5, Sim.execs, Sim.exec, ev, evs, Sim.R.bind, Sim.R.then, Sim.R.of, Sim.RS.seq, calA, bindT, handle, upsOf, Txs, xks, evH, evHs, hm, frz_p]
  | n + 5, hv => cases hv
theorem toldY {v : PD} (hm : callD T 18 9 [.ref (j + 1)] (o :: L) = .ok (.p v) (o :: L)) :
    callD T 21 5 [.ref (j + 1)] (o :: L) = .ok (.p .non) (o :: L) := by
  show runF T (callD T 18) f5 _ _ = _
  simp (decide := true) [runF, f5, b5, Sim.execs, Sim.exec, ev, evs, Sim.R.bind, Sim.R.then, Sim.R.of, Sim.RS.seq, calA, bindT, handle, upsOf, Txs, xks, evH, evHs, hm, frz_p]
end
end K01
end
section
set_option Elab.async false
set_option linter.all false
set_option maxRecDepth 100000
set_option maxHeartbeats 4000000
namespace K01
open Sim
def q2 : C := (.or (.nt (.isi (.idx (.var 0) (.cst (.str "pieces"))) .tuple)) (.nt (.chn .le .le (.cst (.int 1)) (.bf .len false [.idx (.var 0) (.cst (.str "pieces"))]) (.cst (.int 3)))))
def q3 : C := (.or (.nt (.bf .all false [.cmpr false [("_law_price", 3)] (.nm 3) .seq [.idx (.var 0) (.cst (.str "pieces"))] [] (.cal 12 true [.var 3, .cst (.int 1), .cst (.int 3)])])) (.cmp .gt (.bf .sum false [.idx (.var 0) (.cst (.str "pieces"))]) (.cst (.int 4))))
theorem b6eq : b6 = [.ite (.or (.nt (.cal 11 true [.idx (.var 0) (.cst (.str "means")), .lst false [.cst (.str "card"), .cst (.str "cash"), .cst (.str "gift")]])) (.cmp .eq (.idx (.var 0) (.cst (.str "means"))) (.tup []))) [.ret (.lst false [.cst (.str "means")])] [],
  .ite q2 [.ret (.lst false [.cst (.str "pieces")])] [],
  .ite q3 [.ret (.lst false [.cst (.str "pieces")])] [],
  .ite (.or (.nt (.cal 12 true [.idx (.var 0) (.cst (.str "cap")), .cst (.int 0), .cst (.int 4)])) (.nt (.cal 12 true [.idx (.var 0) (.cst (.str "gift")), .cst (.int 0), .idx (.var 0) (.cst (.str "cap"))]))) [.ret (.lst false [.cst (.str "purse")])] [],
  .set (.tp [.nm 1, .nm 4]) (.tup [.cmpr false [("_law_point", 2), ("_law_words", 5)] (.tp [.nm 2, .nm 5]) .seq [.cal 10 true []] [] (.var 2), .idx (.var 0) (.cst (.str "rule"))]),
  .ite (.or (.nt (.isi (.var 4) .dict)) (.or (.cmp .ne (.bf .len false [.var 4]) (.cst (.int 5))) (.cmp .ne (.cmpr false [("_law_point", 2)] (.nm 2) .seq [.var 1] [.cmp .notin (.var 2) (.var 4)] (.var 2)) (.lst false [])))) [.ret (.lst false [.cst (.str "rule"), .cst (.str "")])] [],
  .forS (.tp [.nm 2, .nm 5]) .seq [.cal 10 true []] [.ite (.or (.nt (.isi (.idx (.var 4) (.var 2)) .str)) (.cmp .notin (.idx (.var 4) (.var 2)) (.var 5))) [.ret (.lst false [.cst (.str "rule"), .var 2])] []],
  .ret (.ite (.cal 11 true [.idx (.var 0) (.cst (.str "words")), .lst false [.cst (.str "close"), .cst (.str "lapse"), .cst (.str "new")]]) (.cst (.non)) (.lst false [.cst (.str "words")]))] := rfl
theorem c12 {a : List LV} {h : LH} : callD T 18 12 a h = runF T (callD T 15) f12 a h := rfl
abbrev env6 (j : Nat) : Env0 := [some (.ref (j + 1)), none, none, none, none, none]
theorem pieces_ok {p : PD} (hp : p ∈ PCS) {j : Nat} {h : LH} (hx : idxD (.ref (j + 1)) (.str "pieces") h = some (.p p)) :
    ∃ b2 b3, ev T (callD T 18) q2 (env6 j) h = .ok (.p (.bl b2)) h ∧ (b2 = false → ev T (callD T 18) q3 (env6 j) h = .ok (.p (.bl b3)) h) ∧ pb (callD T 12 15 [.p p] []) = some (!b2 && !b3) := by
  simp only [PCS, pcs, spP, List.cons_append, List.nil_append, List.mem_cons, List.not_mem_nil, or_false] at hp
  rcases hp with rfl | rfl | rfl | rfl | rfl | rfl | rfl | rfl | rfl | rfl | rfl | rfl | rfl | rfl | rfl | rfl | rfl | rfl | rfl | rfl
  · refine ⟨false, false, ?_, ?_, by decide +kernel⟩
    · simp (decide := true) [q2, ev, evs, evAll, Sim.R.bind, Sim.R.then, Sim.R.of, Sim.R.frz, Sim.R.frzs, Sim.R.noX, Sim.frzs, frz_p, mkLst, calA, calP, allP, bindT, wipeE, lcGo, itOf, pitems, peek, sh, bfn, cop, bop, psh, peq, isiB, isiT, tagOf, pbools, pints, hx]
    · simp (decide := true) [q3, c12, runF, f12, b12, Sim.execs, Sim.exec, Sim.RS.seq, ev, evs, evAll, Sim.R.bind, Sim.R.then, Sim.R.of, Sim.R.frz, Sim.R.frzs, Sim.R.noX, Sim.frzs, frz_p, mkLst, calA, calP, allP, bindT, wipeE, lcGo, itOf, pitems, peek, sh, bfn, cop, bop, psh, peq, isiB, isiT, tagOf, pbools, pints, hx]
  · refine ⟨false, false, ?_, ?_, by decide +kernel⟩
    · simp (decide := true) [q2, ev, evs, evAll, Sim.R.bind, Sim.R.then, Sim.R.of, Sim.R.frz, Sim.R.frzs, Sim.R.noX, Sim.frzs, frz_p, mkLst, calA, calP, allP, bindT, wipeE, lcGo, itOf, pitems, peek, sh, bfn, cop, bop, psh, peq, isiB, isiT, tagOf, pbools, pints, hx]
    · simp (decide := true) [q3, c12, runF, f12, b12, Sim.execs, Sim.exec, Sim.RS.seq, ev, evs, evAll, Sim.R.bind, Sim.R.then, Sim.R.of, Sim.R.frz, Sim.R.frzs, Sim.R.noX, Sim.frzs, frz_p, mkLst, calA, calP, allP, bindT, wipeE, lcGo, itOf, pitems, peek, sh, bfn, cop, bop, psh, peq, isiB, isiT, tagOf, pbools, pints, hx]
  · refine ⟨false, false, ?_, ?_, by decide +kernel⟩
    · simp (decide := true) [q2, ev, evs, evAll, Sim.R.bind, Sim.R.then, Sim.R.of, Sim.R.frz, Sim.R.frzs, Sim.R.noX, Sim.frzs, frz_p, mkLst, calA, calP, allP, bindT, wipeE, lcGo, itOf, pitems, peek, sh, bfn, cop, bop, psh, peq, isiB, isiT, tagOf, pbools, pints, hx]
    · simp (decide := true) [q3, c12, runF, f12, b12, Sim.execs, Sim.exec, Sim.RS.seq, ev, evs, evAll, Sim.R.bind, Sim.R.then, Sim.R.of, Sim.R.frz, Sim.R.frzs, Sim.R.noX, Sim.frzs, frz_p, mkLst, calA, calP, allP, bindT, wipeE, lcGo, itOf, pitems, peek, sh, bfn, cop, bop, psh, peq, isiB, isiT, tagOf, pbools, pints, hx]
  · refine ⟨false, false, ?_, ?_, by decide +kernel⟩
    · simp (decide := true) [q2, ev, evs, evAll, Sim.R.bind, Sim.R.then, Sim.R.of, Sim.R.frz, Sim.R.frzs, Sim.R.noX, Sim.frzs, frz_p, mkLst, calA, calP, allP, bindT, wipeE, lcGo, itOf, pitems, peek, sh, bfn, cop, bop, psh, peq, isiB, isiT, tagOf, pbools, pints, hx]
    · simp (decide := true) [q3, c12, runF, f12, b12, Sim.execs, Sim.exec, Sim.RS.seq, ev, evs, evAll, Sim.R.bind, Sim.R.then, Sim.R.of, Sim.R.frz, Sim.R.frzs, Sim.R.noX, Sim.frzs, frz_p, mkLst, calA, calP, allP, bindT, wipeE, lcGo, itOf, pitems, peek, sh, bfn, cop, bop, psh, peq, isiB, isiT, tagOf, pbools, pints, hx]
  · refine ⟨false, false, ?_, ?_, by decide +kernel⟩
    · simp (decide := true) [q2, ev, evs, evAll, Sim.R.bind, Sim.R.then, Sim.R.of, Sim.R.frz, Sim.R.frzs, Sim.R.noX, Sim.frzs, frz_p, mkLst, calA, calP, allP, bindT, wipeE, lcGo, itOf, pitems, peek, sh, bfn, cop, bop, psh, peq, isiB, isiT, tagOf, pbools, pints, hx]
    · simp (decide := true) [q3, c12, runF, f12, b12, Sim.execs, Sim.exec, Sim.RS.seq, ev, evs, evAll, Sim.R.bind, Sim.R.then, Sim.R.of, Sim.R.frz, Sim.R.frzs, Sim.R.noX, Sim.frzs, frz_p, mkLst, calA, calP, allP, bindT, wipeE, lcGo, itOf, pitems, peek, sh, bfn, cop, bop, psh, peq, isiB, isiT, tagOf, pbools, pints, hx]
  · refine ⟨false, false, ?_, ?_, by decide +kernel⟩
    · simp (decide := true) [q2, ev, evs, evAll, Sim.R.bind, Sim.R.then, Sim.R.of, Sim.R.frz, Sim.R.frzs, Sim.R.noX, Sim.frzs, frz_p, mkLst, calA, calP, allP, bindT, wipeE, lcGo, itOf, pitems, peek, sh, bfn, cop, bop, psh, peq, isiB, isiT, tagOf, pbools, pints, hx]
    · simp (decide := true) [q3, c12, runF, f12, b12, Sim.execs, Sim.exec, Sim.RS.seq, ev, evs, evAll, Sim.R.bind, Sim.R.then, Sim.R.of, Sim.R.frz, Sim.R.frzs, Sim.R.noX, Sim.frzs, frz_p, mkLst, calA, calP, allP, bindT, wipeE, lcGo, itOf, pitems, peek, sh, bfn, cop, bop, psh, peq, isiB, isiT, tagOf, pbools, pints, hx]
  · refine ⟨false, false, ?_, ?_, by decide +kernel⟩
    · simp (decide := true) [q2, ev, evs, evAll, Sim.R.bind, Sim.R.then, Sim.R.of, Sim.R.frz, Sim.R.frzs, Sim.R.noX, Sim.frzs, frz_p, mkLst, calA, calP, allP, bindT, wipeE, lcGo, itOf, pitems, peek, sh, bfn, cop, bop, psh, peq, isiB, isiT, tagOf, pbools, pints, hx]
    · simp (decide := true) [q3, c12, runF, f12, b12, Sim.execs, Sim.exec, Sim.RS.seq, ev, evs, evAll, Sim.R.bind, Sim.R.then, Sim.R.of, Sim.R.frz, Sim.R.frzs, Sim.R.noX, Sim.frzs, frz_p, mkLst, calA, calP, allP, bindT, wipeE, lcGo, itOf, pitems, peek, sh, bfn, cop, bop, psh, peq, isiB, isiT, tagOf, pbools, pints, hx]
  · refine ⟨false, false, ?_, ?_, by decide +kernel⟩
    · simp (decide := true) [q2, ev, evs, evAll, Sim.R.bind, Sim.R.then, Sim.R.of, Sim.R.frz, Sim.R.frzs, Sim.R.noX, Sim.frzs, frz_p, mkLst, calA, calP, allP, bindT, wipeE, lcGo, itOf, pitems, peek, sh, bfn, cop, bop, psh, peq, isiB, isiT, tagOf, pbools, pints, hx]
    · simp (decide := true) [q3, c12, runF, f12, b12, Sim.execs, Sim.exec, Sim.RS.seq, ev, evs, evAll, Sim.R.bind, Sim.R.then, Sim.R.of, Sim.R.frz, Sim.R.frzs, Sim.R.noX, Sim.frzs, frz_p, mkLst, calA, calP, allP, bindT, wipeE, lcGo, itOf, pitems, peek, sh, bfn, cop, bop, psh, peq, isiB, isiT, tagOf, pbools, pints, hx]
  · refine ⟨false, false, ?_, ?_, by decide +kernel⟩
    · simp (decide := true) [q2, ev, evs, evAll, Sim.R.bind, Sim.R.then, Sim.R.of, Sim.R.frz, Sim.R.frzs, Sim.R.noX, Sim.frzs, frz_p, mkLst, calA, calP, allP, bindT, wipeE, lcGo, itOf, pitems, peek, sh, bfn, cop, bop, psh, peq, isiB, isiT, tagOf, pbools, pints, hx]
    · simp (decide := true) [q3, c12, runF, f12, b12, Sim.execs, Sim.exec, Sim.RS.seq, ev, evs, evAll, Sim.R.bind, Sim.R.then, Sim.R.of, Sim.R.frz, Sim.R.frzs, Sim.R.noX, Sim.frzs, frz_p, mkLst, calA, calP, allP, bindT, wipeE, lcGo, itOf, pitems, peek, sh, bfn, cop, bop, psh, peq, isiB, isiT, tagOf, pbools, pints, hx]
  · refine ⟨false, false, ?_, ?_, by decide +kernel⟩
    · simp (decide := true) [q2, ev, evs, evAll, Sim.R.bind, Sim.R.then, Sim.R.of, Sim.R.frz, Sim.R.frzs, Sim.R.noX, Sim.frzs, frz_p, mkLst, calA, calP, allP, bindT, wipeE, lcGo, itOf, pitems, peek, sh, bfn, cop, bop, psh, peq, isiB, isiT, tagOf, pbools, pints, hx]
    · simp (decide := true) [q3, c12, runF, f12, b12, Sim.execs, Sim.exec, Sim.RS.seq, ev, evs, evAll, Sim.R.bind, Sim.R.then, Sim.R.of, Sim.R.frz, Sim.R.frzs, Sim.R.noX, Sim.frzs, frz_p, mkLst, calA, calP, allP, bindT, wipeE, lcGo, itOf, pitems, peek, sh, bfn, cop, bop, psh, peq, isiB, isiT, tagOf, pbools, pints, hx]
  · refine ⟨true, false, ?_, ?_, by decide +kernel⟩
    · simp (decide := true) [q2, ev, evs, evAll, Sim.R.bind, Sim.R.then, Sim.R.of, Sim.R.frz, Sim.R.frzs, Sim.R.noX, Sim.frzs, frz_p, mkLst, calA, calP, allP, bindT, wipeE, lcGo, itOf, pitems, peek, sh, bfn, cop, bop, psh, peq, isiB, isiT, tagOf, pbools, pints, hx]
    · simp (decide := true) [q3, c12, runF, f12, b12, Sim.execs, Sim.exec, Sim.RS.seq, ev, evs, evAll, Sim.R.bind, Sim.R.then, Sim.R.of, Sim.R.frz, Sim.R.frzs, Sim.R.noX, Sim.frzs, frz_p, mkLst, calA, calP, allP, bindT, wipeE, lcGo, itOf, pitems, peek, sh, bfn, cop, bop, psh, peq, isiB, isiT, tagOf, pbools, pints, hx]
  · refine ⟨true, false, ?_, ?_, by decide +kernel⟩
    · simp (decide := true) [q2, ev, evs, evAll, Sim.R.bind, Sim.R.then, Sim.R.of, Sim.R.frz, Sim.R.frzs, Sim.R.noX, Sim.frzs, frz_p, mkLst, calA, calP, allP, bindT, wipeE, lcGo, itOf, pitems, peek, sh, bfn, cop, bop, psh, peq, isiB, isiT, tagOf, pbools, pints, hx]
    · simp (decide := true) [q3, c12, runF, f12, b12, Sim.execs, Sim.exec, Sim.RS.seq, ev, evs, evAll, Sim.R.bind, Sim.R.then, Sim.R.of, Sim.R.frz, Sim.R.frzs, Sim.R.noX, Sim.frzs, frz_p, mkLst, calA, calP, allP, bindT, wipeE, lcGo, itOf, pitems, peek, sh, bfn, cop, bop, psh, peq, isiB, isiT, tagOf, pbools, pints, hx]
  · refine ⟨true, false, ?_, ?_, by decide +kernel⟩
    · simp (decide := true) [q2, ev, evs, evAll, Sim.R.bind, Sim.R.then, Sim.R.of, Sim.R.frz, Sim.R.frzs, Sim.R.noX, Sim.frzs, frz_p, mkLst, calA, calP, allP, bindT, wipeE, lcGo, itOf, pitems, peek, sh, bfn, cop, bop, psh, peq, isiB, isiT, tagOf, pbools, pints, hx]
    · simp (decide := true) [q3, c12, runF, f12, b12, Sim.execs, Sim.exec, Sim.RS.seq, ev, evs, evAll, Sim.R.bind, Sim.R.then, Sim.R.of, Sim.R.frz, Sim.R.frzs, Sim.R.noX, Sim.frzs, frz_p, mkLst, calA, calP, allP, bindT, wipeE, lcGo, itOf, pitems, peek, sh, bfn, cop, bop, psh, peq, isiB, isiT, tagOf, pbools, pints, hx]
  · refine ⟨false, true, ?_, ?_, by decide +kernel⟩
    · simp (decide := true) [q2, ev, evs, evAll, Sim.R.bind, Sim.R.then, Sim.R.of, Sim.R.frz, Sim.R.frzs, Sim.R.noX, Sim.frzs, frz_p, mkLst, calA, calP, allP, bindT, wipeE, lcGo, itOf, pitems, peek, sh, bfn, cop, bop, psh, peq, isiB, isiT, tagOf, pbools, pints, hx]
    · simp (decide := true) [q3, c12, runF, f12, b12, Sim.execs, Sim.exec, Sim.RS.seq, ev, evs, evAll, Sim.R.bind, Sim.R.then, Sim.R.of, Sim.R.frz, Sim.R.frzs, Sim.R.noX, Sim.frzs, frz_p, mkLst, calA, calP, allP, bindT, wipeE, lcGo, itOf, pitems, peek, sh, bfn, cop, bop, psh, peq, isiB, isiT, tagOf, pbools, pints, hx]
  · refine ⟨false, true, ?_, ?_, by decide +kernel⟩
    · simp (decide := true) [q2, ev, evs, evAll, Sim.R.bind, Sim.R.then, Sim.R.of, Sim.R.frz, Sim.R.frzs, Sim.R.noX, Sim.frzs, frz_p, mkLst, calA, calP, allP, bindT, wipeE, lcGo, itOf, pitems, peek, sh, bfn, cop, bop, psh, peq, isiB, isiT, tagOf, pbools, pints, hx]
    · simp (decide := true) [q3, c12, runF, f12, b12, Sim.execs, Sim.exec, Sim.RS.seq, ev, evs, evAll, Sim.R.bind, Sim.R.then, Sim.R.of, Sim.R.frz, Sim.R.frzs, Sim.R.noX, Sim.frzs, frz_p, mkLst, calA, calP, allP, bindT, wipeE, lcGo, itOf, pitems, peek, sh, bfn, cop, bop, psh, peq, isiB, isiT, tagOf, pbools, pints, hx]
  · refine ⟨false, true, ?_, ?_, by decide +kernel⟩
    · simp (decide := true) [q2, ev, evs, evAll, Sim.R.bind, Sim.R.then, Sim.R.of, Sim.R.frz, Sim.R.frzs, Sim.R.noX, Sim.frzs, frz_p, mkLst, calA, calP, allP, bindT, wipeE, lcGo, itOf, pitems, peek, sh, bfn, cop, bop, psh, peq, isiB, isiT, tagOf, pbools, pints, hx]
    · simp (decide := true) [q3, c12, runF, f12, b12, Sim.execs, Sim.exec, Sim.RS.seq, ev, evs, evAll, Sim.R.bind, Sim.R.then, Sim.R.of, Sim.R.frz, Sim.R.frzs, Sim.R.noX, Sim.frzs, frz_p, mkLst, calA, calP, allP, bindT, wipeE, lcGo, itOf, pitems, peek, sh, bfn, cop, bop, psh, peq, isiB, isiT, tagOf, pbools, pints, hx]
  · refine ⟨false, true, ?_, ?_, by decide +kernel⟩
    · simp (decide := true) [q2, ev, evs, evAll, Sim.R.bind, Sim.R.then, Sim.R.of, Sim.R.frz, Sim.R.frzs, Sim.R.noX, Sim.frzs, frz_p, mkLst, calA, calP, allP, bindT, wipeE, lcGo, itOf, pitems, peek, sh, bfn, cop, bop, psh, peq, isiB, isiT, tagOf, pbools, pints, hx]
    · simp (decide := true) [q3, c12, runF, f12, b12, Sim.execs, Sim.exec, Sim.RS.seq, ev, evs, evAll, Sim.R.bind, Sim.R.then, Sim.R.of, Sim.R.frz, Sim.R.frzs, Sim.R.noX, Sim.frzs, frz_p, mkLst, calA, calP, allP, bindT, wipeE, lcGo, itOf, pitems, peek, sh, bfn, cop, bop, psh, peq, isiB, isiT, tagOf, pbools, pints, hx]
  · refine ⟨true, false, ?_, ?_, by decide +kernel⟩
    · simp (decide := true) [q2, ev, evs, evAll, Sim.R.bind, Sim.R.then, Sim.R.of, Sim.R.frz, Sim.R.frzs, Sim.R.noX, Sim.frzs, frz_p, mkLst, calA, calP, allP, bindT, wipeE, lcGo, itOf, pitems, peek, sh, bfn, cop, bop, psh, peq, isiB, isiT, tagOf, pbools, pints, hx]
    · simp (decide := true) [q3, c12, runF, f12, b12, Sim.execs, Sim.exec, Sim.RS.seq, ev, evs, evAll, Sim.R.bind, Sim.R.then, Sim.R.of, Sim.R.frz, Sim.R.frzs, Sim.R.noX, Sim.frzs, frz_p, mkLst, calA, calP, allP, bindT, wipeE, lcGo, itOf, pitems, peek, sh, bfn, cop, bop, psh, peq, isiB, isiT, tagOf, pbools, pints, hx]
  · refine ⟨false, true, ?_, ?_, by decide +kernel⟩
    · simp (decide := true) [q2, ev, evs, evAll, Sim.R.bind, Sim.R.then, Sim.R.of, Sim.R.frz, Sim.R.frzs, Sim.R.noX, Sim.frzs, frz_p, mkLst, calA, calP, allP, bindT, wipeE, lcGo, itOf, pitems, peek, sh, bfn, cop, bop, psh, peq, isiB, isiT, tagOf, pbools, pints, hx]
    · simp (decide := true) [q3, c12, runF, f12, b12, Sim.execs, Sim.exec, Sim.RS.seq, ev, evs, evAll, Sim.R.bind, Sim.R.then, Sim.R.of, Sim.R.frz, Sim.R.frzs, Sim.R.noX, Sim.frzs, frz_p, mkLst, calA, calP, allP, bindT, wipeE, lcGo, itOf, pitems, peek, sh, bfn, cop, bop, psh, peq, isiB, isiT, tagOf, pbools, pints, hx]
  · refine ⟨false, false, ?_, ?_, by decide +kernel⟩
    · simp (decide := true) [q2, ev, evs, evAll, Sim.R.bind, Sim.R.then, Sim.R.of, Sim.R.frz, Sim.R.frzs, Sim.R.noX, Sim.frzs, frz_p, mkLst, calA, calP, allP, bindT, wipeE, lcGo, itOf, pitems, peek, sh, bfn, cop, bop, psh, peq, isiB, isiT, tagOf, pbools, pints, hx]
    · simp (decide := true) [q3, c12, runF, f12, b12, Sim.execs, Sim.exec, Sim.RS.seq, ev, evs, evAll, Sim.R.bind, Sim.R.then, Sim.R.of, Sim.R.frz, Sim.R.frzs, Sim.R.noX, Sim.frzs, frz_p, mkLst, calA, calP, allP, bindT, wipeE, lcGo, itOf, pitems, peek, sh, bfn, cop, bop, psh, peq, isiB, isiT, tagOf, pbools, pints, hx]
end K01
end
section
set_option Elab.async false
set_option linter.all false
set_option maxRecDepth 100000
set_option maxHeartbeats 4000000
namespace K01
open Sim
theorem z0 : shOk true (.str "") = true := by decide +kernel
theorem z1 : shOk true (.str "base") = true := by decide +kernel
theorem z2 : shOk true (.str "closed") = true := by decide +kernel
theorem z3 : shOk true (.str "gifts") = true := by decide +kernel
theorem z4 : shOk true (.str "order") = true := by decide +kernel
theorem z5 : shOk true (.str "rounding") = true := by decide +kernel
def firstBad (a1 a2 a3 a4 a5 : Bool) : Option PySem.Str := if a1 = false then some "base" else if a2 = false then some "closed" else if a3 = false then some "gifts" else if a4 = false then some "order" else if a5 = false then some "rounding" else none
structure WordOk (ws : List PD) (v : PD) (a : Bool) : Prop where
  b : pb (callD T 9 18 [.p v, .p (.tup ws)] []) = some a
  i : (isiB .str v = some true ∧ cop .notin v (.lst ws) = some (!a)) ∨ (isiB .str v = some false ∧ a = false)
theorem word_ok {ws : List PD} {v : PD} (h : wordB ws v = true) : ∃ a, WordOk ws v a := by
  unfold wordB at h
  split at h
  · rename_i a e1 e2
    split at h
    · rename_i b e3
      have hb : b = !a := by simpa using h
      subst hb
      exact ⟨a, e1, .inl ⟨e2, e3⟩⟩
    · cases h
  · rename_i a e1 e2
    exact ⟨a, e1, .inr ⟨e2, by simpa using h⟩⟩
  · cases h
theorem keyB : ([.str "base", .str "closed", .str "gifts", .str "order", .str "rounding"] : List PD).all (fun n => pb (callD T 9 18 [.p n, .p (.lst [.str "base", .str "closed", .str "gifts", .str "order", .str "rounding"])] []) == some true) = true := by decide +kernel
theorem key_ok {n : PD} (h : n ∈ ([.str "base", .str "closed", .str "gifts", .str "order", .str "rounding"] : List PD)) : pb (callD T 9 18 [.p n, .p (.lst [.str "base", .str "closed", .str "gifts", .str "order", .str "rounding"])] []) = some true := by
  have := List.all_eq_true.mp keyB n h
  simpa using this
theorem rule_t {v1 v2 v3 v4 v5 : PD} {a1 a2 a3 a4 a5 : Bool} (h1 : WordOk w1 v1 a1) (h2 : WordOk w2 v2 a2) (h3 : WordOk w3 v3 a3) (h4 : WordOk w4 v4 a4) (h5 : WordOk w5 v5 a5) :
    callD T 12 14 [.p (.dct (d5 v1 v2 v3 v4 v5))] [] = match firstBad a1 a2 a3 a4 a5 with
      | some x => .exc ⟨3, [("point", .str x)]⟩ []
      | none => .ok (.p .non) [] := by
  have k1 := fun h => calP_pb (cal := callD T 9) (f := 18) (xs := [.str "base", .lst [.str "base", .str "closed", .str "gifts", .str "order", .str "rounding"]]) (h := h) (key_ok (n := .str "base") (by simp))
  have k2 := fun h => calP_pb (cal := callD T 9) (f := 18) (xs := [.str "closed", .lst [.str "base", .str "closed", .str "gifts", .str "order", .str "rounding"]]) (h := h) (key_ok (n := .str "closed") (by simp))
  have k3 := fun h => calP_pb (cal := callD T 9) (f := 18) (xs := [.str "gifts", .lst [.str "base", .str "closed", .str "gifts", .str "order", .str "rounding"]]) (h := h) (key_ok (n := .str "gifts") (by simp))
  have k4 := fun h => calP_pb (cal := callD T 9) (f := 18) (xs := [.str "order", .lst [.str "base", .str "closed", .str "gifts", .str "order", .str "rounding"]]) (h := h) (key_ok (n := .str "order") (by simp))
  have k5 := fun h => calP_pb (cal := callD T 9) (f := 18) (xs := [.str "rounding", .lst [.str "base", .str "closed", .str "gifts", .str "order", .str "rounding"]]) (h := h) (key_ok (n := .str "rounding") (by simp))
  have c1 := fun h => calP_pb (cal := callD T 9) (f := 18) (xs := [v1, .tup w1]) (h := h) h1.b
  have c2 := fun h => calP_pb (cal := callD T 9) (f := 18) (xs := [v2, .tup w2]) (h := h) h2.b
  have c3 := fun h => calP_pb (cal := callD T 9) (f := 18) (xs := [v3, .tup w3]) (h := h) h3.b
  have c4 := fun h => calP_pb (cal := callD T 9) (f := 18) (xs := [v4, .tup w4]) (h := h) h4.b
  have c5 := fun h => calP_pb (cal := callD T 9) (f := 18) (xs := [v5, .tup w5]) (h := h) h5.b
  simp only [w1] at c1
  simp only [w2] at c2
  simp only [w3] at c3
  simp only [w4] at c4
  simp only [w5] at c5
  clear h1 h2 h3 h4 h5
  show runF T (callD T 9) f14 _ _ = _
  cases a1
  case false => simp (decide := true) [runF, f14, b14, Sim.execs, Sim.exec, ev, evs, evAll, Sim.R.bind, Sim.R.then, Sim.R.of, Sim.RS.seq, Sim.RS.loop, Sim.R.frz, Sim.R.frzs, Sim.R.noX, Sim.frzs, frz_p, mkLst, calA, allP, bindT, wipeE, lcGo, forGo, itOf, pitems, peek, sh, bfn, cop, psh, peq, pbools, isd_d, d5, idxD, kOf, pval, Tgs, Txs, gls, xks, shAll, z0, z1, z2, z3, z4, z5, fget, firstBad, k1, k2, k3, k4, k5, c1]
  cases a2
  case false => simp (decide := true) [runF, f14, b14, Sim.execs, Sim.exec, ev, evs, evAll, Sim.R.bind, Sim.R.then, Sim.R.of, Sim.RS.seq, Sim.RS.loop, Sim.R.frz, Sim.R.frzs, Sim.R.noX, Sim.frzs, frz_p, mkLst, calA, allP, bindT, wipeE, lcGo, forGo, itOf, pitems, peek, sh, bfn, cop, psh, peq, pbools, isd_d, d5, idxD, kOf, pval, Tgs, Txs, gls, xks, shAll, z0, z1, z2, z3, z4, z5, fget, firstBad, k1, k2, k3, k4, k5, c1, c2]
  cases a3
  case false => simp (decide := true) [runF, f14, b14, Sim.execs, Sim.exec, ev, evs, evAll, Sim.R.bind, Sim.R.then, Sim.R.of, Sim.RS.seq, Sim.RS.loop, Sim.R.frz, Sim.R.frzs, Sim.R.noX, Sim.frzs, frz_p, mkLst, calA, allP, bindT, wipeE, lcGo, forGo, itOf, pitems, peek, sh, bfn, cop, psh, peq, pbools, isd_d, d5, idxD, kOf, pval, Tgs, Txs, gls, xks, shAll, z0, z1, z2, z3, z4, z5, fget, firstBad, k1, k2, k3, k4, k5, c1, c2, c3]
  cases a4
  case false => simp (decide := true) [runF, f14, b14, Sim.execs, Sim.exec, ev, evs, evAll, Sim.R.bind, Sim.R.then, Sim.R.of, Sim.RS.seq, Sim.RS.loop, Sim.R.frz, Sim.R.frzs, Sim.R.noX, Sim.frzs, frz_p, mkLst, calA, allP, bindT, wipeE, lcGo, forGo, itOf, pitems, peek, sh, bfn, cop, psh, peq, pbools, isd_d, d5, idxD, kOf, pval, Tgs, Txs, gls, xks, shAll, z0, z1, z2, z3, z4, z5, fget, firstBad, k1, k2, k3, k4, k5, c1, c2, c3, c4]
  cases a5
  case false => simp (decide := true) [runF, f14, b14, Sim.execs, Sim.exec, ev, evs, evAll, Sim.R.bind, Sim.R.then, Sim.R.of, Sim.RS.seq, Sim.RS.loop, Sim.R.frz, Sim.R.frzs, Sim.R.noX, Sim.frzs, frz_p, mkLst, calA, allP, bindT, wipeE, lcGo, forGo, itOf, pitems, peek, sh, bfn, cop, psh, peq, pbools, isd_d, d5, idxD, kOf, pval, Tgs, Txs, gls, xks, shAll, z0, z1, z2, z3, z4, z5, fget, firstBad, k1, k2, k3, k4, k5, c1, c2, c3, c4, c5]
  simp (decide := true) [runF, f14, b14, Sim.execs, Sim.exec, ev, evs, evAll, Sim.R.bind, Sim.R.then, Sim.R.of, Sim.RS.seq, Sim.RS.loop, Sim.R.frz, Sim.R.frzs, Sim.R.noX, Sim.frzs, frz_p, mkLst, calA, allP, bindT, wipeE, lcGo, forGo, itOf, pitems, peek, sh, bfn, cop, psh, peq, pbools, isd_d, d5, idxD, kOf, pval, Tgs, Txs, gls, xks, shAll, z0, z1, z2, z3, z4, z5, fget, firstBad, k1, k2, k3, k4, k5, c1, c2, c3, c4, c5]
theorem rule_n {r : PD} (h : isiB .dict r = some false) : callD T 12 14 [.p r] [] = .exc ⟨3, [("point", .str "")]⟩ [] := by
  show runF T (callD T 9) f14 _ _ = _
  simp (decide := true) [runF, f14, b14, Sim.execs, Sim.exec, ev, evs, evAll, Sim.R.bind, Sim.R.then, Sim.R.of, Sim.RS.seq, Sim.R.frzs, Sim.frzs, frz_p, peek, h, Txs, xks, shAll, z0, z1, z2, z3, z4, z5, fget]
theorem rule_l {kvs : List (PD × PD)} (h : kvs.length ≠ 5) : callD T 12 14 [.p (.dct kvs)] [] = .exc ⟨3, [("point", .str "")]⟩ [] := by
  have h' : ¬ ((kvs.length : Int) = 5) := by omega
  show runF T (callD T 9) f14 _ _ = _
  simp (decide := true) [runF, f14, b14, Sim.execs, Sim.exec, ev, evs, evAll, Sim.R.bind, Sim.R.then, Sim.R.of, Sim.RS.seq, Sim.R.frzs, Sim.frzs, frz_p, peek, isd_d, sh, bfn, cop, psh, peq, h', Tgs, gls, Txs, xks, shAll, z0, z1, z2, z3, z4, z5, fget]
end K01
end
section
set_option Elab.async false
set_option linter.all false
set_option maxRecDepth 100000
set_option maxHeartbeats 4000000
namespace K01
open Sim
section
variable {o : Option LO} {L : LH} {j : Nat} {p r c m g w : PD}
/-! what is due -/
theorem dueM (hj : L[j]? = some (some (.dct (tD p r c m g w)))) {bm bz : Bool} (hm : pb (callD T 18 11 [.p m, .p meansL] []) = some bm) (hz : cop .eq m (.tup []) = some bz) (hb : bm = false ∨ bz = true) :
    callD T 21 6 [.ref (j + 1)] (o :: L) = .ok (.p (.lst [.str "means"])) (o :: L) := by
  have c1 := fun h => calP_pb (cal := callD T 18) (f := 11) (xs := [m, meansL]) (h := h) hm
  simp only [meansL] at c1
  show runF T (callD T 18) f6 _ _ = _
  cases bm <;> cases bz <;> simp at hb <;>
  simp (decide := true) [runF, f6, b6eq, Sim.execs, Sim.exec, ev, evs, evAll, Sim.R.bind, Sim.R.then, Sim.R.of, Sim.RS.seq, Sim.RS.loop, Sim.R.frz, Sim.R.frzs, Sim.R.noX, Sim.frzs, frz_p, mkLst, calA, allP, bindT, bindTs, wipeE, lcGo, forGo, itOf, pitems, peek, sh, bfn, idxM hj, c1, hz]
theorem dueP2 (hj : L[j]? = some (some (.dct (tD p r c m g w)))) (hm : pb (callD T 18 11 [.p m, .p meansL] []) = some true) (hz : cop .eq m (.tup []) = some false) (h2 : ev T (callD T 18) q2 (env6 j) (o :: L) = .ok (.p (.bl true)) (o :: L)) :
    callD T 21 6 [.ref (j + 1)] (o :: L) = .ok (.p (.lst [.str "pieces"])) (o :: L) := by
  have c1 := fun h => calP_pb (cal := callD T 18) (f := 11) (xs := [m, meansL]) (h := h) hm
  simp only [meansL] at c1
  show runF T (callD T 18) f6 _ _ = _
  simp (decide := true) [runF, f6, b6eq, Sim.execs, Sim.exec, ev, evs, evAll, Sim.R.bind, Sim.R.then, Sim.R.of, Sim.RS.seq, Sim.RS.loop, Sim.R.frz, Sim.R.frzs, Sim.R.noX, Sim.frzs, frz_p, mkLst, calA, allP, bindT, bindTs, wipeE, lcGo, forGo, itOf, pitems, peek, sh, bfn, idxM hj, c1, hz, h2]
theorem dueP3 (hj : L[j]? = some (some (.dct (tD p r c m g w)))) (hm : pb (callD T 18 11 [.p m, .p meansL] []) = some true) (hz : cop .eq m (.tup []) = some false) (h2 : ev T (callD T 18) q2 (env6 j) (o :: L) = .ok (.p (.bl false)) (o :: L)) (h3 : ev T (callD T 18) q3 (env6 j) (o :: L) = .ok (.p (.bl true)) (o :: L)) :
    callD T 21 6 [.ref (j + 1)] (o :: L) = .ok (.p (.lst [.str "pieces"])) (o :: L) := by
  have c1 := fun h => calP_pb (cal := callD T 18) (f := 11) (xs := [m, meansL]) (h := h) hm
  simp only [meansL] at c1
  show runF T (callD T 18) f6 _ _ = _
  simp (decide := true) [runF, f6, b6eq, Sim.execs, Sim.exec, ev, evs, evAll, Sim.R.bind, Sim.R.then, Sim.R.of, Sim.RS.seq, Sim.RS.loop, Sim.R.frz, Sim.R.frzs, Sim.R.noX, Sim.frzs, frz_p, mkLst, calA, allP, bindT, bindTs, wipeE, lcGo, forGo, itOf, pitems, peek, sh, bfn, idxM hj, c1, hz, h2, h3]
theorem dueC (hj : L[j]? = some (some (.dct (tD p r c m g w)))) (hm : pb (callD T 18 11 [.p m, .p meansL] []) = some true) (hz : cop .eq m (.tup []) = some false) (h2 : ev T (callD T 18) q2 (env6 j) (o :: L) = .ok (.p (.bl false)) (o :: L)) (h3 : ev T (callD T 18) q3 (env6 j) (o :: L) = .ok (.p (.bl false)) (o :: L)) (hc : pb (callD T 18 12 [.p c, .p (.int 0), .p (.int 4)] []) = some false) :
    callD T 21 6 [.ref (j + 1)] (o :: L) = .ok (.p (.lst [.str "purse"])) (o :: L) := by
  have c1 := fun h => calP_pb (cal := callD T 18) (f := 11) (xs := [m, meansL]) (h := h) hm
  simp only [meansL] at c1
  have c3 := fun h => calP_pb (cal := callD T 18) (f := 12) (xs := [c, .int 0, .int 4]) (h := h) hc
  show runF T (callD T 18) f6 _ _ = _
  simp (decide := true) [runF, f6, b6eq, Sim.execs, Sim.exec, ev, evs, evAll, Sim.R.bind, Sim.R.then, Sim.R.of, Sim.RS.seq, Sim.RS.loop, Sim.R.frz, Sim.R.frzs, Sim.R.noX, Sim.frzs, frz_p, mkLst, calA, allP, bindT, bindTs, wipeE, lcGo, forGo, itOf, pitems, peek, sh, bfn, idxM hj, idxC hj, idxG hj, c1, hz, h2, h3, c3]
theorem dueG (hj : L[j]? = some (some (.dct (tD p r c m g w)))) (hm : pb (callD T 18 11 [.p m, .p meansL] []) = some true) (hz : cop .eq m (.tup []) = some false) (h2 : ev T (callD T 18) q2 (env6 j) (o :: L) = .ok (.p (.bl false)) (o :: L)) (h3 : ev T (callD T 18) q3 (env6 j) (o :: L) = .ok (.p (.bl false)) (o :: L)) (hc : pb (callD T 18 12 [.p c, .p (.int 0), .p (.int 4)] []) = some true) (hg : pb (callD T 18 12 [.p g, .p (.int 0), .p c] []) = some false) :
    callD T 21 6 [.ref (j + 1)] (o :: L) = .ok (.p (.lst [.str "purse"])) (o :: L) := by
  have c1 := fun h => calP_pb (cal := callD T 18) (f := 11) (xs := [m, meansL]) (h := h) hm
  simp only [meansL] at c1
  have c3 := fun h => calP_pb (cal := callD T 18) (f := 12) (xs := [c, .int 0, .int 4]) (h := h) hc
  have c4 := fun h => calP_pb (cal := callD T 18) (f := 12) (xs := [g, .int 0, c]) (h := h) hg
  show runF T (callD T 18) f6 _ _ = _
  simp (decide := true) [runF, f6, b6eq, Sim.execs, Sim.exec, ev, evs, evAll, Sim.R.bind, Sim.R.then, Sim.R.of, Sim.RS.seq, Sim.RS.loop, Sim.R.frz, Sim.R.frzs, Sim.R.noX, Sim.frzs, frz_p, mkLst, calA, allP, bindT, bindTs, wipeE, lcGo, forGo, itOf, pitems, peek, sh, bfn, idxM hj, idxC hj, idxG hj, c1, hz, h2, h3, c3, c4]
theorem dueN (hj : L[j]? = some (some (.dct (tD p r c m g w)))) (hm : pb (callD T 18 11 [.p m, .p meansL] []) = some true) (hz : cop .eq m (.tup []) = some false) (h2 : ev T (callD T 18) q2 (env6 j) (o :: L) = .ok (.p (.bl false)) (o :: L)) (h3 : ev T (callD T 18) q3 (env6 j) (o :: L) = .ok (.p (.bl false)) (o :: L)) (hc : pb (callD T 18 12 [.p c, .p (.int 0), .p (.int 4)] []) = some true) (hg : pb (callD T 18 12 [.p g, .p (.int 0), .p c] []) = some true) (hr : isiB .dict r = some false) :
    callD T 21 6 [.ref (j + 1)] (o :: L) = .ok (.p (.lst [.str "rule", .str ""])) (o :: L) := by
  have c1 := fun h => calP_pb (cal := callD T 18) (f := 11) (xs := [m, meansL]) (h := h) hm
  simp only [meansL] at c1
  have c3 := fun h => calP_pb (cal := callD T 18) (f := 12) (xs := [c, .int 0, .int 4]) (h := h) hc
  have c4 := fun h => calP_pb (cal := callD T 18) (f := 12) (xs := [g, .int 0, c]) (h := h) hg
  have c5 : ∀ h, calP (callD T 18) 10 [] h = .ok (.p (.lst ptsD)) h := fun h => by simp [calP, points_ok 15]
  show runF T (callD T 18) f6 _ _ = _
  simp (decide := true) [runF, f6, b6eq, Sim.execs, Sim.exec, ev, evs, evAll, Sim.R.bind, Sim.R.then, Sim.R.of, Sim.RS.seq, Sim.RS.loop, Sim.R.frz, Sim.R.frzs, Sim.R.noX, Sim.frzs, frz_p, mkLst, calA, allP, bindT, bindTs, wipeE, lcGo, forGo, itOf, pitems, peek, sh, bfn, idxM hj, idxC hj, idxG hj, idxR hj, c1, hz, h2, h3, c3, c4, c5, ptsD, hr]
theorem dueL {kvs : List (PD × PD)} (hj : L[j]? = some (some (.dct (tD p (.dct kvs) c m g w)))) (hm : pb (callD T 18 11 [.p m, .p meansL] []) = some true) (hz : cop .eq m (.tup []) = some false) (h2 : ev T (callD T 18) q2 (env6 j) (o :: L) = .ok (.p (.bl false)) (o :: L)) (h3 : ev T (callD T 18) q3 (env6 j) (o :: L) = .ok (.p (.bl false)) (o :: L)) (hc : pb (callD T 18 12 [.p c, .p (.int 0), .p (.int 4)] []) = some true) (hg : pb (callD T 18 12 [.p g, .p (.int 0), .p c] []) = some true) (hr : kvs.length ≠ 5) :
    callD T 21 6 [.ref (j + 1)] (o :: L) = .ok (.p (.lst [.str "rule", .str ""])) (o :: L) := by
  have c1 := fun h => calP_pb (cal := callD T 18) (f := 11) (xs := [m, meansL]) (h := h) hm
  simp only [meansL] at c1
  have c3 := fun h => calP_pb (cal := callD T 18) (f := 12) (xs := [c, .int 0, .int 4]) (h := h) hc
  have c4 := fun h => calP_pb (cal := callD T 18) (f := 12) (xs := [g, .int 0, c]) (h := h) hg
  have c5 : ∀ h, calP (callD T 18) 10 [] h = .ok (.p (.lst ptsD)) h := fun h => by simp [calP, points_ok 15]
  have h' : ¬ ((kvs.length : Int) = 5) := by omega
  have hne : cop .ne (.int (kvs.length : Int)) (.int 5) = some true := by simp (decide := true) [cop, psh, peq, h']
  show runF T (callD T 18) f6 _ _ = _
  simp (decide := true) [runF, f6, b6eq, Sim.execs, Sim.exec, ev, evs, evAll, Sim.R.bind, Sim.R.then, Sim.R.of, Sim.RS.seq, Sim.RS.loop, Sim.R.frz, Sim.R.frzs, Sim.R.noX, Sim.frzs, frz_p, mkLst, calA, allP, bindT, bindTs, wipeE, lcGo, forGo, itOf, pitems, peek, sh, bfn, idxM hj, idxC hj, idxG hj, idxR hj, c1, hz, h2, h3, c3, c4, c5, ptsD, isd_d, hne]
theorem WordOk.t {ws : List PD} {v : PD} (h : WordOk ws v true) : isiB .str v = some true ∧ cop .notin v (.lst ws) = some false := by
  rcases h.i with h | ⟨_, h⟩
  · exact h
  · cases h
theorem WordOk.f {ws : List PD} {v : PD} (h : WordOk ws v false) : (isiB .str v = some true ∧ cop .notin v (.lst ws) = some true) ∨ isiB .str v = some false := by
  rcases h.i with h | ⟨h, _⟩
  · exact .inl h
  · exact .inr h
theorem cop5 : cop .ne (.int 5) (.int 5) = some false := by decide +kernel
theorem cop0 : cop .ne (.lst []) (.lst []) = some false := by decide +kernel
theorem idx51 {v1 v2 v3 v4 v5 : PD} {h : LH} : idxD (.p (.dct (d5 v1 v2 v3 v4 v5))) (.str "base") h = some (.p v1) := by
  simp (decide := true) [idxD, d5, kOf, pval]
theorem in51 {v1 v2 v3 v4 v5 : PD} : cop .notin (.str "base") (.dct (d5 v1 v2 v3 v4 v5)) = some false := by
  simp (decide := true) [cop, d5, kOf, pval, psh, peq]
theorem idx52 {v1 v2 v3 v4 v5 : PD} {h : LH} : idxD (.p (.dct (d5 v1 v2 v3 v4 v5))) (.str "closed") h = some (.p v2) := by
  simp (decide := true) [idxD, d5, kOf, pval]
theorem in52 {v1 v2 v3 v4 v5 : PD} : cop .notin (.str "closed") (.dct (d5 v1 v2 v3 v4 v5)) = some false := by
  simp (decide := true) [cop, d5, kOf, pval, psh, peq]
theorem idx53 {v1 v2 v3 v4 v5 : PD} {h : LH} : idxD (.p (.dct (d5 v1 v2 v3 v4 v5))) (.str "gifts") h = some (.p v3) := by
  simp (decide := true) [idxD, d5, kOf, pval]
theorem in53 {v1 v2 v3 v4 v5 : PD} : cop .notin (.str "gifts") (.dct (d5 v1 v2 v3 v4 v5)) = some false := by
  simp (decide := true) [cop, d5, kOf, pval, psh, peq]
theorem idx54 {v1 v2 v3 v4 v5 : PD} {h : LH} : idxD (.p (.dct (d5 v1 v2 v3 v4 v5))) (.str "order") h = some (.p v4) := by
  simp (decide := true) [idxD, d5, kOf, pval]
theorem in54 {v1 v2 v3 v4 v5 : PD} : cop .notin (.str "order") (.dct (d5 v1 v2 v3 v4 v5)) = some false := by
  simp (decide := true) [cop, d5, kOf, pval, psh, peq]
theorem idx55 {v1 v2 v3 v4 v5 : PD} {h : LH} : idxD (.p (.dct (d5 v1 v2 v3 v4 v5))) (.str "rounding") h = some (.p v5) := by
  simp (decide := true) [idxD, d5, kOf, pval]
theorem in55 {v1 v2 v3 v4 v5 : PD} : cop .notin (.str "rounding") (.dct (d5 v1 v2 v3 v4 v5)) = some false := by
  simp (decide := true) [cop, d5, kOf, pval, psh, peq]
theorem len5 {v1 v2 v3 v4 v5 : PD} : ((d5 v1 v2 v3 v4 v5).length : Int) = 5 := rfl
def dueV (x : Option PySem.Str) (bw : Bool) : PD := match x with
  | some x => .lst [.str "rule", .str x]
  | none => if bw then .non else .lst [.str "words"]
theorem dueT {v1 v2 v3 v4 v5 : PD} {a1 a2 a3 a4 a5 bw : Bool} (hj : L[j]? = some (some (.dct (tD p (.dct (d5 v1 v2 v3 v4 v5)) c m g w)))) (hm : pb (callD T 18 11 [.p m, .p meansL] []) = some true) (hz : cop .eq m (.tup []) = some false) (h2 : ev T (callD T 18) q2 (env6 j) (o :: L) = .ok (.p (.bl false)) (o :: L)) (h3 : ev T (callD T 18) q3 (env6 j) (o :: L) = .ok (.p (.bl false)) (o :: L)) (hc : pb (callD T 18 12 [.p c, .p (.int 0), .p (.int 4)] []) = some true) (hg : pb (callD T 18 12 [.p g, .p (.int 0), .p c] []) = some true) (g1 : WordOk w1 v1 a1) (g2 : WordOk w2 v2 a2) (g3 : WordOk w3 v3 a3) (g4 : WordOk w4 v4 a4) (g5 : WordOk w5 v5 a5) (hw : pb (callD T 18 11 [.p w, .p wordsL] []) = some bw) :
    callD T 21 6 [.ref (j + 1)] (o :: L) = .ok (.p (dueV (firstBad a1 a2 a3 a4 a5) bw)) (o :: L) := by
  have c1 := fun h => calP_pb (cal := callD T 18) (f := 11) (xs := [m, meansL]) (h := h) hm
  simp only [meansL] at c1
  have c3 := fun h => calP_pb (cal := callD T 18) (f := 12) (xs := [c, .int 0, .int 4]) (h := h) hc
  have c4 := fun h => calP_pb (cal := callD T 18) (f := 12) (xs := [g, .int 0, c]) (h := h) hg
  have c5 : ∀ h, calP (callD T 18) 10 [] h = .ok (.p (.lst ptsD)) h := fun h => by simp [calP, points_ok 15]
  have c6 := fun h => calP_pb (cal := callD T 18) (f := 11) (xs := [w, wordsL]) (h := h) hw
  simp only [wordsL] at c6
  clear hw
  show runF T (callD T 18) f6 _ _ = _
  cases a1
  case false =>
    rcases g1.f with ⟨x, y⟩ | x
    · simp only [w1] at y
      simp (decide := true) [runF, f6, b6eq, Sim.execs, Sim.exec, ev, evs, evAll, Sim.R.bind, Sim.R.then, Sim.R.of, Sim.RS.seq, Sim.RS.loop, Sim.R.frz, Sim.R.frzs, Sim.R.noX, Sim.frzs, frz_p, mkLst, calA, allP, bindT, bindTs, wipeE, lcGo, forGo, itOf, pitems, peek, sh, bfn, idxM hj, idxC hj, idxG hj, idxR hj, idxW hj, c1, hz, h2, h3, c3, c4, c5, ptsD, isd_d, len5, cop5, cop0, idx51, idx52, idx53, idx54, idx55, in51, in52, in53, in54, in55, firstBad, dueV, w1, w2, w3, w4, w5, x, y]
    · simp (decide := true) [runF, f6, b6eq, Sim.execs, Sim.exec, ev, evs, evAll, Sim.R.bind, Sim.R.then, Sim.R.of, Sim.RS.seq, Sim.RS.loop, Sim.R.frz, Sim.R.frzs, Sim.R.noX, Sim.frzs, frz_p, mkLst, calA, allP, bindT, bindTs, wipeE, lcGo, forGo, itOf, pitems, peek, sh, bfn, idxM hj, idxC hj, idxG hj, idxR hj, idxW hj, c1, hz, h2, h3, c3, c4, c5, ptsD, isd_d, len5, cop5, cop0, idx51, idx52, idx53, idx54, idx55, in51, in52, in53, in54, in55, firstBad, dueV, w1, w2, w3, w4, w5, x]
  obtain ⟨x1, y1⟩ := g1.t
  simp only [w1] at y1
  cases a2
  case false =>
    rcases g2.f with ⟨x, y⟩ | x
    · simp only [w2] at y
      simp (decide := true) [runF, f6, b6eq, Sim.execs, Sim.exec, ev, evs, evAll, Sim.R.bind, Sim.R.then, Sim.R.of, Sim.RS.seq, Sim.RS.loop, Sim.R.frz, Sim.R.frzs, Sim.R.noX, Sim.frzs, frz_p, mkLst, calA, allP, bindT, bindTs, wipeE, lcGo, forGo, itOf, pitems, peek, sh, bfn, idxM hj, idxC hj, idxG hj, idxR hj, idxW hj, c1, hz, h2, h3, c3, c4, c5, ptsD, isd_d, len5, cop5, cop0, idx51, idx52, idx53, idx54, idx55, in51, in52, in53, in54, in55, firstBad, dueV, w1, w2, w3, w4, w5, x, y, x1, y1, w1]
    · simp (decide := true) [runF, f6, b6eq, Sim.execs, Sim.exec, ev, evs, evAll, Sim.R.bind, Sim.R.then, Sim.R.of, Sim.RS.seq, Sim.RS.loop, Sim.R.frz, Sim.R.frzs, Sim.R.noX, Sim.frzs, frz_p, mkLst, calA, allP, bindT, bindTs, wipeE, lcGo, forGo, itOf, pitems, peek, sh, bfn, idxM hj, idxC hj, idxG hj, idxR hj, idxW hj, c1, hz, h2, h3, c3, c4, c5, ptsD, isd_d, len5, cop5, cop0, idx51, idx52, idx53, idx54, idx55, in51, in52, in53, in54, in55, firstBad, dueV, w1, w2, w3, w4, w5, x, x1, y1, w1]
  obtain ⟨x2, y2⟩ := g2.t
  simp only [w2] at y2
  cases a3
  case false =>
    rcases g3.f with ⟨x, y⟩ | x
    · simp only [w3] at y
      simp (decide := true) [runF, f6, b6eq, Sim.execs, Sim.exec, ev, evs, evAll, Sim.R.bind, Sim.R.then, Sim.R.of, Sim.RS.seq, Sim.RS.loop, Sim.R.frz, Sim.R.frzs, Sim.R.noX, Sim.frzs, frz_p, mkLst, calA, allP, bindT, bindTs, wipeE, lcGo, forGo, itOf, pitems, peek, sh, bfn, idxM hj, idxC hj, idxG hj, idxR hj, idxW hj, c1, hz, h2, h3, c3, c4, c5, ptsD, isd_d, len5, cop5, cop0, idx51, idx52, idx53, idx54, idx55, in51, in52, in53, in54, in55, firstBad, dueV, w1, w2, w3, w4, w5, x, y, x1, y1, w1, x2, y2, w2]
    · simp (decide := true) [runF, f6, b6eq, Sim.execs, Sim.exec, ev, evs, evAll, Sim.R.bind, Sim.R.then, Sim.R.of, Sim.RS.seq, Sim.RS.loop, Sim.R.frz, Sim.R.frzs, Sim.R.noX, Sim.frzs, frz_p, mkLst, calA, allP, bindT, bindTs, wipeE, lcGo, forGo, itOf, pitems, peek, sh, bfn, idxM hj, idxC hj, idxG hj, idxR hj, idxW hj, c1, hz, h2, h3, c3, c4, c5, ptsD, isd_d, len5, cop5, cop0, idx51, idx52, idx53, idx54, idx55, in51, in52, in53, in54, in55, firstBad, dueV, w1, w2, w3, w4, w5, x, x1, y1, w1, x2, y2, w2]
  obtain ⟨x3, y3⟩ := g3.t
  simp only [w3] at y3
  cases a4
  case false =>
    rcases g4.f with ⟨x, y⟩ | x
    · simp only [w4] at y
      simp (decide := true) [runF, f6, b6eq, Sim.execs, Sim.exec, ev, evs, evAll, Sim.R.bind, Sim.R.then, Sim.R.of, Sim.RS.seq, Sim.RS.loop, Sim.R.frz, Sim.R.frzs, Sim.R.noX, Sim.frzs, frz_p, mkLst, calA, allP, bindT, bindTs, wipeE, lcGo, forGo, itOf, pitems, peek, sh, bfn, idxM hj, idxC hj, idxG hj, idxR hj, idxW hj, c1, hz, h2, h3, c3, c4, c5, ptsD, isd_d, len5, cop5, cop0, idx51, idx52, idx53, idx54, idx55, in51, in52, in53, in54, in55, firstBad, dueV, w1, w2, w3, w4, w5, x, y, x1, y1, w1, x2, y2, w2, x3, y3, w3]
    · simp (decide := true) [runF, f6, b6eq, Sim.execs, Sim.exec, ev, evs, evAll, Sim.R.bind, Sim.R.then, Sim.R.of, Sim.RS.seq, Sim.RS.loop, Sim.R.frz, Sim.R.frzs, Sim.R.noX, Sim.frzs, frz_p, mkLst, calA, allP, bindT, bindTs, wipeE, lcGo, forGo, itOf, pitems, peek, sh, bfn, idxM hj, idxC hj, idxG hj, idxR hj, idxW hj, c1, hz, h2, h3, c3, c4, c5, ptsD, isd_d, len5, cop5, cop0, idx51, idx52, idx53, idx54, idx55, in51, in52, in53, in54, in55, firstBad, dueV, w1, w2, w3, w4, w5, x, x1, y1, w1, x2, y2, w2, x3, y3, w3]
  obtain ⟨x4, y4⟩ := g4.t
  simp only [w4] at y4
  cases a5
  case false =>
    rcases g5.f with ⟨x, y⟩ | x
    · simp only [w5] at y
      simp (decide := true) [runF, f6, b6eq, Sim.execs, Sim.exec, ev, evs, evAll, Sim.R.bind, Sim.R.then, Sim.R.of, Sim.RS.seq, Sim.RS.loop, Sim.R.frz, Sim.R.frzs, Sim.R.noX, Sim.frzs, frz_p, mkLst, calA, allP, bindT, bindTs, wipeE, lcGo, forGo, itOf, pitems, peek, sh, bfn, idxM hj, idxC hj, idxG hj, idxR hj, idxW hj, c1, hz, h2, h3, c3, c4, c5, ptsD, isd_d, len5, cop5, cop0, idx51, idx52, idx53, idx54, idx55, in51, in52, in53, in54, in55, firstBad, dueV, w1, w2, w3, w4, w5, x, y, x1, y1, w1, x2, y2, w2, x3, y3, w3, x4, y4, w4]
    · simp (decide := true) [runF, f6, b6eq, Sim.execs, Sim.exec, ev, evs, evAll, Sim.R.bind, Sim.R.then, Sim.R.of, Sim.RS.seq, Sim.RS.loop, Sim.R.frz, Sim.R.frzs, Sim.R.noX, Sim.frzs, frz_p, mkLst, calA, allP, bindT, bindTs, wipeE, lcGo, forGo, itOf, pitems, peek, sh, bfn, idxM hj, idxC hj, idxG hj, idxR hj, idxW hj, c1, hz, h2, h3, c3, c4, c5, ptsD, isd_d, len5, cop5, cop0, idx51, idx52, idx53, idx54, idx55, in51, in52, in53, in54, in55, firstBad, dueV, w1, w2, w3, w4, w5, x, x1, y1, w1, x2, y2, w2, x3, y3, w3, x4, y4, w4]
  obtain ⟨x5, y5⟩ := g5.t
  simp only [w5] at y5
  cases bw <;> simp (decide := true) [runF, f6, b6eq, Sim.execs, Sim.exec, ev, evs, evAll, Sim.R.bind, Sim.R.then, Sim.R.of, Sim.RS.seq, Sim.RS.loop, Sim.R.frz, Sim.R.frzs, Sim.R.noX, Sim.frzs, frz_p, mkLst, calA, allP, bindT, bindTs, wipeE, lcGo, forGo, itOf, pitems, peek, sh, bfn, idxM hj, idxC hj, idxG hj, idxR hj, idxW hj, c1, hz, h2, h3, c3, c4, c5, ptsD, isd_d, len5, cop5, cop0, idx51, idx52, idx53, idx54, idx55, in51, in52, in53, in54, in55, firstBad, dueV, w1, w2, w3, w4, w5, x1, y1, w1, x2, y2, w2, x3, y3, w3, x4, y4, w4, x5, y5, w5, c6]
end
end K01
end
section
set_option Elab.async false
set_option linter.all false
set_option maxRecDepth 100000
set_option maxHeartbeats 4000000
namespace K01
open Sim
section
variable {o : Option LO} {L : LH} {j : Nat} {p r c m g w : PD} {n : Nat}
def Same (j : Nat) (h : LH) : Prop := ∃ v, callD T 21 5 [.ref (j + 1)] h = .ok (.p v) h ∧ callD T 21 6 [.ref (j + 1)] h = .ok (.p v) h ∧ cop .ne v v = some false
theorem mean_ok (h : m ∈ MNS) : ∃ bm bz, pb (callD T 12 16 [.p m, .p meansT] []) = some bm ∧ pb (callD T 18 11 [.p m, .p meansL] []) = some bm ∧ cop .eq m (.tup []) = some bz := by
  have := List.all_eq_true.mp factM m h
  split at this
  · rename_i a b z e1 e2 e3
    have : a = b := by simpa using this
    subst this
    exact ⟨a, z, e1, e2, e3⟩
  · cases this
theorem worW_ok (h : w ∈ WDS) : ∃ b, pb (callD T 12 16 [.p w, .p wordsT] []) = some b ∧ pb (callD T 18 11 [.p w, .p wordsL] []) = some b := by
  have := List.all_eq_true.mp factW w h
  split at this
  · rename_i a b e1 e2
    have : a = b := by simpa using this
    subst this
    exact ⟨a, e1, e2⟩
  · cases this
theorem cap_ok (h : c ∈ CPS) (h' : g ∈ CPS) : ∃ b, pb (callD T 12 17 [.p c, .p (.int 0), .p (.int 4)] []) = some b ∧ pb (callD T 18 12 [.p c, .p (.int 0), .p (.int 4)] []) = some b ∧
    (b = true → ∃ d, pb (callD T 12 17 [.p g, .p (.int 0), .p c] []) = some d ∧ pb (callD T 18 12 [.p g, .p (.int 0), .p c] []) = some d) := by
  have := List.all_eq_true.mp factC c h
  split at this
  · rename_i a b e1 e2
    rw [Bool.and_eq_true] at this
    obtain ⟨t1, t2⟩ := this
    have : a = b := by simpa using t1
    subst this
    refine ⟨a, e1, e2, fun ha => ?_⟩
    subst ha
    rw [Bool.not_true, Bool.false_or] at t2
    have := List.all_eq_true.mp t2 g h'
    split at this
    · rename_i a b e1 e2
      have : a = b := by simpa using this
      subst this
      exact ⟨a, e1, e2⟩
    · cases this
  · cases this
theorem neL {x : PySem.Str} (h : x ∈ (["", "base", "closed", "gifts", "order", "rounding"] : List PySem.Str)) : cop .ne (.lst [.str "rule", .str x]) (.lst [.str "rule", .str x]) = some false := by
  have : (["", "base", "closed", "gifts", "order", "rounding"] : List PySem.Str).all (fun x => cop .ne (.lst [.str "rule", .str x]) (.lst [.str "rule", .str x]) == some false) = true := by decide +kernel
  have := List.all_eq_true.mp this x h
  simpa using this
theorem same_ok (hj : L[j]? = some (some (.dct (tD p r c m g w)))) (F : FOk n p r c m g w) (hn : n ≤ 4) : Same j (o :: L) := by
  obtain ⟨bm, bz, m1, m2, m3⟩ := mean_ok F.m
  by_cases hb : bm = false ∨ bz = true
  · exact ⟨_, toldX (madeX hj (initM m1 m3 hb)) rfl, dueM hj m2 m3 hb, by decide +kernel⟩
  have e1 : bm = true := by cases bm <;> simp_all
  have e2 : bz = false := by cases bz <;> simp_all
  subst e1
  subst e2
  obtain ⟨b2, b3, p1, p2, p3⟩ := pieces_ok F.p (idxP (o := o) hj)
  cases b2 with
  | true => exact ⟨_, toldX (madeX hj (initP (bp := true) m1 m3 p3)) rfl, dueP2 hj m2 m3 p1, by decide +kernel⟩
  | false =>
  have p2 := p2 rfl
  cases b3 with
  | true => exact ⟨_, toldX (madeX hj (initP (bp := true) m1 m3 p3)) rfl, dueP3 hj m2 m3 p1 p2, by decide +kernel⟩
  | false =>
  obtain ⟨bc, c1, c2, c3⟩ := cap_ok F.c F.g
  cases bc with
  | false => exact ⟨_, toldX (madeX hj (initC m1 m3 p3 c1)) rfl, dueC hj m2 m3 p1 p2 c2, by decide +kernel⟩
  | true =>
  obtain ⟨bg, g1, g2⟩ := c3 rfl
  cases bg with
  | false => exact ⟨_, toldX (madeX hj (initG m1 m3 p3 c1 g1)) rfl, dueG hj m2 m3 p1 p2 c2 g2, by decide +kernel⟩
  | true =>
  obtain ⟨bw, w1', w2'⟩ := worW_ok F.w
  rcases F.r with ⟨v1, v2, v3, v4, v5, rfl, n1, n2, n3, n4, n5⟩ | rfl | rfl | ⟨kvs, rfl, l1, l2⟩
  · obtain ⟨a1, k1⟩ := word_ok (List.all_eq_true.mp fact1 v1 n1)
    obtain ⟨a2, k2⟩ := word_ok (List.all_eq_true.mp fact2 v2 n2)
    obtain ⟨a3, k3⟩ := word_ok (List.all_eq_true.mp fact3 v3 n3)
    obtain ⟨a4, k4⟩ := word_ok (List.all_eq_true.mp fact4 v4 n4)
    obtain ⟨a5, k5⟩ := word_ok (List.all_eq_true.mp fact5 v5 n5)
    have hd := dueT (o := o) hj m2 m3 p1 p2 c2 g2 k1 k2 k3 k4 k5 w2'
    have hr := rule_t k1 k2 k3 k4 k5
    have hx : ∀ x, firstBad a1 a2 a3 a4 a5 = some x → x ∈ (["", "base", "closed", "gifts", "order", "rounding"] : List PySem.Str) := by
      intro x hx
      unfold firstBad at hx
      repeat' split at hx
      all_goals cases hx
      all_goals simp
    cases hf : firstBad a1 a2 a3 a4 a5 with
    | some x =>
      rw [hf] at hd hr
      exact ⟨_, toldX (madeX hj (initR m1 m3 p3 c1 g1 hr)) rfl, hd, neL (hx x hf)⟩
    | none =>
      rw [hf] at hd hr
      cases bw with
      | false => exact ⟨_, toldX (madeX hj (initW m1 m3 p3 c1 g1 hr w1')) rfl, hd, by decide +kernel⟩
      | true =>
        have hy := initY m1 m3 p3 c1 g1 hr w1'
        have hm := madeY (o := o) hj (fs := [("kinds", m), ("prices", p), ("at_first", g), ("limit", c), ("points", .dct (d5 v1 v2 v3 v4 v5)), ("allowed", w)]) hy (by simp [Sim.frz, frzK])
        exact ⟨_, toldY hm, hd, by decide +kernel⟩
  · exact ⟨_, toldX (madeX hj (initR m1 m3 p3 c1 g1 (rule_n (by decide)))) rfl, dueN hj m2 m3 p1 p2 c2 g2 (by decide), by decide +kernel⟩
  · exact ⟨_, toldX (madeX hj (initR m1 m3 p3 c1 g1 (rule_n (by decide)))) rfl, dueN hj m2 m3 p1 p2 c2 g2 (by decide), by decide +kernel⟩
  · exact ⟨_, toldX (madeX hj (initR m1 m3 p3 c1 g1 (rule_l (by omega)))) rfl, dueL hj m2 m3 p1 p2 c2 g2 (by omega), by decide +kernel⟩
end
end K01
end
section
set_option Elab.async false
set_option linter.all false
set_option maxRecDepth 100000
set_option maxHeartbeats 4000000
namespace K01
open Sim
def turnB : List S := [.set (.nm 3) (.cal 2 false [.var 2]), .forS (.nm 1) .rng1 [.cal 3 false [.var 2, .cst (.int 3)]] [.ex (.cal 4 false [.var 2, .var 3])], .ite (.cmp .ne (.cal 5 false [.var 3]) (.cal 6 false [.var 3])) [.ret (.cst (.bl false))] []]
theorem b0eq : b0 = [.set (.nm 2) (.cal 1 false [.var 0]), .forS (.nm 4) .rng1 [.cst (.int 8)] turnB, .ret (.cst (.bl true))] := rfl
theorem rg0 {h : LH} : itOf .rng1 [.p (.int 0)] h = some (.its []) := rfl
theorem rg1 {h : LH} : itOf .rng1 [.p (.int 1)] h = some (.its [.int 0]) := rfl
theorem rg2 {h : LH} : itOf .rng1 [.p (.int 2)] h = some (.its [.int 0, .int 1]) := rfl
theorem int_cps {c : Int} (h0 : 0 ≤ c) (h1 : c < 5) : (PD.int c) ∈ CPS := by
  have : c = 0 ∨ c = 1 ∨ c = 2 ∨ c = 3 ∨ c = 4 := by omega
  rcases this with rfl | rfl | rfl | rfl | rfl <;> simp [CPS]
theorem turn_ok {ns : List Int} {x : Option LV} {e1 e3 e4 : Option LV} {o : Option LO} {L : LH} (Rw : RowOk o ns) :
    ∃ e1' e3' o' L', Sim.execs T (callD T 21) turnB [x, e1, some (.ref 0), e3, e4] (o :: L) = .ok .nx [x, e1', some (.ref 0), e3', e4] (o' :: L') ∧ RowOk o' ns := by
  obtain ⟨p, v1, v2, v3, v4, v5, c, m, g, w, o1, d1, R1, hp, h1, h2, h3, h4, h5, c0, c5, hm, g0, gc, hw⟩ := drawn_ok 12 Rw L
  have hj : (L ++ [none, some (LO.dct (tD p (.dct (d5 v1 v2 v3 v4 v5)) (.int c) m (.int g) w))])[L.length + 1]? = some (some (.dct (tD p (.dct (d5 v1 v2 v3 v4 v5)) (.int c) m (.int g) w))) := get_last2
  have F : FOk 0 p (.dct (d5 v1 v2 v3 v4 v5)) (.int c) m (.int g) w := ⟨List.mem_append_left _ hp, .inl ⟨v1, v2, v3, v4, v5, rfl, List.mem_append_left _ h1, List.mem_append_left _ h2, List.mem_append_left _ h3, List.mem_append_left _ h4, List.mem_append_left _ h5⟩, int_cps c0 c5, List.mem_append_left _ hm, int_cps g0 (by omega), List.mem_append_left _ hw⟩
  generalize L ++ [none, some (LO.dct (tD p (.dct (d5 v1 v2 v3 v4 v5)) (.int c) m (.int g) w))] = L1 at d1 hj
  obtain ⟨r, o2, k1, R2, r0, r3⟩ := pick 18 R1 L1 3 (by decide) (by decide)
  have hr : r = 0 ∨ r = 1 ∨ r = 2 := by omega
  rcases hr with rfl | rfl | rfl
  · obtain ⟨v, t1, t2, t3⟩ := same_ok (o := o2) hj F (by decide)
    refine ⟨e1, some (.ref (L.length + 1 + 1)), o2, L1, ?_, R2⟩
    simp [turnB, Sim.execs, Sim.exec, ev, evs, Sim.R.bind, Sim.R.then, Sim.R.of, Sim.RS.seq, Sim.RS.loop, calA, bindT, forGo, rg0, rg1, rg2, peek, d1, k1, t1, t2, t3]
  · obtain ⟨o3, L3, p3, r3', c3, m3, g3, w3, s1, R3, hj3, F3⟩ := spoil_ok 15 (by decide) R2 hj F
    obtain ⟨v, t1, t2, t3⟩ := same_ok (o := o3) hj3 F3 (by decide)
    refine ⟨some (.p (.int 0)), some (.ref (L.length + 1 + 1)), o3, L3, ?_, R3⟩
    simp [turnB, Sim.execs, Sim.exec, ev, evs, Sim.R.bind, Sim.R.then, Sim.R.of, Sim.RS.seq, Sim.RS.loop, calA, bindT, forGo, rg0, rg1, rg2, peek, d1, k1, s1, t1, t2, t3]
  · obtain ⟨o3, L3, p3, r3', c3, m3, g3, w3, s1, R3, hj3, F3⟩ := spoil_ok 15 (by decide) R2 hj F
    obtain ⟨o4, L4, p4, r4', c4, m4, g4, w4, s2, R4, hj4, F4⟩ := spoil_ok 15 (by decide) R3 hj3 F3
    obtain ⟨v, t1, t2, t3⟩ := same_ok (o := o4) hj4 F4 (by decide)
    refine ⟨some (.p (.int 1)), some (.ref (L.length + 1 + 1)), o4, L4, ?_, R4⟩
    simp [turnB, Sim.execs, Sim.exec, ev, evs, Sim.R.bind, Sim.R.then, Sim.R.of, Sim.RS.seq, Sim.RS.loop, calA, bindT, forGo, rg0, rg1, rg2, peek, d1, k1, s1, s2, t1, t2, t3]
theorem loop_ok {ns : List Int} {x : Option LV} : ∀ (xs : List PD) (e1 e3 e4 : Option LV) (o : Option LO) (L : LH), RowOk o ns →
    ∃ e1' e3' e4' o' L', forGo (.nm 4) (Sim.execs T (callD T 21) turnB) xs [x, e1, some (.ref 0), e3, e4] (o :: L) = .ok .nx [x, e1', some (.ref 0), e3', e4'] (o' :: L')
  | [], e1, e3, e4, o, L, _ => ⟨e1, e3, e4, o, L, rfl⟩
  | y :: xs, e1, e3, e4, o, L, Rw => by
    obtain ⟨e1', e3', o', L', t, R'⟩ := turn_ok (x := x) (e1 := e1) (e3 := e3) (e4 := some (.p y)) (L := L) Rw
    obtain ⟨a, b, c, d, e, f⟩ := loop_ok (x := x) xs e1' e3' (some (.p y)) o' L' R'
    refine ⟨a, b, c, d, e, ?_⟩
    simp [forGo, bindT, Sim.RS.loop, t, f]
theorem draws_ok (k : Nat) (ns : List Int) (hn : ns.length ≤ 63) : callD T (k + 3) 1 [.p (.scr ns)] [] = .ok (.ref 0) [some (.lst (rowD ns 0 0 7))] := by
  show runF T (callD T k) f1 _ _ = _
  simp [runF, f1, b1, Sim.execs, Sim.exec, ev, evs, Sim.R.bind, Sim.R.then, Sim.R.of, Sim.RS.seq, Sim.R.frzs, Sim.frzs, frz_p, mkLst, newO, sh, bfn, rowD]
theorem plain (ns : List Int) (hn : ns.length ≤ 63) : ∃ h, callD T 24 0 [.p (.scr ns)] [] = .ok (.p (.bl true)) h := by
  have hd := draws_ok 18 ns hn
  have R0 : RowOk (some (.lst (rowD ns 0 0 7))) ns := ⟨0, 0, 7, rfl, Nat.zero_le _, Int.le_refl _⟩
  obtain ⟨a, b, c, o', L', f⟩ := loop_ok (x := some (.p (.scr ns))) [.int 0, .int 1, .int 2, .int 3, .int 4, .int 5, .int 6, .int 7] none none none _ [] R0
  refine ⟨o' :: L', ?_⟩
  show runF T (callD T 21) f0 _ _ = _
  have hi : itOf .rng1 [.p (.int 8)] [some (.lst (rowD ns 0 0 7))] = some (.its [.int 0, .int 1, .int 2, .int 3, .int 4, .int 5, .int 6, .int 7]) := by rfl
  simp [runF, f0, b0eq, Sim.execs, Sim.exec, ev, evs, Sim.R.bind, Sim.R.then, Sim.R.of, Sim.RS.seq, calA, bindT, hd, hi, f, frz_p]
end K01
end
section
set_option Elab.async false
set_option linter.all false
set_option maxRecDepth 100000
set_option maxHeartbeats 0
namespace K01
open PySem PySem.Spec PyProof.Rows L2 Sim
theorem look : allB T sts = true := by decide +kernel
end K01
open PySem PySem.W PySem.Calls PyProof.Rows
theorem PySem.Challenge.cw_meansback_k01_books_refused_holds : PySem.Challenge.rw_meansback_k01_books_refused.Holds := by
  w_on; o_law
  refine HandSHeadRun.head_any (r := OpenLaw.row PySem.Challenge.rw_meansback_k01_books_refused) (q := K01.qv) (H := K01.hk) (ob := K01.ob) (M := 4000) (loose := K01.names) (d := HandSHeadRun.topDef (OpenLaw.row PySem.Challenge.rw_meansback_k01_books_refused).prog K01.lawAt) (kwd := []) K01.ob_eq
    (by kernel_rfl) (fun s => by kernel_rfl) K01.run (by kernel_rfl) (by kernel_rfl) (by kernel_rfl) (by rfl) (by first | assumption | decide +kernel) (by decide +kernel) ⟨rfl, rfl, rfl, rfl, rfl, by decide +kernel⟩ ?hw ?hc
  case hw => w_witness2
  case hc =>
    refine L2.walk_ofE (l := PySem.Challenge.rw_meansback_k01_books_refused) (n := 63) (k := 24) (x := "_law_script") (CX := L2.CX0) rfl (by decide) (by kernel_rfl) ⟨rfl, by decide, by decide⟩ ?F (fun _ _ _ _ z => z)
    intro w mg fa h Y G hmg0
    refine Sim.law_all (P := (PySem.Challenge.rw_meansback_k01_books_refused).prog) (k := 21) K01.look (f0 := K01.f0) rfl rfl rfl K01.plain w mg fa h Y G ?_
    have e : (HandSHeadRun.topDef (OpenLaw.row PySem.Challenge.rw_meansback_k01_books_refused).prog K01.lawAt).name = ("law" : PySem.Str) := by kernel_rfl
    show mg ("law" : PySem.Str) = _
    rw [← e]
    exact hmg0
end
