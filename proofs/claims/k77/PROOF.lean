import PyProof.Rows.All
import Wide.All
import OpenK.AllK
import Wide.FinOn
import KE.KStateDown
import HandS.ForMost
import HandS.ForExc
import HandS.Defaults
import HandS.Wide
import KE.Datum
import KE.DataFind
import HandS.CallSlots
import HandS.Flow
import HandS.Sort
import HandS.SortKw
import HandS.Zip
import HandS.Rev
import HandS.RevRange
import HandS.TupLe
import HandS.TupAny
import HandS.TupMul
import HandS.Small
import HandS.SetFor
import HandS.SetKeys
import HandS.Strs
import HandS.Remove
import HandS.WideMore
import HandS.WideBits
import HandS.IsInst
import HandS.FStr
import HandS.StrMore
import HandS.OwnEq
import HandS.ExcField
import HandS.ExcInit
import HandS.Deep
import HandS.DeepEq
import HandS.ListEq
import HandS.SortInts
import HandS.RaiseMore
import HandS.TryOnly
import HandS.ExcCtx
import HandS.ClsMeth
import HandS.Style
import PyProof.StrBlock2
import HandS.Conv
import HandS.Head0
import HandS.Head1
import HandS.Head2
import HandS.HeadEnd
import HandS.HeadHook1
import HandS.HeadHook2
import KE.KDictZip
import KE.KDictSum
import HandS.Iter
import PyProof.FitsStr
import PyProof.StrLaws
import PySem.Challenge.RW_sleepmany_k77_gardens_known
set_option Elab.async false
set_option linter.all false
set_option maxRecDepth 100000
set_option maxHeartbeats 4000000
namespace SP
open PySem PySem.Spec L2

/-! ### what stands for what -/
structure GC where
  K : PySem.W.Frag
  cls : Str → Addr
class Rep (α : Type) where
  rep : GC → α → V → Hp → Prop
  mono : ∀ {G : GC} {x : α} {v : V} {H H' : Hp}, Same H H' → rep G x v H → rep G x v H'
open Rep (rep)
theorem Same.tup {K : PySem.W.Frag} {H H' : Hp} {a : Addr} {xs : List V} (e : Same H H') (h : SqT K H a xs) : SqT K H' a xs := by
  rcases h with (h | ⟨o, h⟩) | h
  · exact .inl (.inl (e _ _ h))
  · exact .inl (.inr ⟨o, e _ _ h⟩)
  · exact .inr h
abbrev Reps (α : Type) [Rep α] (G : GC) (H : Hp) : List α → List V → Prop := Paired fun x v => rep G x v H
theorem Reps.mono {α : Type} [Rep α] {G : GC} {H H' : Hp} (e : Same H H') : ∀ {xs : List α} {vs : List V}, Reps α G H xs vs → Reps α G H' xs vs
  | _, _, .nil => .nil
  | _, _, .cons a b => .cons (Rep.mono e a) (Reps.mono e b)
theorem Reps.length {α : Type} [Rep α] {G : GC} {H : Hp} {xs : List α} {vs : List V} (r : Reps α G H xs vs) : xs.length = vs.length := Paired.length r
theorem Reps.append {α : Type} [Rep α] {G : GC} {H : Hp} : ∀ {xs ys : List α} {vs ws : List V}, Reps α G H xs vs → Reps α G H ys ws → Reps α G H (xs ++ ys) (vs ++ ws)
  | _, _, _, _, .nil, b => b
  | _, _, _, _, .cons a r, b => .cons a (Reps.append r b)
theorem Reps.get {α : Type} [Rep α] {G : GC} {H : Hp} : ∀ {xs : List α} {vs : List V} {i : Nat} {x : α}, Reps α G H xs vs → xs[i]? = some x → ∃ v, vs[i]? = some v ∧ rep G x v H
  | _, _, _, _, .nil, e => by simp at e
  | _, _, 0, _, .cons r _, e => by simp at e; subst e; exact ⟨_, rfl, r⟩
  | _, _, i + 1, x, .cons _ t, e => by
    obtain ⟨u, h1, h2⟩ := Reps.get (i := i) (x := x) t (by simpa using e)
    exact ⟨u, by simpa using h1, h2⟩
theorem Reps.drop {α : Type} [Rep α] {G : GC} {H : Hp} : ∀ {xs : List α} {vs : List V} (n : Nat), Reps α G H xs vs → Reps α G H (xs.drop n) (vs.drop n)
  | _, _, 0, r => r
  | _, _, _ + 1, .nil => .nil
  | _, _, n + 1, .cons _ t => Reps.drop n t
theorem Reps.take {α : Type} [Rep α] {G : GC} {H : Hp} : ∀ {xs : List α} {vs : List V} (n : Nat), Reps α G H xs vs → Reps α G H (xs.take n) (vs.take n)
  | _, _, 0, r => .nil
  | _, _, _ + 1, .nil => .nil
  | _, _, n + 1, .cons h t => .cons h (Reps.take n t)
theorem Reps.reverse {α : Type} [Rep α] {G : GC} {H : Hp} : ∀ {xs : List α} {vs : List V}, Reps α G H xs vs → Reps α G H xs.reverse vs.reverse
  | _, _, .nil => .nil
  | _, _, .cons h t => by rw [List.reverse_cons, List.reverse_cons]; exact Reps.append (Reps.reverse t) (.cons h .nil)

/-- a python tuple of any length, of one kind -/
def Tup (α : Type) : Type := List α
def toT {α : Type} (xs : List α) : Tup α := xs
def Tup.l {α : Type} (xs : Tup α) : List α := xs
theorem toT_l {α : Type} {xs : List α} : (toT xs).l = xs := rfl
structure T3 (α β γ : Type) where
  a : α
  b : β
  c : γ
deriving DecidableEq
instance : Rep Int := ⟨fun _ x v _ => v = .int x, fun _ h => h⟩
instance : Rep Bool := ⟨fun _ x v _ => v = .bl x, fun _ h => h⟩
instance : Rep Str := ⟨fun _ x v _ => v = .str x, fun _ h => h⟩
instance : Rep Unit := ⟨fun _ _ v _ => v = .non, fun _ h => h⟩
instance {α : Type} [Rep α] : Rep (Option α) := ⟨fun G x v H => match x with | none => v = .non | some y => rep G y v H, fun {G x v H H'} e h => by
  cases x with
  | none => exact h
  | some y => exact Rep.mono (α := α) e h⟩
instance {α : Type} [Rep α] : Rep (List α) := ⟨fun G xs v H => ∃ a vs, v = .ref a ∧ H a = some (.lst vs) ∧ Reps α G H xs vs, fun e ⟨a, vs, h1, h2, h3⟩ => ⟨a, vs, h1, e _ _ h2, Reps.mono e h3⟩⟩
/-- a tuple that is known to the object: it has no dict -/
def PlT (H : Hp) (a : Addr) (vs : List V) : Prop := ∃ o : Obj, H a = some (.frz o (.tup vs)) ∧ o.dict = none
theorem PlT.sq {K : PySem.W.Frag} {H : Hp} {a : Addr} {vs : List V} (h : PlT H a vs) : SqT K H a vs := by
  obtain ⟨o, h, _⟩ := h
  exact .inl (.inr ⟨o, h⟩)
instance {α : Type} [Rep α] : Rep (Tup α) := ⟨fun G xs v H => ∃ a vs, v = .ref a ∧ PlT H a vs ∧ Reps α G H xs vs, fun e ⟨a, vs, h1, ⟨o, h2, h4⟩, h3⟩ => ⟨a, vs, h1, ⟨o, e _ _ h2, h4⟩, Reps.mono e h3⟩⟩
/-- the script: a list that is only read -/
def Scr : Type := List Int
instance : Rep Scr := ⟨fun G xs v H => ∃ a, v = .ref a ∧ SqL G.K H a (List.map V.int xs), fun e ⟨a, h1, h2⟩ => ⟨a, h1, Same.seq e h2⟩⟩
instance {α β : Type} [Rep α] [Rep β] : Rep (α × β) := ⟨fun G x v H => ∃ a v1 v2, v = .ref a ∧ SqT G.K H a [v1, v2] ∧ rep G x.1 v1 H ∧ rep G x.2 v2 H,
  fun e ⟨a, v1, v2, h1, h2, h3, h4⟩ => ⟨a, v1, v2, h1, Same.tup e h2, Rep.mono e h3, Rep.mono e h4⟩⟩
instance {α β γ : Type} [Rep α] [Rep β] [Rep γ] : Rep (T3 α β γ) := ⟨fun G x v H => ∃ a v1 v2 v3, v = .ref a ∧ SqT G.K H a [v1, v2, v3] ∧ rep G x.a v1 H ∧ rep G x.b v2 H ∧ rep G x.c v3 H,
  fun e ⟨a, v1, v2, v3, h1, h2, h3, h4, h5⟩ => ⟨a, v1, v2, v3, h1, Same.tup e h2, Rep.mono e h3, Rep.mono e h4, Rep.mono e h5⟩⟩
/-- arguments -/
class Args (ρ : Type) where
  reps : GC → ρ → List V → Hp → Prop
  mono : ∀ {G : GC} {x : ρ} {v : List V} {H H' : Hp}, Same H H' → reps G x v H → reps G x v H'
instance : Args Unit := ⟨fun _ _ vs _ => vs = [], fun _ h => h⟩
instance {α ρ : Type} [Rep α] [Args ρ] : Args (α × ρ) := ⟨fun G x vs H => ∃ v ws, vs = v :: ws ∧ rep G x.1 v H ∧ Args.reps G x.2 ws H, fun e ⟨v, ws, h1, h2, h3⟩ => ⟨v, ws, h1, Rep.mono e h2, Args.mono e h3⟩⟩

/-! ### exceptions, mirrors -/
structure Exc where
  cls : Str
  args : List (Str × V)
deriving DecidableEq
def ExcAt (G : GC) (e : Exc) (cls : Value) (d : Option Addr) (H : Hp) : Prop := cls = .ref (G.cls e.cls) ∧ (e.args = [] ∨ ∃ dx, d = some dx ∧ H dx = some (.xd e.args))
abbrev EM := Except (Option Exc)
def EM.den {α : Type} (m : EM α) (Q : α → Prop) (E : Exc → Prop) : Prop := match m with
  | .ok x => Q x
  | .error (some e) => E e
  | .error none => False
theorem EM.den_mono {α : Type} {m : EM α} {Q Q' : α → Prop} {E E' : Exc → Prop} (h : m.den Q E) (hq : ∀ x, Q x → Q' x) (he : ∀ e, E e → E' e) : m.den Q' E' := by
  unfold EM.den at h ⊢
  split <;> simp_all
/-- by cases of what may be -/
def selO {β : Type} (o : Option β) (y : β → Prop) (n : Prop) : Prop := match o with
  | some b => y b
  | none => n
class PyM (m : Type → Type) extends Monad m where
  γ : Type
  den : {α : Type} → m α → (α → γ → Prop) → (Exc → γ → Prop) → γ → Prop
  dpure : ∀ {α : Type} {x : α} {Q E g}, den (pure x) Q E g → Q x g
  dbind : ∀ {α β : Type} {x : m α} {f : α → m β} {Q E g}, den (x >>= f) Q E g → den x (fun a g' => den (f a) Q E g') E g
  dmono : ∀ {α : Type} {x : m α} {Q Q' E E' g}, den x Q E g → (∀ a g, Q a g → Q' a g) → (∀ a g, E a g → E' a g) → den x Q' E' g
  lift : {α : Type} → EM α → m α
  dlift : ∀ {α : Type} {x : EM α} {Q E g}, den (lift x) Q E g → x.den (fun a => Q a g) (fun e => E e g)
  handle : {α : Type} → m α → (Exc → Option (m α)) → m α
  dhandle : ∀ {α : Type} {x : m α} {h : Exc → Option (m α)} {Q E g}, den (handle x h) Q E g → den x Q (fun e g' => selO (h e) (fun y => den y Q E g') (E e g')) g
  ipure : ∀ {α : Type} {x : α} {Q E g}, Q x g → den (pure x) Q E g
  ibind : ∀ {α β : Type} {x : m α} {f : α → m β} {Q E g}, den x (fun a g' => den (f a) Q E g') E g → den (x >>= f) Q E g
  ilift : ∀ {α : Type} {x : EM α} {Q E g}, x.den (fun a => Q a g) (fun e => E e g) → den (lift x) Q E g
  ihandle : ∀ {α : Type} {x : m α} {h : Exc → Option (m α)} {Q E g}, den x Q (fun e g' => selO (h e) (fun y => den y Q E g') (E e g')) g → den (handle x h) Q E g
open PyM (den lift handle)
instance : PyM EM where
  γ := Unit
  den m Q E g := EM.den m (fun x => Q x ()) (fun e => E e ())
  dpure h := h
  dbind {α β x f Q E g} h := by
    cases x with
    | ok a => exact h
    | error e => cases e <;> exact h
  dmono h hq he := EM.den_mono h (fun _ => hq _ _) (fun _ => he _ _)
  lift x := x
  dlift h := h
  handle x h := match x with
    | .ok a => .ok a
    | .error none => .error none
    | .error (some e) => match h e with
      | some y => y
      | none => .error (some e)
  dhandle {α x h Q E g} d := by
    cases x with
    | ok a => exact d
    | error e =>
      cases e with
      | none => exact d
      | some e =>
        have d' : EM.den (match h e with | some y => y | none => .error (some e)) (fun x => Q x ()) (fun e => E e ()) := d
        show selO (h e) (fun y => EM.den y (fun x => Q x ()) (fun e => E e ())) (E e ())
        cases q : h e with
        | some y => rw [q] at d'; exact d'
        | none => rw [q] at d'; exact d'
  ipure h := h
  ibind {α β x f Q E g} h := by
    cases x with
    | ok a => exact h
    | error e => cases e <;> exact h
  ilift h := h
  ihandle {α x h Q E g} d := by
    cases x with
    | ok a => exact d
    | error e =>
      cases e with
      | none => exact d
      | some e =>
        have d' : selO (h e) (fun y => EM.den y (fun x => Q x ()) (fun e => E e ())) (E e ()) := d
        show EM.den (match h e with | some y => y | none => .error (some e)) (fun x => Q x ()) (fun e => E e ())
        cases q : h e with
        | some y => rw [q] at d'; exact d'
        | none => rw [q] at d'; exact d'
/-- with a world: by what is wanted behind -/
def MM (γ : Type) (α : Type) : Type := (α → γ → Prop) → (Exc → γ → Prop) → γ → Prop
/-- all that may come out -/
structure MW (γ α : Type) where
  run : (α → γ → Prop) → (Exc → γ → Prop) → γ → Prop
  mono : ∀ {Q Q' : α → γ → Prop} {E E' : Exc → γ → Prop} {g : γ}, run Q E g → (∀ a g, Q a g → Q' a g) → (∀ a g, E a g → E' a g) → run Q' E' g
instance {γ : Type} : Monad (MW γ) where
  pure x := ⟨fun Q _ g => Q x g, fun h hq _ => hq _ _ h⟩
  bind x f := ⟨fun Q E g => x.run (fun a g' => (f a).run Q E g') E g, fun h hq he => x.mono h (fun a g' h' => (f a).mono h' hq he) he⟩
instance {γ : Type} : PyM (MW γ) where
  γ := γ
  den m := m.run
  dpure h := h
  dbind h := h
  dmono := MW.mono _
  lift x := ⟨fun Q E g => x.den (fun a => Q a g) (fun e => E e g), fun h hq he => EM.den_mono h (fun _ => hq _ _) (fun _ => he _ _)⟩
  dlift h := h
  handle x h := ⟨fun Q E g => x.run Q (fun e g' => selO (h e) (fun y => y.run Q E g') (E e g')) g, fun {Q Q' E E' g} d hq he => x.mono d hq fun e g' h' => by
    cases q : h e with
    | some y => rw [q] at h'; exact MW.mono y h' hq he
    | none => rw [q] at h'; exact he _ _ h'⟩
  dhandle {α x h Q E g} d := d
  ipure h := h
  ibind h := h
  ilift h := h
  ihandle {α x h Q E g} d := d

def stuck {m : Type → Type} [PyM m] {α : Type} : m α := lift (.error none)
def raise {m : Type → Type} [PyM m] {α : Type} (e : Exc) : m α := lift (.error (some e))
def must {m : Type → Type} [PyM m] (p : Prop) [Decidable p] : m Unit := lift (if p then .ok () else .error none)
def opt {m : Type → Type} [PyM m] {α : Type} (x : Option α) : m α := lift (match x with | some a => .ok a | none => .error none)
/-- no exception -/
def calm {m : Type → Type} [PyM m] {α : Type} (x : m α) : m α := handle x fun _ => some stuck
section
variable {m : Type → Type} [PyM m] {α β : Type} {Q : α → PyM.γ m → Prop} {E : Exc → PyM.γ m → Prop} {g : PyM.γ m}
theorem dstuck (h : den (stuck : m α) Q E g) : False := PyM.dlift h
theorem draise {e : Exc} (h : den (raise e : m α) Q E g) : E e g := PyM.dlift h
theorem dmust {p : Prop} [Decidable p] {f : Unit → m α} (h : den (must p >>= f) Q E g) : p ∧ den (f ()) Q E g := by
  have h1 := PyM.dlift (PyM.dbind h)
  unfold EM.den at h1
  by_cases hp : p
  · rw [if_pos hp] at h1; exact ⟨hp, h1⟩
  · rw [if_neg hp] at h1; exact h1.elim
theorem dopt {x : Option β} {f : β → m α} (h : den (opt x >>= f) Q E g) : ∃ a, x = some a ∧ den (f a) Q E g := by
  have h1 := PyM.dlift (PyM.dbind h)
  cases x with
  | some a => exact ⟨a, rfl, h1⟩
  | none => exact h1.elim
theorem imust {p : Prop} [Decidable p] {f : Unit → m α} (hp : p) (h : den (f ()) Q E g) : den (must p >>= f) Q E g := by
  refine PyM.ibind (PyM.ilift ?_)
  unfold EM.den
  rw [if_pos hp]
  exact h
theorem icalm {x : m α} (h : den x Q (fun _ _ => False) g) : den (calm x) Q E g := PyM.ihandle (PyM.dmono h (fun _ _ h => h) fun _ _ h => h.elim)
theorem dcalm {x : m α} (h : den (calm x) Q E g) : den x Q (fun _ _ => False) g := PyM.dmono (PyM.dhandle h) (fun _ _ h => h) fun _ _ h => dstuck h
end

/-! ### the state -/
structure VP where
  p : GC → V → Hp → Prop
  mono : ∀ {G v H H'}, Same H H' → p G v H → p G v H'
structure LP where
  p : GC → Addr → HO → Hp → Prop
  mono : ∀ {G a o H H'}, Same H H' → p G a o H → p G a o H'
inductive SD where
  | any
  | val (p : VP)
  | own (p : LP)
def VP.of {α : Type} [Rep α] (x : α) : VP := ⟨fun G v H => rep G x v H, fun e h => Rep.mono e h⟩
def SD.v {α : Type} [Rep α] (x : α) : SD := .val (.of x)
def LP.l {α : Type} [Rep α] (xs : List α) : LP := ⟨fun G _ o H => ∃ vs, o = .lst vs ∧ Reps α G H xs vs, fun e ⟨vs, h1, h2⟩ => ⟨vs, h1, Reps.mono e h2⟩⟩
def SD.l {α : Type} [Rep α] (xs : List α) : SD := .own (.l xs)

structure KX where
  X : Cx
  cls : Str → Addr
  Wx : WX
  P : Hp
  Γe : List SD
def KX.G (c : KX) : GC := ⟨c.X.K, c.cls⟩
structure Wd (γ : Type) where
  has : γ → Addr → Prop
  inv : γ → GC → Hp → Hp → Prop
  step : ∀ {g G F H F' H'}, inv g G F H → Same F F' → (∀ a, has g a → H' a = H a) → inv g G F' H'
/-- no world -/
def W0 : Wd Unit := ⟨fun _ _ => False, fun _ _ _ _ => True, fun _ _ _ => trivial⟩
def SlotOk {γ : Type} (G : GC) (P : Hp) (W : Wd γ) (g : γ) (F H : Hp) (s : SD) (v : Option V) : Prop := match s with
  | .any => True
  | .val p => ∃ u, v = some u ∧ p.p G u F
  | .own p => ∃ a o, v = some (.ref a) ∧ F a = none ∧ P a = none ∧ ¬ W.has g a ∧ H a = some o ∧ Mut (some o) ∧ p.p G a o F
structure StG {γ : Type} (G : GC) (P : Hp) (W : Wd γ) (g : γ) (Γ : List SD) (σ : St) (F H : Hp) : Prop where
  fh : Same F H
  ph : Same P H
  dj : ∀ a o, F a = some o → P a = none
  wi : W.inv g G F H
  wf : ∀ a, W.has g a → F a = none ∧ P a = none ∧ ∃ o, H a = some o
  sl : Paired (SlotOk G P W g F H) Γ σ
  ow : ∀ (i j : Nat) (a : Addr) (A B : LP), Γ[i]? = some (.own A) → Γ[j]? = some (.own B) → σ[i]? = some (some (.ref a)) → σ[j]? = some (some (.ref a)) → i = j
abbrev StF {γ : Type} (c : KX) (W : Wd γ) (g : γ) (Γ : List SD) (σ : St) (F H : Hp) : Prop := StG c.G c.P W g Γ σ F H

theorem Paired.getP {α β : Type} {R : α → β → Prop} : ∀ {l₁ : List α} {l₂ : List β} {i : Nat} {x : α}, Paired R l₁ l₂ → l₁[i]? = some x → ∃ y, l₂[i]? = some y ∧ R x y
  | _, _, _, _, .nil, e => by simp at e
  | _, _, 0, _, .cons r _, e => by simp at e; subst e; exact ⟨_, rfl, r⟩
  | _, _, i + 1, x, .cons _ t, e => by
    obtain ⟨u, h1, h2⟩ := Paired.getP (i := i) (x := x) t (by simpa using e)
    exact ⟨u, by simpa using h1, h2⟩
theorem Paired.getQ {α β : Type} {R : α → β → Prop} : ∀ {l₁ : List α} {l₂ : List β} {i : Nat} {x : α} {y : β}, Paired R l₁ l₂ → l₁[i]? = some x → l₂[i]? = some y → R x y := fun h e1 e2 => by
  obtain ⟨y', e, r⟩ := Paired.getP h e1
  rw [e2] at e; cases e; exact r
theorem Paired.setP {α β : Type} {R : α → β → Prop} {x : α} {y : β} : ∀ {l₁ : List α} {l₂ : List β} (i : Nat), Paired R l₁ l₂ → R x y → Paired R (l₁.set i x) (l₂.set i y)
  | _, _, _, .nil, _ => .nil
  | _, _, 0, .cons _ t, h => .cons h t
  | _, _, i + 1, .cons q t, h => .cons q (Paired.setP i t h)
/-- where each two that stand at one place are so, with places -/
theorem Paired.mapI {α β : Type} {R S : α → β → Prop} : ∀ {l₁ : List α} {l₂ : List β}, Paired R l₁ l₂ → (∀ (i : Nat) (x : α) (y : β), l₁[i]? = some x → l₂[i]? = some y → R x y → S x y) → Paired S l₁ l₂
  | _, _, .nil, _ => .nil
  | _, _, .cons r t, f => .cons (f 0 _ _ rfl rfl r) (Paired.mapI t fun i x y h1 h2 => f (i + 1) x y (by simpa using h1) (by simpa using h2))
section
variable {γ : Type} {c : KX} {W : Wd γ} {g g' : γ} {Γ : List SD} {σ : St} {F H F' H' : Hp}
theorem SlotOk.step {G : GC} {P : Hp} {s : SD} {v : Option V} (h : SlotOk G P W g F H s v) (hF : Same F F')
    (hk : ∀ a o, F a = none → P a = none → ¬ W.has g a → H a = some o → F' a = none ∧ ¬ W.has g' a ∧ H' a = some o) : SlotOk G P W g' F' H' s v := by
  cases s with
  | any => trivial
  | val p =>
    obtain ⟨u, e, r⟩ := h
    exact ⟨u, e, p.mono hF r⟩
  | own p =>
    obtain ⟨a, o, e, h1, h2, h3, h4, mu, h5⟩ := h
    obtain ⟨k1, k2, k3⟩ := hk a o h1 h2 h3 h4
    exact ⟨a, o, e, k1, h2, k2, k3, mu, p.mono hF h5⟩
/-- a world's step: what is no part of the world stands -/
theorem StF.world (S : StF c W g Γ σ F H) (hF : Same F F') (hFH : Same F' H') (hk : ∀ a o, F a = none → ¬ W.has g a → H a = some o → F' a = none ∧ ¬ W.has g' a ∧ H' a = some o)
    (wi : W.inv g' c.G F' H') (wf : ∀ a, W.has g' a → F' a = none ∧ c.P a = none ∧ ∃ o, H' a = some o) : StF c W g' Γ σ F' H' where
  fh := hFH
  ph := fun a o e => (hk a o (by
    cases q : F a with
    | none => rfl
    | some u => have := S.dj a u q; rw [e] at this; cases this) (fun z => by have := (S.wf a z).2.1; rw [e] at this; cases this) (S.ph a o e)).2.2
  dj := fun a o e => by
    cases q : c.P a with
    | none => rfl
    | some u =>
      have fa : F a = none := by
        cases q' : F a with
        | none => rfl
        | some u' => have := S.dj a u' q'; rw [q] at this; cases this
      have := (hk a u fa (fun z => by have := (S.wf a z).2.1; rw [q] at this; cases this) (S.ph a u q)).1
      rw [e] at this; cases this
  wi := wi
  wf := wf
  sl := Paired.mapI S.sl fun i x y _ _ h => h.step hF fun a o h1 _ h3 h4 => hk a o h1 h3 h4
  ow := S.ow
theorem StF.ext (S : StF c W g Γ σ F H) (hH : Same H H') (hF : Same F F') (hFH : Same F' H') (fr : ∀ a o, F a = none → H a = some o → F' a = none) : StF c W g Γ σ F' H' := by
  have hw : ∀ a, W.has g a → H' a = H a := fun a z => by
    obtain ⟨_, _, o, e⟩ := S.wf a z
    rw [e, hH a o e]
  refine S.world hF hFH (fun a o h1 h2 h3 => ⟨fr a o h1 h3, h2, hH a o h3⟩) (W.step S.wi hF hw) fun a z => ?_
  obtain ⟨h1, h2, o, e⟩ := S.wf a z
  exact ⟨fr a o h1 e, h2, o, hH a o e⟩
theorem same_upd {H : Hp} {p : Addr} {o : HO} (h : H p = none) : Same H (upd H p o) := fun b x e => by
  rw [upd_ne (ne_of_none e h)]
  exact e
theorem upd_mono {F H : Hp} {p : Addr} {o : HO} (h : Same F H) : Same (upd F p o) (upd H p o) := fun b x e => by
  by_cases hb : b = p
  · subst hb; rw [upd_same] at e ⊢; exact e
  · rw [upd_ne hb] at e ⊢; exact h b x e
/-- a new object, for all to see -/
theorem StF.alloc (S : StF c W g Γ σ F H) {p : Addr} {o : HO} (hp : H p = none) : StF c W g Γ σ (upd F p o) (upd H p o) :=
  S.ext (same_upd hp) (same_upd (S.fh.free hp)) (upd_mono S.fh) fun a u h1 h2 => by
    rw [upd_ne (ne_of_none h2 hp)]; exact h1
/-- a new object, for nobody -/
theorem StF.allocH (S : StF c W g Γ σ F H) {p : Addr} {o : HO} (hp : H p = none) : StF c W g Γ σ F (upd H p o) :=
  S.ext (same_upd hp) (fun _ _ h => h) (fun a u h => same_upd hp a u (S.fh a u h)) fun a u h1 _ => h1
theorem StF.len (S : StF c W g Γ σ F H) : Γ.length = σ.length := Paired.length S.sl
theorem set_own {Γ : List SD} {i : Nat} {s : SD} {P : LP} (hs : ∀ P, s ≠ .own P) (e : (Γ.set i s)[i]? = some (.own P)) : False := by
  rw [List.getElem?_set] at e
  simp at e
  exact hs P e.2
/-- a slot takes a value -/
theorem StF.setv (S : StF c W g Γ σ F H) {p : VP} (i : Nat) {v : V} (h : p.p c.G v F) : StF c W g (Γ.set i (.val p)) (σ.set i (some v)) F H where
  fh := S.fh
  ph := S.ph
  dj := S.dj
  wi := S.wi
  wf := S.wf
  sl := Paired.setP i S.sl ⟨v, rfl, h⟩
  ow := fun j k a P Q e1 e2 e3 e4 => by
    have hj : j ≠ i := fun z => by
      exact (by subst z; exact set_own (by intro P z; cases z) e1)
    have hk : k ≠ i := fun z => by
      exact (by subst z; exact set_own (by intro P z; cases z) e2)
    rw [List.getElem?_set_ne (Ne.symm hj)] at e1 e3
    rw [List.getElem?_set_ne (Ne.symm hk)] at e2 e4
    exact S.ow j k a P Q e1 e2 e3 e4
/-- a slot takes what is wholly its own -/
theorem StF.seto (S : StF c W g Γ σ F H) {p : LP} (i : Nat) {a : Addr} {o : HO} (h1 : F a = none) (h2 : c.P a = none) (h3 : ¬ W.has g a) (h4 : H a = some o) (mu : Mut (some o)) (h5 : p.p c.G a o F)
    (hne : ∀ (j : Nat) (P : LP), j ≠ i → Γ[j]? = some (.own P) → σ[j]? ≠ some (some (.ref a))) : StF c W g (Γ.set i (.own p)) (σ.set i (some (.ref a))) F H where
  fh := S.fh
  ph := S.ph
  dj := S.dj
  wi := S.wi
  wf := S.wf
  sl := Paired.setP i S.sl ⟨a, o, rfl, h1, h2, h3, h4, mu, h5⟩
  ow := fun j k b P Q e1 e2 e3 e4 => by
    by_cases hj : j = i
    · by_cases hk : k = i
      · rw [hj, hk]
      · subst hj
        rw [List.getElem?_set_ne (Ne.symm hk)] at e2 e4
        have hl : j < σ.length := by
          rw [List.getElem?_set] at e3
          simp at e3
          exact e3.1
        rw [List.getElem?_set_self hl] at e3
        cases e3
        exact absurd e4 (hne k Q hk e2)
    · rw [List.getElem?_set_ne (Ne.symm hj)] at e1 e3
      by_cases hk : k = i
      · subst hk
        have hl : k < σ.length := by
          rw [List.getElem?_set] at e4
          simp at e4
          exact e4.1
        rw [List.getElem?_set_self hl] at e4
        cases e4
        exact absurd e3 (hne j P hj e1)
      · rw [List.getElem?_set_ne (Ne.symm hk)] at e2 e4
        exact S.ow j k b P Q e1 e2 e3 e4
/-- a slot is forgotten -/
theorem StF.drop (S : StF c W g Γ σ F H) (i : Nat) : StF c W g (Γ.set i .any) σ F H where
  fh := S.fh
  ph := S.ph
  dj := S.dj
  wi := S.wi
  wf := S.wf
  sl := by
    have h := S.sl
    have : σ = σ.set i (σ.getD i none) := by
      apply List.ext_getElem?
      intro j
      by_cases hj : j = i
      · subst hj
        by_cases hl : j < σ.length
        · rw [List.getElem?_set_self hl]; simp [List.getD, hl]
        · rw [List.getElem?_eq_none (by omega), List.getElem?_eq_none (by simp; omega)]
      · rw [List.getElem?_set_ne (Ne.symm hj)]
    rw [this]
    exact Paired.setP i h trivial
  ow := fun j k a P Q e1 e2 e3 e4 => by
    have hj : j ≠ i := fun z => by
      exact (by subst z; exact set_own (by intro P z; cases z) e1)
    have hk : k ≠ i := fun z => by
      exact (by subst z; exact set_own (by intro P z; cases z) e2)
    rw [List.getElem?_set_ne (Ne.symm hj)] at e1
    rw [List.getElem?_set_ne (Ne.symm hk)] at e2
    exact S.ow j k a P Q e1 e2 e3 e4
end

/-! ### expressions -/
section
variable {m : Type → Type} [PyM m]
/-- behind an expression -/
def Post (c : KX) (W : Wd (PyM.γ m)) (Γ : List SD) (σ : St) (F : Hp) {α : Type} [Rep α] (Q : VK) (x : α) (g' : PyM.γ m) : Prop := ∀ v F' H', Same F F' → StF c W g' Γ σ F' H' → rep c.G x v F' → Q v H'
def PostE (c : KX) (W : Wd (PyM.γ m)) (Γ : List SD) (σ : St) (F : Hp) (ex : Exc) (g' : PyM.γ m) : Prop := ∀ cls d F' H', Same F F' → StF c W g' Γ σ F' H' → ExcAt c.G ex cls d H' → c.Wx cls d σ H'
structure PX (c : KX) (W : Wd (PyM.γ m)) (Γ : List SD) (e : Expr) {α : Type} [Rep α] (x : m α) : Prop where
  run : ∃ t : TE, PE c.X e t ∧ ∀ σ F H g Q, StF c W g Γ σ F H → den x (Post c W Γ σ F Q) (PostE c W Γ σ F) g → t σ H Q
def PostB (c : KX) (W : Wd (PyM.γ m)) (Γ : List SD) (σ : St) (F : Hp) (Q : Bool → Hp → Prop) (x : Bool) (g' : PyM.γ m) : Prop := ∀ F' H', Same F F' → StF c W g' Γ σ F' H' → Q x H'
/-- tests -/
structure PXT (c : KX) (W : Wd (PyM.γ m)) (Γ : List SD) (e : Expr) (x : m Bool) : Prop where
  run : ∃ t : TT, PT c.X e t ∧ ∀ σ F H g Q, StF c W g Γ σ F H → den x (PostB c W Γ σ F Q) (PostE c W Γ σ F) g → t σ H Q
def PostA (c : KX) (W : Wd (PyM.γ m)) (Γ : List SD) (σ : St) (F : Hp) {ρ : Type} [Args ρ] (Q : List V → Hp → Prop) (x : ρ) (g' : PyM.γ m) : Prop := ∀ vs F' H', Same F F' → StF c W g' Γ σ F' H' → Args.reps c.G x vs F' → Q vs H'
/-- arguments -/
structure PXA (c : KX) (W : Wd (PyM.γ m)) (Γ : List SD) (es : List Expr) {ρ : Type} [Args ρ] (x : m ρ) : Prop where
  run : ∃ t : TA, PA c.X es t ∧ ∀ σ F H g Q, StF c W g Γ σ F H → den x (PostA c W Γ σ F Q) (PostE c W Γ σ F) g → t σ H Q
theorem PostE.after {c : KX} {W : Wd (PyM.γ m)} {Γ : List SD} {σ : St} {F F' : Hp} {ex : Exc} {g : PyM.γ m} (h : PostE c W Γ σ F ex g) (e : Same F F') : PostE c W Γ σ F' ex g :=
  fun cls d F'' H'' e2 S x => h cls d F'' H'' (e.trans e2) S x
theorem Post.after {c : KX} {W : Wd (PyM.γ m)} {Γ : List SD} {σ : St} {F F' : Hp} {α : Type} [Rep α] {Q : VK} {x : α} {g : PyM.γ m} (h : Post c W Γ σ F Q x g) (e : Same F F') : Post c W Γ σ F' Q x g :=
  fun v F'' H'' e2 S r => h v F'' H'' (e.trans e2) S r
theorem PostB.after {c : KX} {W : Wd (PyM.γ m)} {Γ : List SD} {σ : St} {F F' : Hp} {Q : Bool → Hp → Prop} {x : Bool} {g : PyM.γ m} (h : PostB c W Γ σ F Q x g) (e : Same F F') : PostB c W Γ σ F' Q x g :=
  fun F'' H'' e2 S => h F'' H'' (e.trans e2) S
theorem PostA.after {c : KX} {W : Wd (PyM.γ m)} {Γ : List SD} {σ : St} {F F' : Hp} {ρ : Type} [Args ρ] {Q : List V → Hp → Prop} {x : ρ} {g : PyM.γ m} (h : PostA c W Γ σ F Q x g) (e : Same F F') : PostA c W Γ σ F' Q x g :=
  fun v F'' H'' e2 S r => h v F'' H'' (e.trans e2) S r
variable {c : KX} {W : Wd (PyM.γ m)} {Γ : List SD} {e a b : Expr} {α β δ : Type} [Rep α] [Rep β] [Rep δ] {pos : Pos}

theorem px_name {x : α} {n : Str} (i : Nat) (hΓ : Γ[i]? = some (.v x) := by rfl) (hN : c.X.N[i]? = some n := by rfl) (hv : Vis c.X.env.scope n := by first | exact Or.inl rfl | exact Or.inr (Or.inl rfl) | exact Or.inr (Or.inr rfl)) (hd : (n == ("__debug__" : Str)) = false := by decide) (hcd : (n == ("__classdict__" : Str)) = false := by decide) :
    PX c W Γ (.Name n pos) (pure x : m α) := by
  refine ⟨_, pe_var (i := i) hN hv hd hcd, fun σ F H g Q S d => ?_⟩
  obtain ⟨u, e, r⟩ := Paired.getP S.sl hΓ
  obtain ⟨v, rfl, r⟩ := r
  exact ⟨v, e, PyM.dpure d v F H (Same.refl _) S r⟩
theorem px_const {v : V} {x : α} (he : PE c.X e (tC v)) (hr : ∀ H, rep c.G x v H) : PX c W Γ e (pure x : m α) :=
  ⟨_, he, fun σ F H g Q S d => PyM.dpure d v F H (Same.refl _) S (hr _)⟩
theorem px_int {i : Int} {j} : PX c W Γ (.Constant (.int i) j pos) (pure i : m Int) := px_const pe_int fun _ => rfl
theorem px_bool {i : Bool} {j} : PX c W Γ (.Constant (.bool i) j pos) (pure i : m Bool) := px_const pe_bl fun _ => rfl
theorem px_str {i : Str} {j} : PX c W Γ (.Constant (.str i) j pos) (pure i : m Str) := px_const pe_str fun _ => rfl
theorem px_none {j} : PX c W Γ (.Constant .none j pos) (pure () : m Unit) := px_const pe_non fun _ => rfl
theorem px_noneO {j} : PX c W Γ (.Constant .none j pos) (pure none : m (Option α)) := px_const pe_non fun _ => rfl

/-- a two-place operation: what it does by values is what k does -/
def OpOk (c : KX) (r : R2) (k : α → β → m δ) : Prop := ∀ (W : Wd (PyM.γ m)) (Γ : List SD) σ F H g Q x y v u, StF c W g Γ σ F H → rep c.G x v F → rep c.G y u F → den (k x y) (Post c W Γ σ F Q) (PostE c W Γ σ F) g → r v u H Q
theorem px_bin {op : Operator} {r : R2} {ma : m α} {mb : m β} {k : α → β → m δ} (ho : OpR c.X (binaryOp op) r) (hk : OpOk c r k) (ha : PX c W Γ a ma) (hb : PX c W Γ b mb) : PX c W Γ (.BinOp a op b pos) (ma >>= fun x => mb >>= fun y => k x y) := by
  obtain ⟨ta, pa, qa⟩ := ha
  obtain ⟨tb, pb, qb⟩ := hb
  refine ⟨_, pe_op ho pa pb, fun σ F H g Q S d => qa σ F H g _ S (PyM.dmono (PyM.dbind d) (fun x g1 h1 v F1 H1 e1 S1 r1 => ?_) fun _ _ h => h)⟩
  refine qb σ F1 H1 g1 _ S1 (PyM.dmono (PyM.dbind h1) (fun y g2 h2 u F2 H2 e2 S2 r2 => ?_) fun _ _ h => h.after e1)
  exact hk W Γ σ F2 H2 g2 Q x y v u S2 (Rep.mono e2 r1) r2 (PyM.dmono h2 (fun _ _ h => h.after (e1.trans e2)) fun _ _ h => h.after (e1.trans e2))
theorem px_cmp {op : CmpOp} {r : R2} {ma : m α} {mb : m β} {k : α → β → m δ} (ho : OpR c.X (compareOp op) r) (hk : OpOk c r k) (ha : PX c W Γ a ma) (hb : PX c W Γ b mb) (hm : behindInMarks op b = false := by first | exact nomark _ | rfl) :
    PX c W Γ (.Compare a [op] [b] pos) (ma >>= fun x => mb >>= fun y => k x y) := by
  obtain ⟨ta, pa, qa⟩ := ha
  obtain ⟨tb, pb, qb⟩ := hb
  refine ⟨_, pe_cmpR ho pa pb hm, fun σ F H g Q S d => qa σ F H g _ S (PyM.dmono (PyM.dbind d) (fun x g1 h1 v F1 H1 e1 S1 r1 => ?_) fun _ _ h => h)⟩
  refine qb σ F1 H1 g1 _ S1 (PyM.dmono (PyM.dbind h1) (fun y g2 h2 u F2 H2 e2 S2 r2 => ?_) fun _ _ h => h.after e1)
  exact hk W Γ σ F2 H2 g2 Q x y v u S2 (Rep.mono e2 r1) r2 (PyM.dmono h2 (fun _ _ h => h.after (e1.trans e2)) fun _ _ h => h.after (e1.trans e2))
theorem pxt_cmp {op : CmpOp} {r : R2} {ma : m α} {mb : m β} {k : α → β → m Bool} (ho : OpR c.X (compareOp op) r) (hk : OpOk c r k) (ha : PX c W Γ a ma) (hb : PX c W Γ b mb) (hm : behindInMarks op b = false := by first | exact nomark _ | rfl) :
    PXT c W Γ (.Compare a [op] [b] pos) (ma >>= fun x => mb >>= fun y => k x y) := by
  obtain ⟨ta, pa, qa⟩ := ha
  obtain ⟨tb, pb, qb⟩ := hb
  refine ⟨_, pt_cmpR ho pa pb hm, fun σ F H g Q S d => qa σ F H g _ S (PyM.dmono (PyM.dbind d) (fun x g1 h1 v F1 H1 e1 S1 r1 => ?_) fun _ _ h => h)⟩
  refine qb σ F1 H1 g1 _ S1 (PyM.dmono (PyM.dbind h1) (fun y g2 h2 u F2 H2 e2 S2 r2 => ?_) fun _ _ h => h.after e1)
  exact hk W Γ σ F2 H2 g2 _ x y v u S2 (Rep.mono e2 r1) r2 (PyM.dmono h2 (fun z _ h w F3 H3 e3 S3 r3 => ⟨z, r3, h _ _ ((e1.trans e2).trans e3) S3⟩) fun _ _ h => h.after (e1.trans e2))
/-- an expression of a bool as a test -/
theorem pxt_val {x : m Bool} (h : PX c W Γ e x) (he : ∀ whole, isTrue e c.X.env whole = (do let v ← whole; standAt e.pos; holding [v] (truthy v)) := by intro _; rfl) : PXT c W Γ e x := by
  obtain ⟨t, p, q⟩ := h
  exact ⟨_, pt_val p he, fun σ F H g Q S d => q σ F H g _ S (PyM.dmono d (fun z _ h v F1 H1 e1 S1 r1 => ⟨z, r1, h _ _ e1 S1⟩) fun _ _ h => h)⟩

theorem rI0_ok {f : Int → Int → Int} : OpOk (m := m) c (rI0 fun i j => .int (f i j)) (fun i j => pure (f i j)) := fun W Γ σ F H g Q x y v u S hx hy d => ⟨x, y, hx, hy, PyM.dpure d _ F H (Same.refl _) S rfl⟩
theorem rI0_okB {f : Int → Int → Bool} : OpOk (m := m) c (rI0 fun i j => .bl (f i j)) (fun i j => pure (f i j)) := fun W Γ σ F H g Q x y v u S hx hy d => ⟨x, y, hx, hy, PyM.dpure d _ F H (Same.refl _) S rfl⟩
theorem rI_ok {C : Int → Int → Prop} [∀ i j, Decidable (C i j)] {f : Int → Int → Int} : OpOk (m := m) c (rI C fun i j => .int (f i j)) (fun i j => must (C i j) >>= fun _ => pure (f i j)) := fun W Γ σ F H g Q x y v u S hx hy d => by
  obtain ⟨h1, h2⟩ := dmust d
  exact ⟨x, y, hx, hy, h1, PyM.dpure h2 _ F H (Same.refl _) S rfl⟩
end
end SP
namespace SP
open PySem PySem.Spec L2
open Rep (rep)
open PyM (den lift handle)

/-! ### where one stands -/
inductive Kd where
  | loc | cel | vis | no
def Kd.ok : Kd → Option NameKind → Prop
  | .loc, k => k = some .local
  | .cel, k => k = some .cell
  | .vis, k => k = some .cell ∨ k = some .free
  | .no, _ => True
structure Ctx (c : KX) (N : List Str) (ks : List Kd) (gs bs : List Str) (k : Nat) : Prop where
  hN : c.X.N = N
  nd : N.Nodup
  kd : ∀ (i : Nat) (n : Str) (d : Kd), N[i]? = some n → ks[i]? = some d → d.ok (c.X.env.scope.names.lookup n)
  kind : c.X.env.scope.kind = .function
  gl : ∀ (j : Nat) (n : Str), gs[j]? = some n → Gl c.X n
  bl : ∀ (j : Nat) (n : Str), bs[j]? = some n → Gl c.X n ∧ c.X.mg n = none
  fn : ∀ (i : Nat) (n : Str), N[i]? = some n → ks[i]? = some .cel → c.X.fn n = true
  calm : c.X.calm = true
  room : Room k c.X.A
  tk : Takes c.X c.Wx
  pass : PassesOwn (model c.X.prog c.X.w) c.X.A c.X.env c.X.xe
section
variable {c : KX} {N : List Str} {ks : List Kd} {gs bs : List Str} {k : Nat}
theorem Ctx.vis (C : Ctx c N ks gs bs k) {i : Nat} {n : Str} {d : Kd} (hN : N[i]? = some n) (hd : ks[i]? = some d) (h : d ≠ .no) : Vis c.X.env.scope n := by
  have q := C.kd i n d hN hd
  cases d with
  | loc => exact .inl q
  | cel => exact .inr (.inl q)
  | vis => exact .inr q
  | no => exact absurd rfl h
def Kd.isLoc : Kd → Bool
  | .loc => true
  | .cel => true
  | _ => false
def Kd.isVis : Kd → Bool
  | .no => false
  | _ => true
theorem Ctx.loc (C : Ctx c N ks gs bs k) {i : Nat} {n : Str} {d : Kd} (hN : N[i]? = some n) (hd : ks[i]? = some d) (h : d.isLoc = true) :
    Loc c.X.env.scope n ∧ (c.X.fn n = true ∨ c.X.env.scope.names.lookup n = some .local) := by
  have q := C.kd i n d hN hd
  cases d with
  | loc => exact ⟨.inl q, .inr q⟩
  | cel => exact ⟨.inr q, .inl (C.fn i n hN hd)⟩
  | vis => cases h
  | no => cases h
end

/-! ### statements -/
inductive Fin where
  | nx (Γ : List SD)
  | rt (p : VP)
  | bk (Γ : List SD)
  | ct (Γ : List SD)
  | never
/-- Γ' says no more than Γ -/
def SubG (Γ Γ' : List SD) : Prop := Γ'.length = Γ.length ∧ ∀ (i : Nat) (s : SD), Γ'[i]? = some s → s = .any ∨ Γ[i]? = some s
theorem SubG.refl (Γ : List SD) : SubG Γ Γ := ⟨rfl, fun _ _ h => .inr h⟩
theorem SubG.nil : SubG [] [] := .refl _
theorem SubG.keep {Γ Γ' : List SD} {s : SD} (h : SubG Γ Γ') : SubG (s :: Γ) (s :: Γ') := ⟨by simp [h.1], fun i t e => by
  cases i with
  | zero => exact .inr e
  | succ i => exact h.2 i t (by simpa using e)⟩
theorem SubG.drop {Γ Γ' : List SD} {s : SD} (h : SubG Γ Γ') : SubG (s :: Γ) (.any :: Γ') := ⟨by simp [h.1], fun i t e => by
  cases i with
  | zero => left; simpa using e.symm
  | succ i => exact h.2 i t (by simpa using e)⟩
theorem StF.sub {γ : Type} {c : KX} {W : Wd γ} {g : γ} {Γ Γ' : List SD} {σ : St} {F H : Hp} (S : StF c W g Γ σ F H) (h : SubG Γ Γ') : StF c W g Γ' σ F H where
  fh := S.fh
  ph := S.ph
  dj := S.dj
  wi := S.wi
  wf := S.wf
  sl := by
    have hl := S.len
    have go : ∀ (l₁ l₁' : List SD) (l₂ : St), Paired (SlotOk c.G c.P W g F H) l₁ l₂ → l₁'.length = l₁.length → (∀ (i : Nat) (s : SD), l₁'[i]? = some s → s = .any ∨ l₁[i]? = some s) → Paired (SlotOk c.G c.P W g F H) l₁' l₂ := by
      intro l₁
      induction l₁ with
      | nil =>
        intro l₁' l₂ p hl _
        have : l₁' = [] := List.length_eq_zero_iff.mp (by simpa using hl)
        subst this
        cases p
        exact .nil
      | cons a r ih =>
        intro l₁' l₂ p hl hs
        cases l₁' with
        | nil => simp at hl
        | cons b t =>
          cases p with
          | cons p1 p2 =>
            refine .cons ?_ (ih t _ p2 (by simpa using hl) fun i s e => by simpa using hs (i + 1) s (by simpa using e))
            rcases hs 0 b rfl with e | e
            · subst e; trivial
            · have : a = b := by simpa using e
              subst this; exact p1
    exact go Γ Γ' σ S.sl h.1 h.2
  ow := fun i j a P Q e1 e2 e3 e4 => by
    rcases h.2 i _ e1 with z | z
    · cases z
    · rcases h.2 j _ e2 with y | y
      · cases y
      · exact S.ow i j a P Q z y e3 e4
section
variable {m : Type → Type} [PyM m]
def PostS (c : KX) (W : Wd (PyM.γ m)) (F : Hp) (D : Ends) (f : Fin) (g' : PyM.γ m) : Prop := match f with
  | .nx Γ' => ∀ σ' F' H', Same F F' → StF c W g' Γ' σ' F' H' → D.nx σ' H'
  | .bk Γ' => ∀ σ' F' H', Same F F' → StF c W g' Γ' σ' F' H' → D.bk σ' H'
  | .ct Γ' => ∀ σ' F' H', Same F F' → StF c W g' Γ' σ' F' H' → D.ct σ' H'
  | .rt p => ∀ v Γ' σ' F' H', Same F F' → StF c W g' Γ' σ' F' H' → p.p c.G v F' → D.rt v H'
  | .never => True
def SubE (Γ Γe : List SD) : Prop := Γe = [] ∨ SubG Γ Γe
def PostSE (c : KX) (W : Wd (PyM.γ m)) (F : Hp) (ex : Exc) (g' : PyM.γ m) : Prop := ∀ cls d Γ' σ' F' H', Same F F' → StF c W g' Γ' σ' F' H' → SubE Γ' c.Γe → ExcAt c.G ex cls d H' → c.Wx cls d σ' H'
theorem PostSE.after {c : KX} {W : Wd (PyM.γ m)} {F F' : Hp} {ex : Exc} {g : PyM.γ m} (h : PostSE c W F ex g) (e : Same F F') : PostSE c W F' ex g :=
  fun cls d Γ' σ' F'' H'' e2 S s x => h cls d Γ' σ' F'' H'' (e.trans e2) S s x
theorem PostS.after {c : KX} {W : Wd (PyM.γ m)} {F F' : Hp} {D : Ends} {f : Fin} {g : PyM.γ m} (h : PostS c W F D f g) (e : Same F F') : PostS c W F' D f g := by
  cases f with
  | nx Γ' => exact fun σ' F'' H'' e2 S => h σ' F'' H'' (e.trans e2) S
  | bk Γ' => exact fun σ' F'' H'' e2 S => h σ' F'' H'' (e.trans e2) S
  | ct Γ' => exact fun σ' F'' H'' e2 S => h σ' F'' H'' (e.trans e2) S
  | rt p => exact fun v Γ' σ' F'' H'' e2 S r => h v Γ' σ' F'' H'' (e.trans e2) S r
  | never => trivial
theorem PostSE.at {c : KX} {W : Wd (PyM.γ m)} {F : Hp} {ex : Exc} {g : PyM.γ m} {Γ : List SD} {σ : St} (h : PostSE c W F ex g) (s : SubE Γ c.Γe) : PostE c W Γ σ F ex g :=
  fun cls d F' H' e S x => h cls d Γ σ F' H' e S s x
/-- one statement that goes on to the next -/
structure PN (c : KX) (W : Wd (PyM.γ m)) (Γ : List SD) (st : Stmt) {O : Type} (x : m O) (Γ' : O → List SD) : Prop where
  run : ∃ t : TS, PS c.X st t ∧ ∀ σ F H g D, StF c W g Γ σ F H → den x (fun o g' => PostS c W F D (.nx (Γ' o)) g') (PostSE c W F) g → t D σ H
/-- a block, to its ends -/
structure PB (c : KX) (W : Wd (PyM.γ m)) (Γ : List SD) (b : List Stmt) {O : Type} (x : m O) (K : O → Fin) : Prop where
  run : ∃ t : TS, PSs c.X b t ∧ ∀ σ F H g D, StF c W g Γ σ F H → den x (fun o g' => PostS c W F D (K o) g') (PostSE c W F) g → t D σ H
variable {c : KX} {W : Wd (PyM.γ m)} {Γ : List SD} {e a b : Expr} {α β δ O O' S R : Type} [Rep α] [Rep β] [Rep δ] {pos : Pos} {st : Stmt} {rest : List Stmt} {K : O → Fin}
theorem pb_nil {o : O} {Γ' : List SD} (h : K o = .nx Γ') (s : SubG Γ Γ') : PB c W Γ [] (pure o : m O) K :=
  ⟨_, pss_nil, fun σ F H g D S d => by
    have z := PyM.dpure d
    rw [h] at z
    exact z σ F H (Same.refl _) (S.sub s)⟩
theorem pb_cons {x : m O'} {Γ' : O' → List SD} {k : O' → m O} (h1 : PN c W Γ st x Γ') (h2 : ∀ o, PB c W (Γ' o) rest (k o) K) : PB c W Γ (st :: rest) (x >>= k) K := by
  obtain ⟨t, p, q⟩ := h1
  have hu : ∃ u : TS, PSs c.X rest u ∧ ∀ (o : O') σ F H g D, StF c W g (Γ' o) σ F H → den (k o) (fun o g' => PostS c W F D (K o) g') (PostSE c W F) g → u D σ H := by
    refine ⟨fun D σ H => ∃ o F g, StF c W g (Γ' o) σ F H ∧ den (k o) (fun o g' => PostS c W F D (K o) g') (PostSE c W F) g, ⟨fun pins s σ H D I h => ?_⟩, fun o σ F H g D S d => ⟨o, F, g, S, d⟩⟩
    obtain ⟨o, F, g, S, d⟩ := h
    obtain ⟨u, pu, qu⟩ := h2 o
    exact pu.run pins s σ H D I (qu σ F H g D S d)
  obtain ⟨u, pu, qu⟩ := hu
  refine ⟨_, pss_cons p pu, fun σ F H g D S d => q σ F H g { D with nx := u D } S (PyM.dmono (PyM.dbind d) (fun o g1 h1 σ1 F1 H1 e1 S1 => ?_) fun _ _ h => h)⟩
  exact qu o σ1 F1 H1 g1 D S1 (PyM.dmono h1 (fun _ _ h => h.after e1) fun _ _ h => h.after e1)
/-- what one value settles -/
theorem pn_of {x : m O} {Γ' : O → List SD} (h : ∃ t : TS, PS c.X st t ∧ ∀ σ F H g D, StF c W g Γ σ F H → den x (fun o g' => PostS c W F D (.nx (Γ' o)) g') (PostSE c W F) g → t D σ H) : PN c W Γ st x Γ' := ⟨h⟩
variable {N : List Str} {ks : List Kd} {gs bs : List Str} {kk : Nat}
/-- x = e -/
theorem pn_set {n : Str} {x : m α} {pos' : Pos} {d : Kd} (C : Ctx c N ks gs bs kk) (he : SubE Γ c.Γe) (i : Nat) (hx : PX c W Γ e x) (hN : N[i]? = some n := by rfl) (hd : ks[i]? = some d := by rfl) (hl : d.isLoc = true := by rfl) (hs : swapsWith e (some (.Name n pos')) pos.line c.X.env = pure false := by rfl) : PN c W Γ (.Assign [.Name n pos'] e pos) x (fun v => Γ.set i (.v v)) := by
  obtain ⟨t, p, q⟩ := hx
  obtain ⟨l1, l2⟩ := C.loc hN hd hl
  refine ⟨_, ps_set (i := i) (by rw [C.hN]; exact C.nd) (by rw [C.hN]; exact hN) l1 p hs l2, fun σ F H g D S d => q σ F H g _ S (PyM.dmono d (fun v g1 h1 u F1 H1 e1 S1 r1 => ?_) fun _ _ h => h.at he)⟩
  exact h1 _ F1 H1 e1 (S1.setv i r1)
/-- e -/
theorem pn_expr {x : m α} (he : SubE Γ c.Γe) (hx : PX c W Γ e x) (hs : swapsWith e none pos.line c.X.env = pure false := by rfl) : PN c W Γ (.Expr e pos) x (fun _ => Γ) := by
  obtain ⟨t, p, q⟩ := hx
  refine ⟨_, ps_expr p hs, fun σ F H g D S d => q σ F H g _ S (PyM.dmono d (fun v g1 h1 u F1 H1 e1 S1 r1 => h1 σ F1 H1 e1 S1) fun _ _ h => h.at he)⟩
theorem pb_ret {x : m α} {f : α → O} (he : SubE Γ c.Γe) (hK : ∀ v, K (f v) = .rt (.of v)) (hx : PX c W Γ e x) : PB c W Γ (.Return (some e) pos :: rest) (x >>= fun v => pure (f v)) K := by
  obtain ⟨t, p, q⟩ := hx
  refine ⟨_, pss_cons (ps_ret p) pss_never, fun σ F H g D S d => q σ F H g _ S (PyM.dmono (PyM.dbind d) (fun v g1 h1 u F1 H1 e1 S1 r1 => ?_) fun _ _ h => h.at he)⟩
  have z := PyM.dpure h1
  rw [hK] at z
  exact z u Γ σ F1 H1 e1 S1 r1
/-- the same where what is handed back is the outcome -/
theorem pb_ret0 {x : m α} {K : α → Fin} (he : SubE Γ c.Γe) (hK : ∀ v, K v = .rt (.of v)) (hx : PX c W Γ e x) : PB c W Γ (.Return (some e) pos :: rest) x K := by
  obtain ⟨t, p, q⟩ := hx
  refine ⟨_, pss_cons (ps_ret p) pss_never, fun σ F H g D S d => q σ F H g _ S (PyM.dmono d (fun v g1 h1 u F1 H1 e1 S1 r1 => ?_) fun _ _ h => h.at he)⟩
  rw [hK] at h1
  exact h1 u Γ σ F1 H1 e1 S1 r1
/-- a, then b, or b by its own -/
theorem pn_if {mt : m Bool} {ma mb : m O} {A B : List Stmt} {Γ' : O → List SD} (he : SubE Γ c.Γe) (ht : PXT c W Γ e mt) (ha : PB c W Γ A ma (fun o => .nx (Γ' o))) (hb : PB c W Γ B mb (fun o => .nx (Γ' o))) :
    PN c W Γ (.If e A B pos) (mt >>= fun t => if t = true then ma else mb) Γ' := by
  obtain ⟨t, p, q⟩ := ht
  obtain ⟨ta, pa, qa⟩ := ha
  obtain ⟨tb, pb, qb⟩ := hb
  refine ⟨_, ps_if p pa pb, fun σ F H g D S d => q σ F H g _ S (PyM.dmono (PyM.dbind d) (fun v g1 h1 F1 H1 e1 S1 => ?_) fun _ _ h => h.at he)⟩
  cases v with
  | true => exact iteT (qa σ F1 H1 g1 D S1 (PyM.dmono h1 (fun _ _ h => PostS.after (f := .nx _) h e1) fun _ _ h => h.after e1))
  | false => exact iteF (qb σ F1 H1 g1 D S1 (PyM.dmono h1 (fun _ _ h => PostS.after (f := .nx _) h e1) fun _ _ h => h.after e1))
def Fin.noNx : Fin → Fin
  | .nx _ => .never
  | f => f
/-- the first branch never goes on, the other one does -/
theorem pb_ifA {mt : m Bool} {ma : m O} {mb : m O'} {k : O' → m O} {A B : List Stmt} {Γ' : O' → List SD} (he : SubE Γ c.Γe) (ht : PXT c W Γ e mt) (ha : PB c W Γ A ma (fun o => (K o).noNx)) (hb : PB c W Γ B mb (fun o => .nx (Γ' o))) (hr : ∀ o, PB c W (Γ' o) rest (k o) K) : PB c W Γ (.If e A B pos :: rest) (mt >>= fun t => if t = true then ma else mb >>= k) K := by
  obtain ⟨t, p, q⟩ := ht
  obtain ⟨ta, pa, qa⟩ := ha
  obtain ⟨tb, pb, qb⟩ := hb
  have hu : ∃ u : TS, PSs c.X rest u ∧ ∀ (o : O') σ F H g D, StF c W g (Γ' o) σ F H → den (k o) (fun o g' => PostS c W F D (K o) g') (PostSE c W F) g → u D σ H := by
    refine ⟨fun D σ H => ∃ o F g, StF c W g (Γ' o) σ F H ∧ den (k o) (fun o g' => PostS c W F D (K o) g') (PostSE c W F) g, ⟨fun pins s σ H D I h => ?_⟩, fun o σ F H g D S d => ⟨o, F, g, S, d⟩⟩
    obtain ⟨o, F, g, S, d⟩ := h
    obtain ⟨u, pu, qu⟩ := hr o
    exact pu.run pins s σ H D I (qu σ F H g D S d)
  obtain ⟨u, pu, qu⟩ := hu
  refine ⟨_, pss_cons (ps_if p pa pb) pu, fun σ F H g D S d => q σ F H g _ S (PyM.dmono (PyM.dbind d) (fun v g1 h1 F1 H1 e1 S1 => ?_) fun _ _ h => h.at he)⟩
  cases v with
  | true =>
    refine iteT (qa σ F1 H1 g1 _ S1 (PyM.dmono h1 (fun o g2 h => ?_) fun _ _ h => h.after e1))
    have h := PostS.after h e1
    cases q : K o with
    | nx Γ'' => trivial
    | rt p => rw [q] at h; exact h
    | bk Γ'' => rw [q] at h; exact h
    | ct Γ'' => rw [q] at h; exact h
    | never => trivial
  | false =>
    refine iteF (qb σ F1 H1 g1 _ S1 (PyM.dmono (PyM.dbind h1) (fun o g2 h σ2 F2 H2 e2 S2 => ?_) fun _ _ h => h.after e1))
    exact qu o σ2 F2 H2 g2 D S2 (PyM.dmono h (fun _ _ h => h.after (e1.trans e2)) fun _ _ h => h.after (e1.trans e2))
/-- the second branch never goes on, the other one does -/
theorem pb_ifB {mt : m Bool} {ma : m O'} {mb : m O} {k : O' → m O} {A B : List Stmt} {Γ' : O' → List SD} (he : SubE Γ c.Γe) (ht : PXT c W Γ e mt) (ha : PB c W Γ A ma (fun o => .nx (Γ' o))) (hb : PB c W Γ B mb (fun o => (K o).noNx)) (hr : ∀ o, PB c W (Γ' o) rest (k o) K) : PB c W Γ (.If e A B pos :: rest) (mt >>= fun t => if t = true then ma >>= k else mb) K := by
  obtain ⟨t, p, q⟩ := ht
  obtain ⟨ta, pa, qa⟩ := ha
  obtain ⟨tb, pb, qb⟩ := hb
  have hu : ∃ u : TS, PSs c.X rest u ∧ ∀ (o : O') σ F H g D, StF c W g (Γ' o) σ F H → den (k o) (fun o g' => PostS c W F D (K o) g') (PostSE c W F) g → u D σ H := by
    refine ⟨fun D σ H => ∃ o F g, StF c W g (Γ' o) σ F H ∧ den (k o) (fun o g' => PostS c W F D (K o) g') (PostSE c W F) g, ⟨fun pins s σ H D I h => ?_⟩, fun o σ F H g D S d => ⟨o, F, g, S, d⟩⟩
    obtain ⟨o, F, g, S, d⟩ := h
    obtain ⟨u, pu, qu⟩ := hr o
    exact pu.run pins s σ H D I (qu σ F H g D S d)
  obtain ⟨u, pu, qu⟩ := hu
  refine ⟨_, pss_cons (ps_if p pa pb) pu, fun σ F H g D S d => q σ F H g _ S (PyM.dmono (PyM.dbind d) (fun v g1 h1 F1 H1 e1 S1 => ?_) fun _ _ h => h.at he)⟩
  cases v with
  | false =>
    refine iteF (qb σ F1 H1 g1 _ S1 (PyM.dmono h1 (fun o g2 h => ?_) fun _ _ h => h.after e1))
    have h := PostS.after h e1
    cases q : K o with
    | nx Γ'' => trivial
    | rt p => rw [q] at h; exact h
    | bk Γ'' => rw [q] at h; exact h
    | ct Γ'' => rw [q] at h; exact h
    | never => trivial
  | true =>
    refine iteT (qa σ F1 H1 g1 _ S1 (PyM.dmono (PyM.dbind h1) (fun o g2 h σ2 F2 H2 e2 S2 => ?_) fun _ _ h => h.after e1))
    exact qu o σ2 F2 H2 g2 D S2 (PyM.dmono h (fun _ _ h => h.after (e1.trans e2)) fun _ _ h => h.after (e1.trans e2))
/-- neither branch goes on -/
theorem pb_ifX {mt : m Bool} {ma mb : m O} {A B : List Stmt} (he : SubE Γ c.Γe) (ht : PXT c W Γ e mt) (ha : PB c W Γ A ma (fun o => (K o).noNx)) (hb : PB c W Γ B mb (fun o => (K o).noNx)) : PB c W Γ (.If e A B pos :: rest) (mt >>= fun t => if t = true then ma else mb) K := by
  obtain ⟨t, p, q⟩ := ht
  obtain ⟨ta, pa, qa⟩ := ha
  obtain ⟨tb, pb, qb⟩ := hb
  refine ⟨_, pss_cons (ps_if p pa pb) pss_never, fun σ F H g D S d => q σ F H g _ S (PyM.dmono (PyM.dbind d) (fun v g1 h1 F1 H1 e1 S1 => ?_) fun _ _ h => h.at he)⟩
  have fin : ∀ o g2, PostS c W F D (K o) g2 → PostS c W F1 { D with nx := tNever D } ((K o).noNx) g2 := fun o g2 h => by
    have h := PostS.after h e1
    cases q : K o with
    | nx Γ'' => trivial
    | rt p => rw [q] at h; exact h
    | bk Γ'' => rw [q] at h; exact h
    | ct Γ'' => rw [q] at h; exact h
    | never => trivial
  cases v with
  | true => exact iteT (qa σ F1 H1 g1 _ S1 (PyM.dmono h1 fin fun _ _ h => h.after e1))
  | false => exact iteF (qb σ F1 H1 g1 _ S1 (PyM.dmono h1 fin fun _ _ h => h.after e1))
/-- break, continue; the outcome says where -/
theorem pb_brk {o : O} {Γ' : List SD} (h : K o = .bk Γ') (s : SubG Γ Γ') : PB c W Γ (.Break pos :: rest) (pure o : m O) K :=
  ⟨_, pss_cons ps_break pss_never, fun σ F H g D S d => by
    have z := PyM.dpure d
    rw [h] at z
    exact z σ F H (Same.refl _) (S.sub s)⟩
theorem pb_cnt {o : O} {Γ' : List SD} (h : K o = .ct Γ') (s : SubG Γ Γ') : PB c W Γ (.Continue pos :: rest) (pure o : m O) K :=
  ⟨_, pss_cons ps_continue pss_never, fun σ F H g D S d => by
    have z := PyM.dpure d
    rw [h] at z
    exact z σ F H (Same.refl _) (S.sub s)⟩
end
end SP
namespace SP
open PySem PySem.Spec L2
open Rep (rep)
open PyM (den lift handle)

/-! ### a def's promise -/
structure Grow {γ : Type} (G : GC) (W : Wd γ) (g g' : γ) (F H F' H' : Hp) : Prop where
  ff : Same F F'
  fh : Same F' H'
  kp : ∀ a o, F a = none → ¬ W.has g a → H a = some o → F' a = none ∧ ¬ W.has g' a ∧ H' a = some o
  wi : W.inv g' G F' H'
  wf : ∀ a, W.has g' a → F' a = none ∧ ∃ o, H' a = some o
/-- the module's facts that stay -/
structure MG where
  P : Program
  w : World
  K : PySem.W.Frag
  mg : Str → Option Value
  base : Heap
  cls : Str → Addr
abbrev MG.G (M : MG) : GC := ⟨M.K, M.cls⟩
abbrev KX.M (c : KX) : MG := ⟨c.X.prog, c.X.w, c.X.K, c.X.mg, c.X.base, c.cls⟩
abbrev FnS (M : MG) (k : Nat) (f : Addr) (fd : FuncData) (ps : List Str) (sp : Sp) : Prop := FnOk M.P M.w M.K M.mg M.base (L2.CX M.P M.w) k f fd ps sp
def spW {m : Type → Type} [PyM m] (W : Wd (PyM.γ m)) (M : MG) {ρ β : Type} [Args ρ] [Rep β] (f : ρ → m β) : Sp := fun vs H Q E => ∃ F g x, Same F H ∧ W.inv g M.G F H ∧ (∀ a, W.has g a → F a = none ∧ ∃ o, H a = some o) ∧ Args.reps M.G x vs F ∧
  den (f x) (fun r g' => ∀ v F' H', Grow M.G W g g' F H F' H' → rep M.G r v F' → Q v H') (fun ex g' => ∀ cl d F' H', Grow M.G W g g' F H F' H' → ExcAt M.G ex cl d H' → E cl d H') g
/-- a def that a body may call: by name -/
structure Cal (M : MG) (n : Str) (k : Nat) (sp : Sp) : Prop where
  ex : ∃ (f : Addr) (fd : FuncData) (ps : List Str) (ds : List Value) (dvs : List V) (sp' : Sp), FnS M k f fd ps sp' ∧ M.mg n = some (.ref f) ∧ PySem.W.keepIn M.K (.ref f) = true ∧ Binds M.K fd ps ds ∧ Vals dvs ds ∧
    ∀ vs H Q E, sp vs H Q E → sp' (vs ++ dvs) H Q E
section
variable {m : Type → Type} [PyM m] {c : KX} {W : Wd (PyM.γ m)} {Γ : List SD} {e a b : Expr} {es : List Expr} {α β δ ρ : Type} [Rep α] [Rep β] [Rep δ] [Args ρ] {p pos : Pos} {N : List Str} {ks : List Kd} {gs bs : List Str} {kk k : Nat} {n : Str}
theorem pxa_nil : PXA c W Γ [] (pure () : m Unit) := ⟨_, pa_nil, fun σ F H g Q S d => PyM.dpure d [] F H (Same.refl _) S rfl⟩
theorem pxa_cons {x : m α} {r : m ρ} (hx : PX c W Γ e x) (hr : PXA c W Γ es r) (hs : starEach (e :: es) c.X.env = (false, eval e c.X.env) :: starEach es c.X.env := by rfl) : PXA c W Γ (e :: es) (x >>= fun v => r >>= fun vs => pure (v, vs)) := by
  obtain ⟨t, p, q⟩ := hx
  obtain ⟨u, pu, qu⟩ := hr
  refine ⟨_, pa_cons p pu hs, fun σ F H g Q S d => q σ F H g _ S (PyM.dmono (PyM.dbind d) (fun v g1 h1 w F1 H1 e1 S1 r1 => ?_) fun _ _ h => h)⟩
  refine qu σ F1 H1 g1 _ S1 (PyM.dmono (PyM.dbind h1) (fun vs g2 h2 ws F2 H2 e2 S2 r2 => ?_) fun _ _ h => h.after e1)
  exact PyM.dpure h2 (w :: ws) F2 H2 (e1.trans e2) S2 ⟨w, ws, rfl, Rep.mono e2 r1, r2⟩
/-- what a call may let out is wished for -/
theorem call_ok {σ : St} {F H : Hp} {g : PyM.γ m} {Q : VK} {f : ρ → EM β} {x : ρ} {vs : List V} (S : StF c W g Γ σ F H) (r : Args.reps c.G x vs F) (d : den (lift (f x) : m β) (Post c W Γ σ F Q) (PostE c W Γ σ F) g) :
    spW W0 c.M f vs H Q (WE c.Wx σ) := by
  have grow : ∀ {F' H' : Hp}, Grow c.G W0 () () F H F' H' → Same F F' ∧ StF c W g Γ σ F' H' := fun {F' H'} gr =>
    ⟨gr.ff, S.ext (fun a o q => by
      cases qf : F a with
      | some u => have := S.fh a u qf; rw [q] at this; cases this; exact gr.fh a _ (gr.ff a _ qf)
      | none => exact (gr.kp a o qf (fun z => z) q).2.2) gr.ff gr.fh fun a o h1 h2 => (gr.kp a o h1 (fun z => z) h2).1⟩
  refine ⟨F, (), x, S.fh, trivial, fun a z => z.elim, r, EM.den_mono (PyM.dlift d) (fun r1 h v F' H' gr rr => ?_) fun ex h cl d F' H' gr xx => ?_⟩
  · obtain ⟨e1, S1⟩ := grow gr
    exact h v F' H' e1 S1 rr
  · obtain ⟨e1, S1⟩ := grow gr
    exact h cl d F' H' e1 S1 xx
theorem callW_ok {σ : St} {F H : Hp} {g : PyM.γ m} {Q : VK} {f : ρ → m β} {x : ρ} {vs : List V} (S : StF c W g Γ σ F H) (r : Args.reps c.G x vs F) (d : den (f x) (Post c W Γ σ F Q) (PostE c W Γ σ F) g) :
    spW W c.M f vs H Q (WE c.Wx σ) := by
  have grow : ∀ {g' : PyM.γ m} {F' H' : Hp}, Grow c.G W g g' F H F' H' → Same F F' ∧ StF c W g' Γ σ F' H' := fun {g' F' H'} gr =>
    ⟨gr.ff, S.world gr.ff gr.fh gr.kp gr.wi fun a z => by
      obtain ⟨h1, o, h2⟩ := gr.wf a z
      refine ⟨h1, ?_, o, h2⟩
      cases q : c.P a with
      | none => rfl
      | some u =>
        have fa : F a = none := by
          cases q' : F a with
          | none => rfl
          | some u' => have := S.dj a u' q'; rw [q] at this; cases this
        exact absurd z (gr.kp a u fa (fun y => by have := (S.wf a y).2.1; rw [q] at this; cases this) (S.ph a u q)).2.1⟩
  refine ⟨F, g, x, S.fh, S.wi, fun a z => ⟨(S.wf a z).1, (S.wf a z).2.2⟩, r, PyM.dmono d (fun r1 g' h v F' H' gr rr => ?_) fun ex g' h cl d F' H' gr xx => ?_⟩
  · obtain ⟨e1, S1⟩ := grow gr
    exact h v F' H' e1 S1 rr
  · obtain ⟨e1, S1⟩ := grow gr
    exact h cl d F' H' e1 S1 xx
theorem px_call {f : ρ → EM β} {x : m ρ} (C : Ctx c N ks gs bs kk) (j : Nat) (hc : Cal c.M n k (spW W0 c.M f)) (ha : PXA c W Γ (e :: es) x) (hj : gs[j]? = some n := by rfl) (hk : k ≤ kk := by decide)
    (hdb : (n == ("__debug__" : Str)) = false := by decide) (he : starEach (e :: es) c.X.env = (false, eval e c.X.env) :: starEach es c.X.env := by rfl) (hpl : (backTo pos (starEach es c.X.env)).any (·.1) = false := by rfl) :
    PX c W Γ (.Call (.Name n p) (e :: es) [] pos) (x >>= fun v => lift (f v) : m β) := by
  obtain ⟨t, pa, qa⟩ := ha
  obtain ⟨fa, fd, ps, ds, dvs, sp', FO, hm, kp, hb, hd, imp⟩ := hc
  refine ⟨_, pe_callSD FO (C.room.mono hk) (C.gl j n hj) hm kp hb hd (E := WE c.Wx) (passAt C.tk) pa hdb he hpl, fun σ F H g Q S d => qa σ F H g _ S (PyM.dmono (PyM.dbind d) (fun v g1 h1 vs F1 H1 e1 S1 r1 => ?_) fun _ _ h => h)⟩
  exact imp _ _ _ _ (call_ok S1 r1 (PyM.dmono h1 (fun _ _ h => h.after e1) fun _ _ h => h.after e1))
theorem px_callW {f : ρ → m β} {x : m ρ} (C : Ctx c N ks gs bs kk) (j : Nat) (hc : Cal c.M n k (spW W c.M f)) (ha : PXA c W Γ (e :: es) x) (hj : gs[j]? = some n := by rfl) (hk : k ≤ kk := by decide)
    (hdb : (n == ("__debug__" : Str)) = false := by decide) (he : starEach (e :: es) c.X.env = (false, eval e c.X.env) :: starEach es c.X.env := by rfl) (hpl : (backTo pos (starEach es c.X.env)).any (·.1) = false := by rfl) :
    PX c W Γ (.Call (.Name n p) (e :: es) [] pos) (x >>= f) := by
  obtain ⟨t, pa, qa⟩ := ha
  obtain ⟨fa, fd, ps, ds, dvs, sp', FO, hm, kp, hb, hd, imp⟩ := hc
  refine ⟨_, pe_callSD FO (C.room.mono hk) (C.gl j n hj) hm kp hb hd (E := WE c.Wx) (passAt C.tk) pa hdb he hpl, fun σ F H g Q S d => qa σ F H g _ S (PyM.dmono (PyM.dbind d) (fun v g1 h1 vs F1 H1 e1 S1 r1 => ?_) fun _ _ h => h)⟩
  exact imp _ _ _ _ (callW_ok S1 r1 (PyM.dmono h1 (fun _ _ h => h.after e1) fun _ _ h => h.after e1))
end

/-! ### a def keeps its promise -/
section
variable {m : Type → Type} [PyM m] {W : Wd (PyM.γ m)} {β ρ : Type} [Rep β] [Args ρ]
variable {M : MG} {x qual : Str} {params : Arguments} {body : List Stmt} {scope : Scope} {dvs : List V} {kws : List (Str × V)} {f : Addr} {fd : FuncData}
/-- the slots at the start: the arguments, then nothing -/
class ArgsG (ρ : Type) [Args ρ] where
  gam : ρ → List SD
  ok : ∀ {G : GC} {x : ρ} {vs : List V} {F : Hp}, Args.reps G x vs F → Paired (fun s v => ∃ p : VP, s = .val p ∧ p.p G v F) (gam x) vs
instance : ArgsG Unit := ⟨fun _ => [], fun {G x vs F} h => by have h : vs = [] := h; subst h; exact .nil⟩
instance {α ρ : Type} [Rep α] [Args ρ] [ArgsG ρ] : ArgsG (α × ρ) := ⟨fun x => .v x.1 :: ArgsG.gam x.2, fun {G x vs F} h => by
  obtain ⟨v, ws, h1, h2, h3⟩ := h
  subst h1
  exact .cons ⟨.of x.1, rfl, h2⟩ (ArgsG.ok h3)⟩
theorem replicate_any {R : SD → Option V → Prop} (h : R .any none) : ∀ n : Nat, Paired R (List.replicate n .any) (List.replicate n none)
  | 0 => .nil
  | n + 1 => .cons h (replicate_any h n)
theorem Paired.app {α β : Type} {R : α → β → Prop} : ∀ {a b : List α} {c d : List β}, Paired R a c → Paired R b d → Paired R (a ++ b) (c ++ d)
  | _, _, _, _, .nil, h => h
  | _, _, _, _, .cons x y, h => .cons x (Paired.app y h)
theorem Paired.mapR {α β β' : Type} {R : α → β → Prop} {R' : α → β' → Prop} {f : β → β'} : ∀ {a : List α} {c : List β}, Paired R a c → (∀ x y, R x y → R' x (f y)) → Paired R' a (c.map f)
  | _, _, .nil, _ => .nil
  | _, _, .cons x y, h => .cons (h _ _ x) (Paired.mapR y h)
/-- the fact of names and kinds -/
def kindsOk (sc : Scope) : List Str → List Kd → Bool
  | n :: ns, d :: ds => (match d with
    | .loc => decide (sc.names.lookup n = some .local)
    | .cel => decide (sc.names.lookup n = some .cell)
    | .vis => false
    | .no => true) && kindsOk sc ns ds
  | [], [] => true
  | _, _ => false
theorem kinds_of {sc : Scope} : ∀ {ns : List Str} {ds : List Kd} {i : Nat} {n : Str} {d : Kd}, kindsOk sc ns ds = true → ns[i]? = some n → ds[i]? = some d → d.ok (sc.names.lookup n)
  | [], _, _, _, _, _, h, _ => by simp at h
  | _ :: _, [], _, _, _, _, _, h => by simp at h
  | a :: ns, b :: ds, 0, n, d, h, h1, h2 => by
    simp only [kindsOk, Bool.and_eq_true] at h
    simp at h1 h2
    subst h1; subst h2
    have h := h.1
    cases b with
    | loc => exact (of_decide_eq_true (p := sc.names.lookup a = some .local) h)
    | cel => exact (of_decide_eq_true (p := sc.names.lookup a = some .cell) h)
    | vis => cases h
    | no => trivial
  | a :: ns, b :: ds, i + 1, n, d, h, h1, h2 => by
    simp only [kindsOk, Bool.and_eq_true] at h
    exact kinds_of h.2 (by simpa using h1) (by simpa using h2)
/-- the same of a block's scope: a name without a cell of its own may stand in a cell of the def around -/
def globsOk (sc : Scope) (gs : List Str) : Bool := gs.all fun n => decide (sc.names.lookup n = some .globalImplicit)
/-- a body's own frame stands on top -/
structure Frm (c : KX) : Prop where
  stk : c.X.stack = c.X.env :: c.X.outer
  frm : c.X.env.frame = some c.X.env.locals
structure DefOk (sc : Scope) (N ps : List Str) (ks : List Kd) (gs bs : List Str) : Prop where
  fs : FnScope N ps sc
  ks : kindsOk sc N ks = true
  gs : globsOk sc gs = true
  bs : globsOk sc bs = true
theorem fn_body {N ps : List Str} {ks : List Kd} {gs bs : List Str} {k : Nat} (fm : ρ → m β) [ArgsG ρ] (F : FunD M.K x qual params body scope dvs kws f fd) (S : DefOk scope N ps ks gs bs) (np : ∀ r : ρ, (ArgsG.gam r).length = ps.length)
    (hbl : ∀ n ∈ bs, M.mg n = none)
    (hb : ∀ (c : KX), Ctx c N ks gs bs k → c.M = M → c.Γe = [] → Frm c → ∀ r : ρ, PB c W (ArgsG.gam r ++ List.replicate (N.length - ps.length) .any) body (fm r) (fun v => .rt (.of v))) :
    FnS M (k + 1) f fd ps (spW W M fm) := by
  have len : ∀ (r : ρ) {G : GC} {vs : List V} {F : Hp}, Args.reps G r vs F → vs.length = ps.length := fun r {G vs F} h => by
    rw [← np r]; exact (Paired.length (ArgsG.ok h)).symm
  refine F.ok S.fs (fun vs H Q E h => ?_) fun cdv A outer s H vs Q E hr h => ?_
  · obtain ⟨F, g, r, _, _, _, h4, _⟩ := h
    exact len r h4
  · obtain ⟨Fz, g, r, h1, h2, h3, h4, h5⟩ := h
    have nl : ∀ b : Addr, ∀ o, Fz b = some o → (if (Fz b).isSome then none else H b : Option HO) = none := fun b o e => by rw [e]; rfl
    let P0 : Hp := fun b => if (Fz b).isSome then none else open Classical in if W.has g b then none else H b
    let X0 : Cx := cxOf (L2.CX M.P M.w) M.P M.w M.K M.mg M.base N qual scope f cdv A outer s H E
    let c : KX := ⟨X0, M.cls, fun cl d _ H => E cl d H, P0, []⟩
    have C : Ctx c N ks gs bs k := {
      hN := rfl
      nd := S.fs.nd
      kd := fun i n d e1 e2 => kinds_of S.ks e1 e2
      kind := S.fs.kind
      gl := fun j n e => of_decide_eq_true (p := scope.names.lookup n = some .globalImplicit) (List.all_eq_true.mp S.gs n (List.mem_of_getElem? e))
      bl := fun j n e => ⟨of_decide_eq_true (p := scope.names.lookup n = some .globalImplicit) (List.all_eq_true.mp S.bs n (List.mem_of_getElem? e)), hbl n (List.mem_of_getElem? e)⟩
      fn := fun _ _ _ _ => rfl
      calm := rfl
      room := hr
      tk := takes_of rfl rfl rfl rfl
      pass := passes_of rfl }
    obtain ⟨t, pt, qt⟩ := hb c C rfl rfl ⟨rfl, rfl⟩ r
    have p0 : ∀ a o, P0 a = some o → Fz a = none ∧ ¬ W.has g a ∧ H a = some o := fun a o e => by
      have e : (if (Fz a).isSome then none else open Classical in if W.has g a then none else H a : Option HO) = some o := e
      cases q : Fz a with
      | some u => rw [q] at e; cases e
      | none =>
        rw [q] at e
        simp only [Option.isSome_none, Bool.false_eq_true, if_false] at e
        by_cases hw : W.has g a
        · rw [if_pos hw] at e; cases e
        · rw [if_neg hw] at e; exact ⟨rfl, hw, e⟩
    have p1 : ∀ a o, Fz a = none → ¬ W.has g a → H a = some o → P0 a = some o := fun a o e1 e2 e3 => by
      show (if (Fz a).isSome then none else open Classical in if W.has g a then none else H a : Option HO) = some o
      rw [e1, if_neg (by simp), if_neg e2, e3]
    have St0 : StF c W g (ArgsG.gam r ++ List.replicate (N.length - ps.length) .any) (start N vs) Fz H := {
      fh := h1
      ph := fun a o e => (p0 a o e).2.2
      dj := fun a o e => by
        cases q : P0 a with
        | none => exact q
        | some u => have := (p0 a u q).1; rw [e] at this; cases this
      wi := h2
      wf := fun a z => ⟨(h3 a z).1, by
        cases q : P0 a with
        | none => exact q
        | some u => exact absurd z (p0 a u q).2.1, (h3 a z).2⟩
      sl := by
        have e1 : vs.length = ps.length := len r h4
        show Paired _ _ (vs.map some ++ List.replicate (N.length - vs.length) none)
        rw [e1]
        refine Paired.app (Paired.mapR (ArgsG.ok h4) fun s v ⟨p, e, h⟩ => ?_) (replicate_any trivial _)
        subst e
        exact ⟨v, rfl, h⟩
      ow := fun i j a P Q e1 e2 e3 e4 => by
        have noown : ∀ (i : Nat) (P : LP), (ArgsG.gam r ++ List.replicate (N.length - ps.length) SD.any)[i]? ≠ some (.own P) := fun i P e => by
          rw [List.getElem?_append] at e
          split at e
          · obtain ⟨v, _, p, e', _⟩ := Paired.getP (ArgsG.ok h4) e
            cases e'
          · rw [List.getElem?_replicate] at e
            split at e <;> cases e
        exact absurd e1 (noown i P) }
    refine ⟨t, pt, qt _ Fz H g _ St0 (PyM.dmono h5 (fun v g' hq => ?_) fun ex g' hq => ?_)⟩
    · intro u Γ' σ' F' H' e1 S1 r1
      refine hq u F' H' ⟨e1, S1.fh, fun a o q1 q2 q3 => ?_, S1.wi, fun a z => ⟨(S1.wf a z).1, (S1.wf a z).2.2⟩⟩ r1
      have pa := p1 a o q1 q2 q3
      refine ⟨?_, fun z => ?_, S1.ph a o pa⟩
      · cases q : F' a with
        | none => rfl
        | some u => have := S1.dj a u q; rw [show c.P a = some o from pa] at this; cases this
      · have := (S1.wf a z).2.1
        rw [show c.P a = some o from pa] at this; cases this
    · intro cl d Γ' σ' F' H' e1 S1 _ xx
      refine hq cl d F' H' ⟨e1, S1.fh, fun a o q1 q2 q3 => ?_, S1.wi, fun a z => ⟨(S1.wf a z).1, (S1.wf a z).2.2⟩⟩ xx
      have pa := p1 a o q1 q2 q3
      refine ⟨?_, fun z => ?_, S1.ph a o pa⟩
      · cases q : F' a with
        | none => rfl
        | some u => have := S1.dj a u q; rw [show c.P a = some o from pa] at this; cases this
      · have := (S1.wf a z).2.1
        rw [show c.P a = some o from pa] at this; cases this
end
end SP
namespace SP
open PySem PySem.Spec L2
open Rep (rep)
open PyM (den lift handle)

/-! ### what is walked -/
structure ItOk (G : GC) {α : Type} [Rep α] (J : It) (xs : List α) (F0 : Hp) : Prop where
  go : ∀ (i : Nat) (x : α) (F H : Hp), Same F0 F → Same F H → xs[i]? = some x → J.go i H
  yld : ∀ (i : Nat) (x : α) (F H : Hp) (v : V) (H' : Hp), Same F0 F → Same F H → xs[i]? = some x → J.yld i H v H' → Same H H' ∧ ∃ F', Same F F' ∧ Same F' H' ∧ (∀ a o, F a = none → H a = some o → F' a = none) ∧ rep G x v F'
  stop : ∀ (i : Nat) (F H : Hp), Same F0 F → Same F H → xs.length ≤ i → J.stop i H
def rangeL (a b : Int) : List Int := (List.range (b - a).toNat).map fun (i : Nat) => a + (i : Int)
section
variable {m : Type → Type} [PyM m]
structure PXI (c : KX) (W : Wd (PyM.γ m)) (Γ : List SD) (tg e : Expr) {α : Type} [Rep α] (x : m (List α)) : Prop where
  run : ∃ wi : TI, PI c.X tg e wi ∧ ∀ σ F H g R, StF c W g Γ σ F H → den x (fun xs g' => ∀ J F' H', Same F F' → StF c W g' Γ σ F' H' → ItOk c.G J xs F' → R J H') (PostE c W Γ σ F) g → wi σ H R
structure PXG (c : KX) (W : Wd (PyM.γ m)) (Γ : List SD) (tg : Expr) {α : Type} [Rep α] (x : α) (Γ' : List SD) (is : List Nat) : Prop where
  keep : ∀ j, j ∉ is → Γ'[j]? = Γ[j]?
  run : ∃ t : TG, PG c.X tg t ∧ ∀ v σ F H (g : PyM.γ m) Q, StF c W g Γ σ F H → rep c.G x v F → (∀ σ', StF c W g Γ' σ' F H → (∀ vs : List Nat, (∀ i ∈ is, i ∈ vs) → wipe σ' vs = wipe σ vs) → Q σ' H) → t v σ H Q
structure PXGs (c : KX) (W : Wd (PyM.γ m)) (Γ : List SD) (tgs : List Expr) {ρ : Type} [Args ρ] (x : ρ) (Γ' : List SD) (is : List Nat) : Prop where
  keep : ∀ j, j ∉ is → Γ'[j]? = Γ[j]?
  run : ∃ t : TGs, PGs c.X tgs t ∧ ∀ vs σ F H (g : PyM.γ m) Q, StF c W g Γ σ F H → Args.reps c.G x vs F → (∀ σ', StF c W g Γ' σ' F H → (∀ ws : List Nat, (∀ i ∈ is, i ∈ ws) → wipe σ' ws = wipe σ ws) → Q σ' H) → t vs σ H Q
variable {c : KX} {W : Wd (PyM.γ m)} {Γ Γ' Γ'' : List SD} {e a b tg : Expr} {es : List Expr} {α β δ ρ : Type} [Rep α] [Rep β] [Rep δ] [Args ρ] {p pos : Pos} {N : List Str} {ks : List Kd} {gs bs : List Str} {kk k : Nat} {n : Str} {is js : List Nat}
theorem wipe_get {σ : St} : ∀ {vs : List Nat} {j : Nat}, j ∈ vs → j < σ.length → (wipe σ vs)[j]? = some none
  | v :: vs, j, h, hl => by
    unfold wipe
    by_cases e : j = v
    · subst e
      rw [List.getElem?_set_self (by rw [wipe_length]; exact hl)]
    · rw [List.getElem?_set_ne (Ne.symm e)]
      exact wipe_get ((List.mem_cons.mp h).resolve_left e) hl
theorem wipe_set {σ : St} {vs : List Nat} {i : Nat} {v : Option V} (h : i ∈ vs) : wipe (σ.set i v) vs = wipe σ vs := by
  apply List.ext_getElem?
  intro j
  by_cases hj : j ∈ vs
  · by_cases hl : j < σ.length
    · rw [wipe_get hj hl, wipe_get hj (by simpa using hl)]
    · rw [List.getElem?_eq_none (by rw [wipe_length]; simp; omega), List.getElem?_eq_none (by rw [wipe_length]; omega)]
  · rw [wipe_out hj, wipe_out hj, List.getElem?_set_ne (fun z => hj (by subst z; exact h))]
theorem pxg_name {x : α} {d : Kd} (C : Ctx c N ks gs bs kk) (i : Nat) (hN : N[i]? = some n := by rfl) (hd : ks[i]? = some d := by rfl) (hl : d.isLoc = true := by rfl) : PXG c W Γ (.Name n pos) x (Γ.set i (.v x)) [i] := by
  obtain ⟨l1, l2⟩ := C.loc hN hd hl
  refine ⟨fun j hj => List.getElem?_set_ne (by simpa [eq_comm] using hj), _, pg_name (i := i) (by rw [C.hN]; exact C.nd) (by rw [C.hN]; exact hN) l1 l2, fun v σ F H g Q S r h => h _ (S.setv i r) fun vs hv => wipe_set (hv i (by simp))⟩
theorem pxgs_nil : PXGs c W Γ [] () Γ [] := ⟨fun _ _ => rfl, _, pgs_nil, fun vs σ F H g Q S r h => ⟨r, h σ S fun _ _ => rfl⟩⟩
theorem pxgs_cons {x : α} {y : ρ} (h1 : PXG c W Γ tg x Γ' is) (h2 : PXGs c W Γ' es y Γ'' js) (hs : (assignEach (tg :: es) c.X.env).map (·.2) = assign tg c.X.env :: (assignEach es c.X.env).map (·.2) := by rfl) : PXGs c W Γ (tg :: es) (x, y) Γ'' (is ++ js) := by
  obtain ⟨k1, t, pt, qt⟩ := h1
  obtain ⟨k2, u, pu, qu⟩ := h2
  refine ⟨fun j hj => (k2 j fun z => hj (List.mem_append_right _ z)).trans (k1 j fun z => hj (List.mem_append_left _ z)), _, pgs_cons pt pu hs, fun vs σ F H g Q S r h => ?_⟩
  obtain ⟨v, ws, e, r1, r2⟩ := r
  refine ⟨v, ws, e, qt v σ F H g _ S r1 fun σ1 S1 w1 => qu ws σ1 F H g _ S1 r2 fun σ2 S2 w2 => h σ2 S2 fun zs hz => ?_⟩
  rw [w2 zs fun i hi => hz i (List.mem_append_right _ hi), w1 zs fun i hi => hz i (List.mem_append_left _ hi)]
theorem pxg_pair {x : α × β} {j : Nat} (C : Ctx c N ks gs bs kk) (h : PXGs c W Γ [a, b] (x.1, x.2, ()) Γ' is) (hn : (assignEach [a, b] c.X.env).length = 2 := by rfl) (hst : (assignEach [a, b] c.X.env).findIdx? (·.1) = none := by rfl) : PXG c W Γ (.Tuple [a, b] j pos) x Γ' is := by
  obtain ⟨kp, t, pt, qt⟩ := h
  refine ⟨kp, _, pg_tup C.calm pt hn hst, fun v σ F H g Q S r h => ?_⟩
  obtain ⟨ad, v1, v2, e, s, r1, r2⟩ := r
  exact ⟨ad, [v1, v2], e, Same.tup S.fh s, rfl, qt _ σ F H g Q S ⟨v1, [v2], rfl, r1, v2, [], rfl, r2, rfl⟩ h⟩
theorem pxg_trip {x : T3 α β δ} {d : Expr} {j : Nat} (C : Ctx c N ks gs bs kk) (h : PXGs c W Γ [a, b, d] (x.a, x.b, x.c, ()) Γ' is) (hn : (assignEach [a, b, d] c.X.env).length = 3 := by rfl) (hst : (assignEach [a, b, d] c.X.env).findIdx? (·.1) = none := by rfl) : PXG c W Γ (.Tuple [a, b, d] j pos) x Γ' is := by
  obtain ⟨kp, t, pt, qt⟩ := h
  refine ⟨kp, _, pg_tup C.calm pt hn hst, fun v σ F H g Q S r h => ?_⟩
  obtain ⟨ad, v1, v2, v3, e, s, r1, r2, r3⟩ := r
  exact ⟨ad, [v1, v2, v3], e, Same.tup S.fh s, rfl, qt _ σ F H g Q S ⟨v1, [v2, v3], rfl, r1, v2, [v3], rfl, r2, v3, [], rfl, r3, rfl⟩ h⟩

/-! ### sources -/
theorem ok_list {G : GC} {xs : List α} {ad : Addr} {vs : List V} {F : Hp} (h : SqL G.K F ad vs) (r : Reps α G F xs vs) : ItOk G (Itl G.K ad) xs F where
  go := fun i x F1 H e1 e2 hx => by
    obtain ⟨v, hv, _⟩ := r.get hx
    exact ⟨vs, v, Same.seq (e1.trans e2) h, hv⟩
  yld := fun i x F1 H v H' e1 e2 hx y => by
    obtain ⟨rfl, y⟩ := y
    obtain ⟨v', hv, rv⟩ := r.get hx
    have q := y vs (Same.seq (e1.trans e2) h)
    rw [hv] at q; cases q
    exact ⟨Same.refl _, F1, Same.refl _, e2, fun _ _ h _ => h, Rep.mono e1 rv⟩
  stop := fun i F1 H e1 e2 hl => ⟨vs, Same.seq (e1.trans e2) h, by rw [← r.length]; exact hl⟩
theorem ok_tup {G : GC} {xs : List α} {ad : Addr} {vs : List V} {F : Hp} (h : SqT G.K F ad vs) (r : Reps α G F xs vs) : ItOk G (Itt G.K ad) xs F where
  go := fun i x F1 H e1 e2 hx => by
    obtain ⟨v, hv, _⟩ := r.get hx
    exact ⟨vs, v, Same.tup (e1.trans e2) h, hv⟩
  yld := fun i x F1 H v H' e1 e2 hx y => by
    obtain ⟨rfl, y⟩ := y
    obtain ⟨v', hv, rv⟩ := r.get hx
    have q := y vs (Same.tup (e1.trans e2) h)
    rw [hv] at q; cases q
    exact ⟨Same.refl _, F1, Same.refl _, e2, fun _ _ h _ => h, Rep.mono e1 rv⟩
  stop := fun i F1 H e1 e2 hl => ⟨vs, Same.tup (e1.trans e2) h, by rw [← r.length]; exact hl⟩
theorem ok_range {G : GC} {lo hi : Int} {F : Hp} : ItOk G (Itr lo (hi - lo).toNat) (rangeL lo hi) F where
  go := fun i x F1 H e1 e2 hx => by
    have := (List.getElem?_eq_some_iff.mp hx).1
    show i < (hi - lo).toNat
    simpa [rangeL] using this
  yld := fun i x F1 H v H' e1 e2 hx y => by
    obtain ⟨rfl, rfl⟩ := y
    obtain ⟨hl, e⟩ := List.getElem?_eq_some_iff.mp hx
    refine ⟨Same.refl _, F1, Same.refl _, e2, fun _ _ h _ => h, ?_⟩
    show V.int _ = V.int x
    rw [← e]
    simp [rangeL]
  stop := fun i F1 H e1 e2 hl => by
    show (hi - lo).toNat ≤ i
    simpa [rangeL] using hl
theorem pxi_list {x : m (List α)} (h : PX c W Γ e x) : PXI c W Γ tg e x := by
  obtain ⟨t, p, q⟩ := h
  refine ⟨_, pi_list p, fun σ F H g R S d => q σ F H g _ S (PyM.dmono d (fun xs g1 h1 v F1 H1 e1 S1 r1 => ?_) fun _ _ h => h)⟩
  obtain ⟨ad, vs, rfl, s, r⟩ := r1
  exact ⟨ad, rfl, ⟨vs, .of (S1.fh _ _ s)⟩, h1 _ F1 H1 e1 S1 (ok_list (G := c.G) (.of s) r)⟩
theorem pxi_tup {x : m (Tup α)} (h : PX c W Γ e x) : PXI c W Γ tg e (α := α) x := by
  obtain ⟨t, p, q⟩ := h
  refine ⟨_, pi_tup p, fun σ F H g R S d => q σ F H g _ S (PyM.dmono d (fun xs g1 h1 v F1 H1 e1 S1 r1 => ?_) fun _ _ h => h)⟩
  obtain ⟨ad, vs, rfl, s, r⟩ := r1
  exact ⟨ad, rfl, ⟨vs, Same.tup S1.fh s.sq⟩, h1 _ F1 H1 e1 S1 (ok_tup (G := c.G) s.sq r)⟩
def In62 (i : Int) : Prop := -(2 ^ 62) ≤ i ∧ i < 2 ^ 62
instance (i : Int) : Decidable (In62 i) := by unfold In62; exact inferInstance
theorem pxi_range1 {x : m Int} (C : Ctx c N ks gs bs kk) (j : Nat) (h : PX c W Γ a x) (hj : bs[j]? = some ("range" : Str) := by rfl) (hs : starEach [a] c.X.env = [(false, eval a c.X.env)] := by rfl) : PXI c W Γ tg (.Call (.Name "range" p) [a] [] pos) (x >>= fun i => must (In62 i) >>= fun _ => pure (rangeL 0 i)) := by
  obtain ⟨t, pt, q⟩ := h
  obtain ⟨b1, b2⟩ := C.bl j _ hj
  refine ⟨_, pi_range1 b1 b2 (pa_cons pt pa_nil hs) hs, fun σ F H g R S d => q σ F H g _ S (PyM.dmono (PyM.dbind d) (fun i g1 h1 v F1 H1 e1 S1 r1 => ?_) fun _ _ h => h)⟩
  obtain ⟨h2, h3⟩ := dmust h1
  have r1 : v = .int i := r1
  subst r1
  refine ⟨i, rfl, h2.1, h2.2, ?_⟩
  have z := PyM.dpure h3 (Itr 0 (i - 0).toNat) F1 H1 e1 S1 ok_range
  rwa [Int.sub_zero] at z
theorem pxi_range2 {x y : m Int} (C : Ctx c N ks gs bs kk) (j : Nat) (h : PX c W Γ a x) (h' : PX c W Γ b y) (hj : bs[j]? = some ("range" : Str) := by rfl) (hs : starEach [a, b] c.X.env = [(false, eval a c.X.env), (false, eval b c.X.env)] := by rfl) (hs2 : starEach [b] c.X.env = [(false, eval b c.X.env)] := by rfl) :
    PXI c W Γ tg (.Call (.Name "range" p) [a, b] [] pos) (x >>= fun i => y >>= fun j => must (In62 i ∧ In62 j) >>= fun _ => pure (rangeL i j)) := by
  obtain ⟨t, pt, q⟩ := h
  obtain ⟨t', pt', q'⟩ := h'
  obtain ⟨b1, b2⟩ := C.bl j _ hj
  refine ⟨_, pi_range2 b1 b2 (pa_cons pt (pa_cons pt' pa_nil hs2) (hs.trans (by rw [hs2]))) hs hs2, fun σ F H g R S d => q σ F H g _ S (PyM.dmono (PyM.dbind d) (fun i g1 h1 v F1 H1 e1 S1 r1 => ?_) fun _ _ h => h)⟩
  refine q' σ F1 H1 g1 _ S1 (PyM.dmono (PyM.dbind h1) (fun j g2 h2 v2 F2 H2 e2 S2 r2 => ?_) fun _ _ h => h.after e1)
  obtain ⟨h3, h4⟩ := dmust h2
  have r1 : v = .int i := r1
  have r2 : v2 = .int j := r2
  subst r1 r2
  exact ⟨i, j, rfl, ⟨h3.1.1, h3.1.2, h3.2.1, h3.2.2⟩, PyM.dpure h4 (Itr i (j - i).toNat) F2 H2 (e1.trans e2) S2 ok_range⟩
end

/-! ### loops -/
section
variable {m : Type → Type} [PyM m] {α S R O O' : Type}
def forN (f : S → α → m S) : List α → S → m S
  | [], s => pure s
  | x :: xs, s => f s x >>= fun s' => forN f xs s'
inductive Lp (S R : Type) where
  | go (s : S)
  | cnt (s : S)
  | brk (s : S)
  | ret (r : R)
def lpNext (k : S → m (S ⊕ R)) : Lp S R → m (S ⊕ R)
  | .go s => k s
  | .cnt s => k s
  | .brk s => pure (.inl s)
  | .ret r => pure (.inr r)
def forL (f : S → α → m (Lp S R)) : List α → S → m (S ⊕ R)
  | [], s => pure (.inl s)
  | x :: xs, s => f s x >>= lpNext fun s' => forL f xs s'
def sumK (k : S → m O) (kr : R → m O) : S ⊕ R → m O
  | .inl s => k s
  | .inr r => kr r
def whileN (cond : S → m Bool) (f : S → m S) : Nat → S → m S
  | 0, _ => stuck
  | n + 1, s => cond s >>= fun t => if t = true then f s >>= fun s' => whileN cond f n s' else pure s
def whileL (cond : S → m Bool) (f : S → m (Lp S R)) : Nat → S → m (S ⊕ R)
  | 0, _ => stuck
  | n + 1, s => cond s >>= fun t => if t = true then f s >>= lpNext fun s' => whileL cond f n s' else pure (.inl s)
variable [Rep α] {c : KX} {W : Wd (PyM.γ m)} {Γ : List SD} {e tg iter : Expr} {body rest : List Stmt} {pos : Pos} {N : List Str} {ks : List Kd} {gs bs : List Str} {kk : Nat} {is : List Nat}
/-- the readings of a target and a body for any state -/
theorem tg_any {I : Type} {Γs Γt : I → List SD} {x : I → α} (hg : ∀ i, PXG c W (Γs i) tg (x i) (Γt i) is) : ∃ t : TG, PG c.X tg t ∧ ∀ i v σ F H (g : PyM.γ m) Q, StF c W g (Γs i) σ F H → rep c.G (x i) v F → (∀ σ', StF c W g (Γt i) σ' F H → (∀ vs : List Nat, (∀ i ∈ is, i ∈ vs) → wipe σ' vs = wipe σ vs) → Q σ' H) → t v σ H Q := by
  refine ⟨fun v σ H Q => ∃ i F, ∃ g : PyM.γ m, StF c W g (Γs i) σ F H ∧ rep c.G (x i) v F ∧ ∀ σ', StF c W g (Γt i) σ' F H → (∀ vs : List Nat, (∀ i ∈ is, i ∈ vs) → wipe σ' vs = wipe σ vs) → Q σ' H, ⟨fun pins s σ H v u Q I r h => ?_⟩, fun i v σ F H g Q S r h => ⟨i, F, g, S, r, h⟩⟩
  obtain ⟨i, F, g, S, rr, h⟩ := h
  obtain ⟨_, t, p, q⟩ := hg i
  exact p.run pins s σ H v u Q I r (q v σ F H g Q S rr h)
theorem pss_any {I : Type} {Γs : I → List SD} {x : I → m O} {K : O → Fin} (hb : ∀ i, PB c W (Γs i) body (x i) K) : ∃ u : TS, PSs c.X body u ∧ ∀ i σ F H g D, StF c W g (Γs i) σ F H → den (x i) (fun o g' => PostS c W F D (K o) g') (PostSE c W F) g → u D σ H := by
  refine ⟨fun D σ H => ∃ i F g, StF c W g (Γs i) σ F H ∧ den (x i) (fun o g' => PostS c W F D (K o) g') (PostSE c W F) g, ⟨fun pins s σ H D I h => ?_⟩, fun i σ F H g D S d => ⟨i, F, g, S, d⟩⟩
  obtain ⟨i, F, g, S, d⟩ := h
  obtain ⟨u, pu, qu⟩ := hb i
  exact pu.run pins s σ H D I (qu σ F H g D S d)
theorem pt_any {I : Type} {Γs : I → List SD} {x : I → m Bool} (hb : ∀ i, PXT c W (Γs i) e (x i)) : ∃ t : TT, PT c.X e t ∧ ∀ i σ F H g Q, StF c W g (Γs i) σ F H → den (x i) (PostB c W (Γs i) σ F Q) (PostE c W (Γs i) σ F) g → t σ H Q := by
  refine ⟨fun σ H Q => ∃ i F g, StF c W g (Γs i) σ F H ∧ den (x i) (PostB c W (Γs i) σ F Q) (PostE c W (Γs i) σ F) g, ⟨fun pins s σ H D I h => ?_⟩, fun i σ F H g D S d => ⟨i, F, g, S, d⟩⟩
  obtain ⟨i, F, g, S, d⟩ := h
  obtain ⟨u, pu, qu⟩ := hb i
  exact pu.run pins s σ H D I (qu σ F H g D S d)
theorem pe_any {I : Type} {β : Type} [Rep β] {Γs : I → List SD} {x : I → m β} (hb : ∀ i, PX c W (Γs i) e (x i)) : ∃ t : TE, PE c.X e t ∧ ∀ i σ F H g Q, StF c W g (Γs i) σ F H → den (x i) (Post c W (Γs i) σ F Q) (PostE c W (Γs i) σ F) g → t σ H Q := by
  refine ⟨fun σ H Q => ∃ i F g, StF c W g (Γs i) σ F H ∧ den (x i) (Post c W (Γs i) σ F Q) (PostE c W (Γs i) σ F) g, ⟨fun pins s σ H D I h => ?_⟩, fun i σ F H g D S d => ⟨i, F, g, S, d⟩⟩
  obtain ⟨i, F, g, S, d⟩ := h
  obtain ⟨u, pu, qu⟩ := hb i
  exact pu.run pins s σ H D I (qu σ F H g D S d)
theorem StF.yield {γ : Type} {W : Wd γ} {g : γ} {σ : St} {F H F' H' : Hp} (S : StF c W g Γ σ F H) (h : Same H H' ∧ Same F F' ∧ Same F' H' ∧ (∀ a o, F a = none → H a = some o → F' a = none)) : StF c W g Γ σ F' H' :=
  S.ext h.1 h.2.1 h.2.2.1 h.2.2.2
/-- the two loops in one: the outcome Lp -/
theorem for_core (C : Ctx c N ks gs bs kk) (he : SubE Γ c.Γe) {Γs : S → List SD} {Γt : S → α → List SD} {s0 : S} {mi : m (List α)} {f : S → α → m (Lp S R)} {Kr : R → Fin} (hKr : ∀ r, (∃ p, Kr r = .rt p)) (hi : PXI c W Γ tg iter mi) (h0 : SubG Γ (Γs s0))
    (hg : ∀ s x, PXG c W (Γs s) tg x (Γt s x) is)
    (hb : ∀ s x, PB c W (Γt s x) body (f s x) (fun o => match o with | .go s => .nx (Γs s) | .cnt s => .ct (Γs s) | .brk s => .bk (Γs s) | .ret r => Kr r)) (hs : ∀ x, foldedSetIterable iter c.X.env x = pure x) :
    ∃ t : TS, PS c.X (.For tg iter body [] pos) t ∧ ∀ σ F H g D, StF c W g Γ σ F H → den (mi >>= fun xs => forL f xs s0) (fun o g' => PostS c W F D (match o with | .inl s => .nx (Γs s) | .inr r => Kr r) g') (PostSE c W F) g → t D σ H := by
  obtain ⟨wi, pi, qi⟩ := hi
  obtain ⟨tg', pg, qg⟩ := tg_any (I := S × α) (c := c) (W := W) (Γs := fun i => Γs i.1) (Γt := fun i => Γt i.1 i.2) (x := fun i => i.2) (is := is) (tg := tg) (fun i => hg i.1 i.2)
  obtain ⟨tb, pb, qb⟩ := pss_any (I := S × α) (Γs := fun i => Γt i.1 i.2) (fun i => hb i.1 i.2)
  refine ⟨_, ps_for C.pass C.calm pi pg pb hs, fun σ F H g D S0 d => qi σ F H g _ S0 (PyM.dmono (PyM.dbind d) (fun xs g1 h1 J F1 H1 e1 S1 J1 => ?_) fun _ _ h => h.at he)⟩
  refine ⟨fun i n σ' H' => ∃ s F' g', n = xs.length - i ∧ i ≤ xs.length ∧ Same F1 F' ∧ StF c W g' (Γs s) σ' F' H' ∧ den (forL f (xs.drop i) s) (fun o g' => PostS c W F' D (match o with | .inl s => .nx (Γs s) | .inr r => Kr r) g') (PostSE c W F') g', ⟨_, s0, F1, g1, rfl, Nat.zero_le _, Same.refl _, S1.sub h0, PyM.dmono h1 (fun _ _ h => h.after e1) fun _ _ h => h.after e1⟩, ?_⟩
  rintro i n σ2 H2 ⟨s, F2, g2, rfl, hil, e2, S2, d2⟩
  by_cases hlt : i < xs.length
  · have hx : xs[i]? = some xs[i] := by simp [hlt]
    refine .inr ⟨J1.go i _ F2 H2 e2 S2.fh hx, fun σ' H' => ∃ s F' g', Same F1 F' ∧ StF c W g' (Γs s) σ' F' H' ∧ den (forL f (xs.drop (i + 1)) s) (fun o g' => PostS c W F' D (match o with | .inl s => .nx (Γs s) | .inr r => Kr r) g') (PostSE c W F') g', fun σ' H' ⟨s, F', g', a1, a2, a3⟩ => ⟨_, by omega, s, F', g', rfl, hlt, a1, a2, a3⟩, fun v H3 y => ?_⟩
    obtain ⟨k1, F3, k2, k3, k4, r3⟩ := J1.yld i _ F2 H2 v H3 e2 S2.fh hx y
    have S3 := S2.yield ⟨k1, k2, k3, k4⟩
    rw [List.drop_eq_getElem_cons hlt] at d2
    refine qg (s, xs[i]) v σ2 F3 H3 g2 _ S3 r3 fun σ4 S4 _ => qb (s, xs[i]) σ4 F3 H3 g2 _ S4 (PyM.dmono (PyM.dbind d2) (fun o g5 h5 => ?_) fun _ _ h => h.after k2)
    cases o with
    | go s' => exact fun σ5 F5 H5 e5 S5 => ⟨s', F5, g5, (e2.trans k2).trans e5, S5, PyM.dmono h5 (fun _ _ h => h.after (k2.trans e5)) fun _ _ h => h.after (k2.trans e5)⟩
    | cnt s' => exact fun σ5 F5 H5 e5 S5 => ⟨s', F5, g5, (e2.trans k2).trans e5, S5, PyM.dmono h5 (fun _ _ h => h.after (k2.trans e5)) fun _ _ h => h.after (k2.trans e5)⟩
    | brk s' => exact fun σ5 F5 H5 e5 S5 => PyM.dpure h5 σ5 F5 H5 (k2.trans e5) S5
    | ret r =>
      obtain ⟨p, hp⟩ := hKr r
      have z := PyM.dpure h5
      simp only [hp] at z ⊢
      exact fun v Γ' σ5 F5 H5 e5 S5 r5 => z v Γ' σ5 F5 H5 (k2.trans e5) S5 r5
  · have hz : xs.drop i = [] := List.drop_eq_nil_of_le (by omega)
    rw [hz] at d2
    exact .inl ⟨J1.stop i F2 H2 e2 S2.fh (by omega), PyM.dpure d2 σ2 F2 H2 (Same.refl _) S2⟩
/-- for, without an end of its own -/
theorem pn_for {Γs : S → List SD} {Γt : S → α → List SD} {s0 : S} {mi : m (List α)} {f : S → α → m S} (C : Ctx c N ks gs bs kk) (he : SubE Γ c.Γe) (hi : PXI c W Γ tg iter mi) (h0 : SubG Γ (Γs s0)) (hg : ∀ s x, PXG c W (Γs s) tg x (Γt s x) is) (hb : ∀ s x, PB c W (Γt s x) body (f s x) (fun s => .nx (Γs s))) (hs : ∀ x, foldedSetIterable iter c.X.env x = pure x := by intro _; rfl) :
    PN c W Γ (.For tg iter body [] pos) (mi >>= fun xs => forN f xs s0) Γs := by
  obtain ⟨wi, pi, qi⟩ := hi
  obtain ⟨tg', pg, qg⟩ := tg_any (I := S × α) (c := c) (W := W) (Γs := fun i => Γs i.1) (Γt := fun i => Γt i.1 i.2) (x := fun i => i.2) (is := is) (tg := tg) (fun i => hg i.1 i.2)
  obtain ⟨tb, pb, qb⟩ := pss_any (I := S × α) (Γs := fun i => Γt i.1 i.2) (fun i => hb i.1 i.2)
  refine ⟨_, ps_for C.pass C.calm pi pg pb hs, fun σ F H g D S0 d => qi σ F H g _ S0 (PyM.dmono (PyM.dbind d) (fun xs g1 h1 J F1 H1 e1 S1 J1 => ?_) fun _ _ h => h.at he)⟩
  refine ⟨fun i n σ' H' => ∃ s F' g', n = xs.length - i ∧ i ≤ xs.length ∧ Same F1 F' ∧ StF c W g' (Γs s) σ' F' H' ∧ den (forN f (xs.drop i) s) (fun o g' => PostS c W F' D (.nx (Γs o)) g') (PostSE c W F') g', ⟨_, s0, F1, g1, rfl, Nat.zero_le _, Same.refl _, S1.sub h0, PyM.dmono h1 (fun _ _ h => PostS.after (f := .nx _) h e1) fun _ _ h => h.after e1⟩, ?_⟩
  rintro i n σ2 H2 ⟨s, F2, g2, rfl, hil, e2, S2, d2⟩
  by_cases hlt : i < xs.length
  · have hx : xs[i]? = some xs[i] := by simp [hlt]
    refine .inr ⟨J1.go i _ F2 H2 e2 S2.fh hx, fun σ' H' => ∃ s F' g', Same F1 F' ∧ StF c W g' (Γs s) σ' F' H' ∧ den (forN f (xs.drop (i + 1)) s) (fun o g' => PostS c W F' D (.nx (Γs o)) g') (PostSE c W F') g', fun σ' H' ⟨s, F', g', a1, a2, a3⟩ => ⟨_, by omega, s, F', g', rfl, hlt, a1, a2, a3⟩, fun v H3 y => ?_⟩
    obtain ⟨k1, F3, k2, k3, k4, r3⟩ := J1.yld i _ F2 H2 v H3 e2 S2.fh hx y
    have S3 := S2.yield ⟨k1, k2, k3, k4⟩
    rw [List.drop_eq_getElem_cons hlt] at d2
    refine qg (s, xs[i]) v σ2 F3 H3 g2 _ S3 r3 fun σ4 S4 _ => qb (s, xs[i]) σ4 F3 H3 g2 _ S4 (PyM.dmono (PyM.dbind d2) (fun s' g5 h5 σ5 F5 H5 e5 S5 => ?_) fun _ _ h => h.after k2)
    exact ⟨s', F5, g5, (e2.trans k2).trans e5, S5, PyM.dmono h5 (fun _ _ h => PostS.after (f := .nx _) h (k2.trans e5)) fun _ _ h => h.after (k2.trans e5)⟩
  · have hz : xs.drop i = [] := List.drop_eq_nil_of_le (by omega)
    rw [hz] at d2
    exact .inl ⟨J1.stop i F2 H2 e2 S2.fh (by omega), PyM.dpure d2 σ2 F2 H2 (Same.refl _) S2⟩
/-- an outcome of a loop's turn -/
def lpFin (Γs : S → List SD) (Kr : R → Fin) : Lp S R → Fin
  | .go s => .nx (Γs s)
  | .cnt s => .ct (Γs s)
  | .brk s => .bk (Γs s)
  | .ret r => Kr r
/-- a statement that may leave by Kr, then the rest -/
theorem pb_exit {Γs : S → List SD} {Kr : R → Fin} {st : Stmt} {k : S → m O} {inj : R → O} {K : O → Fin} (x : m (S ⊕ R)) (hKr : ∀ r, ∃ p, Kr r = .rt p) (h : ∃ t : TS, PS c.X st t ∧ ∀ σ F H g D, StF c W g Γ σ F H → den x (fun o g' => PostS c W F D (match o with | .inl s => .nx (Γs s) | .inr r => Kr r) g') (PostSE c W F) g → t D σ H) (hK : ∀ r, K (inj r) = Kr r) (hr : ∀ s, PB c W (Γs s) rest (k s) K) : PB c W Γ (st :: rest) (x >>= sumK k fun r => pure (inj r)) K := by
  obtain ⟨t, p, q⟩ := h
  obtain ⟨u, pu, qu⟩ := pss_any (I := S) hr
  refine ⟨_, pss_cons p pu, fun σ F H g D S0 d => q σ F H g _ S0 (PyM.dmono (PyM.dbind d) (fun o g1 h1 => ?_) fun _ _ h => h)⟩
  cases o with
  | inl s => exact fun σ1 F1 H1 e1 S1 => qu s σ1 F1 H1 g1 D S1 (PyM.dmono h1 (fun _ _ h => h.after e1) fun _ _ h => h.after e1)
  | inr r =>
    obtain ⟨p, hp⟩ := hKr r
    have z := PyM.dpure h1
    rw [hK, hp] at z
    simp only [hp]
    exact z
/-- for that may be left -/
theorem pb_for {Γs : S → List SD} {Γt : S → α → List SD} {s0 : S} {mi : m (List α)} {f : S → α → m (Lp S R)} {Kr : R → Fin} {k : S → m O} {inj : R → O} {K : O → Fin} (C : Ctx c N ks gs bs kk) (he : SubE Γ c.Γe) (hKr : ∀ r, ∃ p, Kr r = .rt p) (hK : ∀ r, K (inj r) = Kr r) (hi : PXI c W Γ tg iter mi) (h0 : SubG Γ (Γs s0)) (hg : ∀ s x, PXG c W (Γs s) tg x (Γt s x) is) (hb : ∀ s x, PB c W (Γt s x) body (f s x) (lpFin Γs Kr)) (hr : ∀ s, PB c W (Γs s) rest (k s) K) (hs : ∀ x, foldedSetIterable iter c.X.env x = pure x := by intro _; rfl) :
    PB c W Γ (.For tg iter body [] pos :: rest) ((mi >>= fun xs => forL f xs s0) >>= sumK k fun r => pure (inj r)) K :=
  pb_exit _ hKr (for_core C he hKr hi h0 hg (fun s x => by
    obtain ⟨t, p, q⟩ := hb s x
    refine ⟨t, p, fun σ F H g D S0 d => q σ F H g D S0 (PyM.dmono d (fun o g' h => ?_) fun _ _ h => h)⟩
    cases o <;> exact h) hs) hK hr
/-- while -/
theorem pn_while {Γs : S → List SD} {s0 : S} {cond : S → m Bool} {f : S → m S} {n : Nat} (C : Ctx c N ks gs bs kk) (he0 : c.Γe = []) (h0 : SubG Γ (Γs s0)) (hc : ∀ s, PXT c W (Γs s) e (cond s)) (hb : ∀ s, PB c W (Γs s) body (f s) (fun s => .nx (Γs s))) :
    PN c W Γ (.While e body [] pos) (whileN cond f n s0) Γs := by
  obtain ⟨tc, pc, qc⟩ := pt_any hc
  obtain ⟨tb, pb, qb⟩ := pss_any hb
  refine ⟨_, ps_while C.pass pc pb, fun σ F H g D S0 d => ?_⟩
  refine ⟨fun n σ' H' => ∃ s F' g', Same F F' ∧ StF c W g' (Γs s) σ' F' H' ∧ den (whileN cond f n s) (fun o g' => PostS c W F' D (.nx (Γs o)) g') (PostSE c W F') g', ⟨n, s0, F, g, Same.refl _, S0.sub h0, d⟩, ?_⟩
  rintro n σ1 H1 ⟨s, F1, g1, e1, S1, d1⟩
  cases n with
  | zero => exact (dstuck d1).elim
  | succ n =>
    refine qc s σ1 F1 H1 g1 _ S1 (PyM.dmono (PyM.dbind d1) (fun t g2 h2 F2 H2 e2 S2 => ?_) fun _ _ h => h.at (.inl he0))
    cases t with
    | true =>
      refine iteT ⟨fun σ' H' => ∃ s F' g', Same F F' ∧ StF c W g' (Γs s) σ' F' H' ∧ den (whileN cond f n s) (fun o g' => PostS c W F' D (.nx (Γs o)) g') (PostSE c W F') g', fun σ' H' z => ⟨n, Nat.lt_succ_self _, z⟩, ?_⟩
      refine qb s σ1 F2 H2 g2 _ S2 (PyM.dmono (PyM.dbind h2) (fun s' g3 h3 σ3 F3 H3 e3 S3 => ?_) fun _ _ h => h.after e2)
      exact ⟨s', F3, g3, (e1.trans e2).trans e3, S3, PyM.dmono h3 (fun _ _ h => PostS.after (f := .nx _) h (e2.trans e3)) fun _ _ h => h.after (e2.trans e3)⟩
    | false =>
      exact iteF (PyM.dpure h2 σ1 F2 H2 e2 S2)
/-- while that may be left -/
theorem while_core (C : Ctx c N ks gs bs kk) (he0 : c.Γe = []) {Γs : S → List SD} {s0 : S} {cond : S → m Bool} {f : S → m (Lp S R)} {n : Nat} {Kr : R → Fin} (hKr : ∀ r, ∃ p, Kr r = .rt p) (h0 : SubG Γ (Γs s0)) (hc : ∀ s, PXT c W (Γs s) e (cond s)) (hb : ∀ s, PB c W (Γs s) body (f s) (lpFin Γs Kr)) :
    ∃ t : TS, PS c.X (.While e body [] pos) t ∧ ∀ σ F H g D, StF c W g Γ σ F H → den (whileL cond f n s0) (fun o g' => PostS c W F D (match o with | .inl s => .nx (Γs s) | .inr r => Kr r) g') (PostSE c W F) g → t D σ H := by
  obtain ⟨tc, pc, qc⟩ := pt_any hc
  obtain ⟨tb, pb, qb⟩ := pss_any hb
  refine ⟨_, ps_while C.pass pc pb, fun σ F H g D S0 d => ?_⟩
  refine ⟨fun n σ' H' => ∃ s F' g', Same F F' ∧ StF c W g' (Γs s) σ' F' H' ∧ den (whileL cond f n s) (fun o g' => PostS c W F' D (match o with | .inl s => .nx (Γs s) | .inr r => Kr r) g') (PostSE c W F') g', ⟨n, s0, F, g, Same.refl _, S0.sub h0, d⟩, ?_⟩
  rintro n σ1 H1 ⟨s, F1, g1, e1, S1, d1⟩
  cases n with
  | zero => exact (dstuck d1).elim
  | succ n =>
    refine qc s σ1 F1 H1 g1 _ S1 (PyM.dmono (PyM.dbind d1) (fun t g2 h2 F2 H2 e2 S2 => ?_) fun _ _ h => h.at (.inl he0))
    cases t with
    | true =>
      refine iteT ⟨fun σ' H' => ∃ s F' g', Same F F' ∧ StF c W g' (Γs s) σ' F' H' ∧ den (whileL cond f n s) (fun o g' => PostS c W F' D (match o with | .inl s => .nx (Γs s) | .inr r => Kr r) g') (PostSE c W F') g', fun σ' H' z => ⟨n, Nat.lt_succ_self _, z⟩, ?_⟩
      refine qb s σ1 F2 H2 g2 _ S2 (PyM.dmono (PyM.dbind h2) (fun o g3 h3 => ?_) fun _ _ h => h.after e2)
      cases o with
      | go s' => exact fun σ5 F5 H5 e5 S5 => ⟨s', F5, g3, (e1.trans e2).trans e5, S5, PyM.dmono h3 (fun _ _ h => h.after (e2.trans e5)) fun _ _ h => h.after (e2.trans e5)⟩
      | cnt s' => exact fun σ5 F5 H5 e5 S5 => ⟨s', F5, g3, (e1.trans e2).trans e5, S5, PyM.dmono h3 (fun _ _ h => h.after (e2.trans e5)) fun _ _ h => h.after (e2.trans e5)⟩
      | brk s' => exact fun σ5 F5 H5 e5 S5 => PyM.dpure h3 σ5 F5 H5 (e2.trans e5) S5
      | ret r =>
        obtain ⟨p, hp⟩ := hKr r
        have z := PyM.dpure h3
        simp only [lpFin, hp] at z ⊢
        exact fun v Γ' σ5 F5 H5 e5 S5 r5 => z v Γ' σ5 F5 H5 (e2.trans e5) S5 r5
    | false =>
      exact iteF (PyM.dpure h2 σ1 F2 H2 e2 S2)
theorem pb_while {Γs : S → List SD} {s0 : S} {cond : S → m Bool} {f : S → m (Lp S R)} {n : Nat} {Kr : R → Fin} {k : S → m O} {inj : R → O} {K : O → Fin} (C : Ctx c N ks gs bs kk) (he0 : c.Γe = []) (hKr : ∀ r, ∃ p, Kr r = .rt p) (hK : ∀ r, K (inj r) = Kr r) (h0 : SubG Γ (Γs s0)) (hc : ∀ s, PXT c W (Γs s) e (cond s)) (hb : ∀ s, PB c W (Γs s) body (f s) (lpFin Γs Kr)) (hr : ∀ s, PB c W (Γs s) rest (k s) K) :
    PB c W Γ (.While e body [] pos :: rest) (whileL cond f n s0 >>= sumK k fun r => pure (inj r)) K :=
  pb_exit _ hKr (while_core C he0 hKr h0 hc hb) hK hr
end
end SP
namespace SP
open PySem PySem.Spec L2
open Rep (rep)
open PyM (den lift handle)

/-! ### objects of one's own -/
structure Priv {γ : Type} (c : KX) (W : Wd γ) (g : γ) (Γ : List SD) (σ : St) (F : Hp) (a : Addr) : Prop where
  f : F a = none
  p : c.P a = none
  w : ¬ W.has g a
  o : ∀ (j : Nat) (P : LP), Γ[j]? = some (.own P) → σ[j]? ≠ some (some (.ref a))
section
variable {γ : Type} {c : KX} {W : Wd γ} {g : γ} {Γ : List SD} {σ : St} {F H : Hp} {a : Addr} {o : HO}
theorem StF.priv (S : StF c W g Γ σ F H) (hp : H a = none) : Priv c W g Γ σ F a where
  f := S.fh.free hp
  p := S.ph.free hp
  w := fun z => by obtain ⟨_, _, o, e⟩ := S.wf a z; rw [hp] at e; cases e
  o := fun j P e1 e2 => by
    obtain ⟨b, o, e, _, _, _, h, _⟩ := Paired.getQ S.sl e1 e2
    have e : some (V.ref a) = some (.ref b) := e
    cases e
    rw [hp] at h; cases h
/-- what was one's own is shown to all -/
theorem StF.freeze (S : StF c W g Γ σ F H) (p : Priv c W g Γ σ F a) (h : H a = some o) : StF c W g Γ σ (upd F a o) H where
  fh := fun b x e => by
    by_cases hb : b = a
    · subst hb; rw [upd_same] at e; cases e; exact h
    · rw [upd_ne hb] at e; exact S.fh b x e
  ph := S.ph
  dj := fun b x e => by
    by_cases hb : b = a
    · subst hb; exact p.p
    · rw [upd_ne hb] at e; exact S.dj b x e
  wi := W.step S.wi (same_upd p.f) fun _ _ => rfl
  wf := fun b z => by
    obtain ⟨h1, h2, h3⟩ := S.wf b z
    have hb : b ≠ a := fun e => p.w (e ▸ z)
    exact ⟨by rw [upd_ne hb]; exact h1, h2, h3⟩
  sl := Paired.mapI S.sl fun i x y e1 e2 r => by
    cases x with
    | any => trivial
    | val q =>
      obtain ⟨u, e, r⟩ := r
      exact ⟨u, e, q.mono (same_upd p.f) r⟩
    | own q =>
      obtain ⟨b, o', e, h1, h2, h3, h4, mu, h5⟩ := r
      have hb : b ≠ a := fun z => by
        subst z
        subst e
        exact p.o i q e1 e2
      exact ⟨b, o', e, by rw [upd_ne hb]; exact h1, h2, h3, h4, mu, q.mono (same_upd p.f) h5⟩
  ow := S.ow
/-- an object of one's own is changed -/
theorem StF.chg (S : StF c W g Γ σ F H) (p : Priv c W g Γ σ F a) : StF c W g Γ σ F (upd H a o) where
  fh := fun b x e => by
    have hb : b ≠ a := fun z => by subst z; rw [p.f] at e; cases e
    rw [upd_ne hb]; exact S.fh b x e
  ph := fun b x e => by
    have hb : b ≠ a := fun z => by subst z; rw [p.p] at e; cases e
    rw [upd_ne hb]; exact S.ph b x e
  dj := S.dj
  wi := W.step S.wi (Same.refl _) fun b z => upd_ne fun e => p.w (e ▸ z)
  wf := fun b z => by
    obtain ⟨h1, h2, h3⟩ := S.wf b z
    have hb : b ≠ a := fun e => p.w (e ▸ z)
    exact ⟨h1, h2, by rw [upd_ne hb]; exact h3⟩
  sl := Paired.mapI S.sl fun i x y e1 e2 r => by
    cases x with
    | any => trivial
    | val q => exact r
    | own q =>
      obtain ⟨b, o', e, h1, h2, h3, h4, mu, h5⟩ := r
      have hb : b ≠ a := fun z => by
        subst z
        subst e
        exact p.o i q e1 e2
      exact ⟨b, o', e, h1, h2, h3, by rw [upd_ne hb]; exact h4, mu, h5⟩
  ow := S.ow
/-- the slot of what is one's own, left out of the count -/
theorem StF.privOf (S : StF c W g Γ σ F H) {i : Nat} {P : LP} (hi : Γ[i]? = some (.own P)) : ∃ a o, σ[i]? = some (some (.ref a)) ∧ H a = some o ∧ Mut (some o) ∧ P.p c.G a o F ∧ Priv c W g (Γ.set i .any) σ F a := by
  obtain ⟨v, e, a, o, rfl, h1, h2, h3, h4, mu, h5⟩ := Paired.getP S.sl hi
  refine ⟨a, o, e, h4, mu, h5, h1, h2, h3, fun j Q e1 e2 => ?_⟩
  have hj : j ≠ i := fun z => by subst z; exact set_own (by intro P z; cases z) e1
  rw [List.getElem?_set_ne (Ne.symm hj)] at e1
  exact hj (S.ow j i a Q P e1 hi e2 e)
/-- and back -/
theorem StF.putOwn {i : Nat} {P : LP} (S : StF c W g (Γ.set i .any) σ F H) (hσ : σ[i]? = some (some (.ref a))) (h : H a = some o) (mu : Mut (some o)) (hp : P.p c.G a o F) (p : Priv c W g (Γ.set i .any) σ F a) : StF c W g (Γ.set i (.own P)) σ F H := by
  have e : σ.set i (some (.ref a)) = σ := by
    apply List.ext_getElem?
    intro j
    by_cases hj : j = i
    · subst hj
      rw [List.getElem?_set_self (List.getElem?_eq_some_iff.mp hσ).1, hσ]
    · rw [List.getElem?_set_ne (Ne.symm hj)]
  have z := S.seto i p.f p.p p.w h mu hp fun j Q _ e1 => p.o j Q e1
  rw [e, List.set_set] at z
  exact z
theorem StF.putVal {i : Nat} {q : VP} {v : V} (S : StF c W g (Γ.set i .any) σ F H) (hσ : σ[i]? = some (some v)) (hp : q.p c.G v F) : StF c W g (Γ.set i (.val q)) σ F H := by
  have e : σ.set i (some v) = σ := by
    apply List.ext_getElem?
    intro j
    by_cases hj : j = i
    · subst hj
      rw [List.getElem?_set_self (List.getElem?_eq_some_iff.mp hσ).1, hσ]
    · rw [List.getElem?_set_ne (Ne.symm hj)]
  have z := S.setv i hp
  rw [e, List.set_set] at z
  exact z
end
section
variable {m : Type → Type} [PyM m]
def PostO (c : KX) (W : Wd (PyM.γ m)) (Γ : List SD) (σ : St) (F : Hp) (p : LP) (Q : VK) (g' : PyM.γ m) : Prop := ∀ a o F' H', Same F F' → StF c W g' Γ σ F' H' → Priv c W g' Γ σ F' a → H' a = some o → Mut (some o) → p.p c.G a o F' → Q (.ref a) H'
theorem PostO.after {c : KX} {W : Wd (PyM.γ m)} {Γ : List SD} {σ : St} {F F' : Hp} {p : LP} {Q : VK} {g : PyM.γ m} (h : PostO c W Γ σ F p Q g) (e : Same F F') : PostO c W Γ σ F' p Q g :=
  fun a o F'' H'' e2 S => h a o F'' H'' (e.trans e2) S
/-- an expression that makes a new object, nobody else's -/
structure PXO (c : KX) (W : Wd (PyM.γ m)) (Γ : List SD) (e : Expr) {α : Type} (x : m α) (p : α → LP) : Prop where
  run : ∃ t : TE, PE c.X e t ∧ ∀ σ F H g Q, StF c W g Γ σ F H → den x (fun y g' => PostO c W Γ σ F (p y) Q g') (PostE c W Γ σ F) g → t σ H Q
variable {c : KX} {W : Wd (PyM.γ m)} {Γ Γ' : List SD} {e a b : Expr} {es : List Expr} {α β δ ρ O O' : Type} [Rep α] [Rep β] [Rep δ] [Args ρ] {p pos : Pos} {st : Stmt} {rest : List Stmt} {K : O → Fin} {N : List Str} {ks : List Kd} {gs bs : List Str} {kk k : Nat} {n : Str}
/-- x = what is new -/
theorem pn_setO {x : m α} {q : α → LP} {pos' : Pos} {d : Kd} (C : Ctx c N ks gs bs kk) (he : SubE Γ c.Γe) (i : Nat) (hx : PXO c W Γ e x q) (hN : N[i]? = some n := by rfl) (hd : ks[i]? = some d := by rfl) (hl : d.isLoc = true := by rfl) (hs : swapsWith e (some (.Name n pos')) pos.line c.X.env = pure false := by rfl) : PN c W Γ (.Assign [.Name n pos'] e pos) x (fun v => Γ.set i (.own (q v))) := by
  obtain ⟨t, p, qt⟩ := hx
  obtain ⟨l1, l2⟩ := C.loc hN hd hl
  refine ⟨_, ps_set (i := i) (by rw [C.hN]; exact C.nd) (by rw [C.hN]; exact hN) l1 p hs l2, fun σ F H g D S d => qt σ F H g _ S (PyM.dmono d (fun v g1 h1 a o F1 H1 e1 S1 pr ho mu hp => ?_) fun _ _ h => h.at he)⟩
  exact h1 _ F1 H1 e1 (S1.seto i pr.f pr.p pr.w ho mu hp fun j P _ e1 => pr.o j P e1)
/-- what is new, shown to all -/
theorem px_ofL {x : m (List α)} (h : PXO c W Γ e x LP.l) : PX c W Γ e x := by
  obtain ⟨t, p, q⟩ := h
  refine ⟨t, p, fun σ F H g Q S d => q σ F H g Q S (PyM.dmono d (fun xs g1 h1 a o F1 H1 e1 S1 pr ho mu hp => ?_) fun _ _ h => h)⟩
  obtain ⟨vs, rfl, r⟩ := hp
  exact h1 _ (upd F1 a (.lst vs)) H1 (e1.trans (same_upd pr.f)) (S1.freeze pr ho) ⟨a, vs, rfl, upd_same, Reps.mono (same_upd pr.f) r⟩
theorem StF.frzSlot {γ : Type} {W : Wd γ} {g : γ} {σ : St} {F H : Hp} (S : StF c W g Γ σ F H) {i : Nat} {xs : List α} (hi : Γ[i]? = some (.l xs)) : ∃ F', Same F F' ∧ StF c W g (Γ.set i (.v xs)) σ F' H := by
  obtain ⟨a, o, e, h4, mu, h5, pr⟩ := S.privOf hi
  obtain ⟨vs, rfl, r⟩ := h5
  have S1 := (S.drop i).freeze pr h4
  exact ⟨upd F a (.lst vs), same_upd pr.f, S1.putVal e ⟨a, vs, rfl, upd_same, Reps.mono (same_upd pr.f) r⟩⟩
/-- a list of one's own is no more so -/
theorem pb_frz {xs : List α} {bl : List Stmt} {x : m O} (i : Nat) (h : PB c W (Γ.set i (.v xs)) bl x K) (hi : Γ[i]? = some (.l xs) := by rfl) : PB c W Γ bl x K := by
  obtain ⟨t, p, q⟩ := h
  refine ⟨t, p, fun σ F H g D S d => ?_⟩
  obtain ⟨F', e, S'⟩ := S.frzSlot hi
  exact q σ F' H g D S' (PyM.dmono d (fun _ _ h => h.after e) fun _ _ h => h.after e)
theorem Reps.atI {G : GC} {H : Hp} {xs : List α} {vs : List V} {i : Int} {x : α} (r : Reps α G H xs vs) (h : atI xs i = some x) : ∃ v, L2.atI vs i = some v ∧ rep G x v H := by
  unfold L2.atI at h ⊢
  rw [← r.length]
  cases q : ixN xs.length i with
  | none => rw [q] at h; cases h
  | some j =>
    rw [q] at h
    exact r.get h

/-! ### displays -/
def llen (n : Nat) : Prop := n ≤ sizeLine
instance (n : Nat) : Decidable (llen n) := inferInstanceAs (Decidable (n ≤ sizeLine))
/-- several of one kind -/
structure PXAs (c : KX) (W : Wd (PyM.γ m)) (Γ : List SD) (es : List Expr) (x : m (List α)) : Prop where
  run : ∃ t : TA, PA c.X es t ∧ ∀ σ F H g (Q : List V → Hp → Prop), StF c W g Γ σ F H → den x (fun xs g' => ∀ vs F' H', Same F F' → StF c W g' Γ σ F' H' → Reps α c.G F' xs vs → Q vs H') (PostE c W Γ σ F) g → t σ H Q
theorem pxas_nil : PXAs (α := α) c W Γ [] (pure [] : m (List α)) := ⟨_, pa_nil, fun σ F H g Q S d => PyM.dpure d [] F H (Same.refl _) S .nil⟩
theorem pxas_cons {x : m α} {r : m (List α)} (hx : PX c W Γ e x) (hr : PXAs c W Γ es r) (hs : starEach (e :: es) c.X.env = (false, eval e c.X.env) :: starEach es c.X.env := by rfl) : PXAs c W Γ (e :: es) (x >>= fun v => r >>= fun vs => pure (v :: vs)) := by
  obtain ⟨t, p, q⟩ := hx
  obtain ⟨u, pu, qu⟩ := hr
  refine ⟨_, pa_cons p pu hs, fun σ F H g Q S d => q σ F H g _ S (PyM.dmono (PyM.dbind d) (fun v g1 h1 w F1 H1 e1 S1 r1 => ?_) fun _ _ h => h)⟩
  refine qu σ F1 H1 g1 _ S1 (PyM.dmono (PyM.dbind h1) (fun vs g2 h2 ws F2 H2 e2 S2 r2 => ?_) fun _ _ h => h.after e1)
  exact PyM.dpure h2 (w :: ws) F2 H2 (e1.trans e2) S2 (.cons (Rep.mono e2 r1) r2)
theorem mutL {xs : List V} : Mut (some (.lst xs)) := trivial
/-- a new list -/
theorem newL {γ : Type} {W : Wd γ} {g : γ} {σ : St} {F H : Hp} (S : StF c W g Γ σ F H) {l : Addr} {vs : List V} (hl : H l = none) : StF c W g Γ σ F (upd H l (.lst vs)) ∧ Priv c W g Γ σ F l ∧ upd H l (.lst vs) l = some (.lst vs) :=
  ⟨S.allocH hl, S.priv hl, upd_same⟩
theorem pxo_list {x : m (List α)} (h : PXAs c W Γ es x) : PXO c W Γ (.List es pos) (x >>= fun xs => must (llen xs.length) >>= fun _ => pure xs) LP.l := by
  obtain ⟨t, pt, q⟩ := h
  refine ⟨_, pe_lst pt, fun σ F H g Q S d => q σ F H g _ S (PyM.dmono (PyM.dbind d) (fun xs g1 h1 vs F1 H1 e1 S1 r1 => ?_) fun _ _ h => h)⟩
  obtain ⟨h2, h3⟩ := dmust h1
  refine ⟨by rw [← r1.length]; exact h2, fun l hl => ?_⟩
  obtain ⟨S2, pr, e⟩ := newL S1 (vs := vs) hl
  exact PyM.dpure h3 l _ F1 _ e1 S2 pr e mutL ⟨vs, rfl, r1⟩
/-- [] -/
theorem pxo_nil : PXO c W Γ (.List [] pos) (pure [] : m (List α)) LP.l :=
  ⟨_, pe_lst pa_nil, fun σ F H g Q S d => ⟨Nat.zero_le _, fun l hl => by
    obtain ⟨S2, pr, e⟩ := newL S (vs := []) hl
    exact PyM.dpure d l _ F _ (Same.refl _) S2 pr e mutL ⟨[], rfl, .nil⟩⟩⟩
/-! ### tuples: a tuple's own object -/
theorem frz_ok {P : Program} {w : World} {H : Hp} {h : Heap} {a : Addr} {xs : List V} {its : List Value} (hz : xs.length ≤ sizeLine) (r : Vals xs its) (e : h.get? a = some { cls := .type "tuple", data := .seq its.toArray }) :
    ObjOk P w H h a (.frz { cls := .type "tuple", data := .seq its.toArray } (.tup xs)) := ⟨e, hz, its, r, ⟨_, e, rfl, _, rfl⟩⟩
def tTupF (t : TA) : TE := fun σ H Q => t σ H fun vs H1 => vs.length ≤ sizeLine ∧ ∀ p (o : Obj), H1 p = none → o.dict = none → Q (.ref p) (upd H1 p (.frz o (.tup vs)))
theorem pe_tupF {X : Cx} {t : TA} {j : Nat} (h : PA X es t) : PE X (.Tuple es j pos) (tTupF t) := by
  refine ⟨fun pins s σ H Q I hq => ?_⟩
  refine PyProof.Rows.Tuple_ (thn (h.run _ pins s σ H _ I hq) fun us s1 ⟨xs, H1, I1, r, z, q⟩ => ?_)
  refine wpAny_newObj_type ?_ (by show us.toArray.size ≤ sizeLine; rw [List.size_toArray, ← r.length]; exact z)
  have hf : H1 s1.heap.objs.size = none := I1.hok.fresh (Nat.le_refl _)
  exact ⟨.ref s1.heap.objs.size, _, I1.laid (t' := s1.toks) (fun b u e => Heap.get?_push_of_some _ e) (Nat.le_refl _) (frz_ok z r (Heap.get?_push_size _ rfl)), rfl, q _ _ hf rfl⟩
theorem newT {γ : Type} {W : Wd γ} {g : γ} {σ : St} {F H : Hp} (S : StF c W g Γ σ F H) {l : Addr} {o : HO} (hl : H l = none) : Same F (upd F l o) ∧ StF c W g Γ σ (upd F l o) (upd H l o) :=
  ⟨same_upd (S.fh.free hl), S.alloc hl⟩
theorem px_tup {x : m (List α)} {j : Nat} (h : PXAs c W Γ es x) : PX c W Γ (.Tuple es j pos) (x >>= fun xs => must (llen xs.length) >>= fun _ => pure (toT xs)) := by
  obtain ⟨t, pt, q⟩ := h
  refine ⟨_, pe_tupF pt, fun σ F H g Q S d => q σ F H g _ S (PyM.dmono (PyM.dbind d) (fun xs g1 h1 vs F1 H1 e1 S1 r1 => ?_) fun _ _ h => h)⟩
  obtain ⟨h2, h3⟩ := dmust h1
  refine ⟨by rw [← r1.length]; exact h2, fun l o hl ho => ?_⟩
  obtain ⟨e2, S2⟩ := newT (o := .frz o (.tup vs)) S1 hl
  exact PyM.dpure h3 _ _ _ (e1.trans e2) S2 ⟨l, vs, rfl, ⟨o, upd_same, ho⟩, Reps.mono e2 r1⟩
theorem px_unit {j : Nat} : PX c W Γ (.Tuple [] j pos) (pure (toT []) : m (Tup α)) := by
  refine ⟨_, pe_tupF pa_nil, fun σ F H g Q S d => ⟨Nat.zero_le _, fun l o hl ho => ?_⟩⟩
  obtain ⟨e2, S2⟩ := newT (o := .frz o (.tup [])) S hl
  exact PyM.dpure d _ _ _ e2 S2 ⟨l, [], rfl, ⟨o, upd_same, ho⟩, .nil⟩
theorem px_pair {x : m (α × (β × Unit))} {j : Nat} (h : PXA c W Γ [a, b] x) : PX c W Γ (.Tuple [a, b] j pos) (x >>= fun z => pure (z.1, z.2.1) : m (α × β)) := by
  obtain ⟨t, pt, q⟩ := h
  refine ⟨_, pe_tup pt, fun σ F H g Q S d => q σ F H g _ S (PyM.dmono (PyM.dbind d) (fun z g1 h1 vs F1 H1 e1 S1 r1 => ?_) fun _ _ h => h)⟩
  obtain ⟨v, ws, rfl, r2, w, us, rfl, r3, r4⟩ := r1
  have r4 : us = [] := r4
  subst r4
  refine ⟨by show 2 ≤ sizeLine; decide, fun l hl => ?_⟩
  obtain ⟨e2, S2⟩ := newT (o := .tup [v, w]) S1 hl
  exact PyM.dpure h1 _ _ _ (e1.trans e2) S2 ⟨l, v, w, rfl, .of upd_same, Rep.mono e2 r2, Rep.mono e2 r3⟩
theorem px_trip {x : m (α × (β × (δ × Unit)))} {d : Expr} {j : Nat} (h : PXA c W Γ [a, b, d] x) : PX c W Γ (.Tuple [a, b, d] j pos) (x >>= fun q => pure ⟨q.1, q.2.1, q.2.2.1⟩ : m (T3 α β δ)) := by
  obtain ⟨t, pt, q⟩ := h
  refine ⟨_, pe_tup pt, fun σ F H g Q S d => q σ F H g _ S (PyM.dmono (PyM.dbind d) (fun z g1 h1 vs F1 H1 e1 S1 r1 => ?_) fun _ _ h => h)⟩
  obtain ⟨v, ws, rfl, r2, w, us, rfl, r3, y, ts, rfl, r5, r4⟩ := r1
  have r4 : ts = [] := r4
  subst r4
  refine ⟨by show 3 ≤ sizeLine; decide, fun l hl => ?_⟩
  obtain ⟨e2, S2⟩ := newT (o := .tup [v, w, y]) S1 hl
  exact PyM.dpure h1 _ _ _ (e1.trans e2) S2 ⟨l, v, w, y, rfl, .of upd_same, Rep.mono e2 r2, Rep.mono e2 r3, Rep.mono e2 r5⟩
end
end SP
namespace SP
open PySem PySem.Spec L2
open Rep (rep)
open PyM (den lift handle)
section
variable {m : Type → Type} [PyM m] {c : KX} {W : Wd (PyM.γ m)} {Γ Γ' : List SD} {e a b : Expr} {es : List Expr} {α β δ ρ O O' : Type} [Rep α] [Rep β] [Rep δ] [Args ρ] {p p2 pos apos : Pos} {st : Stmt} {rest : List Stmt} {K : O → Fin} {N : List Str} {ks : List Kd} {gs bs : List Str} {kk k : Nat} {n : Str}
theorem reps_int {G : GC} {H : Hp} : ∀ {xs : List Int} {vs : List V}, Reps Int G H xs vs → vs = xs.map V.int
  | _, _, .nil => rfl
  | _, _, .cons r t => by rw [List.map_cons, ← reps_int t]; exact congrArg (· :: _) r
theorem reps_bool {G : GC} {H : Hp} : ∀ {xs : List Bool} {vs : List V}, Reps Bool G H xs vs → vs = xs.map V.bl
  | _, _, .nil => rfl
  | _, _, .cons r t => by rw [List.map_cons, ← reps_bool t]; exact congrArg (· :: _) r
theorem reps_str {G : GC} {H : Hp} : ∀ {xs : List Str} {vs : List V}, Reps Str G H xs vs → vs = xs.map V.str
  | _, _, .nil => rfl
  | _, _, .cons r t => by rw [List.map_cons, ← reps_str t]; exact congrArg (· :: _) r
theorem reps_intM {G : GC} {H : Hp} : ∀ {xs : List Int}, Reps Int G H xs (xs.map V.int)
  | [] => .nil
  | _ :: _ => .cons rfl reps_intM
theorem reps_strM {G : GC} {H : Hp} : ∀ {xs : List Str}, Reps Str G H xs (xs.map V.str)
  | [] => .nil
  | _ :: _ => .cons rfl reps_strM

/-! ### a list that is only read just here -/
structure PXR (c : KX) (W : Wd (PyM.γ m)) (Γ : List SD) (e : Expr) (x : m (List α)) : Prop where
  run : ∃ t : TE, PE c.X e t ∧ ∀ σ F H g Q, StF c W g Γ σ F H → den x (fun xs g' => ∀ a vs F' H', Same F F' → StF c W g' Γ σ F' H' → H' a = some (.lst vs) → Reps α c.G F' xs vs → Q (.ref a) H') (PostE c W Γ σ F) g → t σ H Q
theorem pxr_of {x : m (List α)} (h : PX c W Γ e x) : PXR c W Γ e x := by
  obtain ⟨t, p, q⟩ := h
  refine ⟨t, p, fun σ F H g Q S d => q σ F H g Q S (PyM.dmono d (fun xs g1 h1 v F1 H1 e1 S1 r1 => ?_) fun _ _ h => h)⟩
  obtain ⟨ad, vs, rfl, s, r⟩ := r1
  exact h1 ad vs F1 H1 e1 S1 (S1.fh _ _ s) r
theorem pxr_O {x : m (List α)} (h : PXO c W Γ e x LP.l) : PXR c W Γ e x := by
  obtain ⟨t, p, q⟩ := h
  refine ⟨t, p, fun σ F H g Q S d => q σ F H g Q S (PyM.dmono d (fun xs g1 h1 a o F1 H1 e1 S1 pr ho mu hp => ?_) fun _ _ h => h)⟩
  obtain ⟨vs, rfl, r⟩ := hp
  exact h1 a vs F1 H1 e1 S1 ho r
theorem pxr_own {xs : List α} {d : Kd} (C : Ctx c N ks gs bs kk) (i : Nat) (hΓ : Γ[i]? = some (.l xs) := by rfl) (hN : N[i]? = some n := by rfl) (hd : ks[i]? = some d := by rfl) (hl : d.isVis = true := by rfl) (hdb : (n == ("__debug__" : Str)) = false := by decide) (hcd : (n == ("__classdict__" : Str)) = false := by decide) : PXR c W Γ (.Name n pos) (pure xs : m (List α)) := by
  refine ⟨_, pe_var (i := i) (by rw [C.hN]; exact hN) (C.vis hN hd (by rintro rfl; cases hl)) hdb hcd, fun σ F H g Q S dd => ?_⟩
  obtain ⟨u, e, a, o, rfl, h1, h2, h3, h4, mu, vs, rfl, r⟩ := Paired.getP S.sl hΓ
  exact ⟨.ref a, e, PyM.dpure dd a vs F H (Same.refl _) S h4 r⟩
/-- a name by the context -/
theorem px_nameC {x : α} {d : Kd} (C : Ctx c N ks gs bs kk) (i : Nat) (hΓ : Γ[i]? = some (.v x) := by rfl) (hN : N[i]? = some n := by rfl) (hd : ks[i]? = some d := by rfl) (hl : d.isVis = true := by rfl) (hdb : (n == ("__debug__" : Str)) = false := by decide) (hcd : (n == ("__classdict__" : Str)) = false := by decide) : PX c W Γ (.Name n pos) (pure x : m α) :=
  px_name i hΓ (by rw [C.hN]; exact hN) (C.vis hN hd (by rintro rfl; cases hl)) hdb hcd

/-! ### subscripts -/
def atM (xs : List α) (i : Int) : m α := opt (L2.atI xs i)
theorem px_ix {r : R2} {ma : m α} {mb : m β} {k : α → β → m δ} (ho : IxR c.X r) (hk : OpOk c r k) (ha : PX c W Γ a ma) (hb : PX c W Γ b mb) (hs : PlainIx b := by exact fun _ _ => rfl) : PX c W Γ (.Subscript a b pos) (ma >>= fun x => mb >>= fun y => k x y) := by
  obtain ⟨ta, pa, qa⟩ := ha
  obtain ⟨tb, pb, qb⟩ := hb
  refine ⟨_, pe_ix ho pa pb hs, fun σ F H g Q S d => qa σ F H g _ S (PyM.dmono (PyM.dbind d) (fun x g1 h1 v F1 H1 e1 S1 r1 => ?_) fun _ _ h => h)⟩
  refine qb σ F1 H1 g1 _ S1 (PyM.dmono (PyM.dbind h1) (fun y g2 h2 u F2 H2 e2 S2 r2 => ?_) fun _ _ h => h.after e1)
  exact hk W Γ σ F2 H2 g2 Q x y v u S2 (Rep.mono e2 r1) r2 (PyM.dmono h2 (fun _ _ h => h.after (e1.trans e2)) fun _ _ h => h.after (e1.trans e2))
theorem dopt1 {Q : α → PyM.γ m → Prop} {E : Exc → PyM.γ m → Prop} {g : PyM.γ m} {x : Option α} (h : den (opt x : m α) Q E g) : ∃ a, x = some a ∧ Q a g := by
  have h1 := PyM.dlift h
  cases x with
  | some a => exact ⟨a, rfl, h1⟩
  | none => exact h1.elim
theorem px_ixL {ma : m (List α)} {mb : m Int} (ha : PX c W Γ a ma) (hb : PX c W Γ b mb) (hs : PlainIx b := by exact fun _ _ => rfl) : PX c W Γ (.Subscript a b pos) (ma >>= fun xs => mb >>= fun i => atM xs i) :=
  px_ix ix_list (fun W Γ σ F H g Q x y v u S r1 r2 d => by
    obtain ⟨ad, vs, rfl, s, r⟩ := r1
    have r2 : u = .int y := r2
    subst r2
    obtain ⟨z, hz, hq⟩ := dopt1 d
    obtain ⟨w, hw, rw'⟩ := r.atI hz
    exact ⟨ad, vs, y, w, rfl, rfl, .of (S.fh _ _ s), hw, hq w F H (Same.refl _) S rw'⟩) ha hb hs
theorem px_ixT {ma : m (Tup α)} {mb : m Int} (ha : PX c W Γ a ma) (hb : PX c W Γ b mb) (hs : PlainIx b := by exact fun _ _ => rfl) : PX c W Γ (.Subscript a b pos) (ma >>= fun xs => mb >>= fun i => atM xs.l i) :=
  px_ix ix_tup (fun W Γ σ F H g Q x y v u S r1 r2 d => by
    obtain ⟨ad, vs, rfl, s, r⟩ := r1
    have r2 : u = .int y := r2
    subst r2
    obtain ⟨z, hz, hq⟩ := dopt1 d
    obtain ⟨w, hw, rw'⟩ := Reps.atI r hz
    exact ⟨ad, vs, y, w, rfl, rfl, Same.tup S.fh s.sq, hw, hq w F H (Same.refl _) S rw'⟩) ha hb hs
/-- an owned list at a place -/
theorem px_ixO {xs : List α} {mb : m Int} {d : Kd} (C : Ctx c N ks gs bs kk) (i : Nat) (hb : PX c W Γ b mb) (hΓ : Γ[i]? = some (.l xs) := by rfl) (hN : N[i]? = some n := by rfl) (hd : ks[i]? = some d := by rfl) (hl : d.isVis = true := by rfl) (hdb : (n == ("__debug__" : Str)) = false := by decide) (hcd : (n == ("__classdict__" : Str)) = false := by decide) (hs : PlainIx b := by exact fun _ _ => rfl) : PX c W Γ (.Subscript (.Name n p) b pos) (mb >>= fun i => atM xs i) := by
  obtain ⟨tb, pb, qb⟩ := hb
  refine ⟨_, pe_ix ix_list (pe_var (i := i) (by rw [C.hN]; exact hN) (C.vis hN hd (by rintro rfl; cases hl)) hdb hcd) pb hs, fun σ F H g Q S dd => ?_⟩
  obtain ⟨u, e, a, o, rfl, _⟩ := Paired.getP S.sl hΓ
  refine ⟨.ref a, e, qb σ F H g _ S (PyM.dmono (PyM.dbind dd) (fun y g1 h1 v F1 H1 e1 S1 r1 => ?_) fun _ _ h => h)⟩
  have r1 : v = .int y := r1
  subst r1
  obtain ⟨u', e', a', o', rfl, h1', h2', h3', h4', mu, vs, rfl, r⟩ := Paired.getP S1.sl hΓ
  rw [e] at e'; cases e'
  obtain ⟨z, hz, hq⟩ := dopt1 h1
  obtain ⟨w, hw, rw'⟩ := r.atI hz
  exact ⟨a, vs, y, w, rfl, rfl, .of h4', hw, hq w F1 H1 e1 S1 rw'⟩
theorem px_fst {j pos'} {ma : m (α × β)} (ha : PX c W Γ a ma) : PX c W Γ (.Subscript a (.Constant (.int 0) j pos') pos) (ma >>= fun x => pure x.1) := by
  obtain ⟨ta, pa, qa⟩ := ha
  refine ⟨_, pe_ix ix_tup pa pe_int (fun _ _ => rfl), fun σ F H g Q S d => qa σ F H g _ S (PyM.dmono (PyM.dbind d) (fun x g1 h1 v F1 H1 e1 S1 r1 => ?_) fun _ _ h => h)⟩
  obtain ⟨ad, v1, v2, rfl, s, r2, r3⟩ := r1
  exact ⟨ad, _, 0, v1, rfl, rfl, Same.tup S1.fh s, rfl, PyM.dpure h1 v1 F1 H1 e1 S1 r2⟩
theorem px_snd {j pos'} {ma : m (α × β)} (ha : PX c W Γ a ma) : PX c W Γ (.Subscript a (.Constant (.int 1) j pos') pos) (ma >>= fun x => pure x.2) := by
  obtain ⟨ta, pa, qa⟩ := ha
  refine ⟨_, pe_ix ix_tup pa pe_int (fun _ _ => rfl), fun σ F H g Q S d => qa σ F H g _ S (PyM.dmono (PyM.dbind d) (fun x g1 h1 v F1 H1 e1 S1 r1 => ?_) fun _ _ h => h)⟩
  obtain ⟨ad, v1, v2, rfl, s, r2, r3⟩ := r1
  exact ⟨ad, _, 1, v2, rfl, rfl, Same.tup S1.fh s, rfl, PyM.dpure h1 v2 F1 H1 e1 S1 r3⟩
theorem px_t1 {j pos'} {ma : m (T3 α β δ)} (ha : PX c W Γ a ma) : PX c W Γ (.Subscript a (.Constant (.int 0) j pos') pos) (ma >>= fun x => pure x.a) := by
  obtain ⟨ta, pa, qa⟩ := ha
  refine ⟨_, pe_ix ix_tup pa pe_int (fun _ _ => rfl), fun σ F H g Q S d => qa σ F H g _ S (PyM.dmono (PyM.dbind d) (fun x g1 h1 v F1 H1 e1 S1 r1 => ?_) fun _ _ h => h)⟩
  obtain ⟨ad, v1, v2, v3, rfl, s, r2, r3, r4⟩ := r1
  exact ⟨ad, _, 0, v1, rfl, rfl, Same.tup S1.fh s, rfl, PyM.dpure h1 v1 F1 H1 e1 S1 r2⟩
theorem px_t2 {j pos'} {ma : m (T3 α β δ)} (ha : PX c W Γ a ma) : PX c W Γ (.Subscript a (.Constant (.int 1) j pos') pos) (ma >>= fun x => pure x.b) := by
  obtain ⟨ta, pa, qa⟩ := ha
  refine ⟨_, pe_ix ix_tup pa pe_int (fun _ _ => rfl), fun σ F H g Q S d => qa σ F H g _ S (PyM.dmono (PyM.dbind d) (fun x g1 h1 v F1 H1 e1 S1 r1 => ?_) fun _ _ h => h)⟩
  obtain ⟨ad, v1, v2, v3, rfl, s, r2, r3, r4⟩ := r1
  exact ⟨ad, _, 1, v2, rfl, rfl, Same.tup S1.fh s, rfl, PyM.dpure h1 v2 F1 H1 e1 S1 r3⟩
theorem px_t3 {j pos'} {ma : m (T3 α β δ)} (ha : PX c W Γ a ma) : PX c W Γ (.Subscript a (.Constant (.int 2) j pos') pos) (ma >>= fun x => pure x.c) := by
  obtain ⟨ta, pa, qa⟩ := ha
  refine ⟨_, pe_ix ix_tup pa pe_int (fun _ _ => rfl), fun σ F H g Q S d => qa σ F H g _ S (PyM.dmono (PyM.dbind d) (fun x g1 h1 v F1 H1 e1 S1 r1 => ?_) fun _ _ h => h)⟩
  obtain ⟨ad, v1, v2, v3, rfl, s, r2, r3, r4⟩ := r1
  exact ⟨ad, _, 2, v3, rfl, rfl, Same.tup S1.fh s, rfl, PyM.dpure h1 v3 F1 H1 e1 S1 r4⟩
/-- the sign at a place -/
def chrS (ch : Nat) : Str := ⟨#[ch]⟩
theorem px_ixS {ma : m Str} {mb : m Int} (ha : PX c W Γ a ma) (hb : PX c W Γ b mb) (hs : PlainIx b := by exact fun _ _ => rfl) : PX c W Γ (.Subscript a b pos) (ma >>= fun z => mb >>= fun i => must (llen z.length) >>= fun _ => opt (L2.atI z.cps.toList i) >>= fun ch => pure (chrS ch)) :=
  px_ix ix_str (fun W Γ σ F H g Q x y v u S r1 r2 d => by
    have r1 : v = .str x := r1
    have r2 : u = .int y := r2
    subst r1 r2
    obtain ⟨hz, d⟩ := dmust d
    obtain ⟨ch, hc, d⟩ := dopt d
    exact ⟨x, y, ch, rfl, rfl, hz, hc, PyM.dpure d _ F H (Same.refl _) S rfl⟩) ha hb hs

/-! ### parts -/
def cut {α : Type} (xs : List α) (lo hi : Option Int) : List α := (xs.drop (HT.sIx xs.length 0 lo)).take (HT.sIx xs.length xs.length hi - HT.sIx xs.length 0 lo)
theorem Reps.cut {G : GC} {H : Hp} {xs : List α} {vs : List V} (r : Reps α G H xs vs) (lo hi : Option Int) : Reps α G H (cut xs lo hi) (cutV vs lo hi) := by
  unfold SP.cut cutV
  rw [← r.length]
  exact Reps.take _ (Reps.drop _ r)
structure PXP (c : KX) (W : Wd (PyM.γ m)) (Γ : List SD) (e : Option Expr) (x : m (Option Int)) : Prop where
  run : ∃ t : TO, PO c.X e t ∧ ∀ σ F H g Q, StF c W g Γ σ F H → den x (fun o g' => ∀ F' H', Same F F' → StF c W g' Γ σ F' H' → Q o H') (PostE c W Γ σ F) g → t σ H Q
theorem pxp_none : PXP c W Γ none (pure none : m (Option Int)) := ⟨_, po_none, fun σ F H g Q S d => PyM.dpure d F H (Same.refl _) S⟩
theorem pxp_some {x : m Int} (h : PX c W Γ e x) : PXP c W Γ (some e) (x >>= fun i => pure (some i)) := by
  obtain ⟨t, p, q⟩ := h
  refine ⟨_, po_some p, fun σ F H g Q S d => q σ F H g _ S (PyM.dmono (PyM.dbind d) (fun i g1 h1 v F1 H1 e1 S1 r1 => ?_) fun _ _ h => h)⟩
  exact ⟨i, r1, PyM.dpure h1 F1 H1 e1 S1⟩
/-- xs[lo:hi]: a new list -/
theorem pxo_slL {ma : m (List α)} {lo hi : Option Expr} {ml mh : m (Option Int)} (ha : PX c W Γ a ma) (hl : PXP c W Γ lo ml) (hh : PXP c W Γ hi mh) : PXO c W Γ (.Subscript a (.Slice lo hi none p2) pos) (ma >>= fun xs => ml >>= fun l => mh >>= fun h => pure (cut xs l h)) LP.l := by
  obtain ⟨ta, pa, qa⟩ := ha
  obtain ⟨tl, pl, ql⟩ := hl
  obtain ⟨th, ph, qh⟩ := hh
  refine ⟨_, pe_slice sl_list pa pl ph, fun σ F H g Q S d => qa σ F H g _ S (PyM.dmono (PyM.dbind d) (fun xs g1 h1 v F1 H1 e1 S1 r1 => ?_) fun _ _ h => h)⟩
  refine ql σ F1 H1 g1 _ S1 (PyM.dmono (PyM.dbind h1) (fun l g2 h2 F2 H2 e2 S2 => ?_) fun _ _ h => h.after e1)
  refine qh σ F2 H2 g2 _ S2 (PyM.dmono (PyM.dbind h2) (fun u g3 h3 F3 H3 e3 S3 => ?_) fun _ _ h => h.after (e1.trans e2))
  obtain ⟨ad, vs, rfl, s, r⟩ := r1
  refine ⟨ad, vs, rfl, .of (S3.fh _ _ ((e2.trans e3) _ _ s)), fun q hq => ?_⟩
  obtain ⟨S4, pr, e4⟩ := newL S3 (vs := cutV vs l u) hq
  exact PyM.dpure h3 q _ F3 _ ((e1.trans e2).trans e3) S4 pr e4 mutL ⟨_, rfl, Reps.mono (e2.trans e3) (r.cut l u)⟩
theorem pxo_slScr {ma : m Scr} {lo hi : Option Expr} {ml mh : m (Option Int)} (ha : PX c W Γ a ma) (hl : PXP c W Γ lo ml) (hh : PXP c W Γ hi mh) : PXO c W Γ (.Subscript a (.Slice lo hi none p2) pos) (ma >>= fun xs => ml >>= fun l => mh >>= fun h => pure (cut (α := Int) xs l h)) LP.l := by
  obtain ⟨ta, pa, qa⟩ := ha
  obtain ⟨tl, pl, ql⟩ := hl
  obtain ⟨th, ph, qh⟩ := hh
  refine ⟨_, pe_slice sl_list pa pl ph, fun σ F H g Q S d => qa σ F H g _ S (PyM.dmono (PyM.dbind d) (fun xs g1 h1 v F1 H1 e1 S1 r1 => ?_) fun _ _ h => h)⟩
  refine ql σ F1 H1 g1 _ S1 (PyM.dmono (PyM.dbind h1) (fun l g2 h2 F2 H2 e2 S2 => ?_) fun _ _ h => h.after e1)
  refine qh σ F2 H2 g2 _ S2 (PyM.dmono (PyM.dbind h2) (fun u g3 h3 F3 H3 e3 S3 => ?_) fun _ _ h => h.after (e1.trans e2))
  obtain ⟨ad, rfl, s⟩ := r1
  refine ⟨ad, _, rfl, Same.seq ((e2.trans e3).trans S3.fh) s, fun q hq => ?_⟩
  obtain ⟨S4, pr, e4⟩ := newL S3 (vs := cutV (List.map V.int xs) l u) hq
  exact PyM.dpure h3 q _ F3 _ ((e1.trans e2).trans e3) S4 pr e4 mutL ⟨_, rfl, reps_intM.cut l u⟩
/-- xs[::-1] -/
def tRevL (K : PySem.W.Frag) (te : TE) : TE := fun σ H Q => te σ H fun x H1 => ∃ a xs, x = .ref a ∧ SqL K H1 a xs ∧ ∀ p, H1 p = none → Q (.ref p) (upd H1 p (.lst xs.reverse))
theorem pe_revL {X : Cx} {te : TE} {p3 p4 : Pos} {j : Nat} (he : PE X e te) : PE X (.Subscript e (.Slice none none (some (.UnaryOp .USub (.Constant (.int 1) j p3) p4)) p2) pos) (tRevL X.K te) := by
  refine ⟨fun pins s σ H Q I h => ?_⟩
  refine PyProof.Rows.Subscript_ (thn (he.run pins s σ H _ I h) fun v s1 ⟨x, H1, I1, r1, q1⟩ => ?_)
  obtain ⟨ad, xs, rfl, hx, q⟩ := q1
  cases r1
  refine wpAny_Slice ?_
  rw [evalPart_none]
  refine wpAny_pure ?_
  refine wpAny_pure ?_
  rw [evalPart_some]
  refine thn ((pe_un (X := X) un_neg (pe_int (i := 1) (j := j) (pos := p3)) (pos := p4)).run pins s1 σ H1 (fun v H' => v = .int (-1) ∧ H' = H1) I1 ⟨1, rfl, rfl, rfl⟩) fun u s2 ⟨x2, H2, I2, r2, e2, e3⟩ => ?_
  subst e3 e2
  obtain ⟨t, rfl⟩ := r2
  obtain ⟨its, r, ht, hz⟩ := I2.list hx
  have hlen := r.length
  have I4 : Inv X pins σ H2 { s2 with heap := s2.heap.push { cls := .type "slice", data := .fields #[.none, .none, .int (-1) t] } } := I2.kept (t' := s2.toks) fun b ob q => Heap.get?_push_of_some _ q
  show wpAny (model X.prog X.w) X.A (PyProof.Rows.subscriptTail e (.Slice none none (some (.UnaryOp .USub (.Constant (.int 1) j p3) p4)) p2) (.ref ad) (.ref s2.heap.objs.size)) (EP X pins σ Q) X.xe { s2 with heap := s2.heap.push { cls := .type "slice", data := .fields #[.none, .none, .int (-1) t] } }
  have hl2 : (s2.heap.push { cls := .type "slice", data := .fields #[.none, .none, .int (-1) t] }).IsList ad its.toArray := ht.isList.push _
  refine PyProof.Rows.tail_any (Heap.IsList.typeIs (s := { s2 with heap := s2.heap.push { cls := .type "slice", data := .fields #[.none, .none, .int (-1) t] } }) hl2) slot_list_getitem.lookup
    (wpAny_getItem_list_slice hl2 (Heap.IsSliceOf.new ..) .none .none (.int (-1) t) (by decide) ?_ (by rw [List.size_toArray, ← hlen]; exact hz)) (by with_unfolding_all rfl)
  rw [PySem.W.krv_pick]
  refine ⟨.ref _, _, I4.laid (t' := s2.toks) (o := .lst xs.reverse) (fun b ob q => Heap.get?_push_of_some _ q) (Nat.le_refl _) ?_, rfl, q _ (I4.hok.fresh (Nat.le_refl _))⟩
  refine ⟨by rw [List.length_reverse]; exact hz, its.reverse, 0, ?_, Heap.get?_push_size _ rfl⟩
  have rv : ∀ {xs : List V} {us : List Value}, Vals xs us → Vals xs.reverse us.reverse := by
    intro xs us h
    induction h with
    | nil => exact .nil
    | cons a b ih => rw [List.reverse_cons, List.reverse_cons]; exact ih.append (.cons a .nil)
  exact rv r
theorem pxo_rev {ma : m (List α)} {p3 p4 : Pos} {j : Nat} (ha : PXR c W Γ e ma) : PXO c W Γ (.Subscript e (.Slice none none (some (.UnaryOp .USub (.Constant (.int 1) j p3) p4)) p2) pos) (ma >>= fun xs => pure xs.reverse) LP.l := by
  obtain ⟨t, pt, q⟩ := ha
  refine ⟨_, pe_revL pt, fun σ F H g Q S d => q σ F H g _ S (PyM.dmono (PyM.dbind d) (fun xs g1 h1 a vs F1 H1 e1 S1 ha r1 => ?_) fun _ _ h => h)⟩
  refine ⟨a, vs, rfl, .of ha, fun q hq => ?_⟩
  obtain ⟨S4, pr, e4⟩ := newL S1 (vs := vs.reverse) hq
  exact PyM.dpure h1 q _ F1 _ e1 S4 pr e4 mutL ⟨_, rfl, r1.reverse⟩
end
end SP
namespace SP
open PySem PySem.Spec L2
open Rep (rep)
open PyM (den lift handle)
section
variable {m : Type → Type} [PyM m] {c : KX} {W : Wd (PyM.γ m)} {Γ Γ' : List SD} {e a b : Expr} {es : List Expr} {α β δ ρ O O' : Type} [Rep α] [Rep β] [Rep δ] [Args ρ] {p p2 pos apos : Pos} {st : Stmt} {rest : List Stmt} {K : O → Fin} {N : List Str} {ks : List Kd} {gs bs : List Str} {kk k : Nat} {n : Str}
/-! ### built-ins of one argument -/
def stE (e : Expr) (env : Env) : Prop := starEach [e] env = (false, eval e env) :: starEach [] env
/-- f(list) to a value -/
theorem px_bR {id : String} {r : List V → Hp → VK → Prop} {x : m (List α)} {f : List α → m δ} (C : Ctx c N ks gs bs kk) (j : Nat) (hc : CallR c.X (.builtin id) r)
    (hk : ∀ (W : Wd (PyM.γ m)) (Γ : List SD) σ F H g Q a vs (xs : List α), StF c W g Γ σ F H → H a = some (.lst vs) → Reps α c.G F xs vs → den (f xs) (Post c W Γ σ F Q) (PostE c W Γ σ F) g → r [.ref a] H Q)
    (hb : bootBuiltins n = some (.builtin id)) (ha : PXR c W Γ a x) (hj : bs[j]? = some n := by rfl) (hn : n ≠ "__name__" := by decide) (hdb : (n == ("__debug__" : Str)) = false := by decide) (hs : starEach [a] c.X.env = (false, eval a c.X.env) :: starEach [] c.X.env := by rfl) :
    PX c W Γ (.Call (.Name n p) [a] [] pos) (x >>= f) := by
  obtain ⟨t, pt, q⟩ := ha
  obtain ⟨b1, b2⟩ := C.bl j _ hj
  refine ⟨_, pe_callB hc b1 b2 hb (pa_cons pt pa_nil hs) hn hdb hs, fun σ F H g Q S d => q σ F H g _ S (PyM.dmono (PyM.dbind d) (fun xs g1 h1 a vs F1 H1 e1 S1 ha r1 => ?_) fun _ _ h => h)⟩
  exact hk W Γ σ F1 H1 g1 Q a vs xs S1 ha r1 (PyM.dmono h1 (fun _ _ h => h.after e1) fun _ _ h => h.after e1)
theorem px_bV {id : String} {r : List V → Hp → VK → Prop} {x : m α} {f : α → m δ} (C : Ctx c N ks gs bs kk) (j : Nat) (hc : CallR c.X (.builtin id) r)
    (hk : ∀ (W : Wd (PyM.γ m)) (Γ : List SD) σ F H g Q v (y : α), StF c W g Γ σ F H → rep c.G y v F → den (f y) (Post c W Γ σ F Q) (PostE c W Γ σ F) g → r [v] H Q)
    (hb : bootBuiltins n = some (.builtin id)) (ha : PX c W Γ a x) (hj : bs[j]? = some n := by rfl) (hn : n ≠ "__name__" := by decide) (hdb : (n == ("__debug__" : Str)) = false := by decide) (hs : starEach [a] c.X.env = (false, eval a c.X.env) :: starEach [] c.X.env := by rfl) :
    PX c W Γ (.Call (.Name n p) [a] [] pos) (x >>= f) := by
  obtain ⟨t, pt, q⟩ := ha
  obtain ⟨b1, b2⟩ := C.bl j _ hj
  refine ⟨_, pe_callB hc b1 b2 hb (pa_cons pt pa_nil hs) hn hdb hs, fun σ F H g Q S d => q σ F H g _ S (PyM.dmono (PyM.dbind d) (fun y g1 h1 v F1 H1 e1 S1 r1 => ?_) fun _ _ h => h)⟩
  exact hk W Γ σ F1 H1 g1 Q v y S1 r1 (PyM.dmono h1 (fun _ _ h => h.after e1) fun _ _ h => h.after e1)
theorem px_tV {T : String} {r : List V → Hp → VK → Prop} {x : m α} {f : α → m δ} (C : Ctx c N ks gs bs kk) (j : Nat) (hc : CallR c.X (.type T) r)
    (hk : ∀ (W : Wd (PyM.γ m)) (Γ : List SD) σ F H g Q v (y : α), StF c W g Γ σ F H → rep c.G y v F → den (f y) (Post c W Γ σ F Q) (PostE c W Γ σ F) g → r [v] H Q)
    (hb : bootBuiltins n = some (.type T)) (ha : PX c W Γ a x) (hj : bs[j]? = some n := by rfl) (hn : n ≠ "__name__" := by decide) (hdb : (n == ("__debug__" : Str)) = false := by decide) (hs : starEach [a] c.X.env = (false, eval a c.X.env) :: starEach [] c.X.env := by rfl) :
    PX c W Γ (.Call (.Name n p) [a] [] pos) (x >>= f) := by
  obtain ⟨t, pt, q⟩ := ha
  obtain ⟨b1, b2⟩ := C.bl j _ hj
  refine ⟨_, pe_callTy hc b1 b2 hb (pa_cons pt pa_nil hs) hn hdb hs, fun σ F H g Q S d => q σ F H g _ S (PyM.dmono (PyM.dbind d) (fun y g1 h1 v F1 H1 e1 S1 r1 => ?_) fun _ _ h => h)⟩
  exact hk W Γ σ F1 H1 g1 Q v y S1 r1 (PyM.dmono h1 (fun _ _ h => h.after e1) fun _ _ h => h.after e1)
theorem pxo_tR {T : String} {r : List V → Hp → VK → Prop} {x : m (List α)} {f : List α → m O} {q : O → LP} (C : Ctx c N ks gs bs kk) (j : Nat) (hc : CallR c.X (.type T) r)
    (hk : ∀ (W : Wd (PyM.γ m)) (Γ : List SD) σ F H g Q a vs (xs : List α), StF c W g Γ σ F H → H a = some (.lst vs) → Reps α c.G F xs vs → den (f xs) (fun y g' => PostO c W Γ σ F (q y) Q g') (PostE c W Γ σ F) g → r [.ref a] H Q)
    (hb : bootBuiltins n = some (.type T)) (ha : PXR c W Γ a x) (hj : bs[j]? = some n := by rfl) (hn : n ≠ "__name__" := by decide) (hdb : (n == ("__debug__" : Str)) = false := by decide) (hs : starEach [a] c.X.env = (false, eval a c.X.env) :: starEach [] c.X.env := by rfl) :
    PXO c W Γ (.Call (.Name n p) [a] [] pos) (x >>= f) q := by
  obtain ⟨t, pt, qq⟩ := ha
  obtain ⟨b1, b2⟩ := C.bl j _ hj
  refine ⟨_, pe_callTy hc b1 b2 hb (pa_cons pt pa_nil hs) hn hdb hs, fun σ F H g Q S d => qq σ F H g _ S (PyM.dmono (PyM.dbind d) (fun xs g1 h1 a vs F1 H1 e1 S1 ha r1 => ?_) fun _ _ h => h)⟩
  exact hk W Γ σ F1 H1 g1 Q a vs xs S1 ha r1 (PyM.dmono h1 (fun _ _ h => h.after e1) fun _ _ h => h.after e1)
theorem pxo_bR {T : String} {r : List V → Hp → VK → Prop} {x : m (List α)} {f : List α → m O} {q : O → LP} (C : Ctx c N ks gs bs kk) (j : Nat) (hc : CallR c.X (.builtin T) r)
    (hk : ∀ (W : Wd (PyM.γ m)) (Γ : List SD) σ F H g Q a vs (xs : List α), StF c W g Γ σ F H → H a = some (.lst vs) → Reps α c.G F xs vs → den (f xs) (fun y g' => PostO c W Γ σ F (q y) Q g') (PostE c W Γ σ F) g → r [.ref a] H Q)
    (hb : bootBuiltins n = some (.builtin T)) (ha : PXR c W Γ a x) (hj : bs[j]? = some n := by rfl) (hn : n ≠ "__name__" := by decide) (hdb : (n == ("__debug__" : Str)) = false := by decide) (hs : starEach [a] c.X.env = (false, eval a c.X.env) :: starEach [] c.X.env := by rfl) :
    PXO c W Γ (.Call (.Name n p) [a] [] pos) (x >>= f) q := by
  obtain ⟨t, pt, qq⟩ := ha
  obtain ⟨b1, b2⟩ := C.bl j _ hj
  refine ⟨_, pe_callB hc b1 b2 hb (pa_cons pt pa_nil hs) hn hdb hs, fun σ F H g Q S d => qq σ F H g _ S (PyM.dmono (PyM.dbind d) (fun xs g1 h1 a vs F1 H1 e1 S1 ha r1 => ?_) fun _ _ h => h)⟩
  exact hk W Γ σ F1 H1 g1 Q a vs xs S1 ha r1 (PyM.dmono h1 (fun _ _ h => h.after e1) fun _ _ h => h.after e1)
theorem dret {Q : α → PyM.γ m → Prop} {E : Exc → PyM.γ m → Prop} {g : PyM.γ m} {x : α} (h : den (pure x : m α) Q E g) : Q x g := PyM.dpure h

/-- len of a list, a tuple, a text -/
theorem px_lenL {x : m (List α)} (C : Ctx c N ks gs bs kk) (j : Nat) (ha : PXR c W Γ a x) (hj : bs[j]? = some ("len" : Str) := by rfl) (hs : starEach [a] c.X.env = (false, eval a c.X.env) :: starEach [] c.X.env := by rfl) : PX c W Γ (.Call (.Name "len" p) [a] [] pos) (x >>= fun xs => pure (xs.length : Int)) :=
  px_bR C j call_len_seq (fun W Γ σ F H g Q a vs xs S ha r d => ⟨a, vs, rfl, .inl (.of ha), by rw [← r.length]; exact dret d _ F H (Same.refl _) S rfl⟩) boot_len ha hj (by decide) (by decide) hs
theorem px_lenT {x : m (Tup α)} (C : Ctx c N ks gs bs kk) (j : Nat) (ha : PX c W Γ a x) (hj : bs[j]? = some ("len" : Str) := by rfl) (hs : starEach [a] c.X.env = (false, eval a c.X.env) :: starEach [] c.X.env := by rfl) : PX c W Γ (.Call (.Name "len" p) [a] [] pos) (x >>= fun xs => pure (xs.l.length : Int)) :=
  px_bV C j call_len_seq (fun W Γ σ F H g Q v y S r d => by
    obtain ⟨ad, vs, rfl, s, r⟩ := r
    exact ⟨ad, vs, rfl, .inr (Same.tup S.fh s.sq), by rw [← Reps.length r]; exact dret d _ F H (Same.refl _) S rfl⟩) boot_len ha hj (by decide) (by decide) hs
theorem px_lenS {x : m Str} (C : Ctx c N ks gs bs kk) (j : Nat) (ha : PX c W Γ a x) (hj : bs[j]? = some ("len" : Str) := by rfl) (hs : starEach [a] c.X.env = (false, eval a c.X.env) :: starEach [] c.X.env := by rfl) : PX c W Γ (.Call (.Name "len" p) [a] [] pos) (x >>= fun z => must (llen z.length) >>= fun _ => pure (z.length : Int)) :=
  px_bV C j call_len_str (fun W Γ σ F H g Q v y S r d => by
    have r : v = .str y := r
    subst r
    obtain ⟨h1, h2⟩ := dmust d
    exact ⟨y, rfl, h1, dret h2 _ F H (Same.refl _) S rfl⟩) boot_len ha hj (by decide) (by decide) hs
/-- sum, any, all, sorted of ints -/
theorem px_sum {x : m (List Int)} (C : Ctx c N ks gs bs kk) (j : Nat) (ha : PXR c W Γ a x) (hj : bs[j]? = some ("sum" : Str) := by rfl) (hs : starEach [a] c.X.env = (false, eval a c.X.env) :: starEach [] c.X.env := by rfl) : PX c W Γ (.Call (.Name "sum" p) [a] [] pos) (x >>= fun xs => pure xs.sum) :=
  px_bR C j (cr_sum C.calm) (fun W Γ σ F H g Q a vs xs S ha r d => ⟨a, xs, rfl, by rw [← reps_int r]; exact .of ha, dret d _ F H (Same.refl _) S rfl⟩) (by decide +kernel) ha hj (by decide) (by decide) hs
theorem px_any {x : m (List Bool)} (C : Ctx c N ks gs bs kk) (j : Nat) (ha : PXR c W Γ a x) (hj : bs[j]? = some ("any" : Str) := by rfl) (hs : starEach [a] c.X.env = (false, eval a c.X.env) :: starEach [] c.X.env := by rfl) : PX c W Γ (.Call (.Name "any" p) [a] [] pos) (x >>= fun xs => pure (xs.any id)) :=
  px_bR C j (cr_any C.calm) (fun W Γ σ F H g Q a vs xs S ha r d => ⟨a, xs, rfl, by rw [← reps_bool r]; exact .of ha, dret d _ F H (Same.refl _) S rfl⟩) (by decide +kernel) ha hj (by decide) (by decide) hs
theorem px_all {x : m (List Bool)} (C : Ctx c N ks gs bs kk) (j : Nat) (ha : PXR c W Γ a x) (hj : bs[j]? = some ("all" : Str) := by rfl) (hs : starEach [a] c.X.env = (false, eval a c.X.env) :: starEach [] c.X.env := by rfl) : PX c W Γ (.Call (.Name "all" p) [a] [] pos) (x >>= fun xs => pure (xs.all id)) :=
  px_bR C j (cr_all C.calm) (fun W Γ σ F H g Q a vs xs S ha r d => ⟨a, xs, rfl, by rw [← reps_bool r]; exact .of ha, dret d _ F H (Same.refl _) S rfl⟩) (by decide +kernel) ha hj (by decide) (by decide) hs
def leI (a b : Int) : Bool := decide (a ≤ b)
def sortI (xs : List Int) : List Int := xs.mergeSort leI
theorem sortI_perm (xs : List Int) : (sortI xs).Perm xs := List.mergeSort_perm xs leI
theorem sortI_sorted (xs : List Int) : (sortI xs).Pairwise (· ≤ ·) := by
  have := List.pairwise_mergeSort (le := leI) (fun a b c h1 h2 => by simp only [leI, decide_eq_true_eq] at *; omega) (fun a b => by simp only [leI, Bool.or_eq_true, decide_eq_true_eq]; omega) xs
  exact this.imp fun h => by simpa [leI] using h
theorem sorted_unique : ∀ {xs ys : List Int}, xs.Perm ys → xs.Pairwise (· ≤ ·) → ys.Pairwise (· ≤ ·) → xs = ys := fun h1 h2 h3 =>
  h1.eq_of_pairwise (fun a b _ _ h h' => Int.le_antisymm h h') h2 h3
theorem pxo_sortedI {x : m (List Int)} (C : Ctx c N ks gs bs kk) (j : Nat) (ha : PXR c W Γ a x) (hj : bs[j]? = some ("sorted" : Str) := by rfl) (hs : starEach [a] c.X.env = (false, eval a c.X.env) :: starEach [] c.X.env := by rfl) : PXO c W Γ (.Call (.Name "sorted" p) [a] [] pos) (x >>= fun xs => pure (sortI xs)) LP.l :=
  pxo_bR C j cr_sortedI (fun W Γ σ F H g Q a vs xs S ha r d => by
    refine ⟨a, xs, rfl, by rw [← reps_int r]; exact .of ha, fun ns' p hp hs hn => ?_⟩
    have e := sorted_unique (hp.trans (sortI_perm xs).symm) hs (sortI_sorted xs)
    obtain ⟨S4, pr, e4⟩ := newL S (vs := ns'.map V.int) hn
    exact dret d p _ F _ (Same.refl _) S4 pr e4 mutL ⟨_, rfl, by rw [e]; exact reps_intM⟩) (by decide +kernel) ha hj (by decide) (by decide) hs
/-- list(xs), list(t) -/
theorem pxo_listL {x : m (List α)} (C : Ctx c N ks gs bs kk) (j : Nat) (ha : PXR c W Γ a x) (hj : bs[j]? = some ("list" : Str) := by rfl) (hs : starEach [a] c.X.env = (false, eval a c.X.env) :: starEach [] c.X.env := by rfl) : PXO c W Γ (.Call (.Name "list" p) [a] [] pos) (x >>= fun xs => pure xs) LP.l :=
  pxo_tR C j call_list_of (fun W Γ σ F H g Q a vs xs S ha r d => ⟨a, vs, rfl, .inl (.of ha), fun l hl => by
    obtain ⟨S4, pr, e4⟩ := newL S (vs := vs) hl
    exact dret d l _ F _ (Same.refl _) S4 pr e4 mutL ⟨_, rfl, r⟩⟩) (by decide +kernel) ha hj (by decide) (by decide) hs
theorem pxo_listT {x : m (Tup α)} (C : Ctx c N ks gs bs kk) (j : Nat) (ha : PX c W Γ a x) (hj : bs[j]? = some ("list" : Str) := by rfl) (hs : starEach [a] c.X.env = (false, eval a c.X.env) :: starEach [] c.X.env := by rfl) : PXO c W Γ (.Call (.Name "list" p) [a] [] pos) (x >>= fun xs => pure xs.l) LP.l := by
  obtain ⟨t, pt, q⟩ := ha
  obtain ⟨b1, b2⟩ := C.bl j _ hj
  refine ⟨_, pe_callTy call_list_of b1 b2 (by decide +kernel) (pa_cons pt pa_nil hs) (by decide) (by decide) hs, fun σ F H g Q S d => q σ F H g _ S (PyM.dmono (PyM.dbind d) (fun y g1 h1 v F1 H1 e1 S1 r1 => ?_) fun _ _ h => h)⟩
  obtain ⟨ad, vs, rfl, s, r⟩ := r1
  refine ⟨ad, vs, rfl, .inr (Same.tup S1.fh s.sq), fun l hl => ?_⟩
  obtain ⟨S4, pr, e4⟩ := newL S1 (vs := vs) hl
  exact dret h1 l _ F1 _ e1 S4 pr e4 mutL ⟨_, rfl, r⟩
/-- tuple(xs): known to the object -/
theorem call_tupleF {X : Cx} : CallR X (.type "tuple") (fun xs H Q => ∃ p ys, xs = [.ref p] ∧ SqL X.K H p ys ∧ ∀ l o, H l = none → o.dict = none → Q (.ref l) (upd H l (.frz o (.tup ys)))) := by
  intro pins s σ H xs us Q I r h
  obtain ⟨p, ys, rfl, hq, q⟩ := h
  obtain ⟨u, rfl, rx⟩ := vals1 r
  cases rx
  obtain ⟨its, r', pl, hz⟩ := I.list hq
  have hlen := r'.length
  refine call_tuple_list pl.isList (fun h' kp => ?_) (by simp only [List.size_toArray] <;> omega)
  have I1 : Inv X pins σ H { s with heap := h' } := I.kept (t' := s.toks) kp
  have I2 := I1.laid (t' := s.toks) (a := h'.objs.size) (o := .frz { cls := .type "tuple", data := .seq its.toArray } (.tup ys)) (h' := h'.push { cls := .type "tuple", data := .seq its.toArray }) (fun b o e => Heap.get?_push_of_some _ e) (Nat.le_refl _) (frz_ok hz r' (Heap.get?_push_size _ rfl))
  exact ⟨.ref h'.objs.size, _, I2, rfl, q _ _ (I1.hok.fresh (Nat.le_refl _)) rfl⟩
theorem px_tupleL {x : m (List α)} (C : Ctx c N ks gs bs kk) (j : Nat) (ha : PXR c W Γ a x) (hj : bs[j]? = some ("tuple" : Str) := by rfl) (hs : starEach [a] c.X.env = (false, eval a c.X.env) :: starEach [] c.X.env := by rfl) : PX c W Γ (.Call (.Name "tuple" p) [a] [] pos) (x >>= fun xs => pure (toT xs)) := by
  obtain ⟨t, pt, q⟩ := ha
  obtain ⟨b1, b2⟩ := C.bl j _ hj
  refine ⟨_, pe_callTy call_tupleF b1 b2 (by decide +kernel) (pa_cons pt pa_nil hs) (by decide) (by decide) hs, fun σ F H g Q S d => q σ F H g _ S (PyM.dmono (PyM.dbind d) (fun xs g1 h1 a vs F1 H1 e1 S1 ha r1 => ?_) fun _ _ h => h)⟩
  refine ⟨a, vs, rfl, .of ha, fun l o hl ho => ?_⟩
  obtain ⟨e2, S2⟩ := newT (o := .frz o (.tup vs)) S1 hl
  exact PyM.dpure h1 _ _ _ (e1.trans e2) S2 ⟨l, vs, rfl, ⟨o, upd_same, ho⟩, Reps.mono e2 r1⟩
/-- int(n), int(truth); abs; str(n), repr(n) -/
def b2I (t : Bool) : Int := if t then 1 else 0
theorem px_intB {x : m Bool} (C : Ctx c N ks gs bs kk) (j : Nat) (ha : PX c W Γ a x) (hj : bs[j]? = some ("int" : Str) := by rfl) (hs : starEach [a] c.X.env = (false, eval a c.X.env) :: starEach [] c.X.env := by rfl) : PX c W Γ (.Call (.Name "int" p) [a] [] pos) (x >>= fun t => pure (b2I t)) :=
  px_tV C j call_int1 (fun W Γ σ F H g Q v y S r d => by
    have r : v = .bl y := r
    subst r
    exact .inr ⟨y, rfl, dret d _ F H (Same.refl _) S rfl⟩) (by decide +kernel) ha hj (by decide) (by decide) hs
def absI (i : Int) : Int := if i < 0 then -i else i
theorem px_abs {x : m Int} (C : Ctx c N ks gs bs kk) (j : Nat) (ha : PX c W Γ a x) (hj : bs[j]? = some ("abs" : Str) := by rfl) (hs : starEach [a] c.X.env = (false, eval a c.X.env) :: starEach [] c.X.env := by rfl) : PX c W Γ (.Call (.Name "abs" p) [a] [] pos) (x >>= fun i => pure (absI i)) :=
  px_bV C j call_abs (fun W Γ σ F H g Q v y S r d => by
    have r : v = .int y := r
    subst r
    exact ⟨y, rfl, dret d _ F H (Same.refl _) S rfl⟩) (by decide +kernel) ha hj (by decide) (by decide) hs
def strI (i : Int) : Str := toString i
def few (i : Int) : Prop := i.natAbs.log2 < 1920
instance (i : Int) : Decidable (few i) := inferInstanceAs (Decidable (_ < _))
theorem px_strI {x : m Int} (C : Ctx c N ks gs bs kk) (j : Nat) (ha : PX c W Γ a x) (hj : bs[j]? = some ("str" : Str) := by rfl) (hs : starEach [a] c.X.env = (false, eval a c.X.env) :: starEach [] c.X.env := by rfl) : PX c W Γ (.Call (.Name "str" p) [a] [] pos) (x >>= fun i => must (few i) >>= fun _ => pure (strI i)) :=
  px_tV C j call_str_int (fun W Γ σ F H g Q v y S r d => by
    have r : v = .int y := r
    subst r
    obtain ⟨h1, h2⟩ := dmust d
    exact ⟨y, rfl, h1, dret h2 _ F H (Same.refl _) S rfl⟩) (by decide +kernel) ha hj (by decide) (by decide) hs
theorem px_reprI {x : m Int} (C : Ctx c N ks gs bs kk) (j : Nat) (ha : PX c W Γ a x) (hj : bs[j]? = some ("repr" : Str) := by rfl) (hs : starEach [a] c.X.env = (false, eval a c.X.env) :: starEach [] c.X.env := by rfl) : PX c W Γ (.Call (.Name "repr" p) [a] [] pos) (x >>= fun i => must (few i) >>= fun _ => pure (strI i)) :=
  px_bV C j SkE.call_repr_int (fun W Γ σ F H g Q v y S r d => by
    have r : v = .int y := r
    subst r
    obtain ⟨h1, h2⟩ := dmust d
    exact ⟨y, rfl, h1, dret h2 _ F H (Same.refl _) S rfl⟩) (by decide +kernel) ha hj (by decide) (by decide) hs
/-- min, max of two ints -/
def max2 (i j : Int) : Int := if j > i then j else i
def min2 (i j : Int) : Int := if j < i then j else i
theorem px_two {id : String} {r : List V → Hp → VK → Prop} {x : m (α × (β × Unit))} {f : α → β → m δ} (C : Ctx c N ks gs bs kk) (j : Nat) (hc : CallR c.X (.builtin id) r)
    (hk : ∀ (W : Wd (PyM.γ m)) (Γ : List SD) σ F H g Q v u (y : α) (z : β), StF c W g Γ σ F H → rep c.G y v F → rep c.G z u F → den (f y z) (Post c W Γ σ F Q) (PostE c W Γ σ F) g → r [v, u] H Q)
    (hb : bootBuiltins n = some (.builtin id)) (ha : PXA c W Γ [a, b] x) (hj : bs[j]? = some n := by rfl) (hn : n ≠ "__name__" := by decide) (hdb : (n == ("__debug__" : Str)) = false := by decide) (hs : starEach [a, b] c.X.env = (false, eval a c.X.env) :: starEach [b] c.X.env := by rfl) (hpl : (backTo pos (starEach [b] c.X.env)).any (·.1) = false := by rfl) :
    PX c W Γ (.Call (.Name n p) [a, b] [] pos) (x >>= fun y => f y.1 y.2.1) := by
  obtain ⟨t, pt, q⟩ := ha
  obtain ⟨b1, b2⟩ := C.bl j _ hj
  refine ⟨_, pe_callB hc b1 b2 hb pt hn hdb hs hpl, fun σ F H g Q S d => q σ F H g _ S (PyM.dmono (PyM.dbind d) (fun y g1 h1 vs F1 H1 e1 S1 r1 => ?_) fun _ _ h => h)⟩
  obtain ⟨v, ws, rfl, r2, u, us, rfl, r3, r4⟩ := r1
  have r4 : us = [] := r4
  subst r4
  exact hk W Γ σ F1 H1 g1 Q v u _ _ S1 r2 r3 (PyM.dmono h1 (fun _ _ h => h.after e1) fun _ _ h => h.after e1)
theorem px_max2 {x : m (Int × (Int × Unit))} (C : Ctx c N ks gs bs kk) (j : Nat) (ha : PXA c W Γ [a, b] x) (hj : bs[j]? = some ("max" : Str) := by rfl) (hs : starEach [a, b] c.X.env = (false, eval a c.X.env) :: starEach [b] c.X.env := by rfl) (hpl : (backTo pos (starEach [b] c.X.env)).any (·.1) = false := by rfl) :
    PX c W Γ (.Call (.Name "max" p) [a, b] [] pos) (x >>= fun y => pure (max2 y.1 y.2.1)) :=
  px_two (f := fun i j => pure (max2 i j)) C j (call_max2 C.calm) (fun W Γ σ F H g Q v u y z S r1 r2 d => by
    have r1 : v = .int y := r1
    have r2 : u = .int z := r2
    subst r1 r2
    exact ⟨y, z, rfl, dret d _ F H (Same.refl _) S rfl⟩) (by decide +kernel) ha hj (by decide) (by decide) hs hpl
theorem px_min2 {x : m (Int × (Int × Unit))} (C : Ctx c N ks gs bs kk) (j : Nat) (ha : PXA c W Γ [a, b] x) (hj : bs[j]? = some ("min" : Str) := by rfl) (hs : starEach [a, b] c.X.env = (false, eval a c.X.env) :: starEach [b] c.X.env := by rfl) (hpl : (backTo pos (starEach [b] c.X.env)).any (·.1) = false := by rfl) :
    PX c W Γ (.Call (.Name "min" p) [a, b] [] pos) (x >>= fun y => pure (min2 y.1 y.2.1)) :=
  px_two (f := fun i j => pure (min2 i j)) C j (call_min2 C.calm) (fun W Γ σ F H g Q v u y z S r1 r2 d => by
    have r1 : v = .int y := r1
    have r2 : u = .int z := r2
    subst r1 r2
    exact ⟨y, z, rfl, dret d _ F H (Same.refl _) S rfl⟩) (by decide +kernel) ha hj (by decide) (by decide) hs hpl

/-! ### operators -/
theorem px_add {ma mb : m Int} (ha : PX c W Γ a ma) (hb : PX c W Γ b mb) : PX c W Γ (.BinOp a .Add b pos) (ma >>= fun x => mb >>= fun y => pure (x + y)) := px_bin op_add rI0_ok ha hb
theorem px_sub {ma mb : m Int} (ha : PX c W Γ a ma) (hb : PX c W Γ b mb) : PX c W Γ (.BinOp a .Sub b pos) (ma >>= fun x => mb >>= fun y => pure (x - y)) := px_bin op_sub rI0_ok ha hb
def mulOk (i j : Int) : Prop := CMulW i j
instance (i j : Int) : Decidable (mulOk i j) := inferInstanceAs (Decidable (_ < _))
theorem px_mul {ma mb : m Int} (ha : PX c W Γ a ma) (hb : PX c W Γ b mb) : PX c W Γ (.BinOp a .Mult b pos) (ma >>= fun x => mb >>= fun y => must (mulOk x y) >>= fun _ => pure (x * y)) := px_bin op_mulW (rI_ok (C := mulOk) (f := fun i j => i * j)) ha hb
def divOk (i j : Int) : Prop := CDivW i j
instance (i j : Int) : Decidable (divOk i j) := inferInstanceAs (Decidable (_ ∧ _))
theorem px_fdiv {ma mb : m Int} (ha : PX c W Γ a ma) (hb : PX c W Γ b mb) : PX c W Γ (.BinOp a .FloorDiv b pos) (ma >>= fun x => mb >>= fun y => must (divOk x y) >>= fun _ => pure (x / y)) := px_bin op_fdivW (rI_ok (C := divOk) (f := fun i j => i / j)) ha hb
def modOk (_ j : Int) : Prop := 0 < j
instance (i j : Int) : Decidable (modOk i j) := inferInstanceAs (Decidable (_ < _))
theorem px_mod {ma mb : m Int} (ha : PX c W Γ a ma) (hb : PX c W Γ b mb) : PX c W Γ (.BinOp a .Mod b pos) (ma >>= fun x => mb >>= fun y => must (modOk x y) >>= fun _ => pure (x % y)) := px_bin op_mod (rI_ok (C := modOk) (f := fun i j => i % j)) ha hb
def powOk (i j : Int) : Prop := CPow i j
instance (i j : Int) : Decidable (powOk i j) := inferInstanceAs (Decidable (_ ∧ _))
theorem px_pow {ma mb : m Int} (ha : PX c W Γ a ma) (hb : PX c W Γ b mb) : PX c W Γ (.BinOp a .Pow b pos) (ma >>= fun x => mb >>= fun y => must (powOk x y) >>= fun _ => pure (x ^ y.toNat)) := px_bin op_pow (rI_ok (C := powOk) (f := fun i j => i ^ j.toNat)) ha hb
theorem px_neg {ma : m Int} (ha : PX c W Γ a ma) : PX c W Γ (.UnaryOp .USub a pos) (ma >>= fun x => pure (-x)) := by
  obtain ⟨ta, pa, qa⟩ := ha
  refine ⟨_, pe_un un_neg pa, fun σ F H g Q S d => qa σ F H g _ S (PyM.dmono (PyM.dbind d) (fun x g1 h1 v F1 H1 e1 S1 r1 => ?_) fun _ _ h => h)⟩
  exact ⟨x, r1, dret h1 _ F1 H1 e1 S1 rfl⟩
theorem px_catS {ma mb : m Str} (ha : PX c W Γ a ma) (hb : PX c W Γ b mb) : PX c W Γ (.BinOp a .Add b pos) (ma >>= fun x => mb >>= fun y => must (llen (x.length + y.length)) >>= fun _ => pure (x ++ y)) :=
  px_bin op_add_str (fun W Γ σ F H g Q x y v u S r1 r2 d => by
    have r1 : v = .str x := r1
    have r2 : u = .str y := r2
    subst r1 r2
    obtain ⟨h1, h2⟩ := dmust d
    exact ⟨x, y, rfl, rfl, h1, dret h2 _ F H (Same.refl _) S rfl⟩) ha hb
/-- xs + ys, a new list -/
theorem pxo_cat {ma mb : m (List α)} (ha : PX c W Γ a ma) (hb : PX c W Γ b mb) : PXO c W Γ (.BinOp a .Add b pos) (ma >>= fun x => mb >>= fun y => must (llen (x.length + y.length)) >>= fun _ => pure (x ++ y)) LP.l := by
  obtain ⟨ta, pa, qa⟩ := ha
  obtain ⟨tb, pb, qb⟩ := hb
  refine ⟨_, pe_op op_cat pa pb, fun σ F H g Q S d => qa σ F H g _ S (PyM.dmono (PyM.dbind d) (fun x g1 h1 v F1 H1 e1 S1 r1 => ?_) fun _ _ h => h)⟩
  refine qb σ F1 H1 g1 _ S1 (PyM.dmono (PyM.dbind h1) (fun y g2 h2 u F2 H2 e2 S2 r2 => ?_) fun _ _ h => h.after e1)
  obtain ⟨h3, h4⟩ := dmust h2
  obtain ⟨ad, vs, rfl, s, r⟩ := r1
  obtain ⟨ad2, vs2, rfl, s2, r2⟩ := r2
  refine ⟨ad, ad2, vs, vs2, rfl, rfl, S2.fh _ _ (e2 _ _ s), S2.fh _ _ s2, by rw [← r.length, ← r2.length]; exact h3, fun l hl => ?_⟩
  obtain ⟨S4, pr, e4⟩ := newL S2 (vs := vs ++ vs2) hl
  exact dret h4 l _ F2 _ (e1.trans e2) S4 pr e4 mutL ⟨_, rfl, (Reps.mono e2 r).append r2⟩
def repL (xs : List α) (k : Int) : List α := (List.replicate k.toNat xs).flatten
def repOk (n : Nat) (k : Int) : Prop := -(2 ^ 63) ≤ k ∧ k < 2 ^ 63 ∧ n * k.toNat ≤ sizeLine
instance (n : Nat) (k : Int) : Decidable (repOk n k) := inferInstanceAs (Decidable (_ ∧ _))
theorem Reps.rep {G : GC} {H : Hp} {xs : List α} {vs : List V} (r : Reps α G H xs vs) : ∀ n : Nat, Reps α G H (List.replicate n xs).flatten (List.replicate n vs).flatten
  | 0 => .nil
  | n + 1 => by rw [List.replicate_succ, List.replicate_succ, List.flatten_cons, List.flatten_cons]; exact r.append (Reps.rep r n)
theorem pxo_rep {ma : m (List α)} {mb : m Int} (ha : PX c W Γ a ma) (hb : PX c W Γ b mb) : PXO c W Γ (.BinOp a .Mult b pos) (ma >>= fun x => mb >>= fun k => must (repOk x.length k) >>= fun _ => pure (repL x k)) LP.l := by
  obtain ⟨ta, pa, qa⟩ := ha
  obtain ⟨tb, pb, qb⟩ := hb
  refine ⟨_, pe_op op_rep pa pb, fun σ F H g Q S d => qa σ F H g _ S (PyM.dmono (PyM.dbind d) (fun x g1 h1 v F1 H1 e1 S1 r1 => ?_) fun _ _ h => h)⟩
  refine qb σ F1 H1 g1 _ S1 (PyM.dmono (PyM.dbind h1) (fun y g2 h2 u F2 H2 e2 S2 r2 => ?_) fun _ _ h => h.after e1)
  obtain ⟨h3, h4⟩ := dmust h2
  obtain ⟨ad, vs, rfl, s, r⟩ := r1
  have r2 : u = .int y := r2
  subst r2
  refine ⟨ad, y, vs, rfl, rfl, S2.fh _ _ (e2 _ _ s), h3.1, h3.2.1, by rw [← r.length]; exact h3.2.2, fun l hl => ?_⟩
  obtain ⟨S4, pr, e4⟩ := newL S2 (vs := (List.replicate y.toNat vs).flatten) hl
  exact dret h4 l _ F2 _ (e1.trans e2) S4 pr e4 mutL ⟨_, rfl, (Reps.mono e2 r).rep y.toNat⟩
/-! comparisons -/
theorem px_lt {ma mb : m Int} (ha : PX c W Γ a ma) (hb : PX c W Γ b mb) : PX c W Γ (.Compare a [.Lt] [b] pos) (ma >>= fun x => mb >>= fun y => pure (decide (x < y))) := px_cmp op_lt rI0_okB ha hb
theorem px_le {ma mb : m Int} (ha : PX c W Γ a ma) (hb : PX c W Γ b mb) : PX c W Γ (.Compare a [.LtE] [b] pos) (ma >>= fun x => mb >>= fun y => pure (decide (x ≤ y))) := px_cmp op_le rI0_okB ha hb
theorem px_gt {ma mb : m Int} (ha : PX c W Γ a ma) (hb : PX c W Γ b mb) : PX c W Γ (.Compare a [.Gt] [b] pos) (ma >>= fun x => mb >>= fun y => pure (decide (y < x))) := px_cmp op_gt rI0_okB ha hb
theorem px_ge {ma mb : m Int} (ha : PX c W Γ a ma) (hb : PX c W Γ b mb) : PX c W Γ (.Compare a [.GtE] [b] pos) (ma >>= fun x => mb >>= fun y => pure (decide (y ≤ x))) := px_cmp op_ge rI0_okB ha hb
theorem scal_ok {x y : Int} : OpOk (m := m) c rEq (fun (i j : Int) => pure (decide (i = j))) := fun W Γ σ F H g Q x y v u S r1 r2 d => by
  have r1 : v = .int x := r1
  have r2 : u = .int y := r2
  subst r1 r2
  exact ⟨rfl, dret d _ F H (Same.refl _) S (by show V.bl (decide (V.int x = V.int y)) = V.bl (decide (x = y)); congr 1; rw [Bool.eq_iff_iff]; simp)⟩
theorem px_eqI {ma mb : m Int} (ha : PX c W Γ a ma) (hb : PX c W Γ b mb) : PX c W Γ (.Compare a [.Eq] [b] pos) (ma >>= fun x => mb >>= fun y => pure (decide (x = y))) := px_cmp op_eq (scal_ok (x := 0) (y := 0)) ha hb
theorem px_neI {ma mb : m Int} (ha : PX c W Γ a ma) (hb : PX c W Γ b mb) : PX c W Γ (.Compare a [.NotEq] [b] pos) (ma >>= fun x => mb >>= fun y => pure (!decide (x = y))) :=
  px_cmp op_ne (fun W Γ σ F H g Q x y v u S r1 r2 d => by
    have r1 : v = .int x := r1
    have r2 : u = .int y := r2
    subst r1 r2
    exact ⟨rfl, dret d _ F H (Same.refl _) S (by show V.bl (!decide (V.int x = V.int y)) = V.bl (!decide (x = y)); congr 2; rw [Bool.eq_iff_iff]; simp)⟩) ha hb
theorem px_eqB {ma mb : m Bool} (ha : PX c W Γ a ma) (hb : PX c W Γ b mb) : PX c W Γ (.Compare a [.Eq] [b] pos) (ma >>= fun x => mb >>= fun y => pure (decide (x = y))) :=
  px_cmp op_eq (fun W Γ σ F H g Q x y v u S r1 r2 d => by
    have r1 : v = .bl x := r1
    have r2 : u = .bl y := r2
    subst r1 r2
    exact ⟨rfl, dret d _ F H (Same.refl _) S (by show V.bl (decide (V.bl x = V.bl y)) = V.bl (decide (x = y)); congr 1; rw [Bool.eq_iff_iff]; simp)⟩) ha hb
theorem px_neB {ma mb : m Bool} (ha : PX c W Γ a ma) (hb : PX c W Γ b mb) : PX c W Γ (.Compare a [.NotEq] [b] pos) (ma >>= fun x => mb >>= fun y => pure (!decide (x = y))) :=
  px_cmp op_ne (fun W Γ σ F H g Q x y v u S r1 r2 d => by
    have r1 : v = .bl x := r1
    have r2 : u = .bl y := r2
    subst r1 r2
    exact ⟨rfl, dret d _ F H (Same.refl _) S (by show V.bl (!decide (V.bl x = V.bl y)) = V.bl (!decide (x = y)); congr 2; rw [Bool.eq_iff_iff]; simp)⟩) ha hb
theorem px_eqS {ma mb : m Str} (ha : PX c W Γ a ma) (hb : PX c W Γ b mb) : PX c W Γ (.Compare a [.Eq] [b] pos) (ma >>= fun x => mb >>= fun y => pure (decide (x = y))) :=
  px_cmp op_eq (fun W Γ σ F H g Q x y v u S r1 r2 d => by
    have r1 : v = .str x := r1
    have r2 : u = .str y := r2
    subst r1 r2
    exact ⟨rfl, dret d _ F H (Same.refl _) S (by show V.bl (decide (V.str x = V.str y)) = V.bl (decide (x = y)); congr 1; rw [Bool.eq_iff_iff]; simp)⟩) ha hb
theorem px_neS {ma mb : m Str} (ha : PX c W Γ a ma) (hb : PX c W Γ b mb) : PX c W Γ (.Compare a [.NotEq] [b] pos) (ma >>= fun x => mb >>= fun y => pure (!decide (x = y))) :=
  px_cmp op_ne (fun W Γ σ F H g Q x y v u S r1 r2 d => by
    have r1 : v = .str x := r1
    have r2 : u = .str y := r2
    subst r1 r2
    exact ⟨rfl, dret d _ F H (Same.refl _) S (by show V.bl (!decide (V.str x = V.str y)) = V.bl (!decide (x = y)); congr 2; rw [Bool.eq_iff_iff]; simp)⟩) ha hb
/-- is None, is not None -/
theorem rep_non {G : GC} {x : Option α} {v : V} {H : Hp} (hα : ∀ (y : α) v H, rep G y v H → v ≠ .non) (h : rep G x v H) : decide (v = .non) = x.isNone := by
  cases x with
  | none =>
    have h : v = .non := h
    subst h; simp
  | some y =>
    have := hα y v H h
    simp [this]
/-- what None does not stand for -/
class NotNone (α : Type) [Rep α] : Prop where
  ne : ∀ {G : GC} {y : α} {v : V} {H : Hp}, rep G y v H → v ≠ .non
instance : NotNone Int := ⟨fun {G y v H} h => by have h : v = .int y := h; subst h; simp⟩
instance : NotNone Bool := ⟨fun {G y v H} h => by have h : v = .bl y := h; subst h; simp⟩
instance : NotNone Str := ⟨fun {G y v H} h => by have h : v = .str y := h; subst h; simp⟩
instance : NotNone (List α) := ⟨fun {G y v H} ⟨a, vs, h, _⟩ => by subst h; simp⟩
instance : NotNone (Tup α) := ⟨fun {G y v H} ⟨a, vs, h, _⟩ => by subst h; simp⟩
instance : NotNone (α × β) := ⟨fun {G y v H} ⟨a, v1, v2, h, _⟩ => by subst h; simp⟩
instance : NotNone (T3 α β δ) := ⟨fun {G y v H} ⟨a, v1, v2, v3, h, _⟩ => by subst h; simp⟩
theorem px_isN [NotNone α] {ma : m (Option α)} {j pos'} (ha : PX c W Γ a ma) : PX c W Γ (.Compare a [.Is] [.Constant .none j pos'] pos) (ma >>= fun x => pure x.isNone) := by
  obtain ⟨ta, pa, qa⟩ := ha
  refine ⟨_, pe_cmp (pc_isN pa) rfl, fun σ F H g Q S d => qa σ F H g _ S (PyM.dmono (PyM.dbind d) (fun x g1 h1 v F1 H1 e1 S1 r1 => ?_) fun _ _ h => h)⟩
  show Q (V.bl (decide (v = V.non))) H1
  rw [rep_non (fun y v H h => NotNone.ne h) r1]
  exact dret h1 _ F1 H1 e1 S1 rfl
theorem px_notN [NotNone α] {ma : m (Option α)} {j pos'} (ha : PX c W Γ a ma) : PX c W Γ (.Compare a [.IsNot] [.Constant .none j pos'] pos) (ma >>= fun x => pure (!x.isNone)) := by
  obtain ⟨ta, pa, qa⟩ := ha
  refine ⟨_, pe_cmp (pc_notN pa) rfl, fun σ F H g Q S d => qa σ F H g _ S (PyM.dmono (PyM.dbind d) (fun x g1 h1 v F1 H1 e1 S1 r1 => ?_) fun _ _ h => h)⟩
  show Q (V.bl (!decide (v = V.non))) H1
  rw [rep_non (fun y v H h => NotNone.ne h) r1]
  exact dret h1 _ F1 H1 e1 S1 rfl
/-! truths -/
theorem px_and1 {ma : m Bool} {op} (ha : PX c W Γ a ma) : PX c W Γ (.BoolOp op [a] pos) ma := by
  obtain ⟨ta, pa, qa⟩ := ha
  exact ⟨_, pe_one pa, qa⟩
theorem px_and {ma mb : m Bool} (ha : PX c W Γ a ma) (hb : PX c W Γ (.BoolOp .And (b :: es) pos) mb) : PX c W Γ (.BoolOp .And (a :: b :: es) pos) (ma >>= fun t => if t = true then mb else pure false) := by
  obtain ⟨ta, pa, qa⟩ := ha
  obtain ⟨tb, pb, qb⟩ := hb
  refine ⟨_, pe_and pa pb, fun σ F H g Q S d => qa σ F H g _ S (PyM.dmono (PyM.dbind d) (fun x g1 h1 v F1 H1 e1 S1 r1 => ?_) fun _ _ h => h)⟩
  refine ⟨x, r1, ?_⟩
  cases x with
  | true => exact iteT (qb σ F1 H1 g1 Q S1 (PyM.dmono h1 (fun _ _ h => h.after e1) fun _ _ h => h.after e1))
  | false => exact iteF (dret h1 _ F1 H1 e1 S1 rfl)
theorem px_or {ma mb : m Bool} (ha : PX c W Γ a ma) (hb : PX c W Γ (.BoolOp .Or (b :: es) pos) mb) : PX c W Γ (.BoolOp .Or (a :: b :: es) pos) (ma >>= fun t => if t = true then pure true else mb) := by
  obtain ⟨ta, pa, qa⟩ := ha
  obtain ⟨tb, pb, qb⟩ := hb
  refine ⟨_, pe_or pa pb, fun σ F H g Q S d => qa σ F H g _ S (PyM.dmono (PyM.dbind d) (fun x g1 h1 v F1 H1 e1 S1 r1 => ?_) fun _ _ h => h)⟩
  refine ⟨x, r1, ?_⟩
  cases x with
  | true => exact iteT (dret h1 _ F1 H1 e1 S1 rfl)
  | false => exact iteF (qb σ F1 H1 g1 Q S1 (PyM.dmono h1 (fun _ _ h => h.after e1) fun _ _ h => h.after e1))
theorem px_not {ma : m Bool} (ha : PX c W Γ a ma) : PX c W Γ (.UnaryOp .Not a pos) (ma >>= fun t => pure (!t)) := by
  obtain ⟨ta, pa, qa⟩ := ha
  refine ⟨_, pe_not pa, fun σ F H g Q S d => qa σ F H g _ S (PyM.dmono (PyM.dbind d) (fun x g1 h1 v F1 H1 e1 S1 r1 => ?_) fun _ _ h => h)⟩
  exact ⟨x, r1, dret h1 _ F1 H1 e1 S1 rfl⟩
theorem pxt_and1 {ma : m Bool} (ha : PXT c W Γ a ma) : PXT c W Γ (.BoolOp .And [a] pos) ma := by
  obtain ⟨ta, pa, qa⟩ := ha
  exact ⟨_, PW.pt (pw_and1 pa), qa⟩
theorem pxt_or1 {ma : m Bool} (ha : PXT c W Γ a ma) : PXT c W Γ (.BoolOp .Or [a] pos) ma := by
  obtain ⟨ta, pa, qa⟩ := ha
  exact ⟨_, PW.pt (pw_or1 pa), qa⟩
theorem pxt_not {ma : m Bool} (ha : PXT c W Γ a ma) : PXT c W Γ (.UnaryOp .Not a pos) (ma >>= fun t => pure (!t)) := by
  obtain ⟨ta, pa, qa⟩ := ha
  refine ⟨_, pt_not pa, fun σ F H g Q S d => qa σ F H g _ S (PyM.dmono (PyM.dbind d) (fun x g1 h1 F1 H1 e1 S1 => ?_) fun _ _ h => h)⟩
  exact dret h1 F1 H1 e1 S1
/-- tests of and, or: chains -/
structure PXW (c : KX) (W : Wd (PyM.γ m)) (Γ : List SD) (e : Expr) (x : m Bool) : Prop where
  run : ∃ t : TT, PW c.X e t ∧ ∀ σ F H g Q, StF c W g Γ σ F H → den x (PostB c W Γ σ F Q) (PostE c W Γ σ F) g → t σ H Q
theorem pxw_and1 {ma : m Bool} (ha : PXT c W Γ a ma) : PXW c W Γ (.BoolOp .And [a] pos) ma := by
  obtain ⟨ta, pa, qa⟩ := ha
  exact ⟨_, pw_and1 pa, qa⟩
theorem pxw_or1 {ma : m Bool} (ha : PXT c W Γ a ma) : PXW c W Γ (.BoolOp .Or [a] pos) ma := by
  obtain ⟨ta, pa, qa⟩ := ha
  exact ⟨_, pw_or1 pa, qa⟩
theorem pxw_and {ma mb : m Bool} (ha : PXT c W Γ a ma) (hb : PXW c W Γ (.BoolOp .And (b :: es) pos) mb) : PXW c W Γ (.BoolOp .And (a :: b :: es) pos) (ma >>= fun t => if t = true then mb else pure false) := by
  obtain ⟨ta, pa, qa⟩ := ha
  obtain ⟨tb, pb, qb⟩ := hb
  refine ⟨_, pw_and pa pb, fun σ F H g Q S d => qa σ F H g _ S (PyM.dmono (PyM.dbind d) (fun x g1 h1 F1 H1 e1 S1 => ?_) fun _ _ h => h)⟩
  cases x with
  | true => exact iteT (qb σ F1 H1 g1 Q S1 (PyM.dmono h1 (fun _ _ h => h.after e1) fun _ _ h => h.after e1))
  | false => exact iteF (dret h1 F1 H1 e1 S1)
theorem pxw_or {ma mb : m Bool} (ha : PXT c W Γ a ma) (hb : PXW c W Γ (.BoolOp .Or (b :: es) pos) mb) : PXW c W Γ (.BoolOp .Or (a :: b :: es) pos) (ma >>= fun t => if t = true then pure true else mb) := by
  obtain ⟨ta, pa, qa⟩ := ha
  obtain ⟨tb, pb, qb⟩ := hb
  refine ⟨_, pw_or pa pb, fun σ F H g Q S d => qa σ F H g _ S (PyM.dmono (PyM.dbind d) (fun x g1 h1 F1 H1 e1 S1 => ?_) fun _ _ h => h)⟩
  cases x with
  | true => exact iteT (dret h1 F1 H1 e1 S1)
  | false => exact iteF (qb σ F1 H1 g1 Q S1 (PyM.dmono h1 (fun _ _ h => h.after e1) fun _ _ h => h.after e1))
theorem pxt_w {ma : m Bool} (h : PXW c W Γ e ma) : PXT c W Γ e ma := by
  obtain ⟨ta, pa, qa⟩ := h
  exact ⟨_, pa.pt, qa⟩
theorem px_ifE {mt : m Bool} {ma mb : m α} {d : Expr} (ht : PXT c W Γ e mt) (ha : PX c W Γ a ma) (hb : PX c W Γ b mb) : PX c W Γ (.IfExp e a b pos) (mt >>= fun t => if t = true then ma else mb) := by
  obtain ⟨t, pt, qt⟩ := ht
  obtain ⟨ta, pa, qa⟩ := ha
  obtain ⟨tb, pb, qb⟩ := hb
  refine ⟨_, pe_ifExp pt pa pb, fun σ F H g Q S d => qt σ F H g _ S (PyM.dmono (PyM.dbind d) (fun x g1 h1 F1 H1 e1 S1 => ?_) fun _ _ h => h)⟩
  cases x with
  | true => exact iteT (qa σ F1 H1 g1 Q S1 (PyM.dmono h1 (fun _ _ h => h.after e1) fun _ _ h => h.after e1))
  | false => exact iteF (qb σ F1 H1 g1 Q S1 (PyM.dmono h1 (fun _ _ h => h.after e1) fun _ _ h => h.after e1))
end
end SP
namespace SP
open PySem PySem.Spec L2
open Rep (rep)
open PyM (den lift handle)
section
variable {m : Type → Type} [PyM m] {c : KX} {W : Wd (PyM.γ m)} {Γ Γ' : List SD} {e a b : Expr} {es : List Expr} {α β δ ρ O O' : Type} [Rep α] [Rep β] [Rep δ] [Args ρ] {p p1 p2 p3 pos apos cpos : Pos} {st : Stmt} {rest : List Stmt} {K : O → Fin} {N : List Str} {ks : List Kd} {gs bs : List Str} {kk k : Nat} {n : Str}
def fewOk (cpos : Pos) (es : List Expr) (env : Env) : Prop := ((backTo cpos (starEach es env)).all (fun x => !x.1) && (backToKw cpos (keywordEach [] env)).all (fun x => x.1.isSome)
      && decide (es.length + ([] : List Keyword).length + (if ([] : List Keyword).isEmpty then 0 else 1) < 30)) = true
/-- xs.append(e), xs one's own -/
theorem pn_append {xs : List α} {x : m α} {d : Kd} (C : Ctx c N ks gs bs kk) (he : SubE Γ c.Γe) (i : Nat) (hx : PX c W Γ e x) (hΓ : Γ[i]? = some (.l xs) := by rfl) (hN : N[i]? = some n := by rfl) (hd : ks[i]? = some d := by rfl) (hl : d.isVis = true := by rfl) (hdb : (n == ("__debug__" : Str)) = false := by decide) (hcd : (n == ("__classdict__" : Str)) = false := by decide) (hbase : attributeBase (.Name n p1) "append" c.X.env (eval (.Name n p1) c.X.env) = eval (.Name n p1) c.X.env := by rfl) (hfew : fewOk cpos [e] c.X.env := by rfl) (hline : (apos.endLine == cpos.line) = true := by rfl) (hs : starEach [e] c.X.env = (false, eval e c.X.env) :: starEach [] c.X.env := by rfl) (hpl : (backTo cpos (starEach [] c.X.env)).any (·.1) = false := by rfl) (hsw : swapsWith (.Call (.Attribute (.Name n p1) "append" apos) [e] [] cpos) none pos.line c.X.env = pure false := by rfl) :
    PN c W Γ (.Expr (.Call (.Attribute (.Name n p1) "append" apos) [e] [] cpos) pos) (x >>= fun v => must (xs.length < sizeLine) >>= fun _ => pure v) (fun v => Γ.set i (.l (xs ++ [v]))) := by
  obtain ⟨t, pt, q⟩ := hx
  refine ⟨_, ps_expr (pe_bm PySem.F.plainAttrs_list PySem.F.slot_list_append PySem.F.type_list_append mt_append (pe_var (i := i) (by rw [C.hN]; exact hN) (C.vis hN hd (by rintro rfl; cases hl)) hdb hcd) (pa_cons pt pa_nil hs) hbase hfew hline hs hpl) hsw, fun σ F H g D S dd => ?_⟩
  obtain ⟨u, e0, a, o, rfl, _, _, _, h4, _, vs, rfl, _⟩ := Paired.getP S.sl hΓ
  refine ⟨.ref a, e0, .inl ⟨rfl, _, .of h4⟩, q σ F H g _ S (PyM.dmono (PyM.dbind dd) (fun y g1 h1 v F1 H1 e1 S1 r1 => ?_) fun _ _ h => h.at he)⟩
  obtain ⟨h2, h3⟩ := dmust h1
  obtain ⟨a', o', e0', h4', mu, h5, pr⟩ := S1.privOf hΓ
  obtain ⟨vs', rfl, r⟩ := h5
  rw [e0] at e0'; cases e0'
  refine ⟨a, vs', v, rfl, rfl, h4', by rw [← r.length]; exact h2, ?_⟩
  have S2 := (S1.drop i).chg (o := .lst (vs' ++ [v])) pr
  exact PyM.dpure h3 σ F1 _ e1 (S2.putOwn (P := .l (xs ++ [y])) e0 upd_same mutL ⟨_, rfl, r.append (.cons r1 .nil)⟩ pr)
/-- xs.remove(e) of ints, it is there -/
theorem pn_removeI {xs : List Int} {x : m Int} {d : Kd} (C : Ctx c N ks gs bs kk) (he : SubE Γ c.Γe) (i : Nat) (hx : PX c W Γ e x) (hΓ : Γ[i]? = some (.l xs) := by rfl) (hN : N[i]? = some n := by rfl) (hd : ks[i]? = some d := by rfl) (hl : d.isVis = true := by rfl) (hdb : (n == ("__debug__" : Str)) = false := by decide) (hcd : (n == ("__classdict__" : Str)) = false := by decide) (hbase : attributeBase (.Name n p1) "remove" c.X.env (eval (.Name n p1) c.X.env) = eval (.Name n p1) c.X.env := by rfl) (hfew : fewOk cpos [e] c.X.env := by rfl) (hline : (apos.endLine == cpos.line) = true := by rfl) (hs : starEach [e] c.X.env = (false, eval e c.X.env) :: starEach [] c.X.env := by rfl) (hpl : (backTo cpos (starEach [] c.X.env)).any (·.1) = false := by rfl) (hsw : swapsWith (.Call (.Attribute (.Name n p1) "remove" apos) [e] [] cpos) none pos.line c.X.env = pure false := by rfl) :
    PN c W Γ (.Expr (.Call (.Attribute (.Name n p1) "remove" apos) [e] [] cpos) pos) (x >>= fun v => must (v ∈ xs) >>= fun _ => pure (xs.erase v)) (fun ys => Γ.set i (.l ys)) := by
  obtain ⟨t, pt, q⟩ := hx
  refine ⟨_, ps_expr (pe_bm PySem.F.plainAttrs_list PySem.F.slot_list_remove PySem.F.type_list_remove mt_remove (pe_var (i := i) (by rw [C.hN]; exact hN) (C.vis hN hd (by rintro rfl; cases hl)) hdb hcd) (pa_cons pt pa_nil hs) hbase hfew hline hs hpl) hsw, fun σ F H g D S dd => ?_⟩
  obtain ⟨u, e0, a, o, rfl, _, _, _, h4, _, vs, rfl, _⟩ := Paired.getP S.sl hΓ
  refine ⟨.ref a, e0, .inl ⟨rfl, _, .of h4⟩, q σ F H g _ S (PyM.dmono (PyM.dbind dd) (fun y g1 h1 v F1 H1 e1 S1 r1 => ?_) fun _ _ h => h.at he)⟩
  obtain ⟨h2, h3⟩ := dmust h1
  have r1 : v = .int y := r1
  subst r1
  obtain ⟨a', o', e0', h4', mu, h5, pr⟩ := S1.privOf hΓ
  obtain ⟨vs', rfl, r⟩ := h5
  rw [e0] at e0'; cases e0'
  have hi : xs.idxOf y < xs.length := List.idxOf_lt_length_of_mem h2
  refine ⟨a, xs, y, xs.idxOf y, rfl, rfl, by rw [← reps_int r]; exact h4', ?_, fun k hk e => ?_, ?_⟩
  · rw [List.getElem?_eq_getElem hi, List.getElem_idxOf hi]
  · obtain ⟨hl, e⟩ := List.getElem?_eq_some_iff.mp e
    have := List.not_of_lt_findIdx (p := (· == y)) (xs := xs) hk
    simp [e] at this
  · rw [← List.erase_eq_eraseIdx_of_idxOf rfl] 
    have S2 := (S1.drop i).chg (o := .lst ((xs.erase y).map V.int)) pr
    exact PyM.dpure h3 σ F1 _ e1 (S2.putOwn (P := .l (xs.erase y)) e0 upd_same mutL ⟨_, rfl, reps_intM⟩ pr)
/-- xs.count(e) of ints -/
theorem px_countL {ma : m (List Int)} {mb : m Int} (ha : PX c W Γ a ma) (hb : PX c W Γ e mb) (hbase : attributeBase a "count" c.X.env (eval a c.X.env) = eval a c.X.env := by rfl)
    (hfew : fewOk cpos [e] c.X.env := by rfl) (hline : (apos.endLine == cpos.line) = true := by rfl) (hs : starEach [e] c.X.env = (false, eval e c.X.env) :: starEach [] c.X.env := by rfl) (hpl : (backTo cpos (starEach [] c.X.env)).any (·.1) = false := by rfl) :
    PX c W Γ (.Call (.Attribute a "count" apos) [e] [] cpos) (ma >>= fun xs => mb >>= fun y => pure (xs.count y : Int)) := by
  obtain ⟨ta, pa, qa⟩ := ha
  obtain ⟨tb, pb, qb⟩ := hb
  refine ⟨_, pe_bm PySem.F.plainAttrs_list PySem.F.slot_list_count PySem.F.type_list_count mt_lcount pa (pa_cons pb pa_nil hs) hbase hfew hline hs hpl, fun σ F H g Q S d => qa σ F H g _ S (PyM.dmono (PyM.dbind d) (fun x g1 h1 v F1 H1 e1 S1 r1 => ?_) fun _ _ h => h)⟩
  obtain ⟨ad, vs, rfl, s, r⟩ := r1
  refine ⟨.inl ⟨rfl, _, .of (S1.fh _ _ s)⟩, qb σ F1 H1 g1 _ S1 (PyM.dmono (PyM.dbind h1) (fun y g2 h2 u F2 H2 e2 S2 r2 => ?_) fun _ _ h => h.after e1)⟩
  have r2 : u = .int y := r2
  subst r2
  refine ⟨ad, x, y, rfl, rfl, by rw [← reps_int r]; exact .of (S2.fh _ _ (e2 _ _ s)), dret h2 _ F2 H2 (e1.trans e2) S2 rfl⟩
/-- t.count(e): a tuple known to its object -/
theorem pe_bmT {X : Cx} {o : Expr} {to : TE} {t : TA} {name : Str} {id : String} {r : V → List V → Hp → VK → Prop} (pa : PlainAttrs "tuple") (slot : Slot "tuple" name id) (hty : typeOf (.builtin id) = pure (.type "method_descriptor")) (hm : MtR X id r) (ho : PE X o to) (ha : PA X (e :: es) t)
    (hbase : attributeBase o name X.env (eval o X.env) = eval o X.env) (hfew : fewOk cpos (e :: es) X.env)
    (hline : (apos.endLine == cpos.line) = true) (hs : starEach (e :: es) X.env = (false, eval e X.env) :: starEach es X.env) (hplain : (backTo cpos (starEach es X.env)).any (·.1) = false) :
    PE X (.Call (.Attribute o name apos) (e :: es) [] cpos) (fun σ H Q => to σ H fun x H1 => (∃ ad vs, x = .ref ad ∧ PlT H1 ad vs) ∧ t σ H1 fun xs H2 => r x xs H2 Q) := by
  refine ⟨fun pins s σ H Q I h => ?_⟩
  refine wpAny_Call_method_late hbase hfew hline rfl (thn (ho.run pins s σ H _ I h) fun v s1 ⟨x, H1, I1, r1, ty, q1⟩ => ?_)
  obtain ⟨ad, vs, rfl, ob, hob, hd⟩ := ty
  cases r1
  have hx : ObjOk X.prog X.w H1 s1.heap ad (.frz ob (.tup vs)) := I1.hok ad _ hob
  obtain ⟨hg, hz, its, rv, o2, h2, h3, n2, h4⟩ := hx
  refine ⟨"tuple", id, pa, slot, hty, ⟨o2, h2, h3⟩, fun a ea => ?_, ?_⟩
  · cases ea
    exact ⟨ob, hg, hd⟩
  have hA := ha.run cpos pins s1 σ H1 _ I1 q1
  rw [hs] at hA ⊢
  refine Calls.callWith_builtin (by show (false || (backTo cpos (starEach es X.env)).any (·.1)) = false; rw [hplain] <;> rfl) (Calls.evalArgs_plain ?_)
  exact thn hA fun us s2 ⟨vs, H2, I2, r2, q2⟩ => hm pins s2 σ H2 (.ref ad) vs _ us Q I2 rfl r2 q2
end
/-! ### data -/
class DV (α : Type) [Rep α] [DecidableEq α] where
  toD : α → PyData
  plain : ∀ a, (toD a).plain = true
  eqv : ∀ a b, PyData.eqv (toD a) (toD b) = decide (a = b)
  depth : Nat
  depth_le : ∀ a, (toD a).depth ≤ depth
  dp : ∀ {G : GC} {x : α} {v : V} {F H : Hp}, rep G x v F → Same F H → Dp G.K H v (toD x)
instance : DV Int where
  toD := .int
  plain _ := rfl
  eqv := PySem.W.Datum.eqv
  depth := 0
  depth_le _ := Nat.le_refl _
  dp h _ := by have h : _ = V.int _ := h; rw [h]; exact .int _
instance : DV Bool where
  toD := .bool
  plain _ := rfl
  eqv := PySem.W.Datum.eqv
  depth := 0
  depth_le _ := Nat.le_refl _
  dp h _ := by have h : _ = V.bl _ := h; rw [h]; exact .bl _
instance : DV Str where
  toD := .str
  plain _ := rfl
  eqv := PySem.W.Datum.eqv
  depth := 0
  depth_le _ := Nat.le_refl _
  dp h _ := by have h : _ = V.str _ := h; rw [h]; exact .str _
section
variable {α β δ : Type} [Rep α] [DecidableEq α] [DV α] [Rep β] [DecidableEq β] [DV β] [Rep δ] [DecidableEq δ] [DV δ]
theorem dv_all {G : GC} {F H : Hp} (e : Same F H) : ∀ {xs : List α} {vs : List V}, Reps α G F xs vs → DpAll G.K H vs (xs.map DV.toD)
  | _, _, .nil => .nil
  | _, _, .cons r t => .cons (DV.dp r e) (dv_all e t)
theorem plainAll_dv : ∀ xs : List α, PyData.plainAll (xs.map DV.toD) = true
  | [] => rfl
  | x :: xs => by rw [List.map_cons, PyData.plainAll, DV.plain x, plainAll_dv xs]; rfl
theorem depthAll_dv : ∀ xs : List α, PyData.depthAll (xs.map DV.toD) ≤ DV.depth α
  | [] => Nat.zero_le _
  | x :: xs => by
    rw [List.map_cons, PyData.depthAll]
    exact Nat.max_le.mpr ⟨DV.depth_le x, depthAll_dv xs⟩
theorem eqvAll_dv : ∀ xs ys : List α, PyData.eqvAll (xs.map DV.toD) (ys.map DV.toD) = decide (xs = ys)
  | [], [] => by simp only [List.map_nil, PyData.eqvAll, decide_true]
  | [], _ :: _ => by simp [PyData.eqvAll]
  | _ :: _, [] => by simp [PyData.eqvAll]
  | x :: xs, y :: ys => by
    rw [List.map_cons, List.map_cons, PyData.eqvAll, DV.eqv x y, eqvAll_dv xs ys, ← Bool.decide_and]
    exact decide_eq_decide.mpr (by rw [List.cons.injEq])
instance : DV (List α) where
  toD xs := .list (xs.map DV.toD)
  plain xs := by simp only [PyData.plain]; exact plainAll_dv xs
  eqv xs ys := by simp only [PyData.eqv]; exact eqvAll_dv xs ys
  depth := DV.depth α + 1
  depth_le xs := by simp only [PyData.depth]; exact Nat.succ_le_succ (depthAll_dv xs)
  dp h e := by obtain ⟨a, vs, rfl, s, r⟩ := h; exact .lst (.of (e _ _ s)) (dv_all e r)
instance : DecidableEq (Tup α) := inferInstanceAs (DecidableEq (List α))
instance : DV (Tup α) where
  toD xs := .tuple (List.map DV.toD xs)
  plain xs := by simp only [PyData.plain]; exact plainAll_dv xs
  eqv xs ys := by simp only [PyData.eqv]; exact eqvAll_dv (α := α) xs ys
  depth := DV.depth α + 1
  depth_le xs := by simp only [PyData.depth]; exact Nat.succ_le_succ (depthAll_dv (α := α) xs)
  dp h e := by obtain ⟨a, vs, rfl, s, r⟩ := h; exact .tup (Same.tup e s.sq) (dv_all e r)
instance : DV (α × β) where
  toD p := .tuple [DV.toD p.1, DV.toD p.2]
  plain p := by simp only [PyData.plain, PyData.plainAll, DV.plain, Bool.and_self]
  eqv p q := by
    simp only [PyData.eqv, PyData.eqvAll]
    rw [DV.eqv, DV.eqv, Bool.and_true, ← Bool.decide_and]
    exact decide_eq_decide.mpr ⟨fun e => Prod.ext e.1 e.2, fun e => by rw [e]; exact ⟨rfl, rfl⟩⟩
  depth := max (DV.depth α) (DV.depth β) + 1
  depth_le p := by
    simp only [PyData.depth, PyData.depthAll]
    refine Nat.succ_le_succ (Nat.max_le.mpr ⟨Nat.le_trans (DV.depth_le p.1) (Nat.le_max_left _ _), Nat.max_le.mpr ⟨Nat.le_trans (DV.depth_le p.2) (Nat.le_max_right _ _), Nat.zero_le _⟩⟩)
  dp h e := by obtain ⟨a, v1, v2, rfl, s, r1, r2⟩ := h; exact .tup (Same.tup e s) (.cons (DV.dp r1 e) (.cons (DV.dp r2 e) .nil))
instance : DV (T3 α β δ) where
  toD p := .tuple [DV.toD p.a, DV.toD p.b, DV.toD p.c]
  plain p := by simp only [PyData.plain, PyData.plainAll, DV.plain, Bool.and_self]
  eqv p q := by
    simp only [PyData.eqv, PyData.eqvAll]
    rw [DV.eqv, DV.eqv, DV.eqv, Bool.and_true, ← Bool.decide_and, ← Bool.decide_and]
    exact decide_eq_decide.mpr ⟨fun e => by cases p; cases q; simp_all, fun e => by rw [e]; exact ⟨rfl, rfl, rfl⟩⟩
  depth := max (DV.depth α) (max (DV.depth β) (DV.depth δ)) + 1
  depth_le p := by
    simp only [PyData.depth, PyData.depthAll]
    have h1 := DV.depth_le p.a
    have h2 := DV.depth_le p.b
    have h3 := DV.depth_le p.c
    omega
  dp h e := by obtain ⟨a, v1, v2, v3, rfl, s, r1, r2, r3⟩ := h; exact .tup (Same.tup e s) (.cons (DV.dp r1 e) (.cons (DV.dp r2 e) (.cons (DV.dp r3 e) .nil)))
end
section
variable {m : Type → Type} [PyM m] {c : KX} {W : Wd (PyM.γ m)} {Γ Γ' : List SD} {e a b : Expr} {es : List Expr} {α β δ ρ O O' : Type} [Rep α] [DecidableEq α] [DV α] {p p1 p2 p3 pos apos cpos : Pos} {N : List Str} {ks : List Kd} {gs bs : List Str} {kk k : Nat} {n : Str}
/-- ==, != of data -/
theorem op_eqP (C : Ctx c N ks gs bs kk) (hdp : DV.depth α ≤ 20) : OpR c.X (compareOp .Eq) (fun x y H Q => ∃ i j : α, Dp c.X.K H x (DV.toD i) ∧ Dp c.X.K H y (DV.toD j) ∧ Q (.bl (decide (i = j))) H) := by
  intro pins s σ H x y v u Q I rx ry h
  obtain ⟨i, j, h1, h2, q⟩ := h
  obtain ⟨as, r1⟩ := Dp.reads I _ _ _ h1 rx
  obtain ⟨bs, r2⟩ := Dp.reads I _ _ _ h2 ry
  exact PySem.SeqAt.eq_plain r1 r2 (DV.plain i) (DV.plain j) (by have := C.room.units; have := DV.depth_le i; omega) (by rw [DV.eqv]; exact ⟨.bl _, H, I, rfl, q⟩)
theorem op_neP (C : Ctx c N ks gs bs kk) (hdp : DV.depth α ≤ 20) : OpR c.X (compareOp .NotEq) (fun x y H Q => ∃ i j : α, Dp c.X.K H x (DV.toD i) ∧ Dp c.X.K H y (DV.toD j) ∧ Q (.bl (!decide (i = j))) H) := by
  intro pins s σ H x y v u Q I rx ry h
  obtain ⟨i, j, h1, h2, q⟩ := h
  obtain ⟨as, r1⟩ := Dp.reads I _ _ _ h1 rx
  obtain ⟨bs, r2⟩ := Dp.reads I _ _ _ h2 ry
  exact PySem.SeqAt.ne_plain r1 r2 (DV.plain i) (DV.plain j) (by have := C.room.units; have := DV.depth_le i; omega) (by rw [DV.eqv]; exact ⟨.bl _, H, I, rfl, q⟩)
theorem px_eqD {ma mb : m α} (C : Ctx c N ks gs bs kk) (hdp : DV.depth α ≤ 20) (ha : PX c W Γ a ma) (hb : PX c W Γ b mb) : PX c W Γ (.Compare a [.Eq] [b] pos) (ma >>= fun x => mb >>= fun y => pure (decide (x = y))) :=
  px_cmp (op_eqP (α := α) C hdp) (fun W Γ σ F H g Q x y v u S r1 r2 d => ⟨x, y, DV.dp r1 S.fh, DV.dp r2 S.fh, dret d _ F H (Same.refl _) S rfl⟩) ha hb
theorem px_neD {ma mb : m α} (C : Ctx c N ks gs bs kk) (hdp : DV.depth α ≤ 20) (ha : PX c W Γ a ma) (hb : PX c W Γ b mb) : PX c W Γ (.Compare a [.NotEq] [b] pos) (ma >>= fun x => mb >>= fun y => pure (!decide (x = y))) :=
  px_cmp (op_neP (α := α) C hdp) (fun W Γ σ F H g Q x y v u S r1 r2 d => ⟨x, y, DV.dp r1 S.fh, DV.dp r2 S.fh, dret d _ F H (Same.refl _) S rfl⟩) ha hb
def cnt (y : α) (xs : List α) : Nat := xs.countP fun z => decide (z = y)
theorem cntv (xs : List α) (y : α) : (xs.map DV.toD).countP (fun d => PyData.eqv d (DV.toD y)) = cnt y xs := by
  unfold cnt
  rw [List.countP_map]
  congr 1
  funext z
  exact DV.eqv z y
theorem room_dv {A : Around} {k d n : Nat} (r : Room k A) (h : d ≤ 60) : A.units + 1 + min d n < cLine := by have := r.units; omega
theorem tuple_of {X : Cx} {pins : List (Addr × Obj)} {σ : L2.St} {H : Hp} {s : Shared} {ad : Addr} {vs : List V} (I : Inv X pins σ H s) (h : SqT X.K H ad vs) : ∃ its : List Value, Vals vs its ∧ s.heap.IsTuple ad its.toArray := by
  obtain ⟨its, r, ⟨o, h1, h2, n, h3⟩, _⟩ := I.tuple h
  exact ⟨its, r, o, h1, h2, n, h3⟩
theorem dpall_reads {X : Cx} {pins : List (Addr × Obj)} {σ : L2.St} {H : Hp} {s : Shared} (I : Inv X pins σ H s) : ∀ {ds : List PyData} {vs : List V} {us : List Value}, DpAll X.K H vs ds → Vals vs us → ∃ as, ReadsAll s.heap us ds as
  | _, _, _, .nil, .nil => ⟨_, .nil⟩
  | _, _, _, .cons h t, .cons r q => by
    obtain ⟨as, h1⟩ := Dp.reads I _ _ _ h r
    obtain ⟨bs, h2⟩ := dpall_reads I t q
    exact ⟨_, .cons h1 h2⟩
/-- t.count(e) -/
theorem px_countT {ma : m (Tup α)} {mb : m α} (C : Ctx c N ks gs bs kk) (hdp : DV.depth α ≤ 20) (ha : PX c W Γ a ma) (hb : PX c W Γ e mb) (hbase : attributeBase a "count" c.X.env (eval a c.X.env) = eval a c.X.env := by rfl)
    (hfew : fewOk cpos [e] c.X.env := by rfl) (hline : (apos.endLine == cpos.line) = true := by rfl) (hs : starEach [e] c.X.env = (false, eval e c.X.env) :: starEach [] c.X.env := by rfl) (hpl : (backTo cpos (starEach [] c.X.env)).any (·.1) = false := by rfl) :
    PX c W Γ (.Call (.Attribute a "count" apos) [e] [] cpos) (ma >>= fun xs => mb >>= fun y => pure (cnt y xs.l : Int)) := by
  obtain ⟨ta, pa, qa⟩ := ha
  obtain ⟨tb, pb, qb⟩ := hb
  have rule : MtR c.X "tuple.count" (fun x vs H Q => ∃ (ad : Addr) (xs : List V) (ys : List α) (y : α) (v : V), x = .ref ad ∧ vs = [v] ∧ SqT c.X.K H ad xs ∧ DpAll c.X.K H xs (ys.map DV.toD) ∧ Dp c.X.K H v (DV.toD y) ∧ Q (.int (cnt y ys : Nat)) H) := by
    intro pins s σ H x xs v us Q I rx rxs h
    obtain ⟨ad, vs, ys, y, w, rfl, rfl, h1, h2, h3, q⟩ := h
    cases rx
    obtain ⟨u, rfl, ru⟩ := rxs.one
    obtain ⟨its, r, ht⟩ := tuple_of I h1
    obtain ⟨as, r1⟩ := dpall_reads I h2 r
    obtain ⟨bs, r2⟩ := Dp.reads I _ _ _ h3 ru
    refine PySem.SeqAt.count_tuple_data (vs := its.toArray) ht (by simpa using r1) r2 (plainAll_dv ys) (DV.plain y) (room_dv C.room (by have := depthAll_dv ys; omega)) ?_
    rw [cntv]
    exact ⟨.int _, H, I.tok _, ⟨_, rfl⟩, q⟩
  refine ⟨_, pe_bmT PySem.F.plainAttrs_tuple PySem.F.slot_tuple_count PySem.F.type_tuple_count rule pa (pa_cons pb pa_nil hs) hbase hfew hline hs hpl, fun σ F H g Q S d => qa σ F H g _ S (PyM.dmono (PyM.dbind d) (fun x g1 h1 v F1 H1 e1 S1 r1 => ?_) fun _ _ h => h)⟩
  obtain ⟨ad, vs, rfl, s, r⟩ := r1
  have s' : PlT H1 ad vs := by obtain ⟨o, h1, h2⟩ := s; exact ⟨o, S1.fh _ _ h1, h2⟩
  refine ⟨⟨ad, vs, rfl, s'⟩, qb σ F1 H1 g1 _ S1 (PyM.dmono (PyM.dbind h1) (fun y g2 h2 u F2 H2 e2 S2 r2 => ?_) fun _ _ h => h.after e1)⟩
  exact ⟨ad, vs, x, y, u, rfl, rfl, Same.tup (e2.trans S2.fh) s.sq, dv_all (e2.trans S2.fh) r, DV.dp r2 S2.fh, dret h2 _ F2 H2 (e1.trans e2) S2 rfl⟩
theorem list_of {X : Cx} {pins : List (Addr × Obj)} {σ : L2.St} {H : Hp} {s : Shared} {ad : Addr} {vs : List V} (I : Inv X pins σ H s) (h : SqL X.K H ad vs) : ∃ its : List Value, Vals vs its ∧ s.heap.IsList ad its.toArray := by
  obtain ⟨its, r, pl, _⟩ := I.list h
  exact ⟨its, r, pl.isList⟩
/-- xs.count(e) of a list that is read (what is new too) -/
theorem px_countR {ma : m (List α)} {mb : m α} (C : Ctx c N ks gs bs kk) (hdp : DV.depth α ≤ 20) (ha : PX c W Γ a ma) (hb : PX c W Γ e mb) (hbase : attributeBase a "count" c.X.env (eval a c.X.env) = eval a c.X.env := by rfl)
    (hfew : fewOk cpos [e] c.X.env := by rfl) (hline : (apos.endLine == cpos.line) = true := by rfl) (hs : starEach [e] c.X.env = (false, eval e c.X.env) :: starEach [] c.X.env := by rfl) (hpl : (backTo cpos (starEach [] c.X.env)).any (·.1) = false := by rfl) :
    PX c W Γ (.Call (.Attribute a "count" apos) [e] [] cpos) (ma >>= fun xs => mb >>= fun y => pure (cnt y xs : Int)) := by
  obtain ⟨ta, pa, qa⟩ := ha
  obtain ⟨tb, pb, qb⟩ := hb
  have rule : MtR c.X "list.count" (fun x vs H Q => ∃ (ad : Addr) (xs : List V) (ys : List α) (y : α) (v : V), x = .ref ad ∧ vs = [v] ∧ SqL c.X.K H ad xs ∧ DpAll c.X.K H xs (ys.map DV.toD) ∧ Dp c.X.K H v (DV.toD y) ∧ Q (.int (cnt y ys : Nat)) H) := by
    intro pins s σ H x xs v us Q I rx rxs h
    obtain ⟨ad, vs, ys, y, w, rfl, rfl, h1, h2, h3, q⟩ := h
    cases rx
    obtain ⟨u, rfl, ru⟩ := rxs.one
    obtain ⟨its, r, ht⟩ := list_of I h1
    obtain ⟨as, r1⟩ := dpall_reads I h2 r
    obtain ⟨bs, r2⟩ := Dp.reads I _ _ _ h3 ru
    refine PySem.SeqAt.count_list_data (vs := its.toArray) ht (by simpa using r1) r2 (plainAll_dv ys) (DV.plain y) (room_dv C.room (by have := depthAll_dv ys; omega)) ?_
    rw [cntv]
    exact ⟨.int _, H, I.tok _, ⟨_, rfl⟩, q⟩
  refine ⟨_, pe_bm PySem.F.plainAttrs_list PySem.F.slot_list_count PySem.F.type_list_count rule pa (pa_cons pb pa_nil hs) hbase hfew hline hs hpl, fun σ F H g Q S d => qa σ F H g _ S (PyM.dmono (PyM.dbind d) (fun x g1 h1 v F1 H1 e1 S1 r1 => ?_) fun _ _ h => h)⟩
  obtain ⟨ad, vs, rfl, s, r⟩ := r1
  refine ⟨.inl ⟨rfl, _, .of (S1.fh _ _ s)⟩, qb σ F1 H1 g1 _ S1 (PyM.dmono (PyM.dbind h1) (fun y g2 h2 u F2 H2 e2 S2 r2 => ?_) fun _ _ h => h.after e1)⟩
  exact ⟨ad, vs, x, y, u, rfl, rfl, .of (S2.fh _ _ (e2 _ _ s)), dv_all (e2.trans S2.fh) r, DV.dp r2 S2.fh, dret h2 _ F2 H2 (e1.trans e2) S2 rfl⟩
/-- x in xs, x not in xs -/
theorem anyv (xs : List α) (y : α) : (xs.map DV.toD).any (fun d => PyData.eqv d (DV.toD y)) = decide (y ∈ xs) := by
  rw [List.any_map]
  rw [Bool.eq_iff_iff]
  simp only [List.any_eq_true, Function.comp, decide_eq_true_eq, DV.eqv]
  exact ⟨fun ⟨z, h1, h2⟩ => h2 ▸ h1, fun h => ⟨y, h, rfl⟩⟩
def rInD (α : Type) [Rep α] [DecidableEq α] [DV α] (K : PySem.W.Frag) (neg : Bool) : R2 := fun x y H Q => ∃ (ad : Addr) (vs : List V) (ys : List α) (z : α), y = .ref ad ∧ (SqL K H ad vs ∨ SqT K H ad vs) ∧ DpAll K H vs (ys.map DV.toD) ∧ Dp K H x (DV.toD z) ∧ Q (.bl (if neg then !decide (z ∈ ys) else decide (z ∈ ys))) H
theorem op_inD (C : Ctx c N ks gs bs kk) (hdp : DV.depth α ≤ 20) : OpR c.X (compareOp .In) (rInD α c.X.K false) := by
  intro pins s σ H x y v u Q I rx ry h
  obtain ⟨ad, vs, ys, z, rfl, hq, h2, h3, q⟩ := h
  cases ry
  obtain ⟨bs, r2⟩ := Dp.reads I _ _ _ h3 rx
  have rm : ∀ n, c.X.A.units + 1 + min (PyData.depthAll (ys.map DV.toD)) n < cLine := fun n => room_dv C.room (by have := depthAll_dv ys; omega)
  have fin : EP c.X pins σ Q (.bool ((ys.map DV.toD).any fun d => PyData.eqv d (DV.toD z))) s := by rw [anyv]; exact ⟨.bl _, H, I, rfl, q⟩
  rcases hq with hq | hq
  · obtain ⟨its, r, ht⟩ := list_of I hq
    obtain ⟨as, r1⟩ := dpall_reads I h2 r
    obtain ⟨o, ho, hc, n, hd⟩ := ht
    exact PySem.SeqAt.in_list_data (.list ho hc hd (by simpa using r1)) r2 (plainAll_dv ys) (DV.plain z) (rm _) fin
  · obtain ⟨its, r, ht⟩ := tuple_of I hq
    obtain ⟨as, r1⟩ := dpall_reads I h2 r
    obtain ⟨o, ho, hc, n, hd⟩ := ht
    exact PySem.SeqAt.in_tuple_data (.tuple ho hc hd (by simpa using r1)) r2 (plainAll_dv ys) (DV.plain z) (rm _) fin
theorem op_notInD (C : Ctx c N ks gs bs kk) (hdp : DV.depth α ≤ 20) : OpR c.X (compareOp .NotIn) (rInD α c.X.K true) := by
  intro pins s σ H x y v u Q I rx ry h
  obtain ⟨ad, vs, ys, z, rfl, hq, h2, h3, q⟩ := h
  cases ry
  obtain ⟨bs, r2⟩ := Dp.reads I _ _ _ h3 rx
  have rm : ∀ n, c.X.A.units + 1 + min (PyData.depthAll (ys.map DV.toD)) n < cLine := fun n => room_dv C.room (by have := depthAll_dv ys; omega)
  have fin : EP c.X pins σ Q (.bool (!(ys.map DV.toD).any fun d => PyData.eqv d (DV.toD z))) s := by rw [anyv]; exact ⟨.bl _, H, I, rfl, q⟩
  rcases hq with hq | hq
  · obtain ⟨its, r, ht⟩ := list_of I hq
    obtain ⟨as, r1⟩ := dpall_reads I h2 r
    obtain ⟨o, ho, hc, n, hd⟩ := ht
    exact PySem.SeqAt.notIn_list_data (.list ho hc hd (by simpa using r1)) r2 (plainAll_dv ys) (DV.plain z) (rm _) fin
  · obtain ⟨its, r, ht⟩ := tuple_of I hq
    obtain ⟨as, r1⟩ := dpall_reads I h2 r
    obtain ⟨o, ho, hc, n, hd⟩ := ht
    exact PySem.SeqAt.notIn_tuple_data (.tuple ho hc hd (by simpa using r1)) r2 (plainAll_dv ys) (DV.plain z) (rm _) fin
/-- x in a list that is read -/
theorem px_inG {op : CmpOp} {neg : Bool} {ma : m α} {mb : m (List α)} (ho : OpR c.X (compareOp op) (rInD α c.X.K neg)) (ha : PX c W Γ a ma) (hb : PXR c W Γ b mb) (hm : behindInMarks op b = false) :
    PX c W Γ (.Compare a [op] [b] pos) (ma >>= fun x => mb >>= fun ys => pure (if neg = true then !decide (x ∈ ys) else decide (x ∈ ys))) := by
  obtain ⟨ta, pa, qa⟩ := ha
  obtain ⟨tb, pb, qb⟩ := hb
  refine ⟨_, pe_cmpR ho pa pb hm, fun σ F H g Q S d => qa σ F H g _ S (PyM.dmono (PyM.dbind d) (fun x g1 h1 v F1 H1 e1 S1 r1 => ?_) fun _ _ h => h)⟩
  refine qb σ F1 H1 g1 _ S1 (PyM.dmono (PyM.dbind h1) (fun ys g2 h2 ad vs F2 H2 e2 S2 ha r2 => ?_) fun _ _ h => h.after e1)
  exact ⟨ad, vs, ys, x, rfl, .inl (.of ha), dv_all S2.fh r2, DV.dp (Rep.mono e2 r1) S2.fh, dret h2 _ F2 H2 (e1.trans e2) S2 rfl⟩
theorem px_inGT {op : CmpOp} {neg : Bool} {ma : m α} {mb : m (Tup α)} (ho : OpR c.X (compareOp op) (rInD α c.X.K neg)) (ha : PX c W Γ a ma) (hb : PX c W Γ b mb) (hm : behindInMarks op b = false) :
    PX c W Γ (.Compare a [op] [b] pos) (ma >>= fun x => mb >>= fun ys => pure (if neg = true then !decide (x ∈ ys.l) else decide (x ∈ ys.l))) := by
  obtain ⟨ta, pa, qa⟩ := ha
  obtain ⟨tb, pb, qb⟩ := hb
  refine ⟨_, pe_cmpR ho pa pb hm, fun σ F H g Q S d => qa σ F H g _ S (PyM.dmono (PyM.dbind d) (fun x g1 h1 v F1 H1 e1 S1 r1 => ?_) fun _ _ h => h)⟩
  refine qb σ F1 H1 g1 _ S1 (PyM.dmono (PyM.dbind h1) (fun ys g2 h2 u F2 H2 e2 S2 r2 => ?_) fun _ _ h => h.after e1)
  obtain ⟨ad, vs, rfl, s, r⟩ := r2
  exact ⟨ad, vs, ys, x, rfl, .inr (Same.tup S2.fh s.sq), dv_all S2.fh r, DV.dp (Rep.mono e2 r1) S2.fh, dret h2 _ F2 H2 (e1.trans e2) S2 rfl⟩
end
end SP
namespace SP
open PySem PySem.Spec L2
open Rep (rep)
open PyM (den lift handle)

/-! ### the block of a comprehension -/
def KX.blk (c : KX) (s : Shared) (H : Hp) (scope : Scope) (C0 : Addr) (cl : List (Str × Addr)) (fp : List Addr) (P' : Hp) : KX := ⟨c.X.blk s H scope (compEnvC scope cl C0 c.X.env) fp, c.cls, fun _ _ _ _ => False, P', []⟩
def kidB (sc : Scope) : List Str → List Kd → Bool
  | n :: ns, d :: ds => (match d with
    | .loc => decide (sc.names.lookup n = some .local)
    | .cel => decide (sc.names.lookup n = some .cell)
    | .vis => decide (sc.names.lookup n = some .free)
    | .no => true) && kidB sc ns ds
  | [], [] => true
  | _, _ => false
/-- the names that a block takes from around stand in cells -/
def capB : List (Str × NameKind) → List Str → List Kd → Bool
  | [], _, _ => true
  | (n, k) :: r, N, ks => (match k with
    | .free => (N.zip ks).any fun p => decide (p.1 = n) && (match p.2 with | .cel => true | .vis => true | _ => false)
    | _ => true) && capB r N ks
def blkB (scope : Scope) (N : List Str) (ks : List Kd) (own : List (Str × Nat)) : Bool :=
  (match scope.kind with | .function => true | _ => false) && (scope.names.all fun y => decide (scope.names.lookup y.1 = some y.2)) && (own.all fun p => decide (N[p.2]? = some p.1)) && capB scope.names N ks &&
    (scope.names.all fun y => match y.2 with
      | .local => decide (y.1 ∈ own.map (·.1)) || decide (y.1 ∉ N)
      | .cell => decide (y.1 ∈ own.map (·.1)) || decide (y.1 ∉ N)
      | _ => true)
section
variable {c : KX} {N : List Str} {ks ks' : List Kd} {gs bs gs' bs' : List Str} {k : Nat} {scope : Scope} {own : List (Str × Nat)}
theorem capB_ok : ∀ {l : List (Str × NameKind)} {n : Str}, capB l N ks = true → (n, NameKind.free) ∈ l → ∃ (i : Nat) (d : Kd), N[i]? = some n ∧ ks[i]? = some d ∧ (d = .cel ∨ d = .vis)
  | (a, b) :: r, n, h, hm => by
    simp only [capB, Bool.and_eq_true] at h
    rcases List.mem_cons.mp hm with e | hm
    · cases e
      obtain ⟨p, hp, q⟩ := List.any_eq_true.mp h.1
      simp only [Bool.and_eq_true, decide_eq_true_eq] at q
      obtain ⟨i, hi⟩ := List.mem_iff_getElem?.mp hp
      rw [List.getElem?_zip_eq_some] at hi
      refine ⟨i, p.2, by rw [hi.1, q.1], hi.2, ?_⟩
      have q2 := q.2
      split at q2 <;> simp_all
    · exact capB_ok h.2 hm
theorem blkB_ok (C : Ctx c N ks gs bs k) (h : blkB scope N ks own = true) : BlkOk c.X.N c.X.env.scope scope own := by
  rw [C.hN]
  unfold blkB at h
  simp only [Bool.and_eq_true, List.all_eq_true, decide_eq_true_eq] at h
  obtain ⟨⟨⟨⟨h1, h2⟩, h3⟩, h4⟩, h5⟩ := h
  refine ⟨?_, h2, h3, fun y hy e => ?_, fun y hy e => ?_⟩
  · split at h1
    · assumption
    · cases h1
  · obtain ⟨n, kd⟩ := y
    subst e
    obtain ⟨i, d, e1, e2, e3⟩ := capB_ok h4 hy
    have q := C.kd i n d e1 e2
    rcases e3 with rfl | rfl
    · exact .inl q
    · exact q
  · have q := h5 y hy
    rcases e with e | e <;> (simp only [e, Bool.or_eq_true, decide_eq_true_eq] at q; exact q)
theorem kidB_of {sc : Scope} : ∀ {ns : List Str} {ds : List Kd} {i : Nat} {n : Str} {d : Kd}, kidB sc ns ds = true → ns[i]? = some n → ds[i]? = some d → match d with
    | .loc => sc.names.lookup n = some .local
    | .cel => sc.names.lookup n = some .cell
    | .vis => sc.names.lookup n = some .free
    | .no => True
  | [], _, _, _, _, _, h, _ => by simp at h
  | _ :: _, [], _, _, _, _, _, h => by simp at h
  | a :: ns, b :: ds, 0, n, d, h, h1, h2 => by
    simp only [kidB, Bool.and_eq_true] at h
    simp at h1 h2
    subst h1; subst h2
    have h := h.1
    cases b <;> first | exact of_decide_eq_true h | trivial
  | a :: ns, b :: ds, i + 1, n, d, h, h1, h2 => by
    simp only [kidB, Bool.and_eq_true] at h
    exact kidB_of h.2 (by simpa using h1) (by simpa using h2)
theorem lookup_free {sc : Scope} : ∀ {names : List (Str × NameKind)} {x : Str}, names.lookup x = some .free →
    ((names.map fun (n, k) => if (k == NameKind.free && sc.kind == .function && sc.names.lookup n == some .cell) then (n, NameKind.cell) else (n, k)).lookup x = some .cell ∨
    (names.map fun (n, k) => if (k == NameKind.free && sc.kind == .function && sc.names.lookup n == some .cell) then (n, NameKind.cell) else (n, k)).lookup x = some .free)
  | [], x, h => by simp at h
  | (n, k) :: r, x, h => by
    have ih := @lookup_free sc r x
    rw [List.map_cons]
    rw [List.lookup_cons] at h
    cases hx : x == n with
    | true =>
      rw [hx] at h
      cases h
      simp only
      split
      · left; rw [List.lookup_cons, hx]
      · right; rw [List.lookup_cons, hx]
    | false =>
      rw [hx] at h
      have := ih h
      simp only
      split <;> (rw [List.lookup_cons, hx]; exact this)
theorem Ctx.blk (C : Ctx c N ks gs bs k) {s : Shared} {H : Hp} {C0 : Addr} {cl : List (Str × Addr)} {fp : List Addr} {P' : Hp} (hk : scope.kind = .function) (h1 : kidB scope N ks' = true) (h2 : globsOk scope gs' = true) (h3 : globsOk scope bs' = true) (h4 : ∀ n ∈ bs', c.X.mg n = none) :
    Ctx (c.blk s H scope C0 cl fp P') N ks' gs' bs' k where
  hN := C.hN
  nd := C.nd
  kd := fun i n d e1 e2 => by
    have q := kidB_of h1 e1 e2
    cases d with
    | loc => exact lookup_relS_keep (sc := c.X.env.scope) (by decide) q
    | cel => exact lookup_relS_keep (sc := c.X.env.scope) (by decide) q
    | vis => exact lookup_free (sc := c.X.env.scope) q
    | no => trivial
  kind := hk
  gl := fun j n e => lookup_relS_keep (sc := c.X.env.scope) (by decide) (of_decide_eq_true (p := scope.names.lookup n = some .globalImplicit) (List.all_eq_true.mp h2 n (List.mem_of_getElem? e)))
  bl := fun j n e => ⟨lookup_relS_keep (sc := c.X.env.scope) (by decide) (of_decide_eq_true (p := scope.names.lookup n = some .globalImplicit) (List.all_eq_true.mp h3 n (List.mem_of_getElem? e))), h4 n (List.mem_of_getElem? e)⟩
  fn := fun i n e1 e2 => by
    have q := kidB_of h1 e1 e2
    show (scope.names.lookup n == some .cell) = true
    rw [q]; rfl
  calm := C.calm
  room := C.room
  tk := takes0
  pass := PassesOwn.never
end
def SD.isOwn : SD → Bool
  | .own _ => true
  | _ => false
def wipeG (Γ : List SD) : List Nat → List SD
  | [] => Γ
  | i :: is => (wipeG Γ is).set i .any
theorem wipeG_out {Γ : List SD} {i : Nat} : ∀ {vs : List Nat}, i ∉ vs → (wipeG Γ vs)[i]? = Γ[i]?
  | [], _ => rfl
  | v :: vs, h => by
    have h1 : v ≠ i := fun e => h (by rw [e]; exact List.mem_cons_self)
    unfold wipeG
    rw [List.getElem?_set_ne h1]
    exact wipeG_out fun z => h (List.mem_cons_of_mem _ z)
theorem wipeG_any {Γ : List SD} {i : Nat} {s : SD} : ∀ {vs : List Nat}, (wipeG Γ vs)[i]? = some s → s = .any ∨ Γ[i]? = some s
  | [], h => .inr h
  | v :: vs, h => by
    unfold wipeG at h
    by_cases e : v = i
    · subst e
      rw [List.getElem?_set] at h
      simp at h
      exact .inl h.2.symm
    · rw [List.getElem?_set_ne e] at h
      exact wipeG_any h
theorem wipeG_len {Γ : List SD} : ∀ {vs : List Nat}, (wipeG Γ vs).length = Γ.length
  | [] => rfl
  | v :: vs => by unfold wipeG; rw [List.length_set, wipeG_len]
section
variable {γ : Type} {G : GC} {P : Hp} {W : Wd γ} {g g' : γ} {Γ Γx : List SD} {σ σ2 : L2.St} {F H F' H' : Hp} {vs : List Nat} {D : Addr} {xs : List V}
/-- into the block: the new list is nobody's -/
theorem StG.enter (S : StG G P W g Γ σ F H) (hF : F D = none) (hP : P D = none) (hw : ¬ W.has g D) (ho : ∀ (j : Nat) (Q : LP), Γ[j]? = some (.own Q) → σ[j]? ≠ some (some (.ref D))) (hD : H D = some (.lst xs)) :
    StG G (upd P D (.lst xs)) W g (wipeG Γ vs) (wipe σ vs) F H where
  fh := S.fh
  ph := fun a o e => by
    by_cases ha : a = D
    · subst ha; rw [upd_same] at e; cases e; exact hD
    · rw [upd_ne ha] at e; exact S.ph a o e
  dj := fun a o e => by
    have ha : a ≠ D := fun z => by subst z; rw [hF] at e; cases e
    rw [upd_ne ha]; exact S.dj a o e
  wi := S.wi
  wf := fun a z => by
    have ha : a ≠ D := fun e => hw (e ▸ z)
    rw [upd_ne ha]; exact S.wf a z
  sl := by
    have step : ∀ (l : List Nat) (Γ0 : List SD) (σ0 : L2.St), Paired (SlotOk G P W g F H) Γ0 σ0 → Paired (SlotOk G P W g F H) (wipeG Γ0 l) (wipe σ0 l) := by
      intro l
      induction l with
      | nil => intro _ _ h; exact h
      | cons v r ih => intro Γ0 σ0 h; exact Paired.setP v (ih Γ0 σ0 h) trivial
    refine Paired.mapI (step vs Γ σ S.sl) fun i x y e1 e2 r => ?_
    cases x with
    | any => trivial
    | val q => exact r
    | own q =>
      obtain ⟨b, o', e, h1, h2, h3, h4, mu, h5⟩ := r
      have hb : b ≠ D := fun z => by
        subst z
        subst e
        rcases wipeG_any e1 with w | w
        · cases w
        · exact ho i q w (wipe_some e2).1
      exact ⟨b, o', e, h1, by rw [upd_ne hb]; exact h2, h3, h4, mu, h5⟩
  ow := fun i j a A B e1 e2 e3 e4 => by
    rcases wipeG_any e1 with w | w
    · cases w
    rcases wipeG_any e2 with w2 | w2
    · cases w2
    exact S.ow i j a A B w w2 (wipe_some e3).1 (wipe_some e4).1
/-- and out of it -/
theorem StG.leave (S : StG G P W g Γ σ F H) (S' : StG G (upd P D (.lst xs)) W g' Γx σ2 F' H') (hF : Same F F') (hP : P D = none) (hw : wipe σ2 vs = wipe σ vs) (hx : ∀ (i : Nat) (Q : LP), Γ[i]? = some (.own Q) → i ∉ vs ∧ Γx[i]? = some (.own Q)) :
    StG G P W g' Γ σ F' H' ∧ F' D = none ∧ ¬ W.has g' D ∧ (∀ (j : Nat) (Q : LP), Γ[j]? = some (.own Q) → σ[j]? ≠ some (some (.ref D))) ∧ H' D = some (.lst xs) := by
  have pD : upd P D (.lst xs) D = some (.lst xs) := upd_same
  have eσ : ∀ (i : Nat), i ∉ vs → σ2[i]? = σ[i]? := fun i hi => by rw [← wipe_out (σ := σ2) hi, hw, wipe_out hi]
  have np : ∀ a, upd P D (.lst xs) a = none → P a = none ∧ a ≠ D := fun a e => by
    have ha : a ≠ D := fun z => by subst z; rw [pD] at e; cases e
    rw [upd_ne ha] at e
    exact ⟨e, ha⟩
  refine ⟨⟨S'.fh, fun a o e => ?_, fun a o e => (np a (S'.dj a o e)).1, S'.wi, fun a z => ?_, ?_, S.ow⟩, ?_, fun z => ?_, fun j Q e1 e2 => ?_, S'.ph D _ pD⟩
  · have ha : a ≠ D := fun z => by subst z; rw [hP] at e; cases e
    exact S'.ph a o (by rw [upd_ne ha]; exact e)
  · obtain ⟨h1, h2, h3⟩ := S'.wf a z
    exact ⟨h1, (np a h2).1, h3⟩
  · refine Paired.mapI S.sl fun i x y e1 e2 r => ?_
    cases x with
    | any => trivial
    | val q =>
      obtain ⟨u, e, r⟩ := r
      exact ⟨u, e, q.mono hF r⟩
    | own q =>
      obtain ⟨n1, n2⟩ := hx i q e1
      obtain ⟨y', e3, b, o', e, h1, h2, h3, h4, mu, h5⟩ := Paired.getP S'.sl n2
      rw [eσ i n1, e2] at e3
      cases e3
      exact ⟨b, o', e, h1, (np b h2).1, h3, h4, mu, h5⟩
  · cases q : F' D with
    | none => rfl
    | some u => have := S'.dj D u q; rw [pD] at this; cases this
  · have := (S'.wf D z).2.1
    rw [pD] at this; cases this
  · obtain ⟨n1, n2⟩ := hx j Q e1
    obtain ⟨y', e3, b, o', e, h1, h2, h3, h4, mu, h5⟩ := Paired.getP S'.sl n2
    rw [eσ j n1, e2] at e3
    cases e3
    cases e
    exact (np D h2).2 rfl
end
section
variable {m : Type → Type} [PyM m] {α β : Type} [Rep α] [Rep β]
def mapL (f : α → m β) : List α → m (List β)
  | [] => pure []
  | x :: xs => f x >>= fun y => mapL f xs >>= fun ys => pure (y :: ys)
def filtL (t : α → m Bool) (f : α → m β) : List α → m (List β)
  | [] => pure []
  | x :: xs => t x >>= fun b => if b = true then f x >>= fun y => filtL t f xs >>= fun ys => pure (y :: ys) else filtL t f xs
def mapC (f : α → m β) (xs : List α) : m (List β) := must (llen xs.length) >>= fun _ => mapL (fun x => calm (f x)) xs
def filtC (t : α → m Bool) (f : α → m β) (xs : List α) : m (List β) := must (llen xs.length) >>= fun _ => filtL (fun x => calm (t x)) (fun x => calm (f x)) xs
variable {c : KX} {W : Wd (PyM.γ m)} {Γ : List SD} {elt tg iter tst : Expr} {pos : Pos} {N : List Str} {ks ks' : List Kd} {gs bs gs' bs' : List Str} {kk : Nat} {is : List Nat} {scope : Scope} {own : List (Str × Nat)}
/-- what a block asks of its parts -/
def BlkP (c : KX) (scope : Scope) (N : List Str) (ks' : List Kd) (gs' bs' : List Str) (kk : Nat) (Φ : KX → Prop) : Prop := ∀ s H C0 cl fp P', Ctx (c.blk s H scope C0 cl fp P') N ks' gs' bs' kk → Φ (c.blk s H scope C0 cl fp P')
structure LcR (c : KX) (W : Wd (PyM.γ m)) (Γ : List SD) (elt tg iter : Expr) (ifs : List Expr) (scope : Scope) (own : List (Str × Nat)) (x : m (List β)) : Prop where
  run : ∃ te wi g tt, (∀ (s : Shared) (H : Hp) (C0 : Addr) (cl : List (Str × Addr)) (fp : List Addr), PE (c.X.blk s H scope (compEnvC scope cl C0 c.X.env) fp) elt te) ∧ PI c.X tg iter wi ∧ (∀ (s : Shared) (H : Hp) (C0 : Addr) (cl : List (Str × Addr)) (fp : List Addr), PG (c.X.blk s H scope (compEnvC scope cl C0 c.X.env) fp) tg g) ∧ (∀ (s : Shared) (H : Hp) (C0 : Addr) (cl : List (Str × Addr)) (fp : List Addr), PTs (c.X.blk s H scope (compEnvC scope cl C0 c.X.env) fp) ifs tt) ∧
      ∀ σ F H gg Q, StF c W gg Γ σ F H → den x (fun y g' => PostO c W Γ σ F (.l y) Q g') (PostE c W Γ σ F) gg → tLc wi g tt te (own.map (·.2)) σ H Q
theorem lc_read {mi : m (List α)} {t : α → m Bool} {f : α → m β} {Γx : α → List SD} {tt : TT} {ifs : List Expr} (C : Ctx c N ks gs bs kk) (hi : PXI c W Γ tg iter mi) (hB : blkB scope N ks own = true) (hK : kidB scope N ks' = true) (hG : globsOk scope gs' = true) (hBs : globsOk scope bs' = true) (hMg : ∀ n ∈ bs', c.X.mg n = none) (hno : (own.all fun p => match Γ[p.2]? with | some s => !s.isOwn | none => true) = true) (his : (is.all fun i => decide (i ∈ own.map (·.2))) = true) (hg : BlkP c scope N ks' gs' bs' kk fun c' => ∀ x, PXG c' W (wipeG Γ (own.map (·.2))) tg x (Γx x) is) (he : BlkP c scope N ks' gs' bs' kk fun c' => ∀ x, PX c' W (Γx x) elt (f x)) (hts : BlkP c scope N ks' gs' bs' kk fun c' => PTs c'.X ifs tt) (htt : ∀ (P' : Hp) x σ F H g Q, StG c.G P' W g (Γx x) σ F H → den (t x) (fun b g' => ∀ F' H', Same F F' → StG c.G P' W g' (Γx x) σ F' H' → Q b H') (fun _ _ => False) g → tt σ H Q) :
    LcR c W Γ elt tg iter ifs scope own (mi >>= filtC t f) := by
  refine ⟨?_⟩
  have hsk : scope.kind = .function := (blkB_ok C hB).kind
  have ctx : ∀ s H C0 cl fp P', Ctx (c.blk s H scope C0 cl fp P') N ks' gs' bs' kk := fun s H C0 cl fp P' => C.blk hsk hK hG hBs hMg
  obtain ⟨wi, pi, qi⟩ := hi
  have his' : ∀ i ∈ is, i ∈ own.map (·.2) := fun i h => of_decide_eq_true (List.all_eq_true.mp his i h)
  refine ⟨fun σ H Q => ∃ x P' F, ∃ gg : PyM.γ m, StG c.G P' W gg (Γx x) σ F H ∧ den (f x) (fun y g' => ∀ v F' H', Same F F' → StG c.G P' W g' (Γx x) σ F' H' → rep c.G y v F' → Q v H') (fun _ _ => False) gg, wi,
    fun v σ H Q => ∃ x P' F, ∃ gg : PyM.γ m, StG c.G P' W gg (wipeG Γ (own.map (·.2))) σ F H ∧ rep c.G x v F ∧ ∀ σ', StG c.G P' W gg (Γx x) σ' F H → (∀ vs : List Nat, (∀ i ∈ is, i ∈ vs) → wipe σ' vs = wipe σ vs) → Q σ' H, tt,
    fun s H C0 cl fp => ⟨fun pins s1 σ H1 Q I h => ?_⟩, pi, fun s H C0 cl fp => ⟨fun pins s1 σ H1 v u Q I r h => ?_⟩, fun s H C0 cl fp => hts s H C0 cl fp (fun _ => none) (ctx s H C0 cl fp _), fun σ F H gg Q S d => ?_⟩
  · obtain ⟨x, P', F, gg, S, d⟩ := h
    obtain ⟨u, pu, qu⟩ := he s H C0 cl fp P' (ctx s H C0 cl fp P') x
    exact pu.run pins s1 σ H1 Q I (qu σ F H1 gg Q S (PyM.dmono d (fun _ _ h => h) fun _ _ h => h.elim))
  · obtain ⟨x, P', F, gg, S, rr, h⟩ := h
    obtain ⟨_, u', pu, qu⟩ := hg s H C0 cl fp P' (ctx s H C0 cl fp P') x
    exact pu.run pins s1 σ H1 v u Q I r (qu v σ F H1 gg Q S rr h)
  · refine qi σ F H gg _ S (PyM.dmono (PyM.dbind d) (fun xs g1 h1 J F1 H1 e1 S1 J1 D hD => ?_) fun _ _ h => h)
    obtain ⟨hz, h1⟩ := dmust h1
    have hown : ∀ (i : Nat) (Q : LP), Γ[i]? = some (.own Q) → i ∉ own.map (·.2) := fun i Q e hm => by
      obtain ⟨p, hp, e2⟩ := List.mem_map.mp hm
      have q := List.all_eq_true.mp hno p hp
      rw [e2, e] at q
      cases q
    have hkeep : ∀ (x : α) (i : Nat) (Q : LP), Γ[i]? = some (.own Q) → i ∉ own.map (·.2) ∧ (Γx x)[i]? = some (.own Q) := fun x i Q e => by
      refine ⟨hown i Q e, ?_⟩
      have k := (hg ({} : Shared) (fun _ => none) 0 [] [] (fun _ => none) (ctx _ _ _ _ _ _) x).keep i fun z => hown i Q e (his' i z)
      rw [k, wipeG_out (hown i Q e)]
      exact e
    refine ⟨fun i n H' => ∃ F' g' acc vs, n = xs.length - i ∧ i ≤ xs.length ∧ acc.length ≤ i ∧ Same F1 F' ∧ StF c W g' Γ σ F' H' ∧ Priv c W g' Γ σ F' D ∧ H' D = some (.lst vs) ∧ Reps β c.G F' acc vs ∧
      den (filtL (fun x => calm (t x)) (fun x => calm (f x)) (xs.drop i)) (fun ys g'' => PostO c W Γ σ F' (.l (acc ++ ys)) Q g'') (PostE c W Γ σ F') g', ⟨xs.length, F1, g1, [], [], rfl, Nat.zero_le _, Nat.le_refl _, Same.refl _, S1.allocH hD, S1.priv hD, upd_same, .nil, PyM.dmono h1 (fun _ _ h => h.after e1) fun _ _ h => h.after e1⟩, ?_⟩
    rintro i n H2 ⟨F2, g2, acc, vs, rfl, hil, hal, e2, S2, pr, hD2, rr, d2⟩
    by_cases hlt : i < xs.length
    · have hx : xs[i]? = some xs[i] := by simp [hlt]
      refine .inr ⟨J1.go i _ F2 H2 e2 S2.fh hx, fun H' => ∃ F' g' acc vs, acc.length ≤ i + 1 ∧ Same F1 F' ∧ StF c W g' Γ σ F' H' ∧ Priv c W g' Γ σ F' D ∧ H' D = some (.lst vs) ∧ Reps β c.G F' acc vs ∧
        den (filtL (fun x => calm (t x)) (fun x => calm (f x)) (xs.drop (i + 1))) (fun ys g'' => PostO c W Γ σ F' (.l (acc ++ ys)) Q g'') (PostE c W Γ σ F') g', fun H' ⟨F', g', acc, vs, a0, a1, a2, a3, a4, a5, a6⟩ => ⟨_, by omega, F', g', acc, vs, rfl, hlt, a0, a1, a2, a3, a4, a5, a6⟩, fun v H3 y => ?_⟩
      obtain ⟨k1, F3, k2, k3, k4, r3⟩ := J1.yld i _ F2 H2 v H3 e2 S2.fh hx y
      have S3 := S2.yield ⟨k1, k2, k3, k4⟩
      have hD3 := k1 _ _ hD2
      have f3 := k4 D _ pr.f hD2
      have B3 := StG.enter (vs := own.map (·.2)) S3 f3 pr.p pr.w pr.o hD3
      rw [List.drop_eq_getElem_cons hlt] at d2
      refine ⟨xs[i], _, F3, g2, B3, r3, fun σ4 B4 hw4 => ?_⟩
      have hw : wipe σ4 (own.map (·.2)) = wipe σ (own.map (·.2)) := by
        rw [hw4 _ his']
        apply List.ext_getElem?
        intro j
        by_cases hj : j ∈ own.map (·.2)
        · by_cases hl : j < σ.length
          · rw [wipe_get hj hl, wipe_get hj (by rw [wipe_length]; exact hl)]
          · rw [List.getElem?_eq_none (by rw [wipe_length, wipe_length]; omega), List.getElem?_eq_none (by rw [wipe_length]; omega)]
        · rw [wipe_out hj]
      refine ⟨by
        have e : wipe (wipe σ (own.map (·.2))) (own.map (·.2)) = wipe σ (own.map (·.2)) := by rw [← hw4 _ his', hw]
        rw [hw], ?_⟩
      refine htt _ xs[i] σ4 F3 H3 g2 _ B4 (PyM.dmono (dcalm (PyM.dbind d2)) (fun b g5 h5 F5 H5 e5 B5 => ?_) fun _ _ h => h)
      have hx' := hkeep xs[i]
      cases b with
      | false =>
        have h5 : den (if false = true then _ else _) _ _ g5 := h5
        rw [if_neg Bool.false_ne_true] at h5
        rw [if_neg Bool.false_ne_true]
        obtain ⟨S6, f6, w6, o6, hD6⟩ := StG.leave S3 B5 e5 pr.p hw hx'
        exact ⟨F5, g5, acc, vs, by omega, (e2.trans k2).trans e5, S6, ⟨f6, pr.p, w6, o6⟩, hD6, Reps.mono (k2.trans e5) rr, PyM.dmono h5 (fun _ _ h => h.after (k2.trans e5)) fun _ _ h => h.after (k2.trans e5)⟩
      | true =>
        have h5 : den (if true = true then _ else _) _ _ g5 := h5
        rw [if_pos rfl] at h5
        rw [if_pos rfl]
        refine ⟨xs[i], _, F5, g5, B5, PyM.dmono (dcalm (PyM.dbind h5)) (fun z g6 h6 u F6 H6 e6 B6 r6 => ?_) fun _ _ h => h⟩
        obtain ⟨S7, f7, w7, o7, hD7⟩ := StG.leave S3 B6 (e5.trans e6) pr.p hw hx'
        have p7 : Priv c W g6 Γ σ F6 D := ⟨f7, pr.p, w7, o7⟩
        have hz' : xs.length ≤ sizeLine := hz
        refine ⟨vs, hD7, by rw [← rr.length]; omega, F6, g6, acc ++ [z], vs ++ [u], by rw [List.length_append]; simpa using hal, ((e2.trans k2).trans e5).trans e6, StF.chg S7 p7, p7, upd_same, (Reps.mono ((k2.trans e5).trans e6) rr).append (.cons r6 .nil), ?_⟩
        exact PyM.dmono (PyM.dbind h6) (fun ys g7 h7 => by
          have q := PyM.dpure h7
          have q := PostO.after q ((k2.trans e5).trans e6)
          rw [List.append_assoc]
          exact q) fun _ _ h => h.after ((k2.trans e5).trans e6)
    · have hz : xs.drop i = [] := List.drop_eq_nil_of_le (by omega)
      rw [hz] at d2
      have q := PyM.dpure d2
      rw [List.append_nil] at q
      exact .inl ⟨J1.stop i F2 H2 e2 S2.fh (by omega), q D _ F2 H2 (Same.refl _) S2 pr hD2 mutL ⟨vs, rfl, rr⟩⟩
theorem filtL_of {t : α → m Bool} {f : α → m β} (ht : ∀ x, t x = calm (pure true)) {Q E} : ∀ {xs : List α} {g : PyM.γ m}, den (mapL f xs) Q E g → den (filtL t f xs) Q E g
  | [], g, h => h
  | x :: xs, g, h => by
    unfold filtL
    rw [ht x]
    refine PyM.ibind (icalm (PyM.ipure ?_))
    rw [if_pos rfl]
    refine PyM.ibind (PyM.dmono (PyM.dbind h) (fun y g h => ?_) fun _ _ h => h)
    refine PyM.ibind (filtL_of ht (xs := xs) (PyM.dmono (PyM.dbind h) (fun ys g h => h) fun _ _ h => h))
theorem filtC_of {mi : m (List α)} {f : α → m β} {Q E} {g : PyM.γ m} (h : den (mi >>= mapC f) Q E g) : den (mi >>= filtC (fun _ => pure true) f) Q E g := by
  refine PyM.ibind (PyM.dmono (PyM.dbind h) (fun xs g h => ?_) fun _ _ h => h)
  obtain ⟨h1, h2⟩ := dmust h
  exact imust h1 (filtL_of (fun _ => rfl) h2)
theorem lc_if {mi : m (List α)} {t : α → m Bool} {f : α → m β} {Γx : α → List SD} (C : Ctx c N ks gs bs kk) (hi : PXI c W Γ tg iter mi) (hB : blkB scope N ks own = true) (hK : kidB scope N ks' = true) (hG : globsOk scope gs' = true) (hBs : globsOk scope bs' = true) (hMg : ∀ n ∈ bs', c.X.mg n = none) (hno : (own.all fun p => match Γ[p.2]? with | some s => !s.isOwn | none => true) = true) (his : (is.all fun i => decide (i ∈ own.map (·.2))) = true) (hg : BlkP c scope N ks' gs' bs' kk fun c' => ∀ x, PXG c' W (wipeG Γ (own.map (·.2))) tg x (Γx x) is) (ht : BlkP c scope N ks' gs' bs' kk fun c' => ∀ x, PXT c' W (Γx x) tst (t x)) (he : BlkP c scope N ks' gs' bs' kk fun c' => ∀ x, PX c' W (Γx x) elt (f x)) :
    LcR c W Γ elt tg iter [tst] scope own (mi >>= filtC t f) := by
  refine lc_read (tt := fun σ H Q => ∃ x P' F, ∃ gg : PyM.γ m, StG c.G P' W gg (Γx x) σ F H ∧ den (t x) (fun b g' => ∀ F' H', Same F F' → StG c.G P' W g' (Γx x) σ F' H' → Q b H') (fun _ _ => False) gg) C hi hB hK hG hBs hMg hno his hg he (fun s H C0 cl fp P' C' => pts_one ⟨fun pins s1 σ H1 Q I h => ?_⟩) fun P' x σ F H g Q S d => ⟨x, P', F, g, S, d⟩
  obtain ⟨x, P'', F, gg, S, d⟩ := h
  obtain ⟨u, pu, qu⟩ := ht s H C0 cl fp P'' (C.blk (blkB_ok C hB).kind hK hG hBs hMg) x
  exact pu.run pins s1 σ H1 Q I (qu σ F H1 gg Q S (PyM.dmono d (fun _ _ h => h) fun _ _ h => h.elim))
theorem lc_all {mi : m (List α)} {f : α → m β} {Γx : α → List SD} (C : Ctx c N ks gs bs kk) (hi : PXI c W Γ tg iter mi) (hB : blkB scope N ks own = true) (hK : kidB scope N ks' = true) (hG : globsOk scope gs' = true) (hBs : globsOk scope bs' = true) (hMg : ∀ n ∈ bs', c.X.mg n = none) (hno : (own.all fun p => match Γ[p.2]? with | some s => !s.isOwn | none => true) = true) (his : (is.all fun i => decide (i ∈ own.map (·.2))) = true) (hg : BlkP c scope N ks' gs' bs' kk fun c' => ∀ x, PXG c' W (wipeG Γ (own.map (·.2))) tg x (Γx x) is) (he : BlkP c scope N ks' gs' bs' kk fun c' => ∀ x, PX c' W (Γx x) elt (f x)) :
    LcR c W Γ elt tg iter [] scope own (mi >>= mapC f) := by
  obtain ⟨te, wi, g, tt, h1, h2, h3, h4, h5⟩ := lc_read (t := fun _ => pure true) (tt := tYes) C hi hB hK hG hBs hMg hno his hg he (fun s H C0 cl fp P' C' => pts_nil) fun P' x σ F H g Q S d => PyM.dpure d F H (Same.refl _) S
  exact ⟨te, wi, g, tt, h1, h2, h3, h4, fun σ F H gg Q S d => h5 σ F H gg Q S (filtC_of d)⟩
/-- as a value -/
theorem pxo_lc {ifs : List Expr} {x : m (List β)} (C : Ctx c N ks gs bs kk) (hB : blkB scope N ks own = true) (h : LcR c W Γ elt tg iter ifs scope own x) (hs : ∀ x, foldedSetIterable iter c.X.env x = pure x := by intro _; rfl) :
    PXO c W Γ (.ListComp elt [⟨tg, iter, ifs, 0⟩] scope pos) x LP.l := by
  obtain ⟨te, wi, g, tt, h1, h2, h3, h4, h5⟩ := h
  exact ⟨_, pe_lc C.calm (by rw [C.hN]; exact C.nd) h2 (blkB_ok C hB) h3 h4 h1 hs, h5⟩
/-- as the right side, on one line with the name -/
theorem pn_setLc {ifs : List Expr} {x : m (List β)} {n : Str} {py spos : Pos} (C : Ctx c N ks gs bs kk) (hE : SubE Γ c.Γe) (i : Nat) (hB : blkB scope N ks own = true) (h : LcR c W Γ elt tg iter ifs scope own x) (hN : N[i]? = some n := by rfl) (hd : ks[i]? = some .loc := by rfl) (hl : (py.line == pos.line) = true := by rfl) (ha : (scope.names.any fun (k, d) => k == n && (d == .local || d == .cell)) = false := by rfl) (hs : ∀ x, foldedSetIterable iter c.X.env x = pure x := by intro _; rfl) :
    PN c W Γ (.Assign [.Name n py] (.ListComp elt [⟨tg, iter, ifs, 0⟩] scope pos) spos) x (fun v => Γ.set i (.own (.l v))) := by
  obtain ⟨te, wi, g, tt, h1, h2, h3, h4, h5⟩ := h
  have hy := C.kd i n .loc hN hd
  refine ⟨_, ps_setLc C.calm (by rw [C.hN]; exact C.nd) (by rw [C.hN]; exact hN) hy (sw_true C.kind hy hl ha) h2 (blkB_ok C hB) h3 h4 h1 hs, fun σ F H g D S d => h5 σ F H g _ S (PyM.dmono d (fun v g1 h1 a o F1 H1 e1 S1 pr ho mu hp => ?_) fun _ _ h => h.at hE)⟩
  exact h1 _ F1 H1 e1 (S1.seto i pr.f pr.p pr.w ho mu hp fun j P _ e1 => pr.o j P e1)
end
end SP
namespace SP
open PySem PySem.Spec L2
open Rep (rep)
open PyM (den lift handle)

/-! ### exceptions of one's own -/
/-- a class between ValueError and the errors, without an __init__ of its own -/
structure BaseC (K : PySem.W.Frag) (C : Addr) : Prop where
  ga : PySem.W.specialIn K (.ref C) "__getattribute__" = some (some (.builtin "type.__getattribute__"))
  rd : ∃ mc, PySem.W.readsIn K C mc = true ∧ PySem.W.findCls K (.ref C) mc "__init__" = some (.val (.builtin "ValueError.__init__"))
section
variable {X : Cx} {e : Expr} {es : List Expr} {ta : TA} {p1 p2 pos : Pos} {n : Str} {C0 : Addr}
theorem pe_seinit {pl : Sem Bool} (hg : Gl X n) (hm : X.mg n = some (.ref C0)) (B : BaseC X.K C0) (ha : PA X (e :: es) ta) (hd : (n == ("__debug__" : Str)) = false)
    (hc : eval (.Call (.Attribute (.Name n p1) "__init__" p2) (e :: es) [] pos) X.env = (do
      let ov ← eval (.Name n p1) X.env
      standAt p2.atName
      let (f, first) ← holding [ov] (getMethod ov "__init__" pl)
      callWith pos f first (backTo pos (starEach (e :: es) X.env)) (backToKw pos (keywordEach [] X.env))))
    (he : starEach (e :: es) X.env = (false, eval e X.env) :: starEach es X.env) (hpl : (backTo pos (starEach es X.env)).any (·.1) = false) :
    PE X (.Call (.Attribute (.Name n p1) "__init__" p2) (e :: es) [] pos) (tVeI X.K ta) := by
  refine ⟨fun pins s σ H Q I h => ?_⟩
  refine PySem.W.methodCall_KW (ld_glob I hg hm ?_ hd) hc
  obtain ⟨mc, rd, at_⟩ := B.rd
  refine PySem.W.method_cls I.kIn B.ga (PySem.W.cls_value I.kIn rd at_ (by decide +kernel) ?_)
  show wpAny _ _ (callWith pos (Value.builtin "ValueError.__init__") [] (backTo pos (starEach (e :: es) X.env)) []) _ _ _
  refine PyProof.Rows.callWith_method1 (thn (ha.run pos pins _ σ H _ (I.tok _) h) fun us s1 ⟨vs, H1, I1, r1, a, C, ws, ev, hl, T, ea, q⟩ => ?_) he hpl
  subst ev
  cases r1 with
  | @cons _ u0 _ ur ra rw' =>
    obtain rfl : u0 = Value.ref a := ra
    have hlen : ur.length ≤ sizeLine := by
      rw [← Paired.length rw', sizeLine_eq]
      omega
    exact oinit_ok T I1 ea hlen fun s' J => ⟨.non, H1, J, rfl, q⟩
end
/-- what __init__(self, v) leaves: the field f -/
def spInit (K : PySem.W.Frag) (C : Addr) (f : Str) : Sp := fun vs H Q E => ∃ a v, vs = [.ref a, v] ∧ H a = some (exo a C none) ∧ ∀ dx, H dx = none → dx ≠ a → Q .non (upd (upd H dx (exd dx [(f, v)])) a (exo a C (some dx)))
section
variable {P : Program} {w : World} {K : PySem.W.Frag} {mg : Str → Option Value} {base : Heap} {x qual : Str} {params : Arguments} {scope : Scope} {fA : Addr} {fd : FuncData}
theorem init_ok {CX : CXT} {v f s : Str} {C C0 : Addr} {j : Nat} {p1 p2 p3 p4 p5 p6 p7 p8 p9 p10 : Pos} (F : FunD K x qual params
      [.Expr (.Call (.Attribute (.Name "SleepError" p1) "__init__" p2) [.Name "self" p3, .Constant (.str s) j p4] [] p5) p6, .Assign [.Attribute (.Name "self" p7) f p8] (.Name v p9) p10] scope [] [] fA fd)
    (S : FnScope ["self", v] ["self", v] scope) (hs : scope.names.lookup ("self" : Str) = some .local) (hv : scope.names.lookup v = some .local) (hn : scope.names.lookup ("SleepError" : Str) = some .globalImplicit) (hg : mg "SleepError" = some (.ref C0)) (B : BaseC K C0) (T : OexC K C) (hno : PySem.W.findIn K (.ref C) f = some none)
    (hc : ∀ (L a : Addr) (cd : Value), ∃ pl, eval (.Call (.Attribute (.Name "SleepError" p1) "__init__" p2) [.Name "self" p3, .Constant (.str s) j p4] [] p5) (PyProof.Rows.envOfC qual scope L a cd) = (do
      let ov ← eval (.Name "SleepError" p1) (PyProof.Rows.envOfC qual scope L a cd)
      standAt p2.atName
      let (f, first) ← holding [ov] (getMethod ov "__init__" pl)
      callWith p5 f first (backTo p5 (starEach [.Name "self" p3, .Constant (.str s) j p4] (PyProof.Rows.envOfC qual scope L a cd))) (backToKw p5 (keywordEach [] (PyProof.Rows.envOfC qual scope L a cd)))) := by exact fun _ _ _ => ⟨_, rfl⟩)
    (n1 : (v == ("__debug__" : Str)) = false := by decide) (n2 : (v == ("__classdict__" : Str)) = false := by decide) : FnOk P w K mg base CX 1 fA fd ["self", v] (spInit K C f) := by
  refine F.ok S (fun vs H Q E h => ?_) fun cdv A outer s' H vs Q E hr h => ?_
  · obtain ⟨a, u, rfl, _⟩ := h; rfl
  · obtain ⟨a, u, rfl, ha, hq⟩ := h
    let X0 : Cx := cxOf CX P w K mg base ["self", v] qual scope fA cdv A outer s' H E
    obtain ⟨pl, hpl⟩ := hc s'.heap.objs.size fA cdv
    have v0 : Vis X0.env.scope "self" := .inl hs
    have v1 : Vis X0.env.scope v := .inl hv
    have h1 : PE X0 (.Name "self" p3) _ := pe_var (i := 0) rfl v0 (by decide) (by decide)
    have h2 : PE X0 (.Name "self" p7) _ := pe_var (i := 0) rfl v0 (by decide) (by decide)
    have h3 : PE X0 (.Name v p9) _ := pe_var (i := 1) rfl v1 n1 n2
    refine ⟨_, pss_cons (ps_expr (pe_seinit (X := X0) hn hg B (pa_cons h1 (pa_cons pe_str pa_nil)) (by decide) hpl rfl rfl)) (pss_cons (ps_ost h2 h3) pss_nil), ?_⟩
    refine ⟨.ref a, rfl, _, C, [.str s], rfl, by show 1 ≤ 1000; omega, T, ha, ?_⟩
    refine ⟨u, rfl, .ref a, rfl, a, C, rfl, T, hno, .inl ⟨ha, fun dx e1 e2 => hq dx e1 e2⟩⟩
end
/-! ### raise -/
/-- a value that stands for itself -/
class Scal (α : Type) [Rep α] where
  toV : α → V
  eq : ∀ {G : GC} {x : α} {v : V} {H : Hp}, rep G x v H → v = toV x
instance : Scal Int := ⟨V.int, fun h => h⟩
instance : Scal Bool := ⟨V.bl, fun h => h⟩
instance : Scal Str := ⟨V.str, fun h => h⟩
/-- an exception class whose __init__(self, f) keeps f -/
structure XCal (M : MG) (n f : Str) : Prop where
  mg : M.mg n = some (.ref (M.cls n))
  T : OexC M.K (M.cls n)
  ini : ∃ (fI : Addr) (fd : FuncData) (ps : List Str), PySem.W.findIn M.K (.ref (M.cls n)) "__init__" = some (some (.ref fI)) ∧ PySem.W.typeIn M.K (.ref fI) = some (.type "function") ∧ FnS M 1 fI fd ps (spInit M.K (M.cls n) f) ∧ Binds M.K fd ps []
section
variable {m : Type → Type} [PyM m] {c : KX} {W : Wd (PyM.γ m)} {Γ : List SD} {e : Expr} {α O : Type} [Rep α] [Scal α] {p pos pos' : Pos} {rest : List Stmt} {K : O → Fin} {N : List Str} {ks : List Kd} {gs bs : List Str} {kk : Nat} {n f : Str}
theorem pb_raise {x : m α} (C : Ctx c N ks gs bs kk) (he : SubE Γ c.Γe) (j : Nat) (hx : XCal c.M n f) (ha : PX c W Γ e x) (hj : gs[j]? = some n := by rfl) (hk : 2 ≤ kk := by decide) (hdb : (n == ("__debug__" : Str)) = false := by decide) (hs : starEach [e] c.X.env = (false, eval e c.X.env) :: starEach [] c.X.env := by rfl) : PB c W Γ (.Raise (some (.Call (.Name n p) [e] [] pos)) none pos' :: rest) (x >>= fun v => (raise ⟨n, [(f, Scal.toV v)]⟩ : m O)) K := by
  obtain ⟨t, pt, qt⟩ := ha
  obtain ⟨fI, fd, ps, i1, i2, FO, hb⟩ := hx.ini
  have pm := pmk_oex (X := c.X) (x := n) (p := p) (pos := pos) (dvs := []) (ds := []) hx.T i1 i2 FO (C.room.mono hk) hb .nil (passes_call C.tk fun _ _ _ _ z => z.elim) (C.gl j n hj) hx.mg (pa_cons pt pa_nil hs) hdb hs rfl
  refine ⟨_, pss_cons (ps_raise C.calm C.tk pm) pss_never, fun σ F H g D S d => qt σ F H g _ S (PyM.dmono (PyM.dbind d) (fun v g1 h1 u F1 H1 e1 S1 r1 => ?_) fun _ _ h => h.at he)⟩
  have h1 := draise h1
  refine ⟨by show 1 ≤ 1000; omega, fun a ha => ⟨a, u, rfl, upd_same, fun dx h2 h3 => ⟨rfl, dx, [(f, u)], upd_same, ?_, ?_, ?_⟩⟩⟩
  · rw [upd_ne h3, upd_same]
  · rw [upd_ne h3] at h2; exact h2
  · have hd : H1 dx = none := by rw [upd_ne h3] at h2; exact h2
    have eH : upd (del (upd (upd (upd H1 a (exo a (c.cls n) none)) dx (exd dx [(f, u)])) a (exo a (c.cls n) (some dx))) a) dx (.xd [(f, u)]) = upd H1 dx (.xd [(f, u)]) := by
      funext b
      by_cases hb : b = dx
      · subst hb; rw [upd_same, upd_same]
      · rw [upd_ne hb, upd_ne hb]
        by_cases hb2 : b = a
        · subst hb2; rw [del_same, ha]
        · rw [del_ne hb2, upd_ne hb2, upd_ne hb, upd_ne hb2]
    show c.Wx _ _ _ (upd (del _ a) dx _)
    rw [eH]
    exact h1 _ _ Γ σ F1 _ e1 (S1.allocH hd) he ⟨rfl, .inr ⟨dx, rfl, by rw [upd_same, Scal.eq r1]⟩⟩
end

/-! ### try -/
section
variable {m : Type → Type} [PyM m] {c : KX} {W : Wd (PyM.γ m)} {Γ Γe : List SD} {S R O : Type} {pos pos' np : Pos} {rest body suite : List Stmt} {b₀ : Stmt} {N : List Str} {ks : List Kd} {gs bs : List Str} {kk : Nat} {x : Str}
def caught {α : Type} (yes no : List Str) (hd : Exc → m α) (e : Exc) : Option (m α) := if e.cls ∈ yes then some (calm (hd e)) else if e.cls ∈ no then none else some stuck
/-- inside a try -/
def TryB (c : KX) (N : List Str) (ks : List Kd) (gs bs : List Str) (kk : Nat) (Γe : List SD) (Φ : KX → Prop) : Prop := ∀ (W1 : WX) (pn : List (Addr × Obj)) (xe : Value → Shared → Prop), Ctx ⟨c.X.tr pn xe, c.cls, W1, c.P, Γe⟩ N ks gs bs kk → Φ ⟨c.X.tr pn xe, c.cls, W1, c.P, Γe⟩
/-- inside an except suite -/
def SuiB (c : KX) (Φ : Addr → Obj → KX → Prop) : Prop := ∀ (a : Addr) (oe : Obj) (pn : List (Addr × Obj)), Φ a oe ⟨c.X.suite a ((a, oe) :: pn), c.cls, fun _ _ _ _ => False, c.P, []⟩
theorem try_core (C : Ctx c N ks gs bs kk) (Fm : Frm c) (he0 : c.Γe = []) (j : Nat) {yes no : List Str} {y : m O} {hd : Exc → m O} {K : O → Fin} (hne : Γe ≠ []) (hmg : c.X.mg x = some (.ref (c.cls x)))
    (hyes : ∀ n ∈ yes, PySem.W.exmOne c.X.K (.ref (c.cls n)) (.ref (c.cls x)) = some true) (hno : ∀ n ∈ no, PySem.W.exmOne c.X.K (.ref (c.cls n)) (.ref (c.cls x)) = some false)
    (hb : TryB c N ks gs bs kk Γe fun c' => PB c' W Γ body y K) (hsu : SuiB c fun _ _ c' => ∀ e : Exc, e.cls ∈ yes → PB c' W Γe (b₀ :: suite) (hd e) K)
    (hj : gs[j]? = some x := by rfl) (hdb : (x == ("__debug__" : Str)) = false := by decide) :
    ∃ t : TS, PS c.X (.Try body [.ExceptHandler (some (.Name x np)) none (b₀ :: suite) pos'] [] [] pos) t ∧ ∀ σ F H g D, StF c W g Γ σ F H → den (handle y (caught yes no hd)) (fun o g' => PostS c W F D (K o) g') (PostSE c W F) g → t D σ H := by
  let tb : WX → TS := fun W1 D σ H => ∃ F g, StF c W g Γ σ F H ∧ den y (fun o g' => PostS c W F D (K o) g') (fun ex g' => ∀ cls d Γ' σ' F' H', Same F F' → StF c W g' Γ' σ' F' H' → SubE Γ' Γe → ExcAt c.G ex cls d H' → W1 cls d σ' H') g
  let ts : Addr → Value → Option Addr → TS := fun a cls d D σ H => ∃ e F g, e.cls ∈ yes ∧ StF c W g Γe σ F H ∧ den (hd e) (fun o g' => PostS c W F D (K o) g') (fun _ _ => False) g
  refine ⟨_, ps_try_only (tb := tb) (ts := ts) (c := .ref (c.cls x)) Fm.stk Fm.frm ⟨C.gl j x hj, hdb, .inl hmg⟩ C.tk (fun W1 pn xe tk pw => ⟨fun pins s σ H D I h => ?_⟩) (fun a oe cls d pn hz hv => ⟨fun pins s σ H D I h => ?_⟩), fun σ F H g D S d => ?_⟩
  · obtain ⟨F, g, St, d⟩ := h
    obtain ⟨t, pt, qt⟩ := hb W1 pn xe ⟨C.hN, C.nd, C.kd, C.kind, C.gl, C.bl, C.fn, C.calm, C.room, tk, pw⟩
    exact pt.run pins s σ H D I (qt σ F H g D St d)
  · obtain ⟨e, F, g, hm, St, d⟩ := h
    obtain ⟨t, pt, qt⟩ := hsu a oe pn e hm
    exact pt.run pins s σ H D I (qt σ F H g D St (PyM.dmono d (fun _ _ h => h) fun _ _ h => h.elim))
  · refine ⟨F, g, S, PyM.dmono (PyM.dhandle d) (fun _ _ h => h) fun ex g1 h1 cls dx Γ' σ1 F1 H1 e1 S1 se ea => ?_⟩
    have hcl : cls = .ref (c.cls ex.cls) := ea.1
    have S2 : StF c W g1 Γe σ1 F1 H1 := by
      rcases se with z | z
      · exact absurd z hne
      · exact S1.sub z
    unfold caught at h1
    by_cases hy : ex.cls ∈ yes
    · rw [if_pos hy] at h1
      refine ⟨true, by rw [hcl]; exact hyes _ hy, fun _ a ha => ⟨ex, F1, g1, hy, S2, PyM.dmono (dcalm h1) (fun _ _ h => h.after e1) fun _ _ h => h⟩, fun z => by cases z⟩
    · rw [if_neg hy] at h1
      by_cases hn : ex.cls ∈ no
      · rw [if_pos hn] at h1
        exact ⟨false, by rw [hcl]; exact hno _ hn, fun z => (Bool.false_ne_true z).elim, fun _ => h1 cls dx Γ' σ1 F1 H1 e1 S1 (.inl he0) ea⟩
      · rw [if_neg hn] at h1
        exact (dstuck h1).elim
/-- try .. except x: .. as the last statement -/
theorem pb_tryX {yes no : List Str} {y : m O} {hd : Exc → m O} {K : O → Fin} (C : Ctx c N ks gs bs kk) (Fm : Frm c) (he0 : c.Γe = []) (j : Nat) (hne : Γe ≠ []) (hmg : c.X.mg x = some (.ref (c.cls x))) (hyes : ∀ n ∈ yes, PySem.W.exmOne c.X.K (.ref (c.cls n)) (.ref (c.cls x)) = some true) (hno : ∀ n ∈ no, PySem.W.exmOne c.X.K (.ref (c.cls n)) (.ref (c.cls x)) = some false) (hb : TryB c N ks gs bs kk Γe fun c' => PB c' W Γ body y fun o => (K o).noNx) (hsu : SuiB c fun _ _ c' => ∀ e : Exc, e.cls ∈ yes → PB c' W Γe (b₀ :: suite) (hd e) fun o => (K o).noNx) (hj : gs[j]? = some x := by rfl) (hdb : (x == ("__debug__" : Str)) = false := by decide) :
    PB c W Γ (.Try body [.ExceptHandler (some (.Name x np)) none (b₀ :: suite) pos'] [] [] pos :: rest) (handle y (caught yes no hd)) K := by
  obtain ⟨t, pt, qt⟩ := try_core (np := np) (pos := pos) (pos' := pos') C Fm he0 j hne hmg hyes hno hb hsu hj hdb
  refine ⟨_, pss_cons pt pss_never, fun σ F H g D S d => qt σ F H g _ S (PyM.dmono d (fun o g1 h => ?_) fun _ _ h => h)⟩
  cases q : K o with
  | nx Γ'' => trivial
  | rt p => rw [q] at h; exact h
  | bk Γ'' => rw [q] at h; exact h
  | ct Γ'' => rw [q] at h; exact h
  | never => trivial
end
end SP
namespace SP
open PySem PySem.Spec L2
open Rep (rep)
open PyM (den lift handle)

/-! ### instances that only are read -/
class InsT (α : Type) [Rep α] where
  cn : Str
  fl : List Str
  at_ : ∀ {G : GC} {x : α} {v : V} {H : Hp}, rep G x v H → ∃ a dx fs, v = .ref a ∧ H a = some (.ins (G.cls cn) dx fs) ∧ fs.map (·.1) = fl
theorem lookup_none_of {m : Str} : ∀ {fs : List (Str × V)}, m ∉ fs.map (·.1) → fs.lookup m = none
  | [], _ => rfl
  | (a, b) :: r, h => by
    rw [List.lookup_cons]
    have h1 : (m == a) = false := by
      simp only [List.map_cons, List.mem_cons, not_or] at h
      exact beq_false_of_ne h.1
    rw [h1]
    exact lookup_none_of fun z => h (List.mem_cons_of_mem _ z)
/-- a method that a body may call -/
structure MCal (M : MG) (cn m : Str) (k : Nat) (sp : Sp) : Prop where
  ex : ∃ (f : Addr) (fd : FuncData) (ps : List Str) (ds : List Value) (dvs : List V) (sp' : Sp), FnS M k f fd ps sp' ∧ Cls M.K (M.cls cn) ∧ Meth M.K (M.cls cn) m f ∧ Binds M.K fd ps ds ∧ Vals dvs ds ∧
    ∀ vs H Q E, sp vs H Q E → sp' (vs ++ dvs) H Q E
section
variable {X : Cx} {CX : CXT} {k : Nat} {f C : Addr} {fd : FuncData} {ps : List Str} {sp : Sp} {dvs : List V} {ds : List Value} {E : L2.St → XK} {x m : Str} {p pos apos : Pos} {e o : Expr} {es : List Expr} {ta : TE} {t : TA}
def tMethSD (C : Addr) (m : Str) (sp : Sp) (dvs : List V) (E : L2.St → XK) (ta : TE) (t : TA) : TE := fun σ H Q => ta σ H fun x H1 => ∃ a dx fs, x = .ref a ∧ H1 a = some (.ins C dx fs) ∧ fs.lookup m = none ∧
  t σ H1 fun vs H2 => sp (x :: (vs ++ dvs)) H2 Q (E σ)
theorem pe_methSD {pl : Sem Bool} (he : PE X o ta) (c : Cls X.K C) (hm : Meth X.K C m f) (F : FnOk X.prog X.w X.K X.mg X.base CX k f fd ps sp) (hr : Room k X.A) (hb : Binds X.K fd ps ds) (hd : Vals dvs ds) (hx : ∀ σ, PassesAt CX X σ (E σ)) (ha : PA X (e :: es) t)
    (hst : starEach (e :: es) X.env = (false, eval e X.env) :: starEach es X.env) (hpl : (backTo pos (starEach es X.env)).any (·.1) = false)
    (ht : eval (.Call (.Attribute o m apos) (e :: es) [] pos) X.env = (do
      let ov ← eval o X.env
      standAt apos.atName
      let (f, first) ← holding [ov] (getMethod ov m pl)
      callWith pos f first (backTo pos (starEach (e :: es) X.env)) (backToKw pos (keywordEach [] X.env)))) :
    PE X (.Call (.Attribute o m apos) (e :: es) [] pos) (tMethSD C m sp dvs E ta t) := by
  refine ⟨fun pins s σ H Q I h => ?_⟩
  refine PySem.W.methodCall_KW (pl := pl) (thn (he.run pins s σ H _ I h) fun u s1 ⟨x, H1, I1, rx, a, dx, fs, ex, ea, l, q⟩ => ?_) ht
  subst ex
  obtain rfl : u = Value.ref a := rx
  refine getmeth_ok I1 ea c hm l ?_
  refine PySem.W.callWith_K (first := [.ref a]) (h₀ := X.base) I.ok.mod.kin hm.kp (thn (ha.run pos pins s1 σ H1 _ I1 q) fun us s2 ⟨vs, H2, I2, r, q2⟩ => ⟨I2.kIn, ?_⟩) hst hpl
  exact run_fnSD (us := .ref a :: us) (vs := .ref a :: vs) F hr hb hd (hx σ) I2 (.cons rfl r) q2
theorem pe_methSD0 {pl : Sem Bool} (he : PE X o ta) (c : Cls X.K C) (hm : Meth X.K C m f) (F : FnOk X.prog X.w X.K X.mg X.base CX k f fd ps sp) (hr : Room k X.A) (hb : Binds X.K fd ps ds) (hd : Vals dvs ds) (hx : ∀ σ, PassesAt CX X σ (E σ))
    (ht : eval (.Call (.Attribute o m apos) [] [] pos) X.env = (do
      let ov ← eval o X.env
      standAt apos.atName
      let (f, first) ← holding [ov] (getMethod ov m pl)
      callWith pos f first (backTo pos (starEach [] X.env)) (backToKw pos (keywordEach [] X.env)))) :
    PE X (.Call (.Attribute o m apos) [] [] pos) (tMethSD C m sp dvs E ta tNil) := by
  refine ⟨fun pins s σ H Q I h => ?_⟩
  refine PySem.W.methodCall_KW (pl := pl) (thn (he.run pins s σ H _ I h) fun u s1 ⟨x, H1, I1, rx, a, dx, fs, ex, ea, l, q⟩ => ?_) ht
  subst ex
  obtain rfl : u = Value.ref a := rx
  refine getmeth_ok I1 ea c hm l ?_
  exact PySem.W.callWith_K0 I1.kIn hm.kp (run_fnSD (us := [.ref a]) (vs := [.ref a]) F hr hb hd (hx σ) I1 (.cons rfl .nil) q)
/-- len(x), x an instance -/
theorem call_lenI (hr : Room (k + 1) X.A) (F : FnOk X.prog X.w X.K X.mg X.base CX k f fd ps sp) (hm : Meth X.K C "__len__" f) (hb : Binds X.K fd ps ds) (hd : Vals dvs ds) (hx : ∀ σ, PassesAt CX X σ (E σ)) {σ : L2.St} {pins : List (Addr × Obj)} {s : Shared} {H : Hp} {Q : VK} {a dx : Addr} {fs : List (Str × V)}
    (I : Inv X pins σ H s) (ea : H a = some (.ins C dx fs)) (h : sp (.ref a :: dvs) H (fun v H' => ∃ n, v = .int n ∧ 0 ≤ n ∧ n < 2 ^ 63 ∧ Q v H') (E σ)) : wpAny (model X.prog X.w) X.A (call (.builtin "len") [.ref a]) (EP X pins σ Q) X.xe s := by
  obtain ⟨mA, O, r, _, _, _⟩ := ins_get I.hok ea
  obtain ⟨od, J, lk⟩ := O.look
  obtain ⟨m0, fr⟩ := I.fr
  refine PySem.W.len_K fr I.ok.mod.kin J hm.at_ hm.fn ?_
  have r2 : Vals (V.ref a :: dvs) (Value.ref a :: ds) := .cons rfl hd
  have hl : ([Value.ref a] ++ ds).length = ps.length := by
    have e := r2.length
    rw [F.len _ _ _ _ h] at e
    exact e.symm
  refine wpAny_call (codeAny_mono (F.run X.A.in1 X.stack s H ⟨[.ref a], []⟩ ([.ref a] ++ ds) (.ref a :: dvs) _ (E σ) hr.in1 I.env0.in1 (hb s [.ref a] I.kIn hl) r2 h) fun r s' hq => ?_)
  cases r with
  | error e => exact hx σ pins H s e s' I hq
  | ok fl =>
    cases fl with
    | ret u =>
      obtain ⟨v, H', I', rv, n, ev, h0, h1, q⟩ := I.after hq
      subst ev
      obtain ⟨t, rfl⟩ := rv
      exact ⟨⟨h0, h1⟩, ⟨.int n, H', I'.tok _, ⟨_, rfl⟩, q⟩⟩
    | next => exact False.elim hq
    | brk => exact False.elim hq
    | cont => exact False.elim hq
end
section
variable {m : Type → Type} [PyM m] {c : KX} {W : Wd (PyM.γ m)} {Γ : List SD} {e a b o : Expr} {es : List Expr} {α β δ ρ : Type} [Rep α] [Rep β] [Rep δ] [Args ρ] {p pos apos : Pos} {N : List Str} {ks : List Kd} {gs bs : List Str} {kk k : Nat} {n nm : Str}
/-- o.m(e, ..) -/
theorem px_meth [InsT α] {f : α × ρ → EM β} {xo : m α} {x : m ρ} {pl : Sem Bool} (C : Ctx c N ks gs bs kk) (hc : MCal c.M (InsT.cn α) nm k (spW W0 c.M f)) (ho : PX c W Γ o xo) (ha : PXA c W Γ (e :: es) x) (hk : k ≤ kk := by decide) (hf : nm ∉ InsT.fl α := by decide) (he : starEach (e :: es) c.X.env = (false, eval e c.X.env) :: starEach es c.X.env := by rfl) (hpl : (backTo pos (starEach es c.X.env)).any (·.1) = false := by rfl) (ht : eval (.Call (.Attribute o nm apos) (e :: es) [] pos) c.X.env = (do
      let ov ← eval o c.X.env
      standAt apos.atName
      let (f, first) ← holding [ov] (getMethod ov nm pl)
      callWith pos f first (backTo pos (starEach (e :: es) c.X.env)) (backToKw pos (keywordEach [] c.X.env))) := by rfl) :
    PX c W Γ (.Call (.Attribute o nm apos) (e :: es) [] pos) (xo >>= fun y => x >>= fun v => lift (f (y, v)) : m β) := by
  obtain ⟨to, po, qo⟩ := ho
  obtain ⟨t, pa, qa⟩ := ha
  obtain ⟨fa, fd, ps, ds, dvs, sp', FO, cl, hm, hb, hd, imp⟩ := hc
  refine ⟨_, pe_methSD (E := WE c.Wx) po cl hm FO (C.room.mono hk) hb hd (passAt C.tk) pa he hpl ht, fun σ F H g Q S d => qo σ F H g _ S (PyM.dmono (PyM.dbind d) (fun y g0 h0 w F0 H0 e0 S0 r0 => ?_) fun _ _ h => h)⟩
  obtain ⟨ad, dx, fs, ev, hi, hfl⟩ := InsT.at_ r0
  refine ⟨ad, dx, fs, ev, S0.fh _ _ hi, lookup_none_of (by rw [hfl]; exact hf), ?_⟩
  refine qa σ F0 H0 g0 _ S0 (PyM.dmono (PyM.dbind h0) (fun v g1 h1 vs F1 H1 e1 S1 r1 => ?_) fun _ _ h => h.after e0)
  exact imp _ _ _ _ (call_ok (ρ := α × ρ) (x := (y, v)) S1 ⟨w, vs, rfl, Rep.mono e1 r0, r1⟩ (PyM.dmono h1 (fun _ _ h => h.after (e0.trans e1)) fun _ _ h => h.after (e0.trans e1)))
theorem px_meth0 [InsT α] {f : α × Unit → EM β} {xo : m α} {pl : Sem Bool} (C : Ctx c N ks gs bs kk) (hc : MCal c.M (InsT.cn α) nm k (spW W0 c.M f)) (ho : PX c W Γ o xo) (hk : k ≤ kk := by decide) (hf : nm ∉ InsT.fl α := by decide) (ht : eval (.Call (.Attribute o nm apos) [] [] pos) c.X.env = (do
      let ov ← eval o c.X.env
      standAt apos.atName
      let (f, first) ← holding [ov] (getMethod ov nm pl)
      callWith pos f first (backTo pos (starEach [] c.X.env)) (backToKw pos (keywordEach [] c.X.env))) := by rfl) :
    PX c W Γ (.Call (.Attribute o nm apos) [] [] pos) (xo >>= fun y => lift (f (y, ())) : m β) := by
  obtain ⟨to, po, qo⟩ := ho
  obtain ⟨fa, fd, ps, ds, dvs, sp', FO, cl, hm, hb, hd, imp⟩ := hc
  refine ⟨_, pe_methSD0 (E := WE c.Wx) po cl hm FO (C.room.mono hk) hb hd (passAt C.tk) ht, fun σ F H g Q S d => qo σ F H g _ S (PyM.dmono (PyM.dbind d) (fun y g0 h0 w F0 H0 e0 S0 r0 => ?_) fun _ _ h => h)⟩
  obtain ⟨ad, dx, fs, ev, hi, hfl⟩ := InsT.at_ r0
  refine ⟨ad, dx, fs, ev, S0.fh _ _ hi, lookup_none_of (by rw [hfl]; exact hf), ?_⟩
  exact imp _ _ _ _ (call_ok (ρ := α × Unit) (x := (y, ())) S0 ⟨w, [], rfl, r0, rfl⟩ (PyM.dmono h0 (fun _ _ h => h.after e0) fun _ _ h => h.after e0))
/-- len(o) -/
theorem px_lenI [InsT α] {f : α × Unit → EM Int} {xo : m α} (C : Ctx c N ks gs bs kk) (j : Nat) (hc : MCal c.M (InsT.cn α) "__len__" k (spW W0 c.M f)) (ho : PX c W Γ o xo) (hj : bs[j]? = some ("len" : Str) := by rfl) (hk : k + 1 ≤ kk := by decide)
    (he : starEach [o] c.X.env = (false, eval o c.X.env) :: starEach [] c.X.env := by rfl) :
    PX c W Γ (.Call (.Name "len" p) [o] [] pos) (xo >>= fun y => lift (f (y, ())) >>= fun n => must (0 ≤ n ∧ n < 2 ^ 63) >>= fun _ => pure n : m Int) := by
  obtain ⟨to, po, qo⟩ := ho
  obtain ⟨fa, fd, ps, ds, dvs, sp', FO, cl, hm, hb, hd, imp⟩ := hc
  have pa := pa_cons po pa_nil he
  refine ⟨fun σ H Q => tCons to tNil σ H fun vs H1 => ∃ a dx fs, vs = [.ref a] ∧ H1 a = some (.ins (c.cls (InsT.cn α)) dx fs) ∧ sp' (.ref a :: dvs) H1 (fun v H' => ∃ n, v = .int n ∧ 0 ≤ n ∧ n < 2 ^ 63 ∧ Q v H') (WE c.Wx σ), ⟨fun pins s σ H Q I h => ?_⟩, fun σ F H g Q S d => ?_⟩
  · refine wpAny_Call_Name_kw (ld_blt I (C.bl j _ hj).1 (C.bl j _ hj).2 PyProof.Rows.Boot.«len» ?_ (by decide) (by decide))
    refine PyProof.Rows.callWith_builtin1 (thn (pa.run pos pins s σ H _ I h) fun us s1 ⟨vs, H1, I1, r1, a, dx, fs, ev, ea, q1⟩ => ?_) he rfl
    subst ev
    obtain ⟨u, rfl, ru⟩ := vals1 r1
    obtain rfl : u = Value.ref a := ru
    exact call_lenI (C.room.mono hk) FO hm hb hd (passAt C.tk) I1 ea q1
  · refine qo σ F H g _ S (PyM.dmono (PyM.dbind d) (fun y g0 h0 w F0 H0 e0 S0 r0 => ?_) fun _ _ h => h)
    obtain ⟨ad, dx, fs, ev, hi, hfl⟩ := InsT.at_ r0
    refine ⟨ad, dx, fs, by rw [ev], S0.fh _ _ hi, ?_⟩
    subst ev
    refine imp [.ref ad] _ _ _ (call_ok (ρ := α × Unit) (x := (y, ())) S0 ⟨.ref ad, [], rfl, r0, rfl⟩ (PyM.dmono (PyM.dbind h0) (fun z g1 h1 v F1 H1 e1 S1 r1 => ?_) fun _ _ h => h.after e0))
    obtain ⟨hz, h1⟩ := dmust h1
    exact ⟨z, r1, hz.1, hz.2, PyM.dpure h1 v F1 H1 (e0.trans e1) S1 r1⟩
end
end SP
namespace SP
open PySem PySem.Spec L2
open Rep (rep)
open PyM (den lift handle)

/-! ### types of values -/
class TyR (α : Type) [Rep α] where
  ty : GC → Value
  at_ : ∀ {G : GC} {x : α} {v : V} {H : Hp}, rep G x v H → TyX G.K H v (ty G)
instance : TyR Int := ⟨fun _ => .type "int", fun {G x v H} h => by have h : v = .int x := h; subst h; exact .base (.int x)⟩
instance : TyR Bool := ⟨fun _ => .type "bool", fun {G x v H} h => by have h : v = .bl x := h; subst h; exact .base (.bl x)⟩
instance : TyR Str := ⟨fun _ => .type "str", fun {G x v H} h => by have h : v = .str x := h; subst h; exact .base (.str x)⟩
instance : TyR Unit := ⟨fun _ => .type "NoneType", fun {G x v H} h => by have h : v = .non := h; subst h; exact .base .non⟩
instance {α : Type} [Rep α] : TyR (List α) := ⟨fun _ => .type "list", fun {G x v H} h => by obtain ⟨a, vs, h, h1, _⟩ := h; subst h; exact .base (.lst h1)⟩
instance {α : Type} [Rep α] : TyR (Tup α) := ⟨fun _ => .type "tuple", fun {G x v H} h => by obtain ⟨a, vs, h, ⟨o, h1, _⟩, _⟩ := h; subst h; exact .fTuple h1⟩
section
variable {m : Type → Type} [PyM m] {c : KX} {W : Wd (PyM.γ m)} {Γ Γ' : List SD} {e a b o : Expr} {es : List Expr} {α β δ ρ O : Type} [Rep α] [Rep β] [Rep δ] [Args ρ] {p p2 pos pos' apos : Pos} {st : Stmt} {rest A : List Stmt} {K : O → Fin} {N : List Str} {ks : List Kd} {gs bs : List Str} {kk k : Nat} {n : Str} {is : List Nat}
/-- isinstance(e, T), T a built-in type -/
theorem px_isiT [TyR α] {x : m α} {T : String} (C : Ctx c N ks gs bs kk) (j j2 : Nat) (r : Bool) (ha : PX c W Γ a x) (hT : bootBuiltins n = some (.type T)) (hk : PySem.W.kitOne c.X.K (TyR.ty α c.G) (.type T) = some r) (hj : bs[j]? = some ("isinstance" : Str) := by rfl) (hj2 : bs[j2]? = some n := by rfl) (hn : n ≠ "__name__" := by decide) (hdb : (n == ("__debug__" : Str)) = false := by decide) (hs : starEach [a, .Name n p2] c.X.env = (false, eval a c.X.env) :: starEach [.Name n p2] c.X.env := by rfl) (hs2 : starEach [.Name n p2] c.X.env = (false, eval (.Name n p2) c.X.env) :: starEach [] c.X.env := by rfl) (hpl : (backTo pos (starEach [.Name n p2] c.X.env)).any (·.1) = false := by rfl) :
    PX c W Γ (.Call (.Name "isinstance" p) [a, .Name n p2] [] pos) (x >>= fun _ => pure r : m Bool) := by
  obtain ⟨t, pt, q⟩ := ha
  obtain ⟨b1, b2⟩ := C.bl j _ hj
  obtain ⟨b3, b4⟩ := C.bl j2 _ hj2
  have pn : PE c.X (.Name n p2) (tC (.ty T)) := pe_bltn b3 b4 hT rfl hn hdb
  refine ⟨_, pe_callB call_isi b1 b2 PyProof.Rows.Boot.«isinstance» (pa_cons pt (pa_cons pn pa_nil hs2) hs) (by decide) (by decide) hs hpl, fun σ F H g Q S d => q σ F H g _ S (PyM.dmono (PyM.dbind d) (fun y g1 h1 v F1 H1 e1 S1 r1 => ?_) fun _ _ h => h)⟩
  refine ⟨v, .ty T, _, _, r, rfl, .ty T, ?_, hk, dret h1 _ F1 H1 e1 S1 rfl⟩
  have q := TyR.at_ (Rep.mono S1.fh r1)
  exact q
/-- isinstance(e, C), C a class of the program -/
theorem px_isiC [TyR α] {x : m α} (C : Ctx c N ks gs bs kk) (j j2 : Nat) (r : Bool) (ha : PX c W Γ a x) (hT : c.X.mg n = some (.ref (c.cls n))) (hk : PySem.W.kitOne c.X.K (TyR.ty α c.G) (.ref (c.cls n)) = some r) (hj : bs[j]? = some ("isinstance" : Str) := by rfl) (hj2 : gs[j2]? = some n := by rfl) (hdb : (n == ("__debug__" : Str)) = false := by decide)
    (hs : starEach [a, .Name n p2] c.X.env = (false, eval a c.X.env) :: starEach [.Name n p2] c.X.env := by rfl) (hs2 : starEach [.Name n p2] c.X.env = (false, eval (.Name n p2) c.X.env) :: starEach [] c.X.env := by rfl) (hpl : (backTo pos (starEach [.Name n p2] c.X.env)).any (·.1) = false := by rfl) :
    PX c W Γ (.Call (.Name "isinstance" p) [a, .Name n p2] [] pos) (x >>= fun _ => pure r : m Bool) := by
  obtain ⟨t, pt, q⟩ := ha
  obtain ⟨b1, b2⟩ := C.bl j _ hj
  have pn : PE c.X (.Name n p2) (tC (.ref (c.cls n))) := pe_glob (C.gl j2 n hj2) hT rfl hdb
  refine ⟨_, pe_callB call_isi b1 b2 PyProof.Rows.Boot.«isinstance» (pa_cons pt (pa_cons pn pa_nil hs2) hs) (by decide) (by decide) hs hpl, fun σ F H g Q S d => q σ F H g _ S (PyM.dmono (PyM.dbind d) (fun y g1 h1 v F1 H1 e1 S1 r1 => ?_) fun _ _ h => h)⟩
  refine ⟨v, .ref (c.cls n), _, _, r, rfl, .own _, ?_, hk, dret h1 _ F1 H1 e1 S1 rfl⟩
  have q := TyR.at_ (Rep.mono S1.fh r1)
  exact q
/-- a module's number -/
theorem px_gint {i : Int} {t : Tok} (C : Ctx c N ks gs bs kk) (j : Nat) (hm : c.X.mg n = some (.int i t)) (hj : gs[j]? = some n := by rfl) (hdb : (n == ("__debug__" : Str)) = false := by decide) : PX c W Γ (.Name n pos) (pure i : m Int) :=
  px_const (pe_glob (v := .int i) (C.gl j n hj) hm ⟨t, rfl⟩ hdb) fun _ => rfl
theorem px_gstr {i : Str} {t : Tok} (C : Ctx c N ks gs bs kk) (j : Nat) (hm : c.X.mg n = some (.str i t)) (hj : gs[j]? = some n := by rfl) (hdb : (n == ("__debug__" : Str)) = false := by decide) : PX c W Γ (.Name n pos) (pure i : m Str) :=
  px_const (pe_glob (v := .str i) (C.gl j n hj) hm ⟨t, rfl⟩ hdb) fun _ => rfl
/-- a op b op c -/
theorem px_chain {op op' : CmpOp} {r r' : R2} {ma : m α} {mb : m β} {mc : m δ} {k : α → β → m Bool} {k' : β → δ → m Bool} {d : Expr} (ho : OpR c.X (compareOp op) r) (hk : OpOk c r k) (ho' : OpR c.X (compareOp op') r') (hk' : OpOk c r' k') (ha : PX c W Γ a ma) (hb : PX c W Γ b mb) (hc : PX c W Γ d mc)
    (hm : lastMarks [op, op'] [b, d] = false := by with_unfolding_all rfl) : PX c W Γ (.Compare a [op, op'] [b, d] pos) (ma >>= fun x => mb >>= fun y => k x y >>= fun t => if t = true then mc >>= fun z => k' y z else pure false) := by
  obtain ⟨ta, pa, qa⟩ := ha
  obtain ⟨tb, pb, qb⟩ := hb
  obtain ⟨tc, pc, qc⟩ := hc
  refine ⟨_, pe_chain ho ho' pa pb pc hm, fun σ F H g Q S d => qa σ F H g _ S (PyM.dmono (PyM.dbind d) (fun x g1 h1 v F1 H1 e1 S1 r1 => ?_) fun _ _ h => h)⟩
  refine qb σ F1 H1 g1 _ S1 (PyM.dmono (PyM.dbind h1) (fun y g2 h2 u F2 H2 e2 S2 r2 => ?_) fun _ _ h => h.after e1)
  refine hk W Γ σ F2 H2 g2 _ x y v u S2 (Rep.mono e2 r1) r2 (PyM.dmono (PyM.dbind h2) (fun t g3 h3 w F3 H3 e3 S3 r3 => ?_) fun _ _ h => h.after (e1.trans e2))
  refine ⟨t, r3, ?_⟩
  cases t with
  | false => exact iteF (dret h3 _ F3 H3 ((e1.trans e2).trans e3) S3 rfl)
  | true =>
    refine iteT (qc σ F3 H3 g3 _ S3 (PyM.dmono (PyM.dbind h3) (fun z g4 h4 w4 F4 H4 e4 S4 r4 => ?_) fun _ _ h => h.after ((e1.trans e2).trans e3)))
    exact hk' W Γ σ F4 H4 g4 Q y z u w4 S4 (Rep.mono (e3.trans e4) r2) r4 (PyM.dmono h4 (fun _ _ h => h.after (((e1.trans e2).trans e3).trans e4)) fun _ _ h => h.after (((e1.trans e2).trans e3).trans e4))
theorem pxt_chain {op op' : CmpOp} {r r' : R2} {ma : m α} {mb : m β} {mc : m δ} {k : α → β → m Bool} {k' : β → δ → m Bool} {d : Expr} (ho : OpR c.X (compareOp op) r) (hk : OpOk c r k) (ho' : OpR c.X (compareOp op') r') (hk' : OpOk c r' k') (ha : PX c W Γ a ma) (hb : PX c W Γ b mb) (hc : PX c W Γ d mc)
    (hm : lastMarks [op, op'] [b, d] = false := by with_unfolding_all rfl) : PXT c W Γ (.Compare a [op, op'] [b, d] pos) (ma >>= fun x => mb >>= fun y => k x y >>= fun t => if t = true then mc >>= fun z => k' y z else pure false) := by
  obtain ⟨ta, pa, qa⟩ := ha
  obtain ⟨tb, pb, qb⟩ := hb
  obtain ⟨tc, pc, qc⟩ := hc
  refine ⟨_, pt_chain ho ho' pa pb pc hm, fun σ F H g Q S d => qa σ F H g _ S (PyM.dmono (PyM.dbind d) (fun x g1 h1 v F1 H1 e1 S1 r1 => ?_) fun _ _ h => h)⟩
  refine qb σ F1 H1 g1 _ S1 (PyM.dmono (PyM.dbind h1) (fun y g2 h2 u F2 H2 e2 S2 r2 => ?_) fun _ _ h => h.after e1)
  refine hk W Γ σ F2 H2 g2 _ x y v u S2 (Rep.mono e2 r1) r2 (PyM.dmono (PyM.dbind h2) (fun t g3 h3 w F3 H3 e3 S3 r3 => ?_) fun _ _ h => h.after (e1.trans e2))
  refine ⟨t, r3, ?_⟩
  cases t with
  | false => exact iteF ⟨false, rfl, dret h3 F3 H3 ((e1.trans e2).trans e3) S3⟩
  | true =>
    refine iteT (qc σ F3 H3 g3 _ S3 (PyM.dmono (PyM.dbind h3) (fun z g4 h4 w4 F4 H4 e4 S4 r4 => ?_) fun _ _ h => h.after ((e1.trans e2).trans e3)))
    exact hk' W Γ σ F4 H4 g4 _ y z u w4 S4 (Rep.mono (e3.trans e4) r2) r4 (PyM.dmono h4 (fun t' _ h w5 F5 H5 e5 S5 r5 => ⟨t', r5, h F5 H5 ((((e1.trans e2).trans e3).trans e4).trans e5) S5⟩) fun _ _ h => h.after (((e1.trans e2).trans e3).trans e4))
/-- text * n -/
def mulS (x : Str) (n : Int) : Str := Txt.mul x n
def smulOk (x : Str) (n : Int) : Prop := PySem.MulOk x n
instance (x : Str) (n : Int) : Decidable (smulOk x n) := by unfold smulOk PySem.MulOk; exact inferInstance
theorem op_mul_str : OpR c.X (binaryOp .Mult) (fun x y H Q => ∃ i j, x = .str i ∧ y = .int j ∧ smulOk i j ∧ Q (.str (mulS i j)) H) := by
  intro pins s σ H x y v u Q I rx ry h
  obtain ⟨i, j, rfl, rfl, hc, q⟩ := h
  obtain ⟨t, rfl⟩ := rx
  obtain ⟨t', rfl⟩ := ry
  exact PySem.SB.mul hc fun t' k => ⟨.str (mulS i j), H, I.tok _, ⟨_, rfl⟩, q⟩
theorem px_mulS {ma : m Str} {mb : m Int} (ha : PX c W Γ a ma) (hb : PX c W Γ b mb) : PX c W Γ (.BinOp a .Mult b pos) (ma >>= fun x => mb >>= fun y => must (smulOk x y) >>= fun _ => pure (mulS x y)) :=
  px_bin op_mul_str (fun W Γ σ F H g Q x y v u S r1 r2 d => by
    obtain ⟨h1, h2⟩ := dmust d
    exact ⟨x, y, r1, r2, h1, dret h2 _ F H (Same.refl _) S rfl⟩) ha hb
theorem pxt_isN [NotNone α] {ma : m (Option α)} {j} (ha : PX c W Γ a ma) : PXT c W Γ (.Compare a [.Is] [.Constant .none j pos'] pos) (ma >>= fun x => pure x.isNone) := by
  obtain ⟨ta, pa, qa⟩ := ha
  refine ⟨_, pt_cmp (pc_isN pa) rfl, fun σ F H g Q S d => qa σ F H g _ S (PyM.dmono (PyM.dbind d) (fun x g1 h1 v F1 H1 e1 S1 r1 => ?_) fun _ _ h => h)⟩
  refine ⟨_, rfl, ?_⟩
  rw [rep_non (fun y v H h => NotNone.ne h) r1]
  exact dret h1 F1 H1 e1 S1
theorem pxt_notN [NotNone α] {ma : m (Option α)} {j} (ha : PX c W Γ a ma) : PXT c W Γ (.Compare a [.IsNot] [.Constant .none j pos'] pos) (ma >>= fun x => pure (!x.isNone)) := by
  obtain ⟨ta, pa, qa⟩ := ha
  refine ⟨_, pt_cmp (pc_notN pa) rfl, fun σ F H g Q S d => qa σ F H g _ S (PyM.dmono (PyM.dbind d) (fun x g1 h1 v F1 H1 e1 S1 r1 => ?_) fun _ _ h => h)⟩
  refine ⟨_, rfl, ?_⟩
  rw [rep_non (fun y v H h => NotNone.ne h) r1]
  exact dret h1 F1 H1 e1 S1
/-- code that is never come to -/
theorem pb_stuck : PB c W Γ A (stuck : m O) K := ⟨_, pss_never, fun σ F H g D S d => (dstuck d).elim⟩
/-! narrowing -/
theorem set_self {i : Nat} {s : SD} (h : Γ[i]? = some s) : Γ.set i s = Γ := by
  apply List.ext_getElem?
  intro j
  by_cases hj : j = i
  · subst hj; rw [List.getElem?_set_self (List.getElem?_eq_some_iff.mp h).1, h]
  · rw [List.getElem?_set_ne (Ne.symm hj)]
def optC {α β : Type} (o : Option α) (x : m β) (f : α → m β) : m β := match o with
  | none => x
  | some y => f y
/-- if x is None: .. (it ends there), then the rest with x told -/
theorem pb_ifN [NotNone α] {y : Option α} {j : Nat} {cp np : Pos} {d : Kd} {ma : m O} {mb : α → m O} (C : Ctx c N ks gs bs kk) (he : SubE Γ c.Γe) (i : Nat) (ha : y = none → PB c W Γ A ma fun o => (K o).noNx) (hr : ∀ z, y = some z → PB c W (Γ.set i (.v z)) rest (mb z) K) (hΓ : Γ[i]? = some (.v y) := by rfl) (hN : N[i]? = some n := by rfl) (hd : ks[i]? = some d := by rfl) (hl : d.isVis = true := by rfl) (hdb : (n == ("__debug__" : Str)) = false := by decide) (hcd : (n == ("__classdict__" : Str)) = false := by decide) :
    PB c W Γ (.If (.Compare (.Name n np) [.Is] [.Constant .none j cp] pos) A [] pos' :: rest) (optC y ma mb) K := by
  have hx : PX c W Γ (.Name n np) (pure y : m (Option α)) := px_nameC C i hΓ hN hd hl hdb hcd
  have ht := pxt_isN (m := m) (pos := pos) (j := j) (pos' := cp) hx
  have push : ∀ {x : Bool} {Q E} {g : PyM.γ m}, x = y.isNone → Q x g → den ((pure y : m (Option α)) >>= fun x => pure x.isNone) Q E g := fun h q => PyM.ibind (PyM.ipure (PyM.ipure (by rw [← h]; exact q)))
  cases y with
  | none =>
    have z := pb_ifA (pos := pos') (rest := rest) (K := K) (k := fun _ : Unit => (stuck : m O)) (Γ' := fun _ => Γ) he ht (ha rfl) (pb_nil (o := ()) rfl (SubG.refl Γ)) (fun _ => pb_stuck)
    obtain ⟨t, pt, qt⟩ := z
    exact ⟨t, pt, fun σ F H g D S d => qt σ F H g D S (PyM.ibind (push (x := true) rfl (by rw [if_pos rfl]; exact d)))⟩
  | some w =>
    have e1 : Γ.set i (.v w) = Γ := set_self (by rw [hΓ]; rfl)
    have hr := hr w rfl
    rw [e1] at hr
    have hA : PB c W Γ A (stuck : m O) fun o => (K o).noNx := pb_stuck
    have z := pb_ifA (pos := pos') (rest := rest) (K := K) (k := fun _ : Unit => mb w) (Γ' := fun _ => Γ) he ht hA (pb_nil (o := ()) rfl (SubG.refl Γ)) (fun _ => hr)
    obtain ⟨t, pt, qt⟩ := z
    exact ⟨t, pt, fun σ F H g D S d => qt σ F H g D S (PyM.ibind (push (x := false) rfl (by rw [if_neg Bool.false_ne_true]; exact PyM.ibind (PyM.ipure d))))⟩
/-! assignments -/
theorem pn_asg {tg : Expr} {x : m α} {Γ1 : α → List SD} (C : Ctx c N ks gs bs kk) (he : SubE Γ c.Γe) (hx : PX c W Γ e x) (hg : ∀ v, PXG c W Γ tg v (Γ1 v) is) (hs : swapsWithSole [tg] e pos.line c.X.env = pure false := by rfl) (hw : swappedStores [tg] e c.X.env = pure none := by rfl) (h1 : (assignEach [tg] c.X.env).map (·.2) = [assign tg c.X.env] := by rfl) : PN c W Γ (.Assign [tg] e pos) x Γ1 := by
  obtain ⟨t, pt, qt⟩ := hx
  obtain ⟨u, pu, qu⟩ := tg_any (I := α) (c := c) (W := W) (Γs := fun _ => Γ) (Γt := Γ1) (x := fun v => v) hg
  refine ⟨_, ps_asg pt pu hs hw h1, fun σ F H g D S d => qt σ F H g _ S (PyM.dmono d (fun v g1 h v1 F1 H1 e1 S1 r1 => ?_) fun _ _ h => h.at he)⟩
  exact qu v v1 σ F1 H1 g1 _ S1 r1 fun σ' S' _ => h σ' F1 H1 e1 S'
theorem sw2_true {env : Env} {n1 n2 : Str} {px py pt pt2 : Pos} {kt k2 : Nat} (hk : env.scope.kind = .function) (h1 : env.scope.names.lookup n1 = some .local) (h2 : env.scope.names.lookup n2 = some .local) (hl : (py.line == px.line) = true) (hne : (n1 == n2) = false) (hne2 : (n2 == n1) = false)
    (hst : ([a, b].any fun | .Starred .. => true | _ => false) = false) (hf : [a, b].all (foldedForSure 8) = false) (hc : [a, b].all (constantsAlone 8) = false) : swappedStores [.Tuple [.Name n1 px, .Name n2 py] kt pt] (.Tuple [a, b] k2 pt2) env = pure (some [n1, n2]) := by
  have k1 : env.kindOf n1 = some .local := h1
  have k2 : env.kindOf n2 = some .local := h2
  have hb : env.blockKind = .function := by unfold Env.blockKind; rw [hk]; rfl
  have hd : [n1, n2].eraseDups = [n1, n2] := by
    show List.eraseDupsBy.loop _ [n1, n2] [] = _
    simp [List.eraseDupsBy.loop, hne, hne2]
  unfold swappedStores
  simp only [hb, k1, k2, hst, hf, hc, hl, Expr.pos, List.filterMap_cons, List.filterMap_nil, List.head?_cons, Option.map_some, Option.getD_some, BEq.rfl, Bool.and_self, if_true, hd, List.length_cons, List.length_nil, bne_self_eq_false, Bool.or_self, Bool.false_eq_true, if_false]
  refine (if_neg (by decide)).trans (if_neg fun h => ?_)
  exact Bool.false_ne_true (hst.symm.trans h)
/-- x, y = a, b on one line, to names of one's own -/
theorem pn_par {x : m (α × (β × Unit))} {n1 n2 : Str} {px py pt : Pos} {kt k2 : Nat} {pt2 : Pos} (C : Ctx c N ks gs bs kk) (he : SubE Γ c.Γe) (i j : Nat) (hx : PXA c W Γ [a, b] x) (hij : i ≠ j := by decide) (hN : N[i]? = some n1 := by rfl) (hN2 : N[j]? = some n2 := by rfl) (hd : ks[i]? = some .loc := by rfl) (hd2 : ks[j]? = some .loc := by rfl) (hln : (py.line == px.line) = true := by rfl) (hne : (n1 == n2) = false := by decide) (hne2 : (n2 == n1) = false := by decide) (hst : ([a, b].any fun | .Starred .. => true | _ => false) = false := by rfl) (hfo : [a, b].all (foldedForSure 8) = false := by rfl) (hco : [a, b].all (constantsAlone 8) = false := by rfl) (hs : swapsWithSole [.Tuple [.Name n1 px, .Name n2 py] kt pt] (.Tuple [a, b] k2 pt2) pos.line c.X.env = pure false := by rfl) :
    PN c W Γ (.Assign [.Tuple [.Name n1 px, .Name n2 py] kt pt] (.Tuple [a, b] k2 pt2) pos) x (fun v => (Γ.set i (.v v.1)).set j (.v v.2.1)) := by
  obtain ⟨t, pt, qt⟩ := hx
  refine ⟨_, ps_par C.calm (by rw [C.hN]; exact C.nd) (by rw [C.hN]; exact hN) (by rw [C.hN]; exact hN2) hij (C.kd i _ _ hN hd) (C.kd j _ _ hN2 hd2) pt (sw2_true C.kind (C.kd i _ _ hN hd) (C.kd j _ _ hN2 hd2) hln hne hne2 hst hfo hco) hs, fun σ F H g D S d => qt σ F H g _ S (PyM.dmono d (fun v g1 h vs F1 H1 e1 S1 r1 => ?_) fun _ _ h => h.at he)⟩
  obtain ⟨u, ws, rfl, r1, u2, ws2, rfl, r2, r3⟩ := r1
  have r3 : ws2 = [] := r3
  subst r3
  exact ⟨u, u2, rfl, h _ F1 H1 e1 ((S1.setv i r1).setv j r2)⟩
/-- x op= e -/
theorem pn_aug {op : Operator} {r : R2} {x : α} {y : m β} {f : α → β → m δ} {d : Kd} (C : Ctx c N ks gs bs kk) (he : SubE Γ c.Γe) (i : Nat) (ho : OpR c.X (inplaceOp op) r) (hf : OpOk c r f) (hy : PX c W Γ e y) (hΓ : Γ[i]? = some (.v x) := by rfl) (hN : N[i]? = some n := by rfl) (hd : ks[i]? = some d := by rfl) (hl : d.isLoc = true := by rfl) :
    PN c W Γ (.AugAssign (.Name n pos') op e pos) (y >>= fun z => f x z) (fun v => Γ.set i (.v v)) := by
  obtain ⟨t, pt, qt⟩ := hy
  obtain ⟨l1, l2⟩ := C.loc hN hd hl
  refine ⟨_, ps_aug (i := i) (by rw [C.hN]; exact C.nd) (by rw [C.hN]; exact hN) l1 pt (fun pins s σ H x y v u Q I rx ry q => ho pins s σ H x y v u Q I rx ry q) l2, fun σ F H g D S dd => ?_⟩
  obtain ⟨u, eu, ru⟩ := Paired.getP S.sl hΓ
  obtain ⟨w, rfl, ru⟩ := ru
  refine ⟨w, eu, qt σ F H g _ S (PyM.dmono (PyM.dbind dd) (fun z g1 h1 v F1 H1 e1 S1 r1 => ?_) fun _ _ h => h.at he)⟩
  exact hf W Γ σ F1 H1 g1 _ x z w v S1 (Rep.mono e1 ru) r1 (PyM.dmono h1 (fun q g2 h2 v2 F2 H2 e2 S2 r2 => h2 _ F2 H2 (e1.trans e2) (S2.setv i r2)) fun _ _ h => (h.after e1).at he)
theorem pn_addI {x : Int} {y : m Int} {d : Kd} (C : Ctx c N ks gs bs kk) (he : SubE Γ c.Γe) (i : Nat) (hy : PX c W Γ e y) (hΓ : Γ[i]? = some (.v x) := by rfl) (hN : N[i]? = some n := by rfl) (hd : ks[i]? = some d := by rfl) (hl : d.isLoc = true := by rfl) :
    PN c W Γ (.AugAssign (.Name n pos') .Add e pos) (y >>= fun z => pure (x + z)) (fun v => Γ.set i (.v v)) := pn_aug C he i iop_add rI0_ok hy hΓ hN hd hl
theorem pn_subI {x : Int} {y : m Int} {d : Kd} (C : Ctx c N ks gs bs kk) (he : SubE Γ c.Γe) (i : Nat) (hy : PX c W Γ e y) (hΓ : Γ[i]? = some (.v x) := by rfl) (hN : N[i]? = some n := by rfl) (hd : ks[i]? = some d := by rfl) (hl : d.isLoc = true := by rfl) :
    PN c W Γ (.AugAssign (.Name n pos') .Sub e pos) (y >>= fun z => pure (x - z)) (fun v => Γ.set i (.v v)) := pn_aug C he i iop_sub rI0_ok hy hΓ hN hd hl
end
end SP
namespace SP
open PySem PySem.Spec L2
open Rep (rep)
open PyM (den lift handle)

/-! ### an instance of one's own, its attributes told -/
abbrev Flds := List (Str × VP)
def FldsAt (G : GC) (F : Hp) (fs : Flds) (vs : List (Str × V)) : Prop := Paired (fun (f : Str × VP) (v : Str × V) => v.1 = f.1 ∧ f.2.p G v.2 F) fs vs
theorem FldsAt.mono {G : GC} {F F' : Hp} (e : Same F F') : ∀ {fs : Flds} {vs : List (Str × V)}, FldsAt G F fs vs → FldsAt G F' fs vs
  | _, _, .nil => .nil
  | (a, q) :: _, _, .cons ⟨h1, h2⟩ t => .cons ⟨h1, q.mono e h2⟩ (FldsAt.mono e t)
def LP.ins (x : Addr) (cn : Str) (fs : Flds) : LP := ⟨fun G a o F => a = x ∧ ∃ dx vs, o = .ins (G.cls cn) dx vs ∧ FldsAt G F fs vs, fun e ⟨h0, dx, vs, h1, h2⟩ => ⟨h0, dx, vs, h1, h2.mono e⟩⟩
def putP (f : Str) (q : VP) : Flds → Flds
  | [] => [(f, q)]
  | (g, x) :: r => if g = f then (g, q) :: r else (g, x) :: putP f q r
theorem FldsAt.put {G : GC} {F : Hp} {f : Str} {q : VP} {v : V} (h : q.p G v F) : ∀ {fs : Flds} {vs : List (Str × V)}, FldsAt G F fs vs → FldsAt G F (putP f q fs) (putF f v vs)
  | [], _, .nil => .cons ⟨rfl, h⟩ .nil
  | (g, x) :: r, (g', y) :: r', .cons ⟨h1, h2⟩ t => by
    have h1 : g' = g := h1
    subst h1
    unfold putP putF
    by_cases z : g' = f
    · rw [if_pos z, if_pos z]; exact .cons ⟨rfl, h⟩ t
    · rw [if_neg z, if_neg z]; exact .cons ⟨rfl, h2⟩ (FldsAt.put h t)
theorem FldsAt.length {G : GC} {F : Hp} {fs : Flds} {vs : List (Str × V)} (h : FldsAt G F fs vs) : fs.length = vs.length := Paired.length h
theorem FldsAt.lookup {G : GC} {F : Hp} {f : Str} {q : VP} : ∀ {fs : Flds} {vs : List (Str × V)}, FldsAt G F fs vs → fs.lookup f = some q → ∃ v, vs.lookup f = some v ∧ q.p G v F
  | [], _, _, e => by simp at e
  | (g, x) :: r, (g', y) :: r', .cons ⟨h1, h2⟩ t, e => by
    have h1 : g' = g := h1
    subst h1
    rw [List.lookup_cons] at e ⊢
    cases z : f == g' with
    | true => rw [z] at e; cases e; exact ⟨y, rfl, h2⟩
    | false => rw [z] at e; exact FldsAt.lookup t e
theorem FldsAt.keys {G : GC} {F : Hp} : ∀ {fs : Flds} {vs : List (Str × V)}, FldsAt G F fs vs → vs.map (·.1) = fs.map (·.1)
  | _, _, .nil => rfl
  | _, _, .cons ⟨h1, _⟩ t => by rw [List.map_cons, List.map_cons, h1, FldsAt.keys t]
section
variable {m : Type → Type} [PyM m] {c : KX} {W : Wd (PyM.γ m)} {Γ : List SD} {e o : Expr} {α β O ρ : Type} [Rep α] [Rep β] [Args ρ] {p pos pos' : Pos} {N : List Str} {ks : List Kd} {gs bs : List Str} {kk k : Nat} {n f cn : Str}
/-- self.f = e, self one's own -/
theorem pn_setF {x : m α} {fs : Flds} {d : Kd} {np : Pos} {xa : Addr} (C : Ctx c N ks gs bs kk) (he : SubE Γ c.Γe) (i : Nat) (hx : PX c W Γ e x) (hcl : Cls c.X.K (c.cls cn)) (hno : NoAttr c.X.K (c.cls cn) f) (hl9 : fs.length < 1000 := by decide) (hΓ : Γ[i]? = some (.own (.ins xa cn fs)) := by rfl) (hN : N[i]? = some n := by rfl) (hd : ks[i]? = some d := by rfl) (hl : d.isVis = true := by rfl) (hdb : (n == ("__debug__" : Str)) = false := by decide) (hcd : (n == ("__classdict__" : Str)) = false := by decide) (hs : swapsWith e (some (.Attribute (.Name n np) f pos')) pos.line c.X.env = pure false := by rfl) :
    PN c W Γ (.Assign [.Attribute (.Name n np) f pos'] e pos) x (fun v => Γ.set i (.own (.ins xa cn (putP f (.of v) fs)))) := by
  obtain ⟨t, pt, qt⟩ := hx
  have pn : PE c.X (.Name n np) _ := pe_var (i := i) (by rw [C.hN]; exact hN) (C.vis hN hd (by rintro rfl; cases hl)) hdb hcd
  refine ⟨_, ps_fld pn pt hs, fun σ F H g D S dd => qt σ F H g _ S (PyM.dmono dd (fun v g1 h1 w F1 H1 e1 S1 r1 => ?_) fun _ _ h => h.at he)⟩
  obtain ⟨a, ob, ea, h4, mu, h5, pr⟩ := S1.privOf hΓ
  obtain ⟨h0, dx, vs, rfl, r2⟩ := h5
  refine ⟨.ref a, ea, a, c.cls cn, dx, vs, rfl, h4, hcl, hno, by rw [← r2.length]; exact hl9, ?_⟩
  have S2 := (S1.drop i).chg (o := .ins (c.cls cn) dx (putF f w vs)) pr
  exact h1 σ F1 _ e1 (S2.putOwn ea upd_same trivial ⟨h0, dx, _, rfl, r2.put r1⟩ pr)
end

/-! ### __init__ -/
/-- what stands but for x -/
structure GrowX (x : Addr) (F H F' H' : Hp) : Prop where
  ff : Same F F'
  fh : Same F' H'
  kp : ∀ a o, F a = none → a ≠ x → H a = some o → F' a = none ∧ H' a = some o
def spI (M : MG) {ρ O : Type} [Args ρ] (cn : Str) (fm : ρ → EM O) (fin : O → Flds) : Sp := fun vs H Q E => ∃ F r x ws dx, vs = .ref x :: ws ∧ H x = some (.ins (M.cls cn) dx []) ∧ F x = none ∧ Same F H ∧ Args.reps M.G r ws F ∧
  EM.den (fm r) (fun o => ∀ ob F' H', GrowX x F H F' H' → F' x = none → H' x = some ob → (LP.ins x cn (fin o)).p M.G x ob F' → Q .non H') (fun ex => ∀ cl d F' H', GrowX x F H F' H' → ExcAt M.G ex cl d H' → E cl d H')
section
variable {M : MG} {x qual : Str} {params : Arguments} {body : List Stmt} {scope : Scope} {dvs : List V} {kws : List (Str × V)} {f : Addr} {fd : FuncData} {O ρ : Type} [Args ρ]
theorem init_body {N ps : List Str} {ks : List Kd} {gs bs : List Str} {k : Nat} {cn sf : Str} (fm : ρ → EM O) (fin : O → Flds) (Γo : O → List SD) [ArgsG ρ] (F : FunD M.K x qual params body scope dvs kws f fd) (S : DefOk scope N (sf :: ps) ks gs bs) (np : ∀ r : ρ, (ArgsG.gam r).length = ps.length)
    (hbl : ∀ n ∈ bs, M.mg n = none)
    (hb : ∀ (c : KX), Ctx c N ks gs bs k → c.M = M → c.Γe = [] → Frm c → ∀ (xa : Addr) (r : ρ), PB c W0 (.own (.ins xa cn []) :: (ArgsG.gam r ++ List.replicate (N.length - (ps.length + 1)) .any)) body (fm r) (fun o => .nx (.own (.ins xa cn (fin o)) :: Γo o))) :
    FnS M (k + 1) f fd (sf :: ps) (spI M cn fm fin) := by
  have len : ∀ (r : ρ) {G : GC} {vs : List V} {F : Hp}, Args.reps G r vs F → vs.length = ps.length := fun r {G vs F} h => by
    rw [← np r]; exact (Paired.length (ArgsG.ok h)).symm
  refine F.ok S.fs (fun vs H Q E h => ?_) fun cdv A outer s H vs Q E hr h => ?_
  · obtain ⟨F, r, xa, ws, dx, rfl, _, _, _, h4, _⟩ := h
    show ws.length + 1 = ps.length + 1
    rw [len r h4]
  · obtain ⟨Fz, r, xa, ws, dx, rfl, hx, hFx, h1, h4, h5⟩ := h
    let P0 : Hp := fun b => if (Fz b).isSome then none else if b = xa then none else H b
    let X0 : Cx := cxOf (L2.CX M.P M.w) M.P M.w M.K M.mg M.base N qual scope f cdv A outer s H E
    let c : KX := ⟨X0, M.cls, fun cl d _ H => E cl d H, P0, []⟩
    have C : Ctx c N ks gs bs k := {
      hN := rfl
      nd := S.fs.nd
      kd := fun i n d e1 e2 => kinds_of S.ks e1 e2
      kind := S.fs.kind
      gl := fun j n e => of_decide_eq_true (p := scope.names.lookup n = some .globalImplicit) (List.all_eq_true.mp S.gs n (List.mem_of_getElem? e))
      bl := fun j n e => ⟨of_decide_eq_true (p := scope.names.lookup n = some .globalImplicit) (List.all_eq_true.mp S.bs n (List.mem_of_getElem? e)), hbl n (List.mem_of_getElem? e)⟩
      fn := fun _ _ _ _ => rfl
      calm := rfl
      room := hr
      tk := takes_of rfl rfl rfl rfl
      pass := passes_of rfl }
    obtain ⟨t, pt, qt⟩ := hb c C rfl rfl ⟨rfl, rfl⟩ xa r
    have p0 : ∀ a o, P0 a = some o → Fz a = none ∧ a ≠ xa ∧ H a = some o := fun a o e => by
      have e : (if (Fz a).isSome then none else if a = xa then none else H a : Option HO) = some o := e
      cases q : Fz a with
      | some u => rw [q] at e; cases e
      | none =>
        rw [q] at e
        simp only [Option.isSome_none, Bool.false_eq_true, if_false] at e
        by_cases hw : a = xa
        · rw [if_pos hw] at e; cases e
        · rw [if_neg hw] at e; exact ⟨rfl, hw, e⟩
    have p1 : ∀ a o, Fz a = none → a ≠ xa → H a = some o → P0 a = some o := fun a o e1 e2 e3 => by
      show (if (Fz a).isSome then none else if a = xa then none else H a : Option HO) = some o
      rw [e1, if_neg (by simp), if_neg e2, e3]
    have px : P0 xa = none := by
      cases q : P0 xa with
      | none => rfl
      | some u => exact absurd rfl (p0 xa u q).2.1
    have noown : ∀ (i : Nat) (P : LP), (ArgsG.gam r ++ List.replicate (N.length - (ps.length + 1)) SD.any)[i]? ≠ some (.own P) := fun i P e => by
      rw [List.getElem?_append] at e
      split at e
      · obtain ⟨v, _, p, e', _⟩ := Paired.getP (ArgsG.ok h4) e
        cases e'
      · rw [List.getElem?_replicate] at e
        split at e <;> cases e
    have St0 : StF c W0 () (.own (.ins xa cn []) :: (ArgsG.gam r ++ List.replicate (N.length - (ps.length + 1)) .any)) (start N (.ref xa :: ws)) Fz H := {
      fh := h1
      ph := fun a o e => (p0 a o e).2.2
      dj := fun a o e => by
        cases q : P0 a with
        | none => exact q
        | some u => have := (p0 a u q).1; rw [e] at this; cases this
      wi := trivial
      wf := fun a z => z.elim
      sl := by
        have e1 : ws.length = ps.length := len r h4
        show Paired _ _ (some (V.ref xa) :: (ws.map some ++ List.replicate (N.length - (ws.length + 1)) none))
        rw [e1]
        refine .cons ⟨xa, _, rfl, hFx, px, fun z => z, hx, trivial, ⟨rfl, dx, [], rfl, .nil⟩⟩ (Paired.app (Paired.mapR (ArgsG.ok h4) fun s v ⟨p, e, h⟩ => ?_) (replicate_any trivial _))
        subst e
        exact ⟨v, rfl, h⟩
      ow := fun i j a P Q e1 e2 e3 e4 => by
        cases i with
        | zero =>
          cases j with
          | zero => rfl
          | succ j => exact absurd e2 (noown j Q)
        | succ i => exact absurd e1 (noown i P) }
    have gk : ∀ {Γ' : List SD} {σ' : L2.St} {F' H' : Hp}, StF c W0 () Γ' σ' F' H' → ∀ a o, Fz a = none → a ≠ xa → H a = some o → F' a = none ∧ H' a = some o := fun {Γ' σ' F' H'} S1 a o q1 q2 q3 => by
      have pa := p1 a o q1 q2 q3
      refine ⟨?_, S1.ph a o pa⟩
      cases q : F' a with
      | none => rfl
      | some u => have := S1.dj a u q; rw [show c.P a = some o from pa] at this; cases this
    refine ⟨t, pt, qt _ Fz H () _ St0 (EM.den_mono h5 (fun o hq => ?_) fun ex hq => ?_)⟩
    · intro σ' F' H' e1 S1
      obtain ⟨y, ey, a, ob, e2, q1, q2, q3, q4, mu, q5⟩ := Paired.getP S1.sl (i := 0) rfl
      have hax : a = xa := q5.1
      subst hax
      exact hq ob F' H' ⟨e1, S1.fh, gk S1⟩ q1 q4 q5
    · intro cl d Γ' σ' F' H' e1 S1 _ xx
      exact hq cl d F' H' ⟨e1, S1.fh, gk S1⟩ xx
end
def LP.inst (cn : Str) (fs : Flds) : LP := ⟨fun G a o F => ∃ dx vs, o = .ins (G.cls cn) dx vs ∧ FldsAt G F fs vs, fun e ⟨dx, vs, h1, h2⟩ => ⟨dx, vs, h1, h2.mono e⟩⟩
/-- a class that a body may make -/
structure KCal (M : MG) (cn : Str) (k : Nat) (sp : Sp) : Prop where
  ex : ∃ (f : Addr) (fd : FuncData) (ps : List Str) (ds : List Value) (dvs : List V) (sp' : Sp), FnS M k f fd ps sp' ∧ Mk M.K (M.cls cn) f ∧ M.mg cn = some (.ref (M.cls cn)) ∧ Binds M.K fd ps ds ∧ Vals dvs ds ∧
    ∀ vs H Q E, sp vs H Q E → sp' (vs ++ dvs) H Q E
section
variable {X : Cx} {CX : CXT} {k : Nat} {f C : Addr} {fd : FuncData} {ps : List Str} {sp : Sp} {dvs : List V} {ds : List Value} {E : L2.St → XK} {x : Str} {p pos : Pos} {e : Expr} {es : List Expr} {t : TA}
def tMakeSD (C : Addr) (sp : Sp) (dvs : List V) (E : L2.St → XK) (t : TA) : TE := fun σ H Q => t σ H fun vs H1 => ∀ x dx, H1 x = none → H1 dx = none → dx ≠ x →
  sp (.ref x :: (vs ++ dvs)) (upd (upd H1 dx (.own x)) x (.ins C dx [])) (fun v H2 => v = .non ∧ Q (.ref x) H2) (E σ)
theorem run_makeSD {pins : List (Addr × Obj)} {σ : L2.St} {H : Hp} {s : Shared} {Q : VK} {us : List Value} {vs : List V} (M : Mk X.K C f) (F : FnOk X.prog X.w X.K X.mg X.base CX k f fd ps sp) (hr : Room (k + 1) X.A) (hb : Binds X.K fd ps ds) (hd : Vals dvs ds)
    (hx : PassesAt CX X σ (E σ)) (I : Inv X pins σ H s) (r : Vals vs us)
    (h : ∀ x dx, H x = none → H dx = none → dx ≠ x → sp (.ref x :: (vs ++ dvs)) (upd (upd H dx (.own x)) x (.ins C dx [])) (fun v H2 => v = .non ∧ Q (.ref x) H2) (E σ)) :
    wpAny (model X.prog X.w) X.A (call (.ref C) us) (EP X pins σ Q) X.xe s := by
  have hq := h (s.heap.objs.size + 1) s.heap.objs.size (I.hok.fresh (Nat.le_succ _)) (I.hok.fresh (Nat.le_refl _)) (Nat.ne_of_lt (Nat.lt_succ_self _))
  have I2 := Inv.made (C := C) I
  have r2 : Vals (V.ref (s.heap.objs.size + 1) :: (vs ++ dvs)) (Value.ref (s.heap.objs.size + 1) :: (us ++ ds)) := .cons rfl (r.append hd)
  have hl : (Value.ref (s.heap.objs.size + 1) :: us ++ ds).length = ps.length := by
    have e := r2.length
    rw [F.len _ _ _ _ hq] at e
    exact e.symm
  refine wpAny_call (make_map (f := f) I.kIn M.makes M.init (beq_iff_eq.mp M.fn) (codeAny_mono (F.run _ X.stack _ _ ⟨Value.ref (s.heap.objs.size + 1) :: us, []⟩ (Value.ref (s.heap.objs.size + 1) :: (us ++ ds)) _ _ (E σ) (hr.make C us [])
    (I2.env0.make C us []) (hb _ (Value.ref (s.heap.objs.size + 1) :: us) I2.kIn hl) r2 hq) fun r s' hq' => ?_))
  cases r with
  | error e => exact hx pins _ _ e s' I2 hq'
  | ok fl =>
    cases fl with
    | ret u =>
      obtain ⟨v, H', I3, rv, ev, q3⟩ := I2.after hq'
      subst ev
      exact ⟨rv, ⟨V.ref (s.heap.objs.size + 1), H', I3, rfl, q3⟩⟩
    | next => exact False.elim hq'
    | brk => exact False.elim hq'
    | cont => exact False.elim hq'
theorem pe_makeSD (M : Mk X.K C f) (F : FnOk X.prog X.w X.K X.mg X.base CX k f fd ps sp) (hr : Room (k + 1) X.A) (hg : Gl X x) (hm : X.mg x = some (.ref C)) (hb : Binds X.K fd ps ds) (hd : Vals dvs ds) (hx : ∀ σ, PassesAt CX X σ (E σ))
    (ha : PA X (e :: es) t) (hdb : (x == ("__debug__" : Str)) = false) (he : starEach (e :: es) X.env = (false, eval e X.env) :: starEach es X.env) (hpl : (backTo pos (starEach es X.env)).any (·.1) = false) :
    PE X (.Call (.Name x p) (e :: es) [] pos) (tMakeSD C sp dvs E t) := by
  refine ⟨fun pins s σ H Q I h => ?_⟩
  refine wpAny_Call_Name_kw (ld_glob I hg hm ?_ hdb)
  refine PySem.W.callWith_K (h₀ := X.base) I.ok.mod.kin M.kp (thn (ha.run pos pins s σ H _ I h) fun us s1 ⟨vs, H1, I1, r, q⟩ => ⟨I1.kIn, ?_⟩) he hpl
  exact run_makeSD M F hr hb hd (hx σ) I1 r q
end
section
variable {m : Type → Type} [PyM m] {c : KX} {W : Wd (PyM.γ m)} {Γ : List SD} {e o : Expr} {es : List Expr} {α β O ρ : Type} [Rep α] [Rep β] [Args ρ] {p pos pos' : Pos} {N : List Str} {ks : List Kd} {gs bs : List Str} {kk k : Nat} {n f cn : Str}
/-- C(e, ..) -/
theorem pxo_make {fm : ρ → EM O} {fin : O → Flds} {x : m ρ} (C : Ctx c N ks gs bs kk) (j : Nat) (hc : KCal c.M cn k (spI c.M cn fm fin)) (ha : PXA c W Γ (e :: es) x) (hj : gs[j]? = some cn := by rfl) (hk : k + 1 ≤ kk := by decide)
    (hdb : (cn == ("__debug__" : Str)) = false := by decide) (he : starEach (e :: es) c.X.env = (false, eval e c.X.env) :: starEach es c.X.env := by rfl) (hpl : (backTo pos (starEach es c.X.env)).any (·.1) = false := by rfl) :
    PXO c W Γ (.Call (.Name cn p) (e :: es) [] pos) (x >>= fun v => lift (fm v) : m O) (fun o => LP.inst cn (fin o)) := by
  obtain ⟨t, pa, qa⟩ := ha
  obtain ⟨fa, fd, ps, ds, dvs, sp', FO, mk, hm, hb, hd, imp⟩ := hc
  refine ⟨_, pe_makeSD (E := WE c.Wx) mk FO (C.room.mono hk) (C.gl j cn hj) hm hb hd (passAt C.tk) pa hdb he hpl, fun σ F H g Q S d => qa σ F H g _ S (PyM.dmono (PyM.dbind d) (fun v g1 h1 vs F1 H1 e1 S1 r1 => ?_) fun _ _ h => h)⟩
  intro xa dx hx hdx hne
  have grow : ∀ {F' H' : Hp}, GrowX xa F1 (upd (upd H1 dx (.own xa)) xa (.ins (c.cls cn) dx [])) F' H' → Same F1 F' ∧ StF c W g1 Γ σ F' H' := fun {F' H'} gr => by
    have kk : ∀ a o, F1 a = none → H1 a = some o → F' a = none ∧ H' a = some o := fun a o q1 q2 => by
      have n1 : a ≠ xa := fun z => by subst z; rw [hx] at q2; cases q2
      have n2 : a ≠ dx := fun z => by subst z; rw [hdx] at q2; cases q2
      exact gr.kp a o q1 n1 (by rw [upd_ne n1, upd_ne n2]; exact q2)
    exact ⟨gr.ff, S1.ext (fun a o q => by
      cases qf : F1 a with
      | some u => have := S1.fh a u qf; rw [q] at this; cases this; exact gr.fh a _ (gr.ff a _ qf)
      | none => exact (kk a o qf q).2) gr.ff gr.fh fun a o h1 h2 => (kk a o h1 h2).1⟩
  have fx : F1 xa = none := S1.fh.free hx
  have h2 := EM.den_mono (PyM.dlift h1) (fun _ h => h) fun _ h => h
  refine imp (.ref xa :: vs) _ _ _ ⟨F1, v, xa, vs, dx, rfl, upd_same, fx, fun a o q => ?_, r1, EM.den_mono h2 (fun o hq ob F' H' gr hfx hox hp => ⟨rfl, ?_⟩) fun ex hq cl d F' H' gr xx => ?_⟩
  · have q2 := S1.fh a o q
    have n1 : a ≠ xa := fun z => by subst z; rw [hx] at q2; cases q2
    have n2 : a ≠ dx := fun z => by subst z; rw [hdx] at q2; cases q2
    rw [upd_ne n1, upd_ne n2]; exact q2
  · obtain ⟨e2, S2⟩ := grow gr
    obtain ⟨_, dx', ws, hob, hp⟩ := hp
    refine hq xa ob F' H' (e1.trans e2) S2 ⟨hfx, S1.ph.free hx, fun z => ?_, fun j Q q1 q2 => ?_⟩ hox (by subst hob; trivial) ⟨dx', ws, hob, hp⟩
    · obtain ⟨_, _, ob, e⟩ := S1.wf xa z
      rw [hx] at e; cases e
    · obtain ⟨b, ob, e, _, _, _, h, _⟩ := Paired.getQ S1.sl q1 q2
      cases e
      rw [hx] at h; cases h
  · obtain ⟨e2, S2⟩ := grow gr
    exact hq cl d F' H' (e1.trans e2) S2 xx
end

/-! ### instances as values -/
class InsC (α : Type) where
  cn : Str
  fl : α → Flds
  nm : List Str
  nms : ∀ x, (fl x).map (·.1) = nm
instance insRep {α : Type} [InsC α] : Rep α := ⟨fun G x v H => ∃ a dx vs, v = .ref a ∧ H a = some (.ins (G.cls (InsC.cn α)) dx vs) ∧ FldsAt G H (InsC.fl x) vs, fun e ⟨a, dx, vs, h1, h2, h3⟩ => ⟨a, dx, vs, h1, e _ _ h2, h3.mono e⟩⟩
instance {α : Type} [InsC α] : InsT α where
  cn := InsC.cn α
  fl := InsC.nm α
  at_ := fun {G x v H} ⟨a, dx, vs, h1, h2, h3⟩ => ⟨a, dx, vs, h1, h2, by rw [h3.keys]; exact InsC.nms x⟩
instance {α : Type} [InsC α] : NotNone α := ⟨fun {G y v H} ⟨a, dx, vs, h, _⟩ => by subst h; simp⟩
section
variable {m : Type → Type} [PyM m] {c : KX} {W : Wd (PyM.γ m)} {Γ : List SD} {e o : Expr} {α β O : Type} [InsC α] [Rep β] {p pos pos' : Pos} {f cn : Str}
theorem px_ofI {x : m O} {fin : O → Flds} {mk : O → α} (hf : ∀ o, fin o = InsC.fl (mk o)) (h : PXO c W Γ e x fun o => LP.inst (InsC.cn α) (fin o)) : PX c W Γ e (x >>= fun o => pure (mk o)) := by
  obtain ⟨t, pt, q⟩ := h
  refine ⟨t, pt, fun σ F H g Q S d => q σ F H g Q S (PyM.dmono (PyM.dbind d) (fun xs g1 h1 a o F1 H1 e1 S1 pr ho mu hp => ?_) fun _ _ h => h)⟩
  obtain ⟨dx, vs, rfl, r⟩ := hp
  have h1 := dret h1
  refine h1 _ (upd F1 a _) H1 (e1.trans (same_upd pr.f)) (S1.freeze pr ho) ⟨a, dx, vs, rfl, upd_same, ?_⟩
  rw [← hf]
  exact FldsAt.mono (same_upd pr.f) r
theorem px_attr {x : m α} (get : α → β) (hf : ∀ x : α, (InsC.fl x).lookup f = some (.of (get x))) (hx : PX c W Γ e x) (hcl : Cls c.X.K (c.cls (InsC.cn α))) (hno : NoAttr c.X.K (c.cls (InsC.cn α)) f) (hb : attributeBase e f c.X.env (eval e c.X.env) = eval e c.X.env := by rfl) :
    PX c W Γ (.Attribute e f pos) (x >>= fun y => pure (get y)) := by
  obtain ⟨t, pt, q⟩ := hx
  refine ⟨_, pe_fld pt hb, fun σ F H g Q S d => q σ F H g _ S (PyM.dmono (PyM.dbind d) (fun y g1 h1 v F1 H1 e1 S1 r1 => ?_) fun _ _ h => h)⟩
  obtain ⟨a, dx, vs, rfl, h2, h3⟩ := r1
  obtain ⟨w, l, r⟩ := h3.lookup (hf y)
  exact ⟨a, c.cls (InsC.cn α), dx, vs, w, rfl, S1.fh _ _ h2, hcl, hno, l, dret h1 _ F1 H1 e1 S1 r⟩
end
end SP
namespace SP
open PySem PySem.Spec L2
open Rep (rep)
open PyM (den lift handle)

/-! ### the law's bag: a list that stands for what is drawn -/
structure BagS where
  a : Addr
  n : Nat
  s0 : Int
  s1 : Int
  s2 : Int
  xs : List Int
structure BagOk (b : BagS) : Prop where
  h0 : 0 ≤ b.s0
  h1 : 0 ≤ b.s1
  h2 : b.s1 < 2147483647
  h3 : 0 ≤ b.s2
  h4 : b.s2 ≤ b.n
  h5 : b.n ≤ 1000000000000
  h6 : ∀ x ∈ b.xs, 0 ≤ x
def BagW {γ : Type} (W : Wd γ) : Wd (Option BagS × γ) where
  has g a := (∃ b, g.1 = some b ∧ a = b.a) ∨ W.has g.2 a
  inv g G F H := (∀ b, g.1 = some b → ¬ W.has g.2 b.a ∧ BagOk b ∧ ∃ l, H b.a = some (.lst [.int b.s0, .int b.s1, .int b.s2, l]) ∧ Rep.rep G b.xs l F) ∧ W.inv g.2 G F H
  step := fun {g G F H F' H'} ⟨h1, h2⟩ e k => ⟨fun b q => by
    obtain ⟨z, ok, l, a1, a2⟩ := h1 b q
    exact ⟨z, ok, l, by rw [k b.a (.inl ⟨b, q, rfl⟩)]; exact a1, Rep.mono e a2⟩, W.step h2 e fun a z => k a (.inr z)⟩
/-- the bag, as a body holds it -/
structure Bag where
  a : Addr
instance : Rep Bag := ⟨fun _ b v _ => v = .ref b.a, fun _ h => h⟩
section
variable {γ : Type} {c : KX} {W : Wd γ} {g : Option BagS × γ} {b b' : BagS} {Γ : List SD} {σ : L2.St} {F H : Hp}
theorem StF.bag (S : StF c (BagW W) g Γ σ F H) (hb : g.1 = some b) : ¬ W.has g.2 b.a ∧ BagOk b ∧ ∃ l, H b.a = some (.lst [.int b.s0, .int b.s1, .int b.s2, l]) ∧ rep c.G b.xs l F := S.wi.1 b hb
theorem StF.setBag (S : StF c (BagW W) g Γ σ F H) (hb : g.1 = some b) (ha : b'.a = b.a) (hx : b'.xs = b.xs) (ok : BagOk b') {l : V} (hl : H b.a = some (.lst [.int b.s0, .int b.s1, .int b.s2, l])) :
    StF c (BagW W) (some b', g.2) Γ σ F (upd H b.a (.lst [.int b'.s0, .int b'.s1, .int b'.s2, l])) := by
  obtain ⟨z, _, l', h1, h2⟩ := S.bag hb
  rw [hl] at h1; cases h1
  have hs : ∀ a, (BagW W).has (some b', g.2) a ↔ (BagW W).has g a := fun a => by
    constructor
    · rintro (⟨d, q, e⟩ | q)
      · cases q; exact .inl ⟨b, hb, by rw [e, ha]⟩
      · exact .inr q
    · rintro (⟨d, q, e⟩ | q)
      · rw [hb] at q; cases q; exact .inl ⟨b', rfl, by rw [e, ha]⟩
      · exact .inr q
  have fb := (S.wf b.a (.inl ⟨b, hb, rfl⟩)).1
  refine S.world (Same.refl _) (fun a o e => ?_) (fun a o e1 e2 e3 => ⟨e1, fun y => e2 ((hs a).mp y), ?_⟩) ⟨fun d q => ?_, ?_⟩ fun a y => ?_
  · have : a ≠ b.a := fun y => by subst y; rw [fb] at e; cases e
    rw [upd_ne this]; exact S.fh a o e
  · have : a ≠ b.a := fun y => e2 (.inl ⟨b, hb, y⟩)
    rw [upd_ne this]; exact e3
  · cases q
    exact ⟨by rw [ha]; exact z, ok, l, by rw [ha]; exact upd_same, by rw [hx]; exact h2⟩
  · exact W.step S.wi.2 (Same.refl _) fun a y => upd_ne fun e => z (e ▸ y)
  · obtain ⟨k1, k2, o, k3⟩ := S.wf a ((hs a).mp y)
    refine ⟨k1, k2, ?_⟩
    by_cases e : a = b.a
    · subst e; exact ⟨_, upd_same⟩
    · exact ⟨o, by rw [upd_ne e]; exact k3⟩
end
section
variable {γ : Type}
def bagGet (x : Bag) (f : BagS → Int) : MW (Option BagS × γ) Int := ⟨fun Q _ g => ∃ b, g.1 = some b ∧ b.a = x.a ∧ Q (f b) g, fun ⟨b, h1, h2, h3⟩ hq _ => ⟨b, h1, h2, hq _ _ h3⟩⟩
def bagXs (x : Bag) : MW (Option BagS × γ) (List Int) := ⟨fun Q _ g => ∃ b, g.1 = some b ∧ b.a = x.a ∧ Q b.xs g, fun ⟨b, h1, h2, h3⟩ hq _ => ⟨b, h1, h2, hq _ _ h3⟩⟩
def bagSet (x : Bag) (f : BagS → BagS) : MW (Option BagS × γ) Unit := ⟨fun Q _ g => ∃ b, g.1 = some b ∧ b.a = x.a ∧ (f b).a = b.a ∧ (f b).xs = b.xs ∧ (BagOk b → BagOk (f b)) ∧ Q () (some (f b), g.2), fun ⟨b, h1, h2, h3, h4, h5, h6⟩ hq _ => ⟨b, h1, h2, h3, h4, h5, hq _ _ h6⟩⟩
variable {c : KX} {W : Wd γ} {Γ : List SD} {e i : Expr} {p pos pos' : Pos} {N : List Str} {ks : List Kd} {gs bs : List Str} {kk : Nat} {n : Str}
theorem get_list {X : Cx} : PGet X (fun x y H Q => ∃ p xs i v, x = .ref p ∧ y = .int i ∧ 0 ≤ i ∧ H p = some (.lst xs) ∧ xs[i.toNat]? = some v ∧ Q v H) := by
  intro pins s σ H o iv ov ivv Q I ro ri h
  obtain ⟨p, xs, k, v, rfl, rfl, h0, hp, hk, q⟩ := h
  cases ro
  obtain ⟨t, rfl⟩ := ri
  obtain ⟨its, r, pl, hz⟩ := I.list (.of hp)
  obtain ⟨w, ew, rw'⟩ := r.get hk
  have hn := line63
  have hlt : k.toNat < its.length := (List.getElem?_eq_some_iff.mp ew).1
  refine wpAny_getItem_list pl.isList h0 ?_ ?_ ⟨v, H, I, rw', q⟩
  · have := r.length; omega
  · simpa using ew
theorem px_bagG {k : Int} {j : Nat} {p2 : Pos} {x : MW (Option BagS × γ) Bag} (f : BagS → Int) (hx : PX c (BagW W) Γ e x) (hf : ∀ b l, L2.atI [V.int b.s0, V.int b.s1, V.int b.s2, l] k = some (.int (f b)) := by intro _ _; rfl) :
    PX c (BagW W) Γ (.Subscript e (.Constant (.int k) j p2) pos) (x >>= fun y => bagGet y f) := by
  obtain ⟨t, pt, q⟩ := hx
  refine ⟨_, pe_ix ix_list pt pe_int (fun _ _ => rfl), fun σ F H g Q S d => q σ F H g _ S (PyM.dmono (PyM.dbind d) (fun y g1 h1 v F1 H1 e1 S1 r1 => ?_) fun _ _ h => h)⟩
  obtain ⟨b, h2, h3, h4⟩ := h1
  obtain ⟨_, ok, l, hl, _⟩ := S1.bag h2
  have r1 : v = .ref y.a := r1
  exact ⟨b.a, _, k, .int (f b), by rw [r1, h3], rfl, .of hl, hf b l, h4 _ F1 H1 e1 S1 rfl⟩
theorem px_bagL {k : Int} {j : Nat} {p2 : Pos} {x : MW (Option BagS × γ) Bag} (hx : PX c (BagW W) Γ e x) (hf : ∀ a b d l, L2.atI [V.int a, V.int b, V.int d, l] k = some l := by intro _ _ _ _; rfl) :
    PX c (BagW W) Γ (.Subscript e (.Constant (.int k) j p2) pos) (x >>= fun y => bagXs y) := by
  obtain ⟨t, pt, q⟩ := hx
  refine ⟨_, pe_ix ix_list pt pe_int (fun _ _ => rfl), fun σ F H g Q S d => q σ F H g _ S (PyM.dmono (PyM.dbind d) (fun y g1 h1 v F1 H1 e1 S1 r1 => ?_) fun _ _ h => h)⟩
  obtain ⟨b, h2, h3, h4⟩ := h1
  obtain ⟨_, ok, l, hl, hr⟩ := S1.bag h2
  have r1 : v = .ref y.a := r1
  exact ⟨b.a, _, k, l, by rw [r1, h3], rfl, .of hl, hf _ _ _ l, h4 l F1 H1 e1 S1 hr⟩
/-- bag[k] = e -/
theorem pn_bagS {k : Int} {j : Nat} {p2 sp : Pos} {x : Bag} {i : Nat} {d : Kd} {np : Pos} {y : MW (Option BagS × γ) Int} (f : BagS → Int → BagS) (kn : Nat) (C : Ctx c N ks gs bs kk) (he : SubE Γ c.Γe) (hy : PX c (BagW W) Γ e y) (hΓ : Γ[i]? = some (.v x) := by rfl) (hN : N[i]? = some n := by rfl) (hd : ks[i]? = some d := by rfl) (hl : d.isVis = true := by rfl) (hk : ixN 4 k = some kn := by rfl) (hf : ∀ b v l, [V.int b.s0, V.int b.s1, V.int b.s2, l].set kn (.int v) = [V.int (f b v).s0, V.int (f b v).s1, V.int (f b v).s2, l] := by intro _ _ _; rfl) (hdb : (n == ("__debug__" : Str)) = false := by decide) (hcd : (n == ("__classdict__" : Str)) = false := by decide) (hs : swapsWithSole [.Subscript (.Name n np) (.Constant (.int k) j p2) sp] e pos.line c.X.env = pure false := by rfl) (hw : swappedStores [.Subscript (.Name n np) (.Constant (.int k) j p2) sp] e c.X.env = pure none := by rfl) :
    PN c (BagW W) Γ (.Assign [.Subscript (.Name n np) (.Constant (.int k) j p2) sp] e pos) (y >>= fun v => bagSet x fun b => f b v) (fun _ => Γ) := by
  obtain ⟨t, pt, q⟩ := hy
  have pn : PE c.X (.Name n np) _ := pe_var (i := i) (by rw [C.hN]; exact hN) (C.vis hN hd (by rintro rfl; cases hl)) hdb hcd
  refine ⟨_, ps_asg pt (pg_sub pn pe_int set_list) hs hw, fun σ F H g D S dd => q σ F H g _ S (PyM.dmono (PyM.dbind dd) (fun y g1 h1 v F1 H1 e1 S1 r1 => ?_) fun _ _ h => h.at he)⟩
  obtain ⟨b, h2, h3, h4, h5, h6, h7⟩ := h1
  obtain ⟨_, ok, l, hl, _⟩ := S1.bag h2
  obtain ⟨u, eu, ru⟩ := Paired.getP S1.sl hΓ
  obtain ⟨w, rfl, ru⟩ := ru
  have ru : w = .ref x.a := ru
  subst ru
  have r1 : v = .int y := r1
  subst r1
  refine ⟨.ref x.a, eu, b.a, _, k, kn, by rw [h3], rfl, hl, hk, ?_⟩
  rw [hf b y l]
  exact h7 σ F1 _ e1 (S1.setBag h2 h4 h5 (h6 ok) hl)
/-- bag[k] += e -/
theorem pn_bagA {k : Int} {j : Nat} {p2 sp : Pos} {x : Bag} {i : Nat} {d : Kd} {np : Pos} {y : MW (Option BagS × γ) Int} (f : BagS → Int) (f' : BagS → Int → BagS) (kn : Nat) (C : Ctx c N ks gs bs kk) (he : SubE Γ c.Γe) (hy : PX c (BagW W) Γ e y) (hΓ : Γ[i]? = some (.v x) := by rfl) (hN : N[i]? = some n := by rfl) (hd : ks[i]? = some d := by rfl) (hl : d.isVis = true := by rfl) (hk : ixN 4 k = some kn := by rfl) (h0 : 0 ≤ k := by decide) (hg : ∀ b l, [V.int b.s0, V.int b.s1, V.int b.s2, l][k.toNat]? = some (.int (f b)) := by intro _ _; rfl) (hf : ∀ b v l, [V.int b.s0, V.int b.s1, V.int b.s2, l].set kn (.int v) = [V.int (f' b v).s0, V.int (f' b v).s1, V.int (f' b v).s2, l] := by intro _ _ _; rfl) (hdb : (n == ("__debug__" : Str)) = false := by decide) (hcd : (n == ("__classdict__" : Str)) = false := by decide) :
    PN c (BagW W) Γ (.AugAssign (.Subscript (.Name n np) (.Constant (.int k) j p2) sp) .Add e pos) (bagGet x f >>= fun o => y >>= fun v => bagSet x fun b => f' b (o + v)) (fun _ => Γ) := by
  obtain ⟨t, pt, q⟩ := hy
  have pn : PE c.X (.Name n np) _ := pe_var (i := i) (by rw [C.hN]; exact hN) (C.vis hN hd (by rintro rfl; cases hl)) hdb hcd
  refine ⟨_, ps_augS pn pe_int get_list pt ip_add set_list, fun σ F H g D S dd => ?_⟩
  obtain ⟨b, h2, h3, dd⟩ := dd
  obtain ⟨_, ok, l, hl, _⟩ := S.bag h2
  obtain ⟨u, eu, ru⟩ := Paired.getP S.sl hΓ
  obtain ⟨w, rfl, ru⟩ := ru
  have ru : w = .ref x.a := ru
  subst ru
  refine ⟨.ref x.a, eu, b.a, _, k, .int (f b), by rw [h3], rfl, h0, hl, hg b l, ?_⟩
  refine q σ F H g _ S (PyM.dmono (PyM.dbind dd) (fun v g1 h1 z F1 H1 e1 S1 r1 => ?_) fun _ _ h => h.at he)
  obtain ⟨b', h2', h3', h4, h5, h6, h7⟩ := h1
  obtain ⟨_, ok', l', hl', _⟩ := S1.bag h2'
  have r1 : z = .int v := r1
  subst r1
  refine ⟨f b, v, rfl, rfl, b'.a, _, k, kn, by rw [h3'], rfl, hl', hk, ?_⟩
  rw [hf b' _ l']
  exact h7 σ F1 _ e1 (S1.setBag h2' h4 h5 (h6 ok') hl')
end
/-! ### a new bag -/
theorem StF.newBag {γ : Type} {c : KX} {W : Wd γ} {g : Option BagS × γ} {Γ : List SD} {σ : L2.St} {F H : Hp} {b : BagS} {l : V} (S : StF c (BagW W) g Γ σ F H) (hg : g.1 = none) (hp : H b.a = none) (ok : BagOk b) (r : rep c.G b.xs l F) :
    StF c (BagW W) (some b, g.2) Γ σ F (upd H b.a (.lst [.int b.s0, .int b.s1, .int b.s2, l])) := by
  have hs : ∀ a, (BagW W).has (some b, g.2) a ↔ a = b.a ∨ (BagW W).has g a := fun a => by
    constructor
    · rintro (⟨d, q, e⟩ | q)
      · cases q; exact .inl e
      · exact .inr (.inr q)
    · rintro (e | ⟨d, q, e⟩ | q)
      · exact .inl ⟨b, rfl, e⟩
      · rw [hg] at q; cases q
      · exact .inr q
  have fb := S.fh.free hp
  refine S.world (Same.refl _) (fun a o e => ?_) (fun a o e1 e2 e3 => ⟨e1, fun y => ?_, ?_⟩) ⟨fun d q => ?_, ?_⟩ fun a y => ?_
  · have : a ≠ b.a := fun y => by subst y; rw [fb] at e; cases e
    rw [upd_ne this]; exact S.fh a o e
  · rcases (hs a).mp y with y | y
    · subst y; rw [hp] at e3; cases e3
    · exact e2 y
  · have : a ≠ b.a := fun y => by subst y; rw [hp] at e3; cases e3
    rw [upd_ne this]; exact e3
  · cases q
    refine ⟨fun z => ?_, ok, l, upd_same, r⟩
    obtain ⟨_, _, o, e⟩ := S.wf b.a (.inr z)
    rw [hp] at e; cases e
  · exact W.step S.wi.2 (Same.refl _) fun a y => upd_ne fun e => by
      obtain ⟨_, _, o, k⟩ := S.wf a (.inr y)
      rw [e, hp] at k; cases k
  · rcases (hs a).mp y with y | y
    · subst y; exact ⟨fb, S.ph.free hp, _, upd_same⟩
    · obtain ⟨k1, k2, o, k3⟩ := S.wf a y
      have : a ≠ b.a := fun y => by subst y; rw [hp] at k3; cases k3
      exact ⟨k1, k2, o, by rw [upd_ne this]; exact k3⟩
def bagNew {γ : Type} (xs : List Int) : MW (Option BagS × γ) Bag := ⟨fun Q _ g => g.1 = none ∧ (∀ x ∈ xs, 0 ≤ x) ∧ ∀ a, Q ⟨a⟩ (some ⟨a, 0, 0, 1234567891, 0, xs⟩, g.2), fun ⟨h1, h2, h3⟩ hq _ => ⟨h1, h2, fun a => hq _ _ (h3 a)⟩⟩
theorem px_bagNew {γ : Type} {c : KX} {W : Wd γ} {Γ : List SD} {e : Expr} {pos p0 p1 p2 : Pos} {j0 j1 j2 : Nat} {x : MW (Option BagS × γ) (List Int)} (hx : PX c (BagW W) Γ e x) (hs : starEach [e] c.X.env = (false, eval e c.X.env) :: starEach [] c.X.env := by rfl)
    (h1 : starEach [.Constant (.int 0) j0 p0, .Constant (.int 1234567891) j1 p1, .Constant (.int 0) j2 p2, e] c.X.env = (false, eval (.Constant (.int 0) j0 p0) c.X.env) :: starEach [.Constant (.int 1234567891) j1 p1, .Constant (.int 0) j2 p2, e] c.X.env := by rfl)
    (h2 : starEach [.Constant (.int 1234567891) j1 p1, .Constant (.int 0) j2 p2, e] c.X.env = (false, eval (.Constant (.int 1234567891) j1 p1) c.X.env) :: starEach [.Constant (.int 0) j2 p2, e] c.X.env := by rfl)
    (h3 : starEach [.Constant (.int 0) j2 p2, e] c.X.env = (false, eval (.Constant (.int 0) j2 p2) c.X.env) :: starEach [e] c.X.env := by rfl) :
    PX c (BagW W) Γ (.List [.Constant (.int 0) j0 p0, .Constant (.int 1234567891) j1 p1, .Constant (.int 0) j2 p2, e] pos) (x >>= fun xs => bagNew xs) := by
  obtain ⟨t, pt, q⟩ := hx
  refine ⟨_, pe_lst (pa_cons pe_int (pa_cons pe_int (pa_cons pe_int (pa_cons pt pa_nil hs) h3) h2) h1), fun σ F H g Q S d => ?_⟩
  refine q σ F H g _ S (PyM.dmono (PyM.dbind d) (fun xs g1 h1 v F1 H1 e1 S1 r1 => ?_) fun _ _ h => h)
  obtain ⟨h2, h3, h4⟩ := h1
  refine ⟨?_, fun p hp => ?_⟩
  · show 4 ≤ sizeLine; rw [sizeLine_eq]; decide
  · refine h4 p _ F1 _ e1 (S1.newBag (b := ⟨p, 0, 0, 1234567891, 0, xs⟩) h2 hp ⟨by simp, by simp, by simp, by simp, by simp, by simp, h3⟩ r1) rfl
/-! ### what the monad of the law runs to -/
section
variable {γ α β : Type} {Q : α → γ → Prop} {E : Exc → γ → Prop} {g : γ}
theorem run_pure {x : α} : (pure x : MW γ α).run Q E g = Q x g := rfl
theorem run_bind {x : MW γ β} {f : β → MW γ α} : (x >>= f).run Q E g = x.run (fun a g' => (f a).run Q E g') E g := rfl
theorem run_must {p : Prop} [Decidable p] {f : Unit → MW γ α} : (must p >>= f).run Q E g = (p ∧ (f ()).run Q E g) := by
  apply propext
  show EM.den (if p then .ok () else .error none) (fun a => (f a).run Q E g) (fun e => E e g) ↔ _
  by_cases h : p
  · rw [if_pos h]; exact ⟨fun q => ⟨h, q⟩, fun q => q.2⟩
  · rw [if_neg h]; exact ⟨fun q => q.elim, fun q => (h q.1).elim⟩
theorem run_must0 {p : Prop} [Decidable p] {Q : Unit → γ → Prop} : (must p : MW γ Unit).run Q E g = (p ∧ Q () g) := run_must (f := fun _ => pure ())
theorem run_opt {o : Option α} : (opt o : MW γ α).run Q E g = ∃ x, o = some x ∧ Q x g := by
  apply propext
  cases o with
  | none => exact ⟨fun h => h.elim, fun ⟨x, h, _⟩ => by cases h⟩
  | some y => exact ⟨fun h => ⟨y, rfl, h⟩, fun ⟨x, h, q⟩ => by cases h; exact q⟩
theorem run_atM {xs : List α} {i : Int} : (atM xs i : MW γ α).run Q E g = ∃ x, L2.atI xs i = some x ∧ Q x g := run_opt
theorem run_ite {t : Bool} {a b : MW γ α} : (if t = true then a else b).run Q E g = (if t = true then a.run Q E g else b.run Q E g) := by
  cases t <;> rfl
theorem run_lift {x : EM α} : (PyM.lift x : MW γ α).run Q E g = x.den (fun a => Q a g) (fun e => E e g) := rfl
theorem run_raise {e : Exc} : (raise e : MW γ α).run Q E g = E e g := rfl
instance : LawfulMonad (MW γ) := LawfulMonad.mk' (MW γ) (id_map := fun x => rfl) (pure_bind := fun x f => rfl) (bind_assoc := fun x f g => rfl) (bind_pure_comp := fun f x => rfl)
end
section
variable {γ : Type} {Q : Int → Option BagS × γ → Prop} {Qu : Unit → Option BagS × γ → Prop} {Ql : List Int → Option BagS × γ → Prop} {E : Exc → Option BagS × γ → Prop} {g : Option BagS × γ} {b : BagS} {x : Bag}
theorem run_bagGet {f : BagS → Int} : (bagGet x f).run Q E g = ∃ b, g.1 = some b ∧ b.a = x.a ∧ Q (f b) g := rfl
theorem run_bagXs : (bagXs x).run Ql E g = ∃ b, g.1 = some b ∧ b.a = x.a ∧ Ql b.xs g := rfl
theorem run_bagSet {f : BagS → BagS} : (bagSet x f).run Qu E g = ∃ b, g.1 = some b ∧ b.a = x.a ∧ (f b).a = b.a ∧ (f b).xs = b.xs ∧ (BagOk b → BagOk (f b)) ∧ Qu () (some (f b), g.2) := rfl
/-- a draw, whatever it is -/
def takeM (r : Bag × (Int × Unit)) : MW (Option BagS × γ) Int := ⟨fun Q _ g => ∃ b, g.1 = some b ∧ b.a = r.1.a ∧ 0 < r.2.1 ∧ r.2.1.natAbs.log2 < 9000 ∧ b.n < 1000000000000 ∧ ∀ (v : Int) (b' : BagS), 0 ≤ v → v < r.2.1 → b'.a = b.a → b'.n ≤ b.n + 1 → Q v (some b', g.2),
  fun ⟨b, h1, h2, h3, h4, h5, h6⟩ hq _ => ⟨b, h1, h2, h3, h4, h5, fun v b' k1 k2 k3 k4 => hq _ _ (h6 v b' k1 k2 k3 k4)⟩⟩
end
/-! ### the draw's last part -/
theorem mulOk_of {i j : Int} (h1 : 0 ≤ i) (h2 : i < 18446744073709551616) (h3 : 0 ≤ j) (h4 : j < 18446744073709551616) : mulOk i j :=
  wide_mul (a := 64) (b := 64) (by omega) (by omega) (by decide) (by decide) (by decide)
theorem divOk_of {i j : Int} (h1 : 0 < j) (h2 : j < 18446744073709551616) : divOk i j := by
  refine ⟨h1, ?_⟩
  have h : j.natAbs < 2 ^ 64 := by omega
  have : j.natAbs.log2 < 64 := (Nat.log2_lt (by omega)).mpr h
  omega
theorem tail_ok {many s1 : Int} {R : Int → Prop} (h1 : 0 ≤ s1) (h2 : s1 < 2147483647) (h3 : 0 < many) (h : ∀ v, 0 ≤ v → v < many → R v) :
    mulOk (s1 + 1) 39373 ∧ modOk ((s1 + 1) * 39373) 1000000007 ∧ mulOk ((s1 + 1) * 39373 % 1000000007) ((s1 + 1) * 39373 % 1000000007) ∧ modOk ((s1 + 1) * 39373 % 1000000007 * ((s1 + 1) * 39373 % 1000000007)) 998244353 ∧
      mulOk ((s1 + 1) * 39373 % 1000000007 * ((s1 + 1) * 39373 % 1000000007) % 998244353) 30011 ∧ modOk ((s1 + 1) * 39373 % 1000000007 * ((s1 + 1) * 39373 % 1000000007) % 998244353 * 30011) 998244353 ∧
      if 1000000 < many then mulOk ((s1 + 1) * 39373 % 1000000007 * ((s1 + 1) * 39373 % 1000000007) % 998244353 * 30011 % 998244353) 1000000007 ∧
          modOk ((s1 + 1) * 39373 % 1000000007 * ((s1 + 1) * 39373 % 1000000007) % 998244353 * 30011 % 998244353 * 1000000007 + (s1 + 1) * 39373 % 1000000007) many ∧
          R (((s1 + 1) * 39373 % 1000000007 * ((s1 + 1) * 39373 % 1000000007) % 998244353 * 30011 % 998244353 * 1000000007 + (s1 + 1) * 39373 % 1000000007) % many)
      else divOk ((s1 + 1) * 39373 % 1000000007 * ((s1 + 1) * 39373 % 1000000007) % 998244353 * 30011 % 998244353) 7 ∧ modOk ((s1 + 1) * 39373 % 1000000007 * ((s1 + 1) * 39373 % 1000000007) % 998244353 * 30011 % 998244353 / 7) many ∧
          R ((s1 + 1) * 39373 % 1000000007 * ((s1 + 1) * 39373 % 1000000007) % 998244353 * 30011 % 998244353 / 7 % many) := by
  have f0 : 0 ≤ (s1 + 1) * 39373 % 1000000007 := by omega
  have f1 : (s1 + 1) * 39373 % 1000000007 < 1000000007 := by omega
  refine ⟨mulOk_of (by omega) (by omega) (by omega) (by omega), by show (0 : Int) < _; omega, ?_⟩
  generalize (s1 + 1) * 39373 % 1000000007 = f at f0 f1 ⊢
  have g0 : 0 ≤ f * f % 998244353 := by omega
  have g1 : f * f % 998244353 < 998244353 := by omega
  refine ⟨mulOk_of f0 (by omega) f0 (by omega), by show (0 : Int) < _; omega, ?_⟩
  generalize f * f % 998244353 = k at g0 g1 ⊢
  have k0 : 0 ≤ k * 30011 % 998244353 := by omega
  have k1 : k * 30011 % 998244353 < 998244353 := by omega
  refine ⟨mulOk_of g0 (by omega) (by omega) (by omega), by show (0 : Int) < _; omega, ?_⟩
  generalize k * 30011 % 998244353 = l at k0 k1 ⊢
  by_cases hm : 1000000 < many
  · rw [if_pos hm]
    exact ⟨mulOk_of k0 (by omega) (by omega) (by omega), h3, h _ (Int.emod_nonneg _ (by omega)) (Int.emod_lt_of_pos _ h3)⟩
  · rw [if_neg hm]
    exact ⟨divOk_of (by omega) (by omega), h3, h _ (Int.emod_nonneg _ (by omega)) (Int.emod_lt_of_pos _ h3)⟩
theorem spW_imp {m : Type → Type} [PyM m] {W : Wd (PyM.γ m)} {M : MG} {ρ β : Type} [Args ρ] [Rep β] {f f' : ρ → m β} (h : ∀ x g F H Q E, W.inv g M.G F H → den (f x) Q E g → den (f' x) Q E g) : ∀ vs H Q E, spW W M f vs H Q E → spW W M f' vs H Q E :=
  fun vs H Q E ⟨F, g, x, h1, h2, h3, h4, h5⟩ => ⟨F, g, x, h1, h2, h3, h4, h x g F H _ _ h2 h5⟩
end SP
namespace SP
open PySem PySem.Spec L2
open Rep (rep)
open PyM (den lift handle)
section
variable {m : Type → Type} [PyM m] {c : KX} {W : Wd (PyM.γ m)} {Γ Γ' : List SD} {e a b o tg : Expr} {es : List Expr} {α β δ ρ O : Type} [Rep α] [Rep β] [Rep δ] [Args ρ] {p p2 pos pos' apos : Pos} {st : Stmt} {rest A : List Stmt} {K : O → Fin} {N : List Str} {ks : List Kd} {gs bs : List Str} {kk k : Nat} {n : Str} {is : List Nat}
theorem px_some {x : m α} (h : PX c W Γ e x) : PX c W Γ e (x >>= fun v => pure (some v)) := by
  obtain ⟨t, pt, q⟩ := h
  exact ⟨t, pt, fun σ F H g Q S d => q σ F H g Q S (PyM.dmono (PyM.dbind d) (fun v g1 h1 w F1 H1 e1 S1 r1 => dret h1 w F1 H1 e1 S1 r1) fun _ _ h => h)⟩
/-! tests -/
theorem eqI_ok : OpOk (m := m) c rEq (fun (i j : Int) => pure (decide (i = j))) := scal_ok (x := 0) (y := 0)
theorem neI_ok : OpOk (m := m) c rNe (fun (i j : Int) => pure (!decide (i = j))) := fun W Γ σ F H g Q x y v u S r1 r2 d => by
  have r1 : v = .int x := r1
  have r2 : u = .int y := r2
  subst r1 r2
  exact ⟨rfl, dret d _ F H (Same.refl _) S (by show V.bl (!decide (V.int x = V.int y)) = V.bl (!decide (x = y)); congr 2; rw [Bool.eq_iff_iff]; simp)⟩
theorem eqB_ok : OpOk (m := m) c rEq (fun (i j : Bool) => pure (decide (i = j))) := fun W Γ σ F H g Q x y v u S r1 r2 d => by
  have r1 : v = .bl x := r1
  have r2 : u = .bl y := r2
  subst r1 r2
  exact ⟨rfl, dret d _ F H (Same.refl _) S (by show V.bl (decide (V.bl x = V.bl y)) = V.bl (decide (x = y)); congr 1; rw [Bool.eq_iff_iff]; simp)⟩
theorem neB_ok : OpOk (m := m) c rNe (fun (i j : Bool) => pure (!decide (i = j))) := fun W Γ σ F H g Q x y v u S r1 r2 d => by
  have r1 : v = .bl x := r1
  have r2 : u = .bl y := r2
  subst r1 r2
  exact ⟨rfl, dret d _ F H (Same.refl _) S (by show V.bl (!decide (V.bl x = V.bl y)) = V.bl (!decide (x = y)); congr 2; rw [Bool.eq_iff_iff]; simp)⟩
theorem eqS_ok : OpOk (m := m) c rEq (fun (i j : Str) => pure (decide (i = j))) := fun W Γ σ F H g Q x y v u S r1 r2 d => by
  have r1 : v = .str x := r1
  have r2 : u = .str y := r2
  subst r1 r2
  exact ⟨rfl, dret d _ F H (Same.refl _) S (by show V.bl (decide (V.str x = V.str y)) = V.bl (decide (x = y)); congr 1; rw [Bool.eq_iff_iff]; simp)⟩
theorem neS_ok : OpOk (m := m) c rNe (fun (i j : Str) => pure (!decide (i = j))) := fun W Γ σ F H g Q x y v u S r1 r2 d => by
  have r1 : v = .str x := r1
  have r2 : u = .str y := r2
  subst r1 r2
  exact ⟨rfl, dret d _ F H (Same.refl _) S (by show V.bl (!decide (V.str x = V.str y)) = V.bl (!decide (x = y)); congr 2; rw [Bool.eq_iff_iff]; simp)⟩
theorem pxt_lt {ma mb : m Int} (ha : PX c W Γ a ma) (hb : PX c W Γ b mb) : PXT c W Γ (.Compare a [.Lt] [b] pos) (ma >>= fun x => mb >>= fun y => pure (decide (x < y))) := pxt_cmp op_lt rI0_okB ha hb
theorem pxt_le {ma mb : m Int} (ha : PX c W Γ a ma) (hb : PX c W Γ b mb) : PXT c W Γ (.Compare a [.LtE] [b] pos) (ma >>= fun x => mb >>= fun y => pure (decide (x ≤ y))) := pxt_cmp op_le rI0_okB ha hb
theorem pxt_gt {ma mb : m Int} (ha : PX c W Γ a ma) (hb : PX c W Γ b mb) : PXT c W Γ (.Compare a [.Gt] [b] pos) (ma >>= fun x => mb >>= fun y => pure (decide (y < x))) := pxt_cmp op_gt rI0_okB ha hb
theorem pxt_ge {ma mb : m Int} (ha : PX c W Γ a ma) (hb : PX c W Γ b mb) : PXT c W Γ (.Compare a [.GtE] [b] pos) (ma >>= fun x => mb >>= fun y => pure (decide (y ≤ x))) := pxt_cmp op_ge rI0_okB ha hb
theorem pxt_eqI {ma mb : m Int} (ha : PX c W Γ a ma) (hb : PX c W Γ b mb) : PXT c W Γ (.Compare a [.Eq] [b] pos) (ma >>= fun x => mb >>= fun y => pure (decide (x = y))) := pxt_cmp op_eq eqI_ok ha hb
theorem pxt_neI {ma mb : m Int} (ha : PX c W Γ a ma) (hb : PX c W Γ b mb) : PXT c W Γ (.Compare a [.NotEq] [b] pos) (ma >>= fun x => mb >>= fun y => pure (!decide (x = y))) := pxt_cmp op_ne neI_ok ha hb
theorem pxt_eqB {ma mb : m Bool} (ha : PX c W Γ a ma) (hb : PX c W Γ b mb) : PXT c W Γ (.Compare a [.Eq] [b] pos) (ma >>= fun x => mb >>= fun y => pure (decide (x = y))) := pxt_cmp op_eq eqB_ok ha hb
theorem pxt_neB {ma mb : m Bool} (ha : PX c W Γ a ma) (hb : PX c W Γ b mb) : PXT c W Γ (.Compare a [.NotEq] [b] pos) (ma >>= fun x => mb >>= fun y => pure (!decide (x = y))) := pxt_cmp op_ne neB_ok ha hb
theorem pxt_eqS {ma mb : m Str} (ha : PX c W Γ a ma) (hb : PX c W Γ b mb) : PXT c W Γ (.Compare a [.Eq] [b] pos) (ma >>= fun x => mb >>= fun y => pure (decide (x = y))) := pxt_cmp op_eq eqS_ok ha hb
theorem pxt_neS {ma mb : m Str} (ha : PX c W Γ a ma) (hb : PX c W Γ b mb) : PXT c W Γ (.Compare a [.NotEq] [b] pos) (ma >>= fun x => mb >>= fun y => pure (!decide (x = y))) := pxt_cmp op_ne neS_ok ha hb
/-! reversed(range(..)) -/
theorem ok_revRange {G : GC} {lo hi : Int} {F : Hp} : ItOk G (Itc (lo + (((hi - lo).toNat : Nat) : Int) - 1) (-1) (hi - lo).toNat) (rangeL lo hi).reverse F where
  go := fun i x F1 H e1 e2 hx => by
    have := (List.getElem?_eq_some_iff.mp hx).1
    show i < (hi - lo).toNat
    simpa [rangeL] using this
  yld := fun i x F1 H v H' e1 e2 hx y => by
    obtain ⟨rfl, rfl⟩ := y
    obtain ⟨hl, e⟩ := List.getElem?_eq_some_iff.mp hx
    refine ⟨Same.refl _, F1, Same.refl _, e2, fun _ _ h _ => h, ?_⟩
    show V.int _ = V.int x
    rw [← e]
    have hl2 : i < (hi - lo).toNat := by simpa [rangeL] using hl
    rw [List.getElem_reverse]
    simp only [rangeL, List.getElem_map, List.getElem_range, List.length_map, List.length_range]
    congr 1
    omega
  stop := fun i F1 H e1 e2 hl => by
    show (hi - lo).toNat ≤ i
    simpa [rangeL] using hl
theorem pxi_rrange1 {x : m Int} (C : Ctx c N ks gs bs kk) (j1 j : Nat) (h : PX c W Γ a x) (hj1 : bs[j1]? = some ("reversed" : Str) := by rfl) (hj : bs[j]? = some ("range" : Str) := by rfl) (hs : starEach [a] c.X.env = (false, eval a c.X.env) :: starEach [] c.X.env := by rfl) (hs1 : starEach [.Call (.Name "range" p) [a] [] pos] c.X.env = (false, eval (.Call (.Name "range" p) [a] [] pos) c.X.env) :: starEach [] c.X.env := by rfl) : PXI c W Γ tg (.Call (.Name "reversed" p2) [.Call (.Name "range" p) [a] [] pos] [] pos') (x >>= fun i => must (In62 i) >>= fun _ => pure (rangeL 0 i).reverse) := by
  obtain ⟨t, pt, q⟩ := h
  obtain ⟨b1, b2⟩ := C.bl j _ hj
  obtain ⟨b3, b4⟩ := C.bl j1 _ hj1
  refine ⟨_, pi_revR b3 b4 (prg_1 b1 b2 pt hs) hs1, fun σ F H g R S d => ?_⟩
  refine q σ F H g _ S (PyM.dmono (PyM.dbind d) (fun i g1 h1 v F1 H1 e1 S1 r1 => ?_) fun _ _ h => h)
  obtain ⟨h2, h3⟩ := dmust h1
  have r1 : v = .int i := r1
  subst r1
  have z := PyM.dpure h3 _ F1 H1 e1 S1 (ok_revRange (G := c.G) (lo := 0) (hi := i))
  refine ⟨i, rfl, ?_, ?_, ?_, ?_, ?_⟩
  all_goals first | exact z | (have := h2.1; have := h2.2; omega) | skip
end
end SP
namespace SP
open PySem PySem.Spec PyProof.Rows L2

/-! ### facts of the written part -/
abbrev Frg := PySem.W.Frag
/-- an exception class: a tail of own classes, then ValueError's -/
def oexB (K : Frg) (C : Addr) : Bool := (match K.lookup C with
  | some ⟨.type "type", _, .cls cd, sl⟩ => (match cd.mro, sl.toList with
    | .ref C' :: bm, [_, _, _, _, some (.builtin n), _] => C' == C && n == "ValueError.__new__" && !cd.hasDel && cd.hasDict && PySem.HandSPX.refsVE bm
    | _, _ => false)
  | _ => false) && (He.eqO (PySem.W.findIn K (.ref C) "__setattr__") (some (some (.builtin "object.__setattr__"))) && (decide (PySem.W.subIn K (.ref C) (.type "BaseException") = some true) && (decide (PySem.W.typeIn K (.ref C) = some (.type "type")) && PySem.W.keepIn K (.ref C))))
theorem oexB_ok {K : Frg} {C : Addr} (h : oexB K C = true) : OexC K C := by
  obtain ⟨h1, h⟩ := He.ba h
  obtain ⟨h2, h⟩ := He.ba h
  obtain ⟨h3, h⟩ := He.ba h
  obtain ⟨h4, h5⟩ := He.ba h
  refine ⟨?_, He.eqO_ok h2, of_decide_eq_true h3, of_decide_eq_true h4, h5⟩
  split at h1
  · rename_i dd cd sl ho
    split at h1
    · rename_i C' bm k0 k1 k2 k3 n k5 hm hs
      simp only [Bool.and_eq_true, beq_iff_eq, Bool.not_eq_true'] at h1
      obtain ⟨⟨⟨⟨rfl, rfl⟩, hdel⟩, hdict⟩, ht⟩ := h1
      obtain ⟨nm, bs, mro, ns, qn, hd, sn, sub, ab, col, del⟩ := cd
      dsimp only at hm hdel hdict
      subst hm hdel hdict
      have hsl : sl = #[k0, k1, k2, k3, some (.builtin "ValueError.__new__"), k5] := by
        obtain ⟨l⟩ := sl
        simp only at hs
        rw [hs]
      subst hsl
      exact ⟨nm, qn, ns, bs, bm, sn, sub, ab, col, dd, k0, k1, k2, k3, k5, ho, ht⟩
    · cases h1
  · cases h1
def baseB (K : Frg) (C : Addr) : Bool := decide (PySem.W.specialIn K (.ref C) "__getattribute__" = some (some (.builtin "type.__getattribute__"))) && (match PySem.W.typeIn K (.ref C) with
  | some mc => PySem.W.readsIn K C mc && decide ((PySem.W.findCls K (.ref C) mc "__init__").any fun r => match r with | .val (.builtin n) => n == "ValueError.__init__" | _ => false)
  | none => false)
theorem baseB_ok {K : Frg} {C : Addr} (h : baseB K C = true) : BaseC K C := by
  obtain ⟨h1, h⟩ := He.ba h
  refine ⟨of_decide_eq_true h1, ?_⟩
  split at h
  · rename_i mc _
    obtain ⟨h2, h3⟩ := He.ba h
    have h3 := of_decide_eq_true h3
    refine ⟨mc, h2, ?_⟩
    cases q : PySem.W.findCls K (.ref C) mc "__init__" with
    | none => rw [q] at h3; cases h3
    | some r =>
      rw [q] at h3
      cases r with
      | val v =>
        cases v with
        | builtin n => rw [beq_iff_eq.mp (show (n == "ValueError.__init__") = true from h3)]
        | _ => cases h3
      | _ => cases h3
  · cases h
/-- C's own __init__ is a def -/
def initB (K : Frg) (C : Addr) : Bool := He.eqO (PySem.W.findIn K (.ref C) "__init__") (some (some (.ref (He.ma K C "__init__")))) && decide (PySem.W.typeIn K (.ref (He.ma K C "__init__")) = some (.type "function"))
theorem initB_ok {K : Frg} {C : Addr} (h : initB K C = true) : PySem.W.findIn K (.ref C) "__init__" = some (some (.ref (He.ma K C "__init__"))) ∧ PySem.W.typeIn K (.ref (He.ma K C "__init__")) = some (.type "function") := by
  obtain ⟨h1, h2⟩ := He.ba h
  exact ⟨He.eqO_ok h1, of_decide_eq_true h2⟩
/-! ### the hook -/
inductive Fb where
  | he (f : He.Fa)
  | oex (x : Str)
  | base (x : Str)
  | ini (x : Str)
def Fb.ok (K : Frg) : Fb → Bool
  | .he f => f.ok K
  | .oex x => oexB K (He.ga K x)
  | .base x => baseB K (He.ga K x)
  | .ini x => initB K (He.ga K x)
def obsX (fb : List Fb) (fn : List He.DefD) (K : Frg) : He.AlD := ((fb.all fun f => f.ok K) && fn.all fun d => d.ok K, fn.map fun d => He.fnW K d.at_)
def SaysX (fb : List Fb) (fn : List He.DefD) (K : Frg) : Prop := obsX fb fn K = He.valD fn
def obsXG (n : Nat) (fb : List Fb) (fn : List He.DefD) (g : Addr → Option Obj) : He.AlD := obsX fb fn (He.frG g (cStatics :: He.asD g n))
def hookX (n : Nat) (fb : List Fb) (fn : List He.DefD) : PySem.W.Hook where
  α := He.AlD
  obs := fun s => obsXG n fb fn s.heap.get?
  val := fun _ => He.valD fn
  says := fun _ h => ∃ K : Frg, K.In h ∧ SaysX fb fn K
  of := fun _ _ e => ⟨_, He.frG_in, e⟩
  keeps := fun _ _ _ ⟨K, hK, c⟩ k => ⟨K, PySem.W.Frag.In.keeps hK k, c⟩
theorem obsXG_eq {n : Nat} {fb : List Fb} {fn : List He.DefD} {g : Addr → Option Obj} {s : Shared} (h : ∀ a, g a = s.heap.get? a) : obsXG n fb fn g = (hookX n fb fn).obs s := by
  have e : g = s.heap.get? := funext h
  rw [e] <;> rfl
theorem SaysX.fact {fb : List Fb} {fn : List He.DefD} {K : Frg} (c : SaysX fb fn K) (i : Nat) {f : Fb} (h : fb[i]? = some f := by rfl) : f.ok K = true := by
  have c1 := (He.ba (show ((fb.all fun f => f.ok K) && fn.all fun d => d.ok K) = true from congrArg (fun z : He.AlD => z.1) c)).1
  exact List.all_eq_true.mp c1 f (List.mem_of_getElem? h)
theorem SaysX.def_ {fb : List Fb} {fn : List He.DefD} {K : Frg} (c : SaysX fb fn K) (i : Nat) {d : He.DefD} (h : fn[i]? = some d := by rfl) : ∃ fd, FunD K d.name d.qual d.params d.body d.scope (d.dvs K) (d.kws K) (He.fAd K d.at_) fd := by
  have c2 := (He.ba (show ((fb.all fun f => f.ok K) && fn.all fun d => d.ok K) = true from congrArg (fun z : He.AlD => z.1) c)).2
  have e : fn.map (fun d => He.fnW K d.at_) = fn.map He.DefD.val := congrArg (fun z : He.AlD => z.2) c
  have e2 : (fn.map fun d => He.fnW K d.at_)[i]? = (fn.map He.DefD.val)[i]? := by rw [e]
  rw [List.getElem?_map, List.getElem?_map, h] at e2
  exact He.DefD.funD (Option.some.inj e2) (List.all_eq_true.mp c2 d (List.mem_of_getElem? h))
/-! ### what a law's walk leans on -/
structure FactsX (fb : List Fb) (fn : List He.DefD) (M : MG) : Prop where
  cls : M.cls = He.ga M.K
  says : SaysX fb fn M.K
  ns : ∃ h : Heap, M.K.In h ∧ h.Ns mainGlobals M.mg
section
variable {fb : List Fb} {fn : List He.DefD} {M : MG}
theorem FactsX.glo (F : FactsX fb fn M) (i : Nat) {x : Str} (h : fb[i]? = some (.he (.glo x))) : M.mg x = some (.ref (M.cls x)) := by
  obtain ⟨hp, h1, h2⟩ := F.ns
  rw [F.cls]
  exact He.glo_ok h1 h2 (F.says.fact i h)
theorem FactsX.free (F : FactsX fb fn M) (i : Nat) {x : Str} (h : fb[i]? = some (.he (.free x))) : M.mg x = none := by
  obtain ⟨hp, h1, h2⟩ := F.ns
  exact He.free_ok h1 h2 (F.says.fact i h)
theorem FactsX.int (F : FactsX fb fn M) (i : Nat) {x : Str} {z : Int} (h : fb[i]? = some (.he (.int x z))) : ∃ t, M.mg x = some (.int z t) := by
  obtain ⟨hp, h1, h2⟩ := F.ns
  exact He.int_ok h1 h2 (F.says.fact i h)
theorem FactsX.str (F : FactsX fb fn M) (i : Nat) {x : Str} {z : Str} (h : fb[i]? = some (.he (.str x z))) : ∃ t, M.mg x = some (.str z t) := by
  obtain ⟨hp, h1, h2⟩ := F.ns
  exact He.str_ok h1 h2 (F.says.fact i h)
theorem FactsX.cls_ (F : FactsX fb fn M) (i : Nat) {x : Str} (h : fb[i]? = some (.he (.cls x))) : Cls M.K (M.cls x) := by
  rw [F.cls]; exact He.cls_ok (F.says.fact i h)
theorem FactsX.noat (F : FactsX fb fn M) (i : Nat) {x f : Str} (h : fb[i]? = some (.he (.noat x f))) : NoAttr M.K (M.cls x) f := by
  rw [F.cls]; exact He.noat_ok (F.says.fact i h)
theorem FactsX.meth (F : FactsX fb fn M) (i : Nat) {x m : Str} (h : fb[i]? = some (.he (.meth x m))) : Meth M.K (M.cls x) m (He.ma M.K (M.cls x) m) := by
  rw [F.cls]; exact He.meth_ok (F.says.fact i h)
theorem FactsX.mkr (F : FactsX fb fn M) (i : Nat) {x : Str} (h : fb[i]? = some (.he (.mkr x))) : Mk M.K (M.cls x) (He.ma M.K (M.cls x) "__init__") := by
  rw [F.cls]; exact He.mkr_ok (F.says.fact i h)
theorem FactsX.exm (F : FactsX fb fn M) (i : Nat) {x y : Str} {b : Bool} (h : fb[i]? = some (.he (.exm x y b))) : PySem.W.exmOne M.K (.ref (M.cls x)) (.ref (M.cls y)) = some b := by
  rw [F.cls]; exact He.exm_ok (F.says.fact i h)
theorem FactsX.oex (F : FactsX fb fn M) (i : Nat) {x : Str} (h : fb[i]? = some (.oex x)) : OexC M.K (M.cls x) := by
  rw [F.cls]; exact oexB_ok (F.says.fact i h)
theorem FactsX.base (F : FactsX fb fn M) (i : Nat) {x : Str} (h : fb[i]? = some (.base x)) : BaseC M.K (M.cls x) := by
  rw [F.cls]; exact baseB_ok (F.says.fact i h)
theorem FactsX.ini (F : FactsX fb fn M) (i : Nat) {x : Str} (h : fb[i]? = some (.ini x)) : PySem.W.findIn M.K (.ref (M.cls x)) "__init__" = some (some (.ref (He.ma M.K (M.cls x) "__init__"))) ∧ PySem.W.typeIn M.K (.ref (He.ma M.K (M.cls x) "__init__")) = some (.type "function") := by
  rw [F.cls]; exact initB_ok (F.says.fact i h)
theorem FactsX.defG (F : FactsX fb fn M) (i : Nat) {x n q : Str} {a : Arguments} {b : List Stmt} {s : Scope} (h : fn[i]? = some ⟨(x, none), n, q, a, b, s, [], []⟩) : ∃ fd, FunD M.K n q a b s [] [] (M.cls x) fd := by
  rw [F.cls]; exact F.says.def_ i h
theorem FactsX.defM (F : FactsX fb fn M) (i : Nat) {x m n q : Str} {a : Arguments} {b : List Stmt} {s : Scope} (h : fn[i]? = some ⟨(x, some m), n, q, a, b, s, [], []⟩) : ∃ fd, FunD M.K n q a b s [] [] (He.ma M.K (M.cls x) m) fd := by
  rw [F.cls]; exact F.says.def_ i h
end
/-! ### a def as it is called -/
theorem cal_of {M : MG} {x q : Str} {a : Arguments} {b : List Stmt} {s : Scope} {f : Addr} {fd : FuncData} {ps : List Str} {sp : Sp} {k : Nat} (D : FunD M.K x q a b s [] [] f fd) (ok : FnS M k f fd ps sp) (hg : M.mg x = some (.ref f)) (hb : Binds M.K fd ps []) : Cal M x k sp :=
  ⟨f, fd, ps, [], [], sp, ok, hg, D.kp, hb, .nil, fun vs H Q E h => by rw [List.append_nil]; exact h⟩
theorem mcal_of {M : MG} {x q cn m : Str} {a : Arguments} {b : List Stmt} {s : Scope} {f : Addr} {fd : FuncData} {ps : List Str} {sp : Sp} {k : Nat} (D : FunD M.K x q a b s [] [] f fd) (ok : FnS M k f fd ps sp) (hc : Cls M.K (M.cls cn)) (hm : Meth M.K (M.cls cn) m f) (hb : Binds M.K fd ps []) : MCal M cn m k sp :=
  ⟨f, fd, ps, [], [], sp, ok, hc, hm, hb, .nil, fun vs H Q E h => by rw [List.append_nil]; exact h⟩
theorem kal_of {M : MG} {x q cn : Str} {a : Arguments} {b : List Stmt} {s : Scope} {f : Addr} {fd : FuncData} {ps : List Str} {sp : Sp} {k : Nat} (D : FunD M.K x q a b s [] [] f fd) (ok : FnS M k f fd ps sp) (hm : Mk M.K (M.cls cn) f) (hg : M.mg cn = some (.ref (M.cls cn))) (hb : Binds M.K fd ps []) : KCal M cn k sp :=
  ⟨f, fd, ps, [], [], sp, ok, hm, hg, hb, .nil, fun vs H Q E h => by rw [List.append_nil]; exact h⟩
/-! ### the program's book -/
structure Book where
  rows : Tup Int
deriving DecidableEq
instance : InsC Book := ⟨"Book", fun b => [("rows", VP.of b.rows)], ["rows"], fun _ => rfl⟩
end SP
namespace SP
open PySem PySem.Spec L2
open Rep (rep)
open PyM (den lift handle)

/-! ### dicts -/
class KeyT (κ : Type) [Rep κ] where
  toK : κ → Key
  eqK : ∀ {a b : κ}, toK a = toK b ↔ a = b
  rK : ∀ {G : GC} {x : κ} {v : V} {H : Hp}, rep G x v H ↔ v = kV (toK x)
instance : KeyT Int := ⟨Sum.inl, by intro a b; exact ⟨fun h => Sum.inl.inj h, fun h => by rw [h]⟩, Iff.rfl⟩
instance : KeyT Str := ⟨Sum.inr, by intro a b; exact ⟨fun h => Sum.inr.inj h, fun h => by rw [h]⟩, Iff.rfl⟩
structure Dct (κ α : Type) where
  l : List (κ × α)
deriving DecidableEq
def putD {κ α : Type} [DecidableEq κ] (l : List (κ × α)) (k : κ) (v : α) : List (κ × α) := if (l.any fun p => decide (p.1 = k)) = true then l.map (fun p => if p.1 = k then (p.1, v) else p) else l ++ [(k, v)]
def mergeD {κ α : Type} [DecidableEq κ] (l more : List (κ × α)) : List (κ × α) := more.foldl (fun acc p => putD acc p.1 p.2) l
def Dct.ofZip {κ α : Type} [DecidableEq κ] (xs : List κ) (ys : List α) : Dct κ α := ⟨mergeD [] (xs.zip ys)⟩
def Dct.vals {κ α : Type} (d : Dct κ α) : List α := d.l.map (·.2)
def Dct.keys {κ α : Type} (d : Dct κ α) : List κ := d.l.map (·.1)
section
variable {κ α : Type} [Rep κ] [KeyT κ] [DecidableEq κ] [Rep α]
abbrev DRel (G : GC) (H : Hp) (l : List (κ × α)) (kvs : List (Key × V)) : Prop := Paired (fun (p : κ × α) (q : Key × V) => q.1 = KeyT.toK p.1 ∧ rep G p.2 q.2 H) l kvs
theorem DRel.mono {G : GC} {H H' : Hp} (e : Same H H') : ∀ {l : List (κ × α)} {kvs : List (Key × V)}, DRel G H l kvs → DRel G H' l kvs
  | _, _, .nil => .nil
  | _, _, .cons ⟨h1, h2⟩ t => .cons ⟨h1, Rep.mono e h2⟩ (DRel.mono e t)
theorem DRel.any {G : GC} {H : Hp} {k : κ} : ∀ {l : List (κ × α)} {kvs : List (Key × V)}, DRel G H l kvs → (l.any fun p => decide (p.1 = k)) = (kvs.any fun q => decide (q.1 = KeyT.toK k))
  | _, _, .nil => rfl
  | _, _, .cons ⟨h1, h2⟩ t => by
    rw [List.any_cons, List.any_cons, DRel.any t, h1]
    congr 1
    rw [Bool.eq_iff_iff]
    simp only [decide_eq_true_eq]
    exact KeyT.eqK.symm
theorem DRel.map {G : GC} {H : Hp} {k : κ} {x : α} {v : V} (r : rep G x v H) : ∀ {l : List (κ × α)} {kvs : List (Key × V)}, DRel G H l kvs → DRel G H (l.map fun p => if p.1 = k then (p.1, x) else p) (kvs.map fun q => if q.1 = KeyT.toK k then (q.1, v) else q)
  | _, _, .nil => .nil
  | _, _, .cons (a := p) (b := q) ⟨h1, h2⟩ t => by
    rw [List.map_cons, List.map_cons]
    refine .cons ?_ (DRel.map r t)
    by_cases e : p.1 = k
    · rw [if_pos e, if_pos (by rw [h1, e])]; exact ⟨h1, r⟩
    · rw [if_neg e, if_neg (by rw [h1]; exact fun z => e (KeyT.eqK.mp z))]; exact ⟨h1, h2⟩
theorem DRel.put {G : GC} {H : Hp} {k : κ} {x : α} {v : V} {l : List (κ × α)} {kvs : List (Key × V)} (h : DRel G H l kvs) (r : rep G x v H) : DRel G H (putD l k x) (putK kvs (KeyT.toK k) v) := by
  unfold putD putK
  rw [h.any (k := k)]
  by_cases e : (kvs.any fun q => decide (q.1 = KeyT.toK k)) = true
  · rw [if_pos e, if_pos e]; exact h.map r
  · rw [if_neg e, if_neg e]
    exact Paired.app h (.cons ⟨rfl, r⟩ .nil)
theorem DRel.merge {G : GC} {H : Hp} : ∀ {more : List (κ × α)} {ms : List (Key × V)} {l : List (κ × α)} {kvs : List (Key × V)}, DRel G H more ms → DRel G H l kvs → DRel G H (mergeD l more) (mergeK kvs ms)
  | _, _, _, _, .nil, h => h
  | _, _, l, kvs, .cons (a := p) (b := q) ⟨h1, h2⟩ t, h => by
    have z := DRel.merge (G := G) (H := H) t (h.put (k := p.1) h2)
    unfold mergeD mergeK at z ⊢
    rw [List.foldl_cons, List.foldl_cons, h1]
    exact z
instance : Rep (Dct κ α) := ⟨fun G d v H => ∃ a o kvs, v = .ref a ∧ H a = some (.frz o (.dK kvs)) ∧ DRel G H d.l kvs, fun e ⟨a, o, kvs, h1, h2, h3⟩ => ⟨a, o, kvs, h1, e _ _ h2, h3.mono e⟩⟩
instance : NotNone (Dct κ α) := ⟨fun {G y v H} ⟨a, o, kvs, h, _⟩ => by subst h; simp⟩
instance : TyR (Dct κ α) := ⟨fun _ => .type "dict", fun {G x v H} h => by obtain ⟨a, o, kvs, h, h1, _⟩ := h; subst h; exact .fDict h1⟩
def LP.d (d : Dct κ α) : LP := ⟨fun G _ o H => ∃ kvs, o = .dK kvs ∧ DRel G H d.l kvs, fun e ⟨kvs, h1, h2⟩ => ⟨kvs, h1, h2.mono e⟩⟩
end
/-! ### a thing that is no longer changed is told by its object -/
section
variable {X : Cx} {e : Expr} {t : TE}
theorem pe_lock (h : PE X e t) : PE X e (fun σ H Q => t σ H fun x H1 => ∃ d u, x = .ref d ∧ H1 d = some u ∧ Mut (some u) ∧ ∀ od, Q x (upd H1 d (.frz od u))) := by
  refine ⟨fun pins s σ H Q I hq => thn (h.run pins s σ H _ I hq) fun w s1 ⟨x, H1, I1, r1, d, u, ex, hd, mu, q⟩ => ?_⟩
  obtain ⟨od, I2⟩ := Inv.lock I1 hd mu
  exact ⟨x, _, I2, r1, q od⟩
end
/-! ### dict(zip(xs, ys)) -/
theorem zip_prs : ∀ {ks : List Key} {its : List Value} {ys : List V} {its2 : List Value}, Vals (ks.map kV) its → Vals ys its2 →
    KV (ks.zip ys) (ks.zip its2) ∧ (ks.zip its2).length = min its.length its2.length ∧ ∀ (i : Nat) (key v : Value), its[i]? = some key → its2[i]? = some v → ∃ k, (ks.zip its2)[i]? = some (k, v) ∧ RelV (kV k) key
  | [], its, ys, its2, h1, h2 => by
    cases h1
    exact ⟨.nil, by simp, fun i key v e => by simp at e⟩
  | k :: ks, _, [], _, .cons r t, .nil => ⟨.nil, by simp, fun i key v _ e => by simp at e⟩
  | k :: ks, _, y :: ys, _, .cons r t, .cons r2 t2 => by
    obtain ⟨a, b, d⟩ := zip_prs t t2
    refine ⟨.cons ⟨rfl, r2⟩ a, ?_, fun i key v e1 e2 => ?_⟩
    · simp only [List.zip_cons_cons, List.length_cons]; omega
    · cases i with
      | zero =>
        simp at e1 e2
        subst e1; subst e2
        exact ⟨k, rfl, r⟩
      | succ i => exact d i key v (by simpa using e1) (by simpa using e2)
def tDZ (K : PySem.W.Frag) (ta : TA) : TE := fun σ H Q => ta σ H fun vs H1 => ∃ (a b : Addr) (ks : List Key) (ys : List V), vs = [.ref a, .ref b] ∧ SqL K H1 a (ks.map kV) ∧ SqL K H1 b ys ∧ ks.length ≤ sizeLine ∧ ∀ p, H1 p = none → Q (.ref p) (upd H1 p (.dK (mergeK [] (ks.zip ys))))
theorem pe_dictZip {X : Cx} {e e2 : Expr} {ta : TA} {p p2 pos pos2 : Pos} (hc : X.calm = true) (hg : Gl X "dict") (hm : X.mg "dict" = none) (hg2 : Gl X "zip") (hm2 : X.mg "zip" = none) (ha : PA X [e, e2] ta)
    (hs0 : starEach [.Call (.Name "zip" p2) [e, e2] [] pos2] X.env = (false, eval (.Call (.Name "zip" p2) [e, e2] [] pos2) X.env) :: starEach [] X.env) (hs : starEach [e, e2] X.env = (false, eval e X.env) :: starEach [e2] X.env) (hpl : (backTo pos2 (starEach [e2] X.env)).any (·.1) = false) :
    PE X (.Call (.Name "dict" p) [.Call (.Name "zip" p2) [e, e2] [] pos2] [] pos) (tDZ X.K ta) := by
  refine ⟨fun pins s σ H Q I h => ?_⟩
  refine PyProof.Rows.Call_ (ld_blt I hg hm PyProof.Rows.boot_dict (PyProof.Rows.callWith_type1 (PyProof.Rows.args_cons ?_ hs0) hs0 rfl))
  refine PyProof.Rows.Call_ (ld_blt I hg2 hm2 PyProof.Rows.boot_zip (PyProof.Rows.callWith_type1 (thn (ha.run pos2 pins s σ H _ I h) fun us s1 ⟨vs, H1, I1, r1, q1⟩ => ?_) hs hpl))
  obtain ⟨a, b, ks, ys, ex, hqx, hqy, hlen, q⟩ := q1
  subst ex
  cases r1 with
  | cons r rr =>
    cases rr with
    | cons r' rr =>
      cases rr
      cases r
      cases r'
      obtain ⟨its, rv, p1, hz1⟩ := I1.list hqx
      obtain ⟨its2, rv2, p2, hz2⟩ := I1.list hqy
      have la : a < s1.heap.objs.size := p1.lt
      have lb : b < s1.heap.objs.size := p2.lt
      obtain ⟨z1, z2, z3⟩ := zip_prs rv rv2
      refine PySem.call_zip_2 p1.isList p2.isList fun h' hz hTI hTO h1 h2 hsz hk => ?_
      refine PyProof.Rows.args_nil ?_
      have il1 : h'.IsList a its.toArray := p1.isList.at fun o e => hk _ o e
      have il2 : h'.IsList b its2.toArray := p2.isList.at fun o e => hk _ o e
      refine PySem.call_dict_pairs (knd := mixKind X.prog X.w) (kvs := ks.zip its2) (PySem.PairArg.zip (s1.heap.objs.size + 4) (s1.heap.objs.size + 2) (s1.heap.objs.size + 3) s1.heap.objs.size (s1.heap.objs.size + 1) a b (PySem.W.ktu_apart s1.heap.objs.size a b la lb) its.toArray its2.toArray) (I1.ok.hd hc)
        ⟨hz, hTI, ⟨_, _, hTO⟩, h1, h2, il1, il2⟩ ⟨by simpa using z2, fun i key v hr => ?_⟩ ?_ fun h'' tk hd hk2 => ?_
      · obtain ⟨k, e1, e2⟩ := z3 i key v (by simpa using hr.1) (by simpa using hr.2)
        exact ⟨k, e1, kV_is (P := X.prog) (w := X.w) e2⟩
      · have := rv.length
        simp only [List.length_map] at this
        simp only [List.size_toArray]
        omega
      · have kk : ∀ c o, s1.heap.get? c = some o → h''.get? c = some o := fun c o e => by
          have lc := Heap.lt_size e
          refine hk2 c o ?_ (hk c o e)
          have lt : ∀ d, s1.heap.objs.size ≤ d → c ≠ d := fun d hd => Nat.ne_of_lt (Nat.lt_of_lt_of_le lc hd)
          simp only [List.mem_cons, List.not_mem_nil, or_false, not_or]
          exact ⟨lt _ (Nat.le_add_right _ _), lt _ (Nat.le_add_right _ _), lt _ (Nat.le_refl _), lt _ (Nat.le_add_right _ _)⟩
        have hge : s1.heap.objs.size ≤ h'.objs.size := by
          first
          | (rw [hsz]; exact Nat.le_add_right _ _)
          | exact hsz
        have hm : (h'.objs.size == sysModules) = false := beq_eq_false_iff_ne.mpr (Nat.ne_of_gt (Nat.lt_of_lt_of_le I1.big hge))
        have hl2 : (mergeK [] (ks.zip ys)).length ≤ sizeLine := by
          refine Nat.le_trans (length_mergeK _ []) ?_
          simp only [List.length_nil, List.length_zip]
          omega
        exact ⟨.ref h'.objs.size, _, I1.laid (t' := tk) kk hge (show ObjOk X.prog X.w _ _ _ (.dK (mergeK [] (ks.zip ys))) from ⟨hl2, hm, merged [] (ks.zip its2), KV.merge z1 .nil, hd⟩), rfl, q _ (I1.hok.fresh hge)⟩
section
variable {m : Type → Type} [PyM m] {c : KX} {W : Wd (PyM.γ m)} {Γ : List SD} {e a b : Expr} {κ α : Type} [Rep κ] [KeyT κ] [DecidableEq κ] [Rep α] {p p2 pos pos2 : Pos} {N : List Str} {ks : List Kd} {gs bs : List Str} {kk : Nat}
theorem reps_keys {G : GC} {H : Hp} : ∀ {xs : List κ} {vs : List V}, Reps κ G H xs vs → vs = (xs.map KeyT.toK).map kV
  | _, _, .nil => rfl
  | _, _, .cons r t => by rw [List.map_cons, List.map_cons, ← reps_keys t, ← KeyT.rK.mp r]
theorem drel_zip {G : GC} {H : Hp} : ∀ {xs : List κ} {ys : List α} {vs : List V}, Reps α G H ys vs → DRel G H (xs.zip ys) ((xs.map KeyT.toK).zip vs)
  | [], _, _, _ => by simp; exact .nil
  | _ :: _, _, _, .nil => by simp; exact .nil
  | x :: xs, _, _, .cons r t => .cons ⟨rfl, r⟩ (drel_zip t)
/-- dict(zip(xs, ys)), of nobody -/
theorem pxo_dictZip {ma : m (List κ)} {mb : m (List α)} (C : Ctx c N ks gs bs kk) (j j2 : Nat) (ha : PX c W Γ a ma) (hb : PX c W Γ b mb) (hj : bs[j]? = some ("dict" : Str) := by rfl) (hj2 : bs[j2]? = some ("zip" : Str) := by rfl)
    (hs0 : starEach [.Call (.Name "zip" p2) [a, b] [] pos2] c.X.env = (false, eval (.Call (.Name "zip" p2) [a, b] [] pos2) c.X.env) :: starEach [] c.X.env := by rfl) (hs : starEach [a, b] c.X.env = (false, eval a c.X.env) :: starEach [b] c.X.env := by rfl) (hs2 : starEach [b] c.X.env = (false, eval b c.X.env) :: starEach [] c.X.env := by rfl) (hpl : (backTo pos2 (starEach [b] c.X.env)).any (·.1) = false := by rfl) :
    PXO c W Γ (.Call (.Name "dict" p) [.Call (.Name "zip" p2) [a, b] [] pos2] [] pos) (ma >>= fun xs => mb >>= fun ys => must (llen xs.length) >>= fun _ => pure (Dct.ofZip xs ys)) LP.d := by
  obtain ⟨ta, pa, qa⟩ := ha
  obtain ⟨tb, pb, qb⟩ := hb
  obtain ⟨b1, b2⟩ := C.bl j _ hj
  obtain ⟨b3, b4⟩ := C.bl j2 _ hj2
  refine ⟨_, pe_dictZip C.calm b1 b2 b3 b4 (pa_cons pa (pa_cons pb pa_nil hs2) hs) hs0 hs hpl, fun σ F H g Q S d => ?_⟩
  refine qa σ F H g _ S (PyM.dmono (PyM.dbind d) (fun xs g1 h1 v F1 H1 e1 S1 r1 => ?_) fun _ _ h => h)
  refine qb σ F1 H1 g1 _ S1 (PyM.dmono (PyM.dbind h1) (fun ys g2 h2 w F2 H2 e2 S2 r2 => ?_) fun _ _ h => h.after e1)
  obtain ⟨a1, vs, rfl, ha1, q1⟩ := Rep.mono e2 r1
  obtain ⟨a2, ws, rfl, ha2, q2⟩ := r2
  obtain ⟨hl, h3⟩ := dmust h2
  refine ⟨a1, a2, xs.map KeyT.toK, ws, rfl, .of (by rw [← reps_keys q1]; exact S2.fh _ _ ha1), .of (S2.fh _ _ ha2), by rw [List.length_map]; exact hl, fun p hp => ?_⟩
  refine dret h3 p _ F2 _ (e1.trans e2) (S2.allocH hp) (S2.priv hp) upd_same trivial ⟨_, rfl, ?_⟩
  exact DRel.merge (drel_zip q2) .nil
/-- a dict that is new, shown to all: it is not changed any more -/
theorem px_ofD {x : m (Dct κ α)} (h : PXO c W Γ e x LP.d) : PX c W Γ e x := by
  obtain ⟨t, pt, q⟩ := h
  refine ⟨_, pe_lock pt, fun σ F H g Q S d => q σ F H g _ S (PyM.dmono d (fun y g1 h1 a o F1 H1 e1 S1 pr ho mu hp => ?_) fun _ _ h => h)⟩
  obtain ⟨kvs, rfl, r⟩ := hp
  refine ⟨a, _, rfl, ho, mu, fun od => ?_⟩
  have S2 := S1.chg (o := .frz od (.dK kvs)) pr
  exact h1 _ (upd F1 a (.frz od (.dK kvs))) _ (e1.trans (same_upd pr.f)) (S2.freeze pr upd_same) ⟨a, od, kvs, rfl, upd_same, r.mono (same_upd pr.f)⟩
end
/-! ### sorted(d.values()) -/
section
variable {X : Cx} {e : Expr} {td : TE} {apos cpos pos p : Pos}
theorem vals_of_items {kvs : List (Key × V)} {vs : List (Key × Value)} (kv : KV kvs vs) {acc : List Value} (hl : acc.length = vs.length) (hi : ∀ (i : Nat) (v : Value), acc[i]? = some v → ∃ k, vs[i]? = some (k, v)) : Vals (kvs.map (·.2)) acc := by
  have e : acc = vs.map (·.2) := by
    apply List.ext_getElem?
    intro i
    cases q : acc[i]? with
    | none =>
      rw [List.getElem?_eq_none_iff] at q
      rw [List.getElem?_eq_none (by rw [List.length_map]; omega)]
    | some v =>
      obtain ⟨k, h⟩ := hi i v q
      rw [List.getElem?_map, h]; rfl
  subst e
  have go : ∀ {kvs : List (Key × V)} {vs : List (Key × Value)}, KV kvs vs → Vals (kvs.map (·.2)) (vs.map (·.2)) := by
    intro kvs vs h
    unfold KV at h
    induction h with
    | nil => exact .nil
    | cons h t ih => exact .cons h.2 ih
  exact go kv
def tSV (td : TE) : TE := fun σ H Q => td σ H fun x H1 => ∃ (d : Addr) (o : Obj) (kvs : List (Key × V)) (ns : List Int), x = .ref d ∧ H1 d = some (.frz o (.dK kvs)) ∧ kvs.map (·.2) = ns.map V.int ∧
  ∀ (ns' : List Int) (p : Addr), ns'.Perm ns → ns'.Pairwise (· ≤ ·) → H1 p = none → Q (.ref p) (upd H1 p (.lst (ns'.map V.int)))
theorem pe_sortedVals (hc : X.calm = true) (hg : Gl X "sorted") (hm : X.mg "sorted" = none) (he : PE X e td) (hbase : attributeBase e "values" X.env (eval e X.env) = eval e X.env) (hline : (apos.endLine == cpos.line) = true)
    (hs : starEach [.Call (.Attribute e "values" apos) [] [] cpos] X.env = (false, eval (.Call (.Attribute e "values" apos) [] [] cpos) X.env) :: starEach [] X.env) :
    PE X (.Call (.Name "sorted" p) [.Call (.Attribute e "values" apos) [] [] cpos] [] pos) (tSV td) := by
  refine ⟨fun pins s σ H Q I h => ?_⟩
  refine wpAny_Call_Name_kw (ld_blt I hg hm PyProof.Rows.boot_sorted ?_ (by decide) (by decide))
  refine PyProof.Rows.callWith_builtin1 (PyProof.Rows.args_cons ?_ hs) hs rfl
  refine wpAny_Call_method (T := "dict") (id := "dict.values") hbase rfl hline F.plainAttrs_dict F.slot_dict_values F.type_dict_values (thn (he.run pins s σ H _ I h) fun u s1 ⟨x, H1, I1, rx, d, o, kvs, ns, ex, hd, ens, q⟩ => ?_)
  subst ex
  obtain rfl : u = Value.ref d := rx
  obtain ⟨hsy, hgd, hx, es, ep, vs, hdt, hsz, kv, hm1⟩ := I1.frzK hd
  have hl : kvs.length = vs.length := Paired.length kv
  refine ⟨hm1.dictOf.typeIs, hm1.dictOf.mapOf.noDict, ?_⟩
  have fin : wpAny (model X.prog X.w) X.A (spliced (backTo pos (starEach [] X.env))) (fun us s₂ => wpAny (model X.prog X.w) X.A (call (.builtin "sorted") (.ref s1.heap.objs.size :: us)) (EP X pins σ Q) X.xe s₂) X.xe { s1 with heap := s1.heap.push { cls := .type "dict_values", data := .fields #[.ref d] } } := by
    refine PyProof.Rows.args_nil ?_
    refine Calls.call_function_entry PyProof.Rows.kind_sorted PyProof.Rows.plain_sorted PyProof.Rows.entry_sorted (PyProof.Rows.args_sorted1 _) ?_
    unfold Builtin.«sorted»
    refine wpAny_bind (m := checkCount "sorted" 1 1 _) (wpAny_pure ?_)
    have hn : vs.length ≤ sizeLine := by
      rw [← hl]
      obtain ⟨hd0, z, _⟩ := I1.hok d _ hd
      exact z
    refine wpAny_bind (PySem.W.kdu_collect (A := X.A.in1) (PySem.W.kdl_values (knd := mixKind X.prog X.w) (r := s1.heap.objs.size) (d := d) (kvs := vs) (ep := ep)) (I1.ok.hd hc) ⟨⟨_, Heap.get?_push_size _ rfl, rfl, rfl⟩, hm1.push _⟩ hn fun h' tk acc hk hacc => ?_)
    have hal : acc.toList.length = vs.length := by rw [Array.length_toList]; exact hacc.1
    have rv : Vals (ns.map V.int) acc.toList := by
      rw [← ens]
      exact vals_of_items kv hal fun i v hv => hacc.2 i v (by simpa using hv)
    have hi := rv.ints
    have kS : ∀ b o, s1.heap.get? b = some o → h'.get? b = some o := fun b o e => hk b o (Heap.get?_push_of_some _ e)
    refine wpAny_bind (wpAny_newList ?_ (by rw [hal]; exact hn))
    have hob : (h'.push { cls := .type "list", data := .seq acc.toList.toArray }).get? h'.objs.size = some (PyProof.Rows.seqObj "list" acc.toList.toArray 0) := Heap.get?_push_size _ rfl
    have hge : s1.heap.objs.size ≤ h'.objs.size := by
      have h0 := kS
      have h1 := hk s1.heap.objs.size _ (Heap.get?_push_size s1.heap (o := { cls := .type "dict_values", data := .fields #[.ref d] }) rfl)
      exact Nat.le_of_lt (Heap.lt_size h1)
    have hz : acc.toList.length ≤ sizeLine := by rw [hal]; exact hn
    refine wpAny_bind (wpAny_holding (wpAny_call_entry PyProof.Rows.slot_list_sort ⟨_, hob, rfl⟩ PyProof.Rows.entry_list_sort (SrtO.list_sort_ord SrtO.swo_int hob hz (fun h2 => SrtO.ints_sortable hi h2) fun out h1 h2 => ⟨_, rfl, ?_⟩) (PyProof.Rows.args_list_sort _)))
    obtain ⟨k1, k2, k3⟩ := SrtO.ints_out hi h1 h2
    obtain ⟨ep', he'⟩ := PyProof.Rows.sortedHeap_at (vs := acc.toList) (out := out.toArray) hob
    have hlen : ((out.map SrtO.iv).map V.int).length ≤ sizeLine := by
      have := rv.length
      rw [List.length_map] at this
      rw [List.length_map, k2.length_eq, this]
      exact hz
    have kF : ∀ b o, s1.heap.get? b = some o → (PyProof.Rows.sortedHeap (h'.push { cls := .type "list", data := .seq acc.toList.toArray }) h'.objs.size acc.toList out.toArray).get? b = some o := fun b o e => by
      have e1 := Heap.get?_push_of_some { cls := .type "list", data := .seq acc.toList.toArray } (kS b o e)
      have hb : b ≠ h'.objs.size := Nat.ne_of_lt (Heap.lt_size (kS b o e))
      rw [PyProof.Rows.sortedHeap_old hb (Heap.lt_size e1)]
      exact e1
    exact wpAny_pure ⟨_, rfl, .ref h'.objs.size, upd H1 h'.objs.size (.lst ((out.map SrtO.iv).map V.int)), I1.laid (t' := tk) kF hge ⟨hlen, out, ep', vals_of_ints k1, he'⟩, rfl, q _ _ k2 k3 (I1.hok.fresh hge)⟩
  exact PySem.method_meetsIn F.slot_dict_values F.entry_dict_values rfl (PySem.evalArgs_none ⟨rfl, hm1.dictOf.typeIs, F.args_dict_values_1 _, _, meets_dict_values (mixKind X.prog X.w) d hsy, ⟨vs, hm1.dictOf⟩, fin⟩)
end
section
variable {m : Type → Type} [PyM m] {c : KX} {W : Wd (PyM.γ m)} {Γ : List SD} {e a b : Expr} {κ α : Type} [Rep κ] [KeyT κ] [DecidableEq κ] [Rep α] {p p2 pos apos cpos : Pos} {N : List Str} {ks : List Kd} {gs bs : List Str} {kk : Nat}
theorem drel_ints {G : GC} {H : Hp} : ∀ {l : List (κ × Int)} {kvs : List (Key × V)}, DRel G H l kvs → kvs.map (·.2) = (l.map (·.2)).map V.int
  | _, _, .nil => rfl
  | _, _, .cons ⟨h1, h2⟩ t => by
    rw [List.map_cons, List.map_cons, List.map_cons, drel_ints t]
    congr 1
theorem pxo_sortedVals {x : m (Dct κ Int)} (C : Ctx c N ks gs bs kk) (j : Nat) (ha : PX c W Γ a x) (hj : bs[j]? = some ("sorted" : Str) := by rfl) (hbase : attributeBase a "values" c.X.env (eval a c.X.env) = eval a c.X.env := by rfl) (hline : (apos.endLine == cpos.line) = true := by rfl)
    (hs : starEach [.Call (.Attribute a "values" apos) [] [] cpos] c.X.env = (false, eval (.Call (.Attribute a "values" apos) [] [] cpos) c.X.env) :: starEach [] c.X.env := by rfl) :
    PXO c W Γ (.Call (.Name "sorted" p) [.Call (.Attribute a "values" apos) [] [] cpos] [] pos) (x >>= fun d => pure (sortI d.vals)) LP.l := by
  obtain ⟨t, pt, q⟩ := ha
  obtain ⟨b1, b2⟩ := C.bl j _ hj
  refine ⟨_, pe_sortedVals C.calm b1 b2 pt hbase hline hs, fun σ F H g Q S d => q σ F H g _ S (PyM.dmono (PyM.dbind d) (fun y g1 h1 v F1 H1 e1 S1 r1 => ?_) fun _ _ h => h)⟩
  obtain ⟨ad, o, kvs, rfl, h2, r⟩ := r1
  refine ⟨ad, o, kvs, y.vals, rfl, S1.fh _ _ h2, drel_ints r, fun ns' p hp hs' hn => ?_⟩
  have e : ns' = sortI y.vals := sorted_unique (hp.trans (sortI_perm _).symm) hs' (sortI_sorted _)
  subst e
  exact dret h1 p _ F1 _ e1 (S1.allocH hn) (S1.priv hn) upd_same trivial ⟨_, rfl, reps_intM⟩
end
end SP
namespace SP
open PySem L2
open PyM (den lift handle)

/-! ### plain: values -/
section
variable {α β S R : Type}
theorem em_pure {x : α} : (Except.ok x : EM α) = pure x := rfl
theorem em_must {p : Prop} [Decidable p] (h : p) : (must p : EM Unit) = pure () := by unfold must; rw [if_pos h]; rfl
theorem em_opt {o : Option α} {x : α} (h : o = some x) : (opt o : EM α) = pure x := by rw [h]; rfl
theorem em_atM {xs : List α} {i : Int} {x : α} (h : L2.atI xs i = some x) : (atM xs i : EM α) = pure x := em_opt h
theorem em_lift {x : EM α} : (PyM.lift x : EM α) = x := rfl
theorem em_calm {x : α} : calm (pure x : EM α) = pure x := rfl
theorem em_mapL {f : α → EM β} {h : α → β} : ∀ {xs : List α}, (∀ x ∈ xs, f x = pure (h x)) → mapL f xs = pure (xs.map h)
  | [], _ => rfl
  | x :: xs, e => by
    unfold mapL
    rw [e x List.mem_cons_self, em_mapL fun y hy => e y (List.mem_cons_of_mem _ hy)]
    rfl
theorem em_mapC {f : α → EM β} {h : α → β} {xs : List α} (hl : xs.length ≤ 16777216) (e : ∀ x ∈ xs, f x = pure (h x)) : mapC f xs = pure (xs.map h) := by
  unfold mapC
  rw [em_must (show llen xs.length by unfold llen; rw [sizeLine_eq]; exact hl), pure_bind]
  exact em_mapL fun x hx => by rw [e x hx]; rfl
theorem em_filtL {t : α → EM Bool} {f : α → EM β} {p : α → Bool} {h : α → β} : ∀ {xs : List α}, (∀ x ∈ xs, t x = pure (p x)) → (∀ x ∈ xs, p x = true → f x = pure (h x)) → filtL t f xs = pure ((xs.filter p).map h)
  | [], _, _ => rfl
  | x :: xs, e1, e2 => by
    unfold filtL
    rw [e1 x List.mem_cons_self, pure_bind, em_filtL (fun y hy => e1 y (List.mem_cons_of_mem _ hy)) (fun y hy => e2 y (List.mem_cons_of_mem _ hy))]
    cases hp : p x with
    | true => rw [if_pos rfl, e2 x List.mem_cons_self hp, pure_bind, pure_bind, List.filter_cons_of_pos hp]; rfl
    | false => rw [if_neg Bool.false_ne_true, List.filter_cons_of_neg (by rw [hp]; exact Bool.false_ne_true)]
theorem em_filtC {t : α → EM Bool} {f : α → EM β} {p : α → Bool} {h : α → β} {xs : List α} (hl : xs.length ≤ 16777216) (e1 : ∀ x ∈ xs, t x = pure (p x)) (e2 : ∀ x ∈ xs, p x = true → f x = pure (h x)) : filtC t f xs = pure ((xs.filter p).map h) := by
  unfold filtC
  rw [em_must (show llen xs.length by unfold llen; rw [sizeLine_eq]; exact hl), pure_bind]
  exact em_filtL (fun x hx => by rw [e1 x hx]; rfl) fun x hx hp => by rw [e2 x hx hp]; rfl
/-- a loop that keeps to the plain step -/
theorem em_forN {f : S → α → EM S} {h : S → α → S} (I : S → List α → Prop) : ∀ {xs : List α} {s : S}, I s xs → (∀ s x xs, I s (x :: xs) → f s x = pure (h s x) ∧ I (h s x) xs) → forN f xs s = pure (xs.foldl h s)
  | [], s, _, _ => rfl
  | x :: xs, s, hi, e => by
    unfold forN
    obtain ⟨h1, h2⟩ := e s x xs hi
    rw [h1, pure_bind]
    exact em_forN I h2 e
end
theorem atI_get {α : Type} {xs : List α} {i : Nat} (h : i < xs.length) : L2.atI xs (i : Int) = some xs[i] := by
  unfold L2.atI L2.ixN
  rw [if_pos (by omega), if_pos (by omega)]
  simp [h]
theorem atI_pos {α : Type} {xs : List α} {i : Int} (h0 : 0 ≤ i) (h : i < xs.length) : L2.atI xs i = some (xs[i.toNat]'(by omega)) := by
  unfold L2.atI L2.ixN
  rw [if_pos h0, if_pos h]
  simp [show i.toNat < xs.length by omega]
theorem mem_rangeL {a b x : Int} : x ∈ rangeL a b ↔ a ≤ x ∧ x < b := by
  unfold rangeL
  simp only [List.mem_map, List.mem_range]
  constructor
  · rintro ⟨i, hi, rfl⟩; omega
  · intro ⟨h1, h2⟩; exact ⟨(x - a).toNat, by omega, by omega⟩
theorem length_rangeL {a b : Int} : (rangeL a b).length = (b - a).toNat := by unfold rangeL; simp

/-! ### plain: what a law's draws come to -/
section
variable {δ α β S : Type}
def Bg (a : Addr) (k : Nat) (g : Option BagS × δ) : Prop := ∃ b, g.1 = some b ∧ b.a = a ∧ b.n ≤ k
/-- from a bag at a with at most k draws, x comes to a P with at most k' -/
structure Tr (d : δ) (a : Addr) (k k' : Nat) (x : MW (Option BagS × δ) α) (P : α → Prop) : Prop where
  run : ∀ (Q : α → Option BagS × δ → Prop) (E : Exc → Option BagS × δ → Prop) (b : BagS), b.a = a → b.n ≤ k → (∀ (v : α) (b' : BagS), P v → b'.a = a → b'.n ≤ k' → Q v (some b', d)) → x.run Q E (some b, d)
variable {d : δ} {a : Addr} {k k' k'' : Nat} {x : MW (Option BagS × δ) α} {P P' : α → Prop} {R : β → Prop}
theorem Tr.pure {v : α} (h : P v) : Tr d a k k (Pure.pure v) P := ⟨fun Q E b h1 h2 q => q v b h h1 h2⟩
theorem Tr.bind {f : α → MW (Option BagS × δ) β} (h : Tr d a k k' x P) (hf : ∀ v, P v → Tr d a k' k'' (f v) R) : Tr d a k k'' (x >>= f) R :=
  ⟨fun Q E b h1 h2 q => h.run _ E b h1 h2 fun v b' hv h3 h4 => (hf v hv).run Q E b' h3 h4 q⟩
theorem Tr.imp (h : Tr d a k k' x P) (hp : ∀ v, P v → P' v) (hk : k' ≤ k'') : Tr d a k k'' x P' :=
  ⟨fun Q E b h1 h2 q => h.run Q E b h1 h2 fun v b' hv h3 h4 => q v b' (hp v hv) h3 (Nat.le_trans h4 hk)⟩
theorem Tr.take {n : Int} (h0 : 0 < n) (h1 : n < 2 ^ 64) (hk : k < 1000000000000) : Tr d a k (k + 1) (takeM (⟨a⟩, n, ())) fun v => 0 ≤ v ∧ v < n :=
  ⟨fun Q E b e1 e2 q => ⟨b, rfl, e1, h0, by
    have h : n.natAbs < 2 ^ 64 := by omega
    have : n.natAbs.log2 < 64 := (Nat.log2_lt (by omega)).mpr h
    show n.natAbs.log2 < 9000
    omega, by omega, fun v b' k1 k2 k3 k4 => q v b' ⟨k1, k2⟩ (k3.trans e1) (by omega)⟩⟩
theorem Tr.must {p : Prop} [Decidable p] {f : Unit → MW (Option BagS × δ) β} (h : p) (hf : Tr d a k k' (f ()) R) : Tr d a k k' (SP.must p >>= f) R :=
  ⟨fun Q E b h1 h2 q => by rw [run_must]; exact ⟨h, hf.run Q E b h1 h2 q⟩⟩
theorem Tr.ite {t : Bool} {x y : MW (Option BagS × δ) α} (h1 : t = true → Tr d a k k' x P) (h2 : t = false → Tr d a k k' y P) : Tr d a k k' (if t = true then x else y) P := by
  cases t with
  | true => exact h1 rfl
  | false => exact h2 rfl
theorem Tr.lift {x : EM α} {v : α} (h : x = Pure.pure v) (hp : P v) : Tr d a k k (PyM.lift x) P := ⟨fun Q E b h1 h2 q => by
  rw [run_lift, h]; exact q v b hp h1 h2⟩
theorem mw_lift {γ : Type} {x : EM α} {v : α} (h : x = Pure.pure v) : (PyM.lift x : MW γ α) = Pure.pure v := by rw [h]; rfl
theorem mw_must {γ : Type} {p : Prop} [Decidable p] (h : p) : (SP.must p : MW γ Unit) = Pure.pure () := mw_lift (by rw [if_pos h]; rfl)
theorem mw_opt {γ : Type} {o : Option α} {x : α} (h : o = some x) : (SP.opt o : MW γ α) = Pure.pure x := by rw [h]; rfl
theorem mw_atM {γ : Type} {xs : List α} {i : Int} {x : α} (h : L2.atI xs i = some x) : (atM xs i : MW γ α) = Pure.pure x := mw_opt h
theorem mw_calm {γ : Type} {x : α} : calm (Pure.pure x : MW γ α) = Pure.pure x := rfl
theorem mw_mapL {γ : Type} {f : α → MW γ β} {h : α → β} : ∀ {xs : List α}, (∀ x ∈ xs, f x = Pure.pure (h x)) → mapL f xs = Pure.pure (xs.map h)
  | [], _ => rfl
  | x :: xs, e => by
    unfold mapL
    rw [e x List.mem_cons_self, mw_mapL fun y hy => e y (List.mem_cons_of_mem _ hy)]
    rfl
theorem mw_mapC {γ : Type} {f : α → MW γ β} {h : α → β} {xs : List α} (hl : xs.length ≤ 16777216) (e : ∀ x ∈ xs, f x = Pure.pure (h x)) : mapC f xs = Pure.pure (xs.map h) := by
  unfold mapC
  rw [mw_must (show llen xs.length by unfold llen; rw [sizeLine_eq]; exact hl), pure_bind]
  exact mw_mapL fun x hx => by rw [e x hx]; rfl
theorem Tr.forN {f : S → α → MW (Option BagS × δ) S} (I : S → List α → Prop) (c : Nat) : ∀ {xs : List α} {s : S} {k : Nat}, I s xs → k + c * xs.length ≤ k'' → (∀ s x xs k, I s (x :: xs) → k + c ≤ k'' → Tr d a k (k + c) (f s x) fun s' => I s' xs) → Tr d a k (k + c * xs.length) (SP.forN f xs s) fun s' => I s' []
  | [], s, k, hi, _, _ => Tr.pure hi
  | x :: xs, s, k, hi, hk, e => by
    unfold SP.forN
    rw [List.length_cons, Nat.mul_succ] at hk ⊢
    refine Tr.bind (e s x xs k hi (by omega)) fun s' hs' => ?_
    have z := Tr.forN I c (xs := xs) (s := s') (k := k + c) hs' (by omega) e
    exact z.imp (fun _ h => h) (by omega)
theorem llen_of {n : Nat} (h : n ≤ 16777216) : llen n := by unfold llen; rw [sizeLine_eq]; exact h
theorem slt_of {n : Nat} (h : n < 16777216) : n < sizeLine := by rw [sizeLine_eq]; exact h
theorem Tr.atM {xs : List α} {i : Int} {f : α → MW (Option BagS × δ) β} (h0 : 0 ≤ i) (h1 : i < xs.length) (hf : ∀ y ∈ xs, Tr d a k k' (f y) R) : Tr d a k k' (SP.atM xs i >>= f) R := by
  rw [mw_atM (atI_pos h0 h1), pure_bind]
  exact hf _ (List.getElem_mem ..)
theorem in62 {i : Int} (h0 : -4611686018427387904 ≤ i) (h1 : i < 4611686018427387904) : In62 i := ⟨by omega, by omega⟩
theorem chr_len {ch : Nat} : (chrS ch).length = 1 := rfl
theorem mulS_len {x : Str} {n : Int} : (mulS x n).length ≤ x.length * n.toNat := by
  unfold mulS PySem.Txt.mul
  by_cases h : n < 1
  · rw [if_pos h]; exact Nat.zero_le _
  · rw [if_neg h]
    by_cases h2 : (n == 1 || x.length == 0) = true
    · rw [if_pos h2]
      have : 1 ≤ n.toNat := by omega
      calc x.length = x.length * 1 := (Nat.mul_one _).symm
        _ ≤ x.length * n.toNat := Nat.mul_le_mul_left _ this
    · rw [if_neg h2]
      show ((List.replicate n.toNat x.cps).foldl (· ++ ·) #[]).size ≤ _
      rw [PySem.size_reps]
      show 0 + n.toNat * x.cps.size ≤ x.cps.size * n.toNat
      rw [Nat.zero_add, Nat.mul_comm]
      exact Nat.le_refl _
theorem smul_of {x : Str} {n : Int} (h1 : x.length ≤ 1000) (h0 : 0 ≤ n) (h2 : n ≤ 1000) : smulOk x n := by
  refine ⟨by simp; omega, fun _ _ => ?_, fun _ _ => ?_⟩
  · have h3 : (2 ^ 63 - 1 : Int) / n ≥ 1000 := by
      by_cases h : n = 0
      · omega
      · exact Int.le_ediv_of_mul_le (by omega) (by omega)
    omega
  · have : x.length * n.toNat ≤ 1000 * 1000 := Nat.mul_le_mul h1 (by omega)
    unfold Builtin.Str.tooLong
    simp [sizeLine_eq]
    omega
theorem Tr.forL {S R : Type} {f : S → α → MW (Option BagS × δ) (Lp S R)} (I : S → List α → Prop) (c : Nat) : ∀ {xs : List α} {s : S} {k : Nat}, I s xs → k + c * xs.length ≤ k'' → (∀ s x xs k, I s (x :: xs) → k + c ≤ k'' → Tr d a k (k + c) (f s x) fun r => ∃ s', r = .go s' ∧ I s' xs) → Tr d a k (k + c * xs.length) (SP.forL f xs s) fun r => ∃ s', r = .inl s' ∧ I s' []
  | [], s, k, hi, _, _ => Tr.pure ⟨s, rfl, hi⟩
  | x :: xs, s, k, hi, hk, e => by
    unfold SP.forL
    rw [List.length_cons, Nat.mul_succ] at hk ⊢
    refine Tr.bind (e s x xs k hi (by omega)) fun r hr => ?_
    obtain ⟨s', rfl, hs'⟩ := hr
    have z := Tr.forL I c (xs := xs) (s := s') (k := k + c) hs' (by omega) e
    exact z.imp (fun _ h => h) (by omega)
end
end SP
namespace LW
open PySem PySem.Spec L2 SP
open SP.Rep (rep)
open SP.PyM (den lift handle)
abbrev P0 : Program := PySem.Challenge.pw_sleepmany_k77_gardens_known
def S (i : Nat) : Stmt := P0.main.body.getD i (.Pass ⟨0, 0, 0, 0⟩)
def S2 (i j : Nat) : Stmt := match S i with
  | .ClassDef _ _ _ b _ _ _ _ _ _ _ => b.getD j (.Pass ⟨0, 0, 0, 0⟩)
  | s => s
def fb : List Fb := [.he (.glo "Wrong"),
  .oex "Wrong",
  .ini "Wrong",
  .base "SleepError",
  .he (.glo "SleepError"),
  .he (.noat "Wrong" "at"),
  .he (.glo "NoWay"),
  .oex "NoWay",
  .ini "NoWay",
  .he (.noat "NoWay" "at"),
  .he (.free "isinstance"),
  .he (.free "int"),
  .he (.free "bool"),
  .he (.glo "is_whole"),
  .he (.glo "is_between"),
  .he (.int "MOST_LENGTH" 1000000000),
  .he (.glo "is_length"),
  .he (.int "MOST_SLEEPERS" 40),
  .he (.cls "Book"),
  .he (.noat "Book" "rows"),
  .he (.free "list"),
  .he (.free "len"),
  .he (.free "all"),
  .he (.free "tuple"),
  .he (.mkr "Book"),
  .he (.glo "Book"),
  .he (.meth "Book" "sleep"),
  .he (.meth "Book" "__len__"),
  .he (.free "range"),
  .he (.glo "heap_ahead"),
  .he (.free "reversed"),
  .he (.glo "heaps_back"),
  .he (.glo "is_garden"),
  .he (.free "max"),
  .he (.free "sorted"),
  .he (.glo "_law_heap_after"),
  .he (.exm "NoWay" "NoWay" true),
  .he (.exm "Wrong" "NoWay" false),
  .he (.glo "_law_leads"),
  .he (.free "abs"),
  .he (.glo "_law_bag"),
  .he (.glo "_law_take"),
  .he (.glo "_law_names"),
  .he (.free "min"),
  .he (.glo "_law_spans"),
  .he (.glo "_law_rests"),
  .he (.free "dict"),
  .he (.free "zip"),
  .he (.glo "_law_hall"),
  .he (.glo "_law_case"),
  .he (.free "any"),
  .he (.glo "law")]
def fn : List He.DefD := [⟨("Wrong", some "__init__"), "__init__", "Wrong.__init__", defArgs (S2 2 0), defBody (S2 2 0), defScope (S2 2 0), [], []⟩,
  ⟨("NoWay", some "__init__"), "__init__", "NoWay.__init__", defArgs (S2 3 0), defBody (S2 3 0), defScope (S2 3 0), [], []⟩,
  ⟨("is_whole", none), "is_whole", "is_whole", defArgs (S 12), defBody (S 12), defScope (S 12), [], []⟩,
  ⟨("is_between", none), "is_between", "is_between", defArgs (S 13), defBody (S 13), defScope (S 13), [], []⟩,
  ⟨("is_length", none), "is_length", "is_length", defArgs (S 14), defBody (S 14), defScope (S 14), [], []⟩,
  ⟨("Book", some "__init__"), "__init__", "Book.__init__", defArgs (S2 16 0), defBody (S2 16 0), defScope (S2 16 0), [], []⟩,
  ⟨("Book", some "sleep"), "sleep", "Book.sleep", defArgs (S2 16 2), defBody (S2 16 2), defScope (S2 16 2), [], []⟩,
  ⟨("Book", some "__len__"), "__len__", "Book.__len__", defArgs (S2 16 3), defBody (S2 16 3), defScope (S2 16 3), [], []⟩,
  ⟨("heap_ahead", none), "heap_ahead", "heap_ahead", defArgs (S 5), defBody (S 5), defScope (S 5), [], []⟩,
  ⟨("heaps_back", none), "heaps_back", "heaps_back", defArgs (S 6), defBody (S 6), defScope (S 6), [], []⟩,
  ⟨("is_garden", none), "is_garden", "is_garden", defArgs (S 8), defBody (S 8), defScope (S 8), [], []⟩,
  ⟨("_law_heap_after", none), "_law_heap_after", "_law_heap_after", defArgs (S 24), defBody (S 24), defScope (S 24), [], []⟩,
  ⟨("_law_leads", none), "_law_leads", "_law_leads", defArgs (S 25), defBody (S 25), defScope (S 25), [], []⟩,
  ⟨("_law_bag", none), "_law_bag", "_law_bag", defArgs (S 18), defBody (S 18), defScope (S 18), [], []⟩,
  ⟨("_law_take", none), "_law_take", "_law_take", defArgs (S 19), defBody (S 19), defScope (S 19), [], []⟩,
  ⟨("_law_names", none), "_law_names", "_law_names", defArgs (S 20), defBody (S 20), defScope (S 20), [], []⟩,
  ⟨("_law_spans", none), "_law_spans", "_law_spans", defArgs (S 21), defBody (S 21), defScope (S 21), [], []⟩,
  ⟨("_law_rests", none), "_law_rests", "_law_rests", defArgs (S 22), defBody (S 22), defScope (S 22), [], []⟩,
  ⟨("_law_hall", none), "_law_hall", "_law_hall", defArgs (S 23), defBody (S 23), defScope (S 23), [], []⟩,
  ⟨("_law_case", none), "_law_case", "_law_case", defArgs (S 26), defBody (S 26), defScope (S 26), [], []⟩,
  ⟨("law", none), "law", "law", defArgs (S 27), defBody (S 27), defScope (S 27), [], []⟩]
abbrev Facts (M : MG) : Prop := FactsX fb fn M
theorem xcal_Wrong {M : MG} (F : Facts M) : XCal M "Wrong" "at" := by
  obtain ⟨fd, D⟩ := F.defM 0 rfl
  refine ⟨F.glo 0 rfl, F.oex 1 rfl, _, fd, ["self", "at"], (F.ini 2 rfl).1, (F.ini 2 rfl).2, ?_, D.bindsN fun _ _ _ _ _ _ us hl => match us, hl with | [_, _], _ => rfl⟩
  exact init_ok D ⟨rfl, rfl, rfl, by decide +kernel, rfl, by decide +kernel, by decide +kernel⟩ (by decide +kernel) (by decide +kernel) (by decide +kernel) (F.glo 4 rfl) (F.base 3 rfl) (F.oex 1 rfl) (F.noat 5 rfl)

theorem xcal_NoWay {M : MG} (F : Facts M) : XCal M "NoWay" "at" := by
  obtain ⟨fd, D⟩ := F.defM 1 rfl
  refine ⟨F.glo 6 rfl, F.oex 7 rfl, _, fd, ["self", "at"], (F.ini 8 rfl).1, (F.ini 8 rfl).2, ?_, D.bindsN fun _ _ _ _ _ _ us hl => match us, hl with | [_, _], _ => rfl⟩
  exact init_ok D ⟨rfl, rfl, rfl, by decide +kernel, rfl, by decide +kernel, by decide +kernel⟩ (by decide +kernel) (by decide +kernel) (by decide +kernel) (F.glo 4 rfl) (F.base 3 rfl) (F.oex 7 rfl) (F.noat 9 rfl)

def m_is_whole (v_thing : Int) : EM Bool :=
  (((pure v_thing) >>= fun _ => pure true) >>= fun t => if t = true then (((pure v_thing) >>= fun _ => pure false) >>= fun t => pure (!t)) else pure false)
abbrev fm_is_whole : (Int × Unit) → EM (Bool) := fun r => m_is_whole r.1
theorem ok_is_whole {M : MG} (F : Facts M) {f : Addr} {fd : FuncData} (D : FunD M.K "is_whole" "is_whole" (defArgs (S 12)) (defBody (S 12)) (defScope (S 12)) [] [] f fd) : FnS M 1 f fd ["thing"] (spW (W0) M fm_is_whole) := by
  refine fn_body (W := W0) (N := ["thing"]) (ps := ["thing"]) (ks := [.loc]) (gs := []) (bs := ["isinstance", "int", "bool"]) (k := 0) fm_is_whole D ⟨⟨rfl, rfl, rfl, by decide +kernel, rfl, by decide +kernel, by decide +kernel⟩, by decide +kernel, by decide +kernel, by decide +kernel⟩ (fun _ => rfl) (by intro q hq; simp only [List.mem_cons, List.not_mem_nil, or_false] at hq; rcases hq with rfl | rfl | rfl <;> first | exact F.free 10 rfl | exact F.free 11 rfl | exact F.free 12 rfl) ?_
  intro c C hM h0 Fr r
  obtain ⟨v_thing, ⟨⟩⟩ := r
  subst hM
  show PB c (W0) [SD.v (v_thing : Int)] (defBody (S 12)) (m_is_whole v_thing) _
  unfold m_is_whole
  exact (pb_ret0 (.inl h0) (fun _ => rfl) (px_and (px_isiT C 0 1 true (px_nameC C 0) PyProof.Rows.Boot.«int» (kit_ty (by decide +kernel))) (px_and1 (px_not (px_isiT C 0 2 false (px_nameC C 0) PyProof.Rows.Boot.«bool» (kit_ty (by decide +kernel)))))))
theorem cal_is_whole {M : MG} (F : Facts M) : Cal M "is_whole" 1 (spW (W0) M fm_is_whole) := by
  obtain ⟨fd, D⟩ := F.defG 2 rfl
  exact cal_of D (ok_is_whole F D) (F.glo 13 rfl) (D.bindsN fun _ _ _ _ _ _ us hl => match us, hl with | [_], _ => rfl)

def m_is_between (v_thing : Int) (v_low : Int) (v_high : Int) : EM Bool :=
  ((((pure v_thing) >>= fun v => (pure ()) >>= fun vs => pure (v, vs)) >>= fun v => lift (fm_is_whole v)) >>= fun t => if t = true then ((pure v_low) >>= fun x => (pure v_thing) >>= fun y => pure (decide (x ≤ y)) >>= fun t => if t = true then (pure v_high) >>= fun z => pure (decide (y ≤ z)) else pure false) else pure false)
abbrev fm_is_between : (Int × (Int × (Int × Unit))) → EM (Bool) := fun r => m_is_between r.1 r.2.1 r.2.2.1
theorem ok_is_between {M : MG} (F : Facts M) {f : Addr} {fd : FuncData} (D : FunD M.K "is_between" "is_between" (defArgs (S 13)) (defBody (S 13)) (defScope (S 13)) [] [] f fd) : FnS M 2 f fd ["thing", "low", "high"] (spW (W0) M fm_is_between) := by
  refine fn_body (W := W0) (N := ["thing", "low", "high"]) (ps := ["thing", "low", "high"]) (ks := [.loc, .loc, .loc]) (gs := ["is_whole"]) (bs := []) (k := 1) fm_is_between D ⟨⟨rfl, rfl, rfl, by decide +kernel, rfl, by decide +kernel, by decide +kernel⟩, by decide +kernel, by decide +kernel, by decide +kernel⟩ (fun _ => rfl) (fun q hq => absurd hq List.not_mem_nil) ?_
  intro c C hM h0 Fr r
  obtain ⟨v_thing, v_low, v_high, ⟨⟩⟩ := r
  subst hM
  show PB c (W0) [SD.v (v_thing : Int), SD.v (v_low : Int), SD.v (v_high : Int)] (defBody (S 13)) (m_is_between v_thing v_low v_high) _
  unfold m_is_between
  exact (pb_ret0 (.inl h0) (fun _ => rfl) (px_and (px_call (k := 1) (f := fm_is_whole) C 0 (cal_is_whole F) (pxa_cons (px_nameC C 0) pxa_nil)) (px_and1 (px_chain op_le rI0_okB op_le rI0_okB (px_nameC C 1) (px_nameC C 0) (px_nameC C 2)))))
theorem cal_is_between {M : MG} (F : Facts M) : Cal M "is_between" 2 (spW (W0) M fm_is_between) := by
  obtain ⟨fd, D⟩ := F.defG 3 rfl
  exact cal_of D (ok_is_between F D) (F.glo 14 rfl) (D.bindsN fun _ _ _ _ _ _ us hl => match us, hl with | [_, _, _], _ => rfl)

def m_is_length (v_thing : Int) : EM Bool :=
  (((pure v_thing) >>= fun v => ((pure (1 : Int)) >>= fun v => ((pure (1000000000 : Int)) >>= fun v => (pure ()) >>= fun vs => pure (v, vs)) >>= fun vs => pure (v, vs)) >>= fun vs => pure (v, vs)) >>= fun v => lift (fm_is_between v))
abbrev fm_is_length : (Int × Unit) → EM (Bool) := fun r => m_is_length r.1
theorem ok_is_length {M : MG} (F : Facts M) {f : Addr} {fd : FuncData} (D : FunD M.K "is_length" "is_length" (defArgs (S 14)) (defBody (S 14)) (defScope (S 14)) [] [] f fd) : FnS M 3 f fd ["thing"] (spW (W0) M fm_is_length) := by
  refine fn_body (W := W0) (N := ["thing"]) (ps := ["thing"]) (ks := [.loc]) (gs := ["MOST_LENGTH", "is_between"]) (bs := []) (k := 2) fm_is_length D ⟨⟨rfl, rfl, rfl, by decide +kernel, rfl, by decide +kernel, by decide +kernel⟩, by decide +kernel, by decide +kernel, by decide +kernel⟩ (fun _ => rfl) (fun q hq => absurd hq List.not_mem_nil) ?_
  intro c C hM h0 Fr r
  obtain ⟨v_thing, ⟨⟩⟩ := r
  subst hM
  show PB c (W0) [SD.v (v_thing : Int)] (defBody (S 14)) (m_is_length v_thing) _
  unfold m_is_length
  exact (pb_ret0 (.inl h0) (fun _ => rfl) (px_call (k := 2) (f := fm_is_between) C 1 (cal_is_between F) (pxa_cons (px_nameC C 0) (pxa_cons px_int (pxa_cons (px_gint C 0 (F.int 15 rfl).choose_spec) pxa_nil)))))
theorem cal_is_length {M : MG} (F : Facts M) : Cal M "is_length" 3 (spW (W0) M fm_is_length) := by
  obtain ⟨fd, D⟩ := F.defG 4 rfl
  exact cal_of D (ok_is_length F D) (F.glo 16 rfl) (D.bindsN fun _ _ _ _ _ _ us hl => match us, hl with | [_], _ => rfl)

def m_Book_init (v_lengths : (List Int)) : EM (Tup Int) :=
  (((((pure v_lengths) >>= fun _ => pure true) >>= fun t => pure (!t)) >>= fun t => if t = true then pure true else (((pure (1 : Int)) >>= fun x => ((pure v_lengths) >>= fun xs => pure (xs.length : Int)) >>= fun y => pure (decide (x ≤ y)) >>= fun t => if t = true then (pure (40 : Int)) >>= fun z => pure (decide (y ≤ z)) else pure false) >>= fun t => pure (!t))) >>= fun t => if t = true then ((pure (0 : Int)) >>= fun v => raise ⟨"Wrong", [("at", Scal.toV v)]⟩) else (pure ()) >>= fun _ => (((((pure v_lengths) >>= mapC (fun x2 => (((pure x2) >>= fun v => (pure ()) >>= fun vs => pure (v, vs)) >>= fun v => lift (fm_is_length v)))) >>= fun xs => pure (xs.all id)) >>= fun t => pure (!t)) >>= fun t => if t = true then ((pure (0 : Int)) >>= fun v => raise ⟨"Wrong", [("at", Scal.toV v)]⟩) else (pure ()) >>= fun _ => (((pure v_lengths) >>= fun xs => pure (toT xs)) >>= fun v_rows5 => (pure v_rows5))))
abbrev fm_Book_init : ((List Int) × Unit) → EM (Tup Int) := fun r => m_Book_init r.1
theorem ok_Book_init {M : MG} (F : Facts M) {f : Addr} {fd : FuncData} (D : FunD M.K "__init__" "Book.__init__" (defArgs (S2 16 0)) (defBody (S2 16 0)) (defScope (S2 16 0)) [] [] f fd) : FnS M 4 f fd ["self", "lengths"] (spI M "Book" fm_Book_init fun (o : Tup Int) => [("rows", VP.of o)]) := by
  refine init_body (N := ["self", "lengths", "one"]) (ps := ["lengths"]) (ks := [.loc, .loc, .no]) (gs := ["MOST_SLEEPERS", "Wrong"]) (bs := ["isinstance", "list", "len", "all", "tuple"]) (k := 3) (sf := "self") fm_Book_init (fun (o : Tup Int) => [("rows", VP.of o)]) (fun _ => [.any, .any]) D ⟨⟨rfl, rfl, rfl, by decide +kernel, rfl, by decide +kernel, by decide +kernel⟩, by decide +kernel, by decide +kernel, by decide +kernel⟩ (fun _ => rfl) (by intro q hq; simp only [List.mem_cons, List.not_mem_nil, or_false] at hq; rcases hq with rfl | rfl | rfl | rfl | rfl <;> first | exact F.free 10 rfl | exact F.free 20 rfl | exact F.free 21 rfl | exact F.free 22 rfl | exact F.free 23 rfl) ?_
  intro c C hM h0 Fr xa r
  obtain ⟨v_lengths, ⟨⟩⟩ := r
  subst hM
  show PB c W0 [.own (.ins xa "Book" []), SD.v (v_lengths : (List Int)), .any] (defBody (S2 16 0)) (m_Book_init v_lengths) _
  unfold m_Book_init
  exact (pb_ifA (Γ' := fun (_ : Unit) => [.own (.ins xa "Book" []), SD.v (v_lengths : (List Int)), .any]) (.inl h0) (pxt_w (pxw_or (pxt_not (pxt_val (px_isiT C 0 1 true (px_nameC C 1) PyProof.Rows.Boot.«list» (kit_ty (by decide +kernel))))) (pxw_or1 (pxt_not (pxt_chain op_le rI0_okB op_le rI0_okB px_int (px_lenL C 2 (pxr_of (px_nameC C 1))) (px_gint C 0 (F.int 17 rfl).choose_spec)))))) (pb_raise C (.inl h0) 1 (xcal_Wrong F) px_int) (pb_nil (o := ()) rfl (SubG.keep (SubG.keep (SubG.keep SubG.nil)))) (fun _ => (pb_ifA (Γ' := fun (_ : Unit) => [.own (.ins xa "Book" []), SD.v (v_lengths : (List Int)), .any]) (.inl h0) (pxt_not (pxt_val (px_all C 3 (pxr_O (pxo_lc C (by decide +kernel) (lc_all (ks' := [.no, .no, .loc]) (gs' := ["is_length"]) (bs' := []) (own := [("one", 2)]) (is := [2]) (Γx := fun x2 => [.own (.ins xa "Book" []), SD.v (v_lengths : (List Int)), SD.v (x2 : Int)]) C (pxi_list (px_nameC C 1)) (by decide +kernel) (by decide +kernel) (by decide +kernel) (by decide +kernel) (fun q hq => absurd hq List.not_mem_nil) rfl rfl (fun _ _ _ _ _ _ C3 x2 => (pxg_name C3 2)) (fun _ _ _ _ _ _ C3 x2 => (px_call (k := 3) (f := fm_is_length) C3 0 (cal_is_length F) (pxa_cons (px_nameC C3 2) pxa_nil))))))))) (pb_raise C (.inl h0) 1 (xcal_Wrong F) px_int) (pb_nil (o := ()) rfl (SubG.keep (SubG.keep (SubG.keep SubG.nil)))) (fun _ => (pb_cons (pn_setF C (.inl h0) 0 (xa := xa) (fs := []) (px_tupleL C 4 (pxr_of (px_nameC C 1))) (F.cls_ 18 rfl) (F.noat 19 rfl)) fun v_rows5 => (pb_nil (o := v_rows5) rfl (SubG.keep (SubG.drop (SubG.keep SubG.nil)))))))))
theorem kal_Book {M : MG} (F : Facts M) : KCal M "Book" 4 (spI M "Book" fm_Book_init fun (o : Tup Int) => [("rows", VP.of o)]) := by
  obtain ⟨fd, D⟩ := F.defM 5 rfl
  exact kal_of D (ok_Book_init F D) (F.mkr 24 rfl) (F.glo 25 rfl) (D.bindsN fun _ _ _ _ _ _ us hl => match us, hl with | [_, _], _ => rfl)

def m_Book_sleep (v_self : Book) (v_many : Int) : EM Int :=
  (((((pure v_many) >>= fun v => ((pure (1 : Int)) >>= fun v => ((((pure v_self) >>= fun y => pure (Book.rows y)) >>= fun xs => pure (xs.l.length : Int)) >>= fun v => (pure ()) >>= fun vs => pure (v, vs)) >>= fun vs => pure (v, vs)) >>= fun vs => pure (v, vs)) >>= fun v => lift (fm_is_between v)) >>= fun t => pure (!t)) >>= fun t => if t = true then ((pure (0 : Int)) >>= fun v => raise ⟨"Wrong", [("at", Scal.toV v)]⟩) else (pure ()) >>= fun _ => (((pure v_self) >>= fun y => pure (Book.rows y)) >>= fun xs => ((pure v_many) >>= fun x => (pure (1 : Int)) >>= fun y => pure (x - y)) >>= fun i => atM xs.l i))
abbrev fm_Book_sleep : (Book × (Int × Unit)) → EM (Int) := fun r => m_Book_sleep r.1 r.2.1
theorem ok_Book_sleep {M : MG} (F : Facts M) {f : Addr} {fd : FuncData} (D : FunD M.K "sleep" "Book.sleep" (defArgs (S2 16 2)) (defBody (S2 16 2)) (defScope (S2 16 2)) [] [] f fd) : FnS M 3 f fd ["self", "many"] (spW (W0) M fm_Book_sleep) := by
  refine fn_body (W := W0) (N := ["self", "many"]) (ps := ["self", "many"]) (ks := [.loc, .loc]) (gs := ["is_between", "Wrong"]) (bs := ["len"]) (k := 2) fm_Book_sleep D ⟨⟨rfl, rfl, rfl, by decide +kernel, rfl, by decide +kernel, by decide +kernel⟩, by decide +kernel, by decide +kernel, by decide +kernel⟩ (fun _ => rfl) (by intro q hq; simp only [List.mem_cons, List.not_mem_nil, or_false] at hq; rcases hq with rfl <;> first | exact F.free 21 rfl) ?_
  intro c C hM h0 Fr r
  obtain ⟨v_self, v_many, ⟨⟩⟩ := r
  subst hM
  show PB c (W0) [SD.v (v_self : Book), SD.v (v_many : Int)] (defBody (S2 16 2)) (m_Book_sleep v_self v_many) _
  unfold m_Book_sleep
  exact (pb_ifA (Γ' := fun (_ : Unit) => [SD.v (v_self : Book), SD.v (v_many : Int)]) (.inl h0) (pxt_not (pxt_val (px_call (k := 2) (f := fm_is_between) C 0 (cal_is_between F) (pxa_cons (px_nameC C 1) (pxa_cons px_int (pxa_cons (px_lenT C 0 (px_attr (α := Book) Book.rows (fun _ => rfl) (px_nameC C 0) (F.cls_ 18 rfl) (F.noat 19 rfl))) pxa_nil)))))) (pb_raise C (.inl h0) 1 (xcal_Wrong F) px_int) (pb_nil (o := ()) rfl (SubG.keep (SubG.keep SubG.nil))) (fun _ => (pb_ret0 (.inl h0) (fun _ => rfl) (px_ixT (px_attr (α := Book) Book.rows (fun _ => rfl) (px_nameC C 0) (F.cls_ 18 rfl) (F.noat 19 rfl)) (px_sub (px_nameC C 1) px_int)))))
theorem mcal_Book_sleep {M : MG} (F : Facts M) : MCal M "Book" "sleep" 3 (spW (W0) M fm_Book_sleep) := by
  obtain ⟨fd, D⟩ := F.defM 6 rfl
  exact mcal_of D (ok_Book_sleep F D) (F.cls_ 18 rfl) (F.meth 26 rfl) (D.bindsN fun _ _ _ _ _ _ us hl => match us, hl with | [_, _], _ => rfl)

def m_Book_len (v_self : Book) : EM Int :=
  (((pure v_self) >>= fun y => pure (Book.rows y)) >>= fun xs => pure (xs.l.length : Int))
abbrev fm_Book_len : (Book × Unit) → EM (Int) := fun r => m_Book_len r.1
theorem ok_Book_len {M : MG} (F : Facts M) {f : Addr} {fd : FuncData} (D : FunD M.K "__len__" "Book.__len__" (defArgs (S2 16 3)) (defBody (S2 16 3)) (defScope (S2 16 3)) [] [] f fd) : FnS M 1 f fd ["self"] (spW (W0) M fm_Book_len) := by
  refine fn_body (W := W0) (N := ["self"]) (ps := ["self"]) (ks := [.loc]) (gs := []) (bs := ["len"]) (k := 0) fm_Book_len D ⟨⟨rfl, rfl, rfl, by decide +kernel, rfl, by decide +kernel, by decide +kernel⟩, by decide +kernel, by decide +kernel, by decide +kernel⟩ (fun _ => rfl) (by intro q hq; simp only [List.mem_cons, List.not_mem_nil, or_false] at hq; rcases hq with rfl <;> first | exact F.free 21 rfl) ?_
  intro c C hM h0 Fr r
  obtain ⟨v_self, ⟨⟩⟩ := r
  subst hM
  show PB c (W0) [SD.v (v_self : Book)] (defBody (S2 16 3)) (m_Book_len v_self) _
  unfold m_Book_len
  exact (pb_ret0 (.inl h0) (fun _ => rfl) (px_lenT C 0 (px_attr (α := Book) Book.rows (fun _ => rfl) (px_nameC C 0) (F.cls_ 18 rfl) (F.noat 19 rfl))))
theorem mcal_Book_len {M : MG} (F : Facts M) : MCal M "Book" "__len__" 1 (spW (W0) M fm_Book_len) := by
  obtain ⟨fd, D⟩ := F.defM 7 rfl
  exact mcal_of D (ok_Book_len F D) (F.cls_ 18 rfl) (F.meth 27 rfl) (D.bindsN fun _ _ _ _ _ _ us hl => match us, hl with | [_], _ => rfl)

def m_heap_ahead (v_book : Book) (v_heap : (Tup Int)) (v_many : Int) : EM (Option (Tup Int)) :=
  (((pure v_many) >>= fun x => (pure (0 : Int)) >>= fun y => pure (decide (x = y))) >>= fun t => if t = true then ((((pure v_heap) >>= mapC (fun x9 => ((pure x9) >>= fun x => (pure (1 : Int)) >>= fun y => pure (x + y)))) >>= fun xs => pure (toT xs)) >>= fun v => pure (some v)) else (pure ()) >>= fun _ => ((((pure v_many) >>= fun x => ((pure v_book) >>= fun y => lift (fm_Book_len (y, ())) >>= fun n => must (0 ≤ n ∧ n < 2 ^ 63) >>= fun _ => pure n) >>= fun y => pure (decide (y < x))) >>= fun t => if t = true then pure true else (((pure v_heap) >>= fun xs => ((pure v_book) >>= fun y => ((pure v_many) >>= fun v => (pure ()) >>= fun vs => pure (v, vs)) >>= fun v => lift (fm_Book_sleep (y, v))) >>= fun y => pure (cnt y xs.l : Int)) >>= fun x => (pure v_many) >>= fun y => pure (decide (x < y)))) >>= fun t => if t = true then (pure none) else (pure ()) >>= fun _ => (((pure v_heap) >>= fun xs => pure xs.l) >>= fun v_left_3 => ((((pure v_many) >>= fun i => must (In62 i) >>= fun _ => pure (rangeL 0 i)) >>= fun xs => forN (fun (s4 : (List Int)) x5 => ((((pure v_book) >>= fun y => ((pure v_many) >>= fun v => (pure ()) >>= fun vs => pure (v, vs)) >>= fun v => lift (fm_Book_sleep (y, v))) >>= fun z => must (z ∈ s4) >>= fun _ => pure (s4.erase z)) >>= fun v_left_6 => (pure v_left_6))) xs v_left_3) >>= fun s4 => (((((((pure (1 : Int)) >>= fun v => (pure ([] : List Int)) >>= fun vs => pure (v :: vs)) >>= fun xs => must (llen xs.length) >>= fun _ => pure xs) >>= fun x => (pure v_many) >>= fun k => must (repOk x.length k) >>= fun _ => pure (repL x k)) >>= fun x => ((pure s4) >>= mapC (fun x7 => ((pure x7) >>= fun x => (pure (1 : Int)) >>= fun y => pure (x + y)))) >>= fun y => must (llen (x.length + y.length)) >>= fun _ => pure (x ++ y)) >>= fun xs => pure (toT xs)) >>= fun v => pure (some v))))))
abbrev fm_heap_ahead : (Book × ((Tup Int) × (Int × Unit))) → EM ((Option (Tup Int))) := fun r => m_heap_ahead r.1 r.2.1 r.2.2.1
theorem ok_heap_ahead {M : MG} (F : Facts M) {f : Addr} {fd : FuncData} (D : FunD M.K "heap_ahead" "heap_ahead" (defArgs (S 5)) (defBody (S 5)) (defScope (S 5)) [] [] f fd) : FnS M 4 f fd ["book", "heap", "many"] (spW (W0) M fm_heap_ahead) := by
  refine fn_body (W := W0) (N := ["book", "heap", "many", "k", "left", "rest"]) (ps := ["book", "heap", "many"]) (ks := [.loc, .loc, .loc, .loc, .loc, .no]) (gs := []) (bs := ["len", "list", "range", "tuple"]) (k := 3) fm_heap_ahead D ⟨⟨rfl, rfl, rfl, by decide +kernel, rfl, by decide +kernel, by decide +kernel⟩, by decide +kernel, by decide +kernel, by decide +kernel⟩ (fun _ => rfl) (by intro q hq; simp only [List.mem_cons, List.not_mem_nil, or_false] at hq; rcases hq with rfl | rfl | rfl | rfl <;> first | exact F.free 21 rfl | exact F.free 20 rfl | exact F.free 28 rfl | exact F.free 23 rfl) ?_
  intro c C hM h0 Fr r
  obtain ⟨v_book, v_heap, v_many, ⟨⟩⟩ := r
  subst hM
  show PB c (W0) [SD.v (v_book : Book), SD.v (v_heap : (Tup Int)), SD.v (v_many : Int), .any, .any, .any] (defBody (S 5)) (m_heap_ahead v_book v_heap v_many) _
  unfold m_heap_ahead
  exact (pb_ifA (Γ' := fun (_ : Unit) => [SD.v (v_book : Book), SD.v (v_heap : (Tup Int)), SD.v (v_many : Int), .any, .any, .any]) (.inl h0) (pxt_eqI (px_nameC C 2) px_int) (pb_ret0 (.inl h0) (fun _ => rfl) (px_some (px_tupleL C 3 (pxr_O (pxo_lc C (by decide +kernel) (lc_all (ks' := [.no, .no, .no, .no, .no, .loc]) (gs' := []) (bs' := []) (own := [("rest", 5)]) (is := [5]) (Γx := fun x9 => [SD.v (v_book : Book), SD.v (v_heap : (Tup Int)), SD.v (v_many : Int), .any, .any, SD.v (x9 : Int)]) C (pxi_tup (px_nameC C 1)) (by decide +kernel) (by decide +kernel) (by decide +kernel) (by decide +kernel) (fun q hq => absurd hq List.not_mem_nil) rfl rfl (fun _ _ _ _ _ _ C10 x9 => (pxg_name C10 5)) (fun _ _ _ _ _ _ C10 x9 => (px_add (px_nameC C10 5) px_int)))))))) (pb_nil (o := ()) rfl (SubG.keep (SubG.keep (SubG.keep (SubG.keep (SubG.keep (SubG.keep SubG.nil))))))) (fun _ => (pb_ifA (Γ' := fun (_ : Unit) => [SD.v (v_book : Book), SD.v (v_heap : (Tup Int)), SD.v (v_many : Int), .any, .any, .any]) (.inl h0) (pxt_w (pxw_or (pxt_gt (px_nameC C 2) (px_lenI (α := Book) (k := 1) (f := fm_Book_len) C 0 (mcal_Book_len F) (px_nameC C 0))) (pxw_or1 (pxt_lt (px_countT C (by decide) (px_nameC C 1) (px_meth (α := Book) (k := 3) (f := fm_Book_sleep) C (mcal_Book_sleep F) (px_nameC C 0) (pxa_cons (px_nameC C 2) pxa_nil))) (px_nameC C 2))))) (pb_ret0 (.inl h0) (fun _ => rfl) (px_noneO (α := (Tup Int)))) (pb_nil (o := ()) rfl (SubG.keep (SubG.keep (SubG.keep (SubG.keep (SubG.keep (SubG.keep SubG.nil))))))) (fun _ => (pb_cons (pn_setO C (.inl h0) 4 (pxo_listT C 1 (px_nameC C 1))) fun v_left_3 => (pb_cons (pn_for (Γs := fun (s4 : (List Int)) => [SD.v (v_book : Book), SD.v (v_heap : (Tup Int)), SD.v (v_many : Int), .any, SD.l (s4 : List Int), .any]) (Γt := fun (s4 : (List Int)) x5 => [SD.v (v_book : Book), SD.v (v_heap : (Tup Int)), SD.v (v_many : Int), SD.v (x5 : Int), SD.l (s4 : List Int), .any]) (s0 := v_left_3) (is := [3]) C (.inl h0) (pxi_range1 C 2 (px_nameC C 2)) (SubG.keep (SubG.keep (SubG.keep (SubG.keep (SubG.keep (SubG.keep SubG.nil)))))) (fun s4 x5 => (pxg_name C 3)) (fun s4 x5 => (pb_cons (pn_removeI C (.inl h0) 4 (px_meth (α := Book) (k := 3) (f := fm_Book_sleep) C (mcal_Book_sleep F) (px_nameC C 0) (pxa_cons (px_nameC C 2) pxa_nil))) fun v_left_6 => (pb_nil (o := v_left_6) rfl (SubG.keep (SubG.keep (SubG.keep (SubG.drop (SubG.keep (SubG.keep SubG.nil)))))))))) fun s4 => (pb_frz 4 (pb_ret0 (.inl h0) (fun _ => rfl) (px_some (px_tupleL C 3 (pxr_O (pxo_cat (px_ofL (pxo_rep (px_ofL (pxo_list (pxas_cons px_int (pxas_nil (α := Int))))) (px_nameC C 2))) (px_ofL (pxo_lc C (by decide +kernel) (lc_all (ks' := [.no, .no, .no, .no, .no, .loc]) (gs' := []) (bs' := []) (own := [("rest", 5)]) (is := [5]) (Γx := fun x7 => [SD.v (v_book : Book), SD.v (v_heap : (Tup Int)), SD.v (v_many : Int), .any, SD.v (s4 : (List Int)), SD.v (x7 : Int)]) C (pxi_list (px_nameC C 4)) (by decide +kernel) (by decide +kernel) (by decide +kernel) (by decide +kernel) (fun q hq => absurd hq List.not_mem_nil) rfl rfl (fun _ _ _ _ _ _ C8 x7 => (pxg_name C8 5)) (fun _ _ _ _ _ _ C8 x7 => (px_add (px_nameC C8 5) px_int)))))))))))))))))
theorem cal_heap_ahead {M : MG} (F : Facts M) : Cal M "heap_ahead" 4 (spW (W0) M fm_heap_ahead) := by
  obtain ⟨fd, D⟩ := F.defG 8 rfl
  exact cal_of D (ok_heap_ahead F D) (F.glo 29 rfl) (D.bindsN fun _ _ _ _ _ _ us hl => match us, hl with | [_, _, _], _ => rfl)

def m_heaps_back (v_book : Book) (v_heap : (Tup Int)) (v_counts : (List Int)) : EM (List (Tup Int)) :=
  ((((pure v_heap) >>= fun v => (pure ([] : List (Tup Int))) >>= fun vs => pure (v :: vs)) >>= fun xs => must (llen xs.length) >>= fun _ => pure xs) >>= fun v_found_1 => (((((pure v_counts) >>= fun xs => pure (xs.length : Int)) >>= fun i => must (In62 i) >>= fun _ => pure (rangeL 0 i).reverse) >>= fun xs => forN (fun (s2 : (List (Tup Int))) x3 => ((((pure v_book) >>= fun v => ((((pure (1 : Int)) >>= fun x => pure (-x)) >>= fun i => atM s2 i) >>= fun v => (((pure v_counts) >>= fun xs => (pure x3) >>= fun i => atM xs i) >>= fun v => (pure ()) >>= fun vs => pure (v, vs)) >>= fun vs => pure (v, vs)) >>= fun vs => pure (v, vs)) >>= fun v => lift (fm_heap_ahead v)) >>= fun v_ahead_4 => (optC v_ahead_4 ((pure x3) >>= fun v => raise ⟨"NoWay", [("at", Scal.toV v)]⟩) fun v_ahead_5 => (((pure v_ahead_5) >>= fun v => must (List.length s2 < sizeLine) >>= fun _ => pure v) >>= fun v_found_6 => (pure (s2 ++ [v_found_6])))))) xs v_found_1) >>= fun s2 => ((pure s2) >>= fun xs => pure xs.reverse)))
abbrev fm_heaps_back : (Book × ((Tup Int) × ((List Int) × Unit))) → EM ((List (Tup Int))) := fun r => m_heaps_back r.1 r.2.1 r.2.2.1
theorem ok_heaps_back {M : MG} (F : Facts M) {f : Addr} {fd : FuncData} (D : FunD M.K "heaps_back" "heaps_back" (defArgs (S 6)) (defBody (S 6)) (defScope (S 6)) [] [] f fd) : FnS M 5 f fd ["book", "heap", "counts"] (spW (W0) M fm_heaps_back) := by
  refine fn_body (W := W0) (N := ["book", "heap", "counts", "ahead", "at", "found"]) (ps := ["book", "heap", "counts"]) (ks := [.loc, .loc, .loc, .loc, .loc, .loc]) (gs := ["heap_ahead", "NoWay"]) (bs := ["reversed", "range", "len"]) (k := 4) fm_heaps_back D ⟨⟨rfl, rfl, rfl, by decide +kernel, rfl, by decide +kernel, by decide +kernel⟩, by decide +kernel, by decide +kernel, by decide +kernel⟩ (fun _ => rfl) (by intro q hq; simp only [List.mem_cons, List.not_mem_nil, or_false] at hq; rcases hq with rfl | rfl | rfl <;> first | exact F.free 30 rfl | exact F.free 28 rfl | exact F.free 21 rfl) ?_
  intro c C hM h0 Fr r
  obtain ⟨v_book, v_heap, v_counts, ⟨⟩⟩ := r
  subst hM
  show PB c (W0) [SD.v (v_book : Book), SD.v (v_heap : (Tup Int)), SD.v (v_counts : (List Int)), .any, .any, .any] (defBody (S 6)) (m_heaps_back v_book v_heap v_counts) _
  unfold m_heaps_back
  exact (pb_cons (pn_setO C (.inl h0) 5 (pxo_list (pxas_cons (px_nameC C 1) (pxas_nil (α := (Tup Int)))))) fun v_found_1 => (pb_cons (pn_for (Γs := fun (s2 : (List (Tup Int))) => [SD.v (v_book : Book), SD.v (v_heap : (Tup Int)), SD.v (v_counts : (List Int)), .any, .any, SD.l (s2 : List (Tup Int))]) (Γt := fun (s2 : (List (Tup Int))) x3 => [SD.v (v_book : Book), SD.v (v_heap : (Tup Int)), SD.v (v_counts : (List Int)), .any, SD.v (x3 : Int), SD.l (s2 : List (Tup Int))]) (s0 := v_found_1) (is := [4]) C (.inl h0) (pxi_rrange1 C 0 1 (px_lenL C 2 (pxr_of (px_nameC C 2)))) (SubG.keep (SubG.keep (SubG.keep (SubG.keep (SubG.keep (SubG.keep SubG.nil)))))) (fun s2 x3 => (pxg_name C 4)) (fun s2 x3 => (pb_cons (pn_set C (.inl h0) 3 (px_call (k := 4) (f := fm_heap_ahead) C 0 (cal_heap_ahead F) (pxa_cons (px_nameC C 0) (pxa_cons (px_ixO C 5 (px_neg px_int)) (pxa_cons (px_ixL (px_nameC C 2) (px_nameC C 4)) pxa_nil))))) fun v_ahead_4 => (pb_ifN C (.inl h0) 3 (fun _ => (pb_raise C (.inl h0) 1 (xcal_NoWay F) (px_nameC C 4))) fun v_ahead_5 _ => (pb_cons (pn_append C (.inl h0) 5 (px_nameC C 3)) fun v_found_6 => (pb_nil (o := (s2 ++ [v_found_6])) rfl (SubG.keep (SubG.keep (SubG.keep (SubG.drop (SubG.drop (SubG.keep SubG.nil)))))))))))) fun s2 => (pb_ret0 (.inl h0) (fun _ => rfl) (px_ofL (pxo_rev (pxr_own C 5))))))
theorem cal_heaps_back {M : MG} (F : Facts M) : Cal M "heaps_back" 5 (spW (W0) M fm_heaps_back) := by
  obtain ⟨fd, D⟩ := F.defG 9 rfl
  exact cal_of D (ok_heaps_back F D) (F.glo 31 rfl) (D.bindsN fun _ _ _ _ _ _ us hl => match us, hl with | [_, _, _], _ => rfl)

def m_is_garden (v_book : Book) (v_heap : (Tup Int)) : EM Bool :=
  ((((pure (1 : Int)) >>= fun i => (((pure v_book) >>= fun y => lift (fm_Book_len (y, ())) >>= fun n => must (0 ≤ n ∧ n < 2 ^ 63) >>= fun _ => pure n) >>= fun x => (pure (1 : Int)) >>= fun y => pure (x + y)) >>= fun j => must (In62 i ∧ In62 j) >>= fun _ => pure (rangeL i j)) >>= mapC (fun x1 => (((pure v_heap) >>= fun xs => ((pure v_book) >>= fun y => ((pure x1) >>= fun v => (pure ()) >>= fun vs => pure (v, vs)) >>= fun v => lift (fm_Book_sleep (y, v))) >>= fun y => pure (cnt y xs.l : Int)) >>= fun x => (pure x1) >>= fun y => pure (decide (x < y))))) >>= fun xs => pure (xs.all id))
abbrev fm_is_garden : (Book × ((Tup Int) × Unit)) → EM (Bool) := fun r => m_is_garden r.1 r.2.1
theorem ok_is_garden {M : MG} (F : Facts M) {f : Addr} {fd : FuncData} (D : FunD M.K "is_garden" "is_garden" (defArgs (S 8)) (defBody (S 8)) (defScope (S 8)) [] [] f fd) : FnS M 4 f fd ["book", "heap"] (spW (W0) M fm_is_garden) := by
  refine fn_body (W := W0) (N := ["book", "heap", "many"]) (ps := ["book", "heap"]) (ks := [.cel, .cel, .no]) (gs := []) (bs := ["all", "range", "len"]) (k := 3) fm_is_garden D ⟨⟨rfl, rfl, rfl, by decide +kernel, rfl, by decide +kernel, by decide +kernel⟩, by decide +kernel, by decide +kernel, by decide +kernel⟩ (fun _ => rfl) (by intro q hq; simp only [List.mem_cons, List.not_mem_nil, or_false] at hq; rcases hq with rfl | rfl | rfl <;> first | exact F.free 22 rfl | exact F.free 28 rfl | exact F.free 21 rfl) ?_
  intro c C hM h0 Fr r
  obtain ⟨v_book, v_heap, ⟨⟩⟩ := r
  subst hM
  show PB c (W0) [SD.v (v_book : Book), SD.v (v_heap : (Tup Int)), .any] (defBody (S 8)) (m_is_garden v_book v_heap) _
  unfold m_is_garden
  exact (pb_ret0 (.inl h0) (fun _ => rfl) (px_all C 0 (pxr_O (pxo_lc C (by decide +kernel) (lc_all (ks' := [.vis, .vis, .loc]) (gs' := []) (bs' := []) (own := [("many", 2)]) (is := [2]) (Γx := fun x1 => [SD.v (v_book : Book), SD.v (v_heap : (Tup Int)), SD.v (x1 : Int)]) C (pxi_range2 C 1 px_int (px_add (px_lenI (α := Book) (k := 1) (f := fm_Book_len) C 2 (mcal_Book_len F) (px_nameC C 0)) px_int)) (by decide +kernel) (by decide +kernel) (by decide +kernel) (by decide +kernel) (fun q hq => absurd hq List.not_mem_nil) rfl rfl (fun _ _ _ _ _ _ C2 x1 => (pxg_name C2 2)) (fun _ _ _ _ _ _ C2 x1 => (px_lt (px_countT C2 (by decide) (px_nameC C2 1) (px_meth (α := Book) (k := 3) (f := fm_Book_sleep) C2 (mcal_Book_sleep F) (px_nameC C2 0) (pxa_cons (px_nameC C2 2) pxa_nil))) (px_nameC C2 2))))))))
theorem cal_is_garden {M : MG} (F : Facts M) : Cal M "is_garden" 4 (spW (W0) M fm_is_garden) := by
  obtain ⟨fd, D⟩ := F.defG 10 rfl
  exact cal_of D (ok_is_garden F D) (F.glo 32 rfl) (D.bindsN fun _ _ _ _ _ _ us hl => match us, hl with | [_, _], _ => rfl)

def m_l_heap_after (v_spans_here : (List Int)) (v_heap : (Tup Int)) : EM ((Tup Int) × Int) :=
  ((((pure v_heap) >>= fun xs => pure xs.l) >>= fun xs => (pure (1 : Int)) >>= fun y => pure (cnt y xs : Int)) >>= fun v_up_1 => ((((pure v_heap) >>= filtC (fun x2 => ((pure x2) >>= fun x => (pure (1 : Int)) >>= fun y => pure (decide (y < x)))) (fun x2 => ((pure x2) >>= fun x => (pure (1 : Int)) >>= fun y => pure (x - y)))) >>= fun x => (((((pure v_spans_here) >>= fun xs => (((pure (0 : Int)) >>= fun v => (((pure v_up_1) >>= fun x => (pure (1 : Int)) >>= fun y => pure (x - y)) >>= fun v => (pure ()) >>= fun vs => pure (v, vs)) >>= fun vs => pure (v, vs)) >>= fun z => pure (max2 z.1 z.2.1)) >>= fun i => atM xs i) >>= fun v => (pure ([] : List Int)) >>= fun vs => pure (v :: vs)) >>= fun xs => must (llen xs.length) >>= fun _ => pure xs) >>= fun x => (pure v_up_1) >>= fun k => must (repOk x.length k) >>= fun _ => pure (repL x k)) >>= fun y => must (llen (x.length + y.length)) >>= fun _ => pure (x ++ y)) >>= fun v_behind_4 => (((((pure v_behind_4) >>= fun xs => pure (sortI xs)) >>= fun xs => pure (toT xs)) >>= fun v => ((pure v_up_1) >>= fun v => (pure ()) >>= fun vs => pure (v, vs)) >>= fun vs => pure (v, vs)) >>= fun z => pure (z.1, z.2.1))))
abbrev fm_l_heap_after : ((List Int) × ((Tup Int) × Unit)) → EM (((Tup Int) × Int)) := fun r => m_l_heap_after r.1 r.2.1
theorem ok_l_heap_after {M : MG} (F : Facts M) {f : Addr} {fd : FuncData} (D : FunD M.K "_law_heap_after" "_law_heap_after" (defArgs (S 24)) (defBody (S 24)) (defScope (S 24)) [] [] f fd) : FnS M 1 f fd ["_law_spans_here", "_law_heap"] (spW (W0) M fm_l_heap_after) := by
  refine fn_body (W := W0) (N := ["_law_spans_here", "_law_heap", "_law_behind", "_law_rest", "_law_up"]) (ps := ["_law_spans_here", "_law_heap"]) (ks := [.loc, .loc, .loc, .no, .loc]) (gs := []) (bs := ["list", "max", "tuple", "sorted"]) (k := 0) fm_l_heap_after D ⟨⟨rfl, rfl, rfl, by decide +kernel, rfl, by decide +kernel, by decide +kernel⟩, by decide +kernel, by decide +kernel, by decide +kernel⟩ (fun _ => rfl) (by intro q hq; simp only [List.mem_cons, List.not_mem_nil, or_false] at hq; rcases hq with rfl | rfl | rfl | rfl <;> first | exact F.free 20 rfl | exact F.free 33 rfl | exact F.free 23 rfl | exact F.free 34 rfl) ?_
  intro c C hM h0 Fr r
  obtain ⟨v_spans_here, v_heap, ⟨⟩⟩ := r
  subst hM
  show PB c (W0) [SD.v (v_spans_here : (List Int)), SD.v (v_heap : (Tup Int)), .any, .any, .any] (defBody (S 24)) (m_l_heap_after v_spans_here v_heap) _
  unfold m_l_heap_after
  exact (pb_cons (pn_set C (.inl h0) 4 (px_countR C (by decide) (px_ofL (pxo_listT C 0 (px_nameC C 1))) px_int)) fun v_up_1 => (pb_cons (pn_set C (.inl h0) 2 (px_ofL (pxo_cat (px_ofL (pxo_lc C (by decide +kernel) (lc_if (ks' := [.no, .no, .no, .loc, .no]) (gs' := []) (bs' := []) (own := [("_law_rest", 3)]) (is := [3]) (Γx := fun x2 => [SD.v (v_spans_here : (List Int)), SD.v (v_heap : (Tup Int)), .any, SD.v (x2 : Int), SD.v (v_up_1 : Int)]) C (pxi_tup (px_nameC C 1)) (by decide +kernel) (by decide +kernel) (by decide +kernel) (by decide +kernel) (fun q hq => absurd hq List.not_mem_nil) rfl rfl (fun _ _ _ _ _ _ C3 x2 => (pxg_name C3 3)) (fun _ _ _ _ _ _ C3 x2 => (pxt_gt (px_nameC C3 3) px_int)) (fun _ _ _ _ _ _ C3 x2 => (px_sub (px_nameC C3 3) px_int))))) (px_ofL (pxo_rep (px_ofL (pxo_list (pxas_cons (px_ixL (px_nameC C 0) (px_max2 C 1 (pxa_cons px_int (pxa_cons (px_sub (px_nameC C 4) px_int) pxa_nil)))) (pxas_nil (α := Int))))) (px_nameC C 4)))))) fun v_behind_4 => (pb_ret0 (.inl h0) (fun _ => rfl) (px_pair (pxa_cons (px_tupleL C 2 (pxr_O (pxo_sortedI C 3 (pxr_of (px_nameC C 2))))) (pxa_cons (px_nameC C 4) pxa_nil))))))
theorem cal_l_heap_after {M : MG} (F : Facts M) : Cal M "_law_heap_after" 1 (spW (W0) M fm_l_heap_after) := by
  obtain ⟨fd, D⟩ := F.defG 11 rfl
  exact cal_of D (ok_l_heap_after F D) (F.glo 35 rfl) (D.bindsN fun _ _ _ _ _ _ us hl => match us, hl with | [_, _], _ => rfl)

def m_l_heap_after_L (v_spans_here : (List Int)) (v_heap : (List Int)) : EM ((Tup Int) × Int) :=
  ((((pure v_heap) >>= fun xs => pure xs) >>= fun xs => (pure (1 : Int)) >>= fun y => pure (cnt y xs : Int)) >>= fun v_up_1 => ((((pure v_heap) >>= filtC (fun x2 => ((pure x2) >>= fun x => (pure (1 : Int)) >>= fun y => pure (decide (y < x)))) (fun x2 => ((pure x2) >>= fun x => (pure (1 : Int)) >>= fun y => pure (x - y)))) >>= fun x => (((((pure v_spans_here) >>= fun xs => (((pure (0 : Int)) >>= fun v => (((pure v_up_1) >>= fun x => (pure (1 : Int)) >>= fun y => pure (x - y)) >>= fun v => (pure ()) >>= fun vs => pure (v, vs)) >>= fun vs => pure (v, vs)) >>= fun z => pure (max2 z.1 z.2.1)) >>= fun i => atM xs i) >>= fun v => (pure ([] : List Int)) >>= fun vs => pure (v :: vs)) >>= fun xs => must (llen xs.length) >>= fun _ => pure xs) >>= fun x => (pure v_up_1) >>= fun k => must (repOk x.length k) >>= fun _ => pure (repL x k)) >>= fun y => must (llen (x.length + y.length)) >>= fun _ => pure (x ++ y)) >>= fun v_behind_4 => (((((pure v_behind_4) >>= fun xs => pure (sortI xs)) >>= fun xs => pure (toT xs)) >>= fun v => ((pure v_up_1) >>= fun v => (pure ()) >>= fun vs => pure (v, vs)) >>= fun vs => pure (v, vs)) >>= fun z => pure (z.1, z.2.1))))
abbrev fm_l_heap_after_L : ((List Int) × ((List Int) × Unit)) → EM (((Tup Int) × Int)) := fun r => m_l_heap_after_L r.1 r.2.1
theorem ok_l_heap_after_L {M : MG} (F : Facts M) {f : Addr} {fd : FuncData} (D : FunD M.K "_law_heap_after" "_law_heap_after" (defArgs (S 24)) (defBody (S 24)) (defScope (S 24)) [] [] f fd) : FnS M 1 f fd ["_law_spans_here", "_law_heap"] (spW (W0) M fm_l_heap_after_L) := by
  refine fn_body (W := W0) (N := ["_law_spans_here", "_law_heap", "_law_behind", "_law_rest", "_law_up"]) (ps := ["_law_spans_here", "_law_heap"]) (ks := [.loc, .loc, .loc, .no, .loc]) (gs := []) (bs := ["list", "max", "tuple", "sorted"]) (k := 0) fm_l_heap_after_L D ⟨⟨rfl, rfl, rfl, by decide +kernel, rfl, by decide +kernel, by decide +kernel⟩, by decide +kernel, by decide +kernel, by decide +kernel⟩ (fun _ => rfl) (by intro q hq; simp only [List.mem_cons, List.not_mem_nil, or_false] at hq; rcases hq with rfl | rfl | rfl | rfl <;> first | exact F.free 20 rfl | exact F.free 33 rfl | exact F.free 23 rfl | exact F.free 34 rfl) ?_
  intro c C hM h0 Fr r
  obtain ⟨v_spans_here, v_heap, ⟨⟩⟩ := r
  subst hM
  show PB c (W0) [SD.v (v_spans_here : (List Int)), SD.v (v_heap : (List Int)), .any, .any, .any] (defBody (S 24)) (m_l_heap_after_L v_spans_here v_heap) _
  unfold m_l_heap_after_L
  exact (pb_cons (pn_set C (.inl h0) 4 (px_countR C (by decide) (px_ofL (pxo_listL C 0 (pxr_of (px_nameC C 1)))) px_int)) fun v_up_1 => (pb_cons (pn_set C (.inl h0) 2 (px_ofL (pxo_cat (px_ofL (pxo_lc C (by decide +kernel) (lc_if (ks' := [.no, .no, .no, .loc, .no]) (gs' := []) (bs' := []) (own := [("_law_rest", 3)]) (is := [3]) (Γx := fun x2 => [SD.v (v_spans_here : (List Int)), SD.v (v_heap : (List Int)), .any, SD.v (x2 : Int), SD.v (v_up_1 : Int)]) C (pxi_list (px_nameC C 1)) (by decide +kernel) (by decide +kernel) (by decide +kernel) (by decide +kernel) (fun q hq => absurd hq List.not_mem_nil) rfl rfl (fun _ _ _ _ _ _ C3 x2 => (pxg_name C3 3)) (fun _ _ _ _ _ _ C3 x2 => (pxt_gt (px_nameC C3 3) px_int)) (fun _ _ _ _ _ _ C3 x2 => (px_sub (px_nameC C3 3) px_int))))) (px_ofL (pxo_rep (px_ofL (pxo_list (pxas_cons (px_ixL (px_nameC C 0) (px_max2 C 1 (pxa_cons px_int (pxa_cons (px_sub (px_nameC C 4) px_int) pxa_nil)))) (pxas_nil (α := Int))))) (px_nameC C 4)))))) fun v_behind_4 => (pb_ret0 (.inl h0) (fun _ => rfl) (px_pair (pxa_cons (px_tupleL C 2 (pxr_O (pxo_sortedI C 3 (pxr_of (px_nameC C 2))))) (pxa_cons (px_nameC C 4) pxa_nil))))))
theorem cal_l_heap_after_L {M : MG} (F : Facts M) : Cal M "_law_heap_after" 1 (spW (W0) M fm_l_heap_after_L) := by
  obtain ⟨fd, D⟩ := F.defG 11 rfl
  exact cal_of D (ok_l_heap_after_L F D) (F.glo 35 rfl) (D.bindsN fun _ _ _ _ _ _ us hl => match us, hl with | [_, _], _ => rfl)

def m_l_leads (v_book : Book) (v_heap : (Tup Int)) (v_many : Int) : EM Bool :=
  (handle ((((pure v_book) >>= fun v => ((pure v_heap) >>= fun v => ((((pure v_many) >>= fun v => (pure ([] : List Int)) >>= fun vs => pure (v :: vs)) >>= fun xs => must (llen xs.length) >>= fun _ => pure xs) >>= fun v => (pure ()) >>= fun vs => pure (v, vs)) >>= fun vs => pure (v, vs)) >>= fun vs => pure (v, vs)) >>= fun v => lift (fm_heaps_back v)) >>= fun x => (pure ([] : List (Tup Int))) >>= fun y => pure (!decide (x = y))) (caught ["NoWay"] ["Wrong"] fun ex => (pure false)))
abbrev fm_l_leads : (Book × ((Tup Int) × (Int × Unit))) → EM (Bool) := fun r => m_l_leads r.1 r.2.1 r.2.2.1
theorem ok_l_leads {M : MG} (F : Facts M) {f : Addr} {fd : FuncData} (D : FunD M.K "_law_leads" "_law_leads" (defArgs (S 25)) (defBody (S 25)) (defScope (S 25)) [] [] f fd) : FnS M 6 f fd ["_law_book", "_law_heap", "_law_many"] (spW (W0) M fm_l_leads) := by
  refine fn_body (W := W0) (N := ["_law_book", "_law_heap", "_law_many"]) (ps := ["_law_book", "_law_heap", "_law_many"]) (ks := [.loc, .loc, .loc]) (gs := ["heaps_back", "NoWay"]) (bs := []) (k := 5) fm_l_leads D ⟨⟨rfl, rfl, rfl, by decide +kernel, rfl, by decide +kernel, by decide +kernel⟩, by decide +kernel, by decide +kernel, by decide +kernel⟩ (fun _ => rfl) (fun q hq => absurd hq List.not_mem_nil) ?_
  intro c C hM h0 Fr r
  obtain ⟨v_book, v_heap, v_many, ⟨⟩⟩ := r
  subst hM
  show PB c (W0) [SD.v (v_book : Book), SD.v (v_heap : (Tup Int)), SD.v (v_many : Int)] (defBody (S 25)) (m_l_leads v_book v_heap v_many) _
  unfold m_l_leads
  exact (pb_tryX (Γe := [SD.v (v_book : Book), SD.v (v_heap : (Tup Int)), SD.v (v_many : Int)]) (yes := ["NoWay"]) (no := ["Wrong"]) C Fr h0 1 (by intro z; cases z) (F.glo 6 rfl) (by intro q hq; simp only [List.mem_cons, List.not_mem_nil, or_false] at hq; rcases hq with rfl <;> first | exact F.exm 36 rfl) (by intro q hq; simp only [List.mem_cons, List.not_mem_nil, or_false] at hq; rcases hq with rfl <;> first | exact F.exm 37 rfl) (fun _ _ _ C1 => (pb_ret0 (.inr (SubG.keep (SubG.keep (SubG.keep SubG.nil)))) (fun _ => rfl) (px_neD C1 (by decide) (px_call (k := 5) (f := fm_heaps_back) C1 0 (cal_heaps_back F) (pxa_cons (px_nameC C1 0) (pxa_cons (px_nameC C1 1) (pxa_cons (px_ofL (pxo_list (pxas_cons (px_nameC C1 2) (pxas_nil (α := Int))))) pxa_nil)))) (px_ofL (pxo_nil (α := (Tup Int))))))) (fun _ _ _ ex _ => (pb_ret0 (.inl rfl) (fun _ => rfl) px_bool)))
theorem cal_l_leads {M : MG} (F : Facts M) : Cal M "_law_leads" 6 (spW (W0) M fm_l_leads) := by
  obtain ⟨fd, D⟩ := F.defG 12 rfl
  exact cal_of D (ok_l_leads F D) (F.glo 38 rfl) (D.bindsN fun _ _ _ _ _ _ us hl => match us, hl with | [_, _, _], _ => rfl)

def m_l_bag (v_script : Scr) : MW (Option BagS × Unit) Bag :=
  ((((pure v_script) >>= fun xs => (pure none) >>= fun l => ((pure (63 : Int)) >>= fun i => pure (some i)) >>= fun h => pure (cut (α := Int) xs l h)) >>= mapC (fun x1 => ((pure x1) >>= fun i => pure (absI i)))) >>= fun xs => bagNew xs)
abbrev fm_l_bag : (Scr × Unit) → MW (Option BagS × Unit) (Bag) := fun r => m_l_bag r.1
theorem ok_l_bag {M : MG} (F : Facts M) {f : Addr} {fd : FuncData} (D : FunD M.K "_law_bag" "_law_bag" (defArgs (S 18)) (defBody (S 18)) (defScope (S 18)) [] [] f fd) : FnS M 1 f fd ["_law_script"] (spW (m := MW (Option BagS × Unit)) (BagW W0) M fm_l_bag) := by
  refine fn_body (m := MW (Option BagS × Unit)) (W := BagW W0) (N := ["_law_script", "_law_cell"]) (ps := ["_law_script"]) (ks := [.loc, .no]) (gs := []) (bs := []) (k := 0) fm_l_bag D ⟨⟨rfl, rfl, rfl, by decide +kernel, rfl, by decide +kernel, by decide +kernel⟩, by decide +kernel, by decide +kernel, by decide +kernel⟩ (fun _ => rfl) (fun q hq => absurd hq List.not_mem_nil) ?_
  intro c C hM h0 Fr r
  obtain ⟨v_script, ⟨⟩⟩ := r
  subst hM
  show PB (m := MW (Option BagS × Unit)) c (BagW W0) [SD.v (v_script : Scr), .any] (defBody (S 18)) (m_l_bag v_script) _
  unfold m_l_bag
  exact (pb_ret0 (.inl h0) (fun _ => rfl) (px_bagNew (px_ofL (pxo_lc C (by decide +kernel) (lc_all (ks' := [.no, .loc]) (gs' := []) (bs' := ["abs"]) (own := [("_law_cell", 1)]) (is := [1]) (Γx := fun x1 => [SD.v (v_script : Scr), SD.v (x1 : Int)]) C (pxi_list (px_ofL (pxo_slScr (px_nameC C 0) pxp_none (pxp_some px_int)))) (by decide +kernel) (by decide +kernel) (by decide +kernel) (by decide +kernel) (by intro q hq; simp only [List.mem_cons, List.not_mem_nil, or_false] at hq; rcases hq with rfl <;> first | exact F.free 39 rfl) rfl rfl (fun _ _ _ _ _ _ C2 x1 => (pxg_name C2 1)) (fun _ _ _ _ _ _ C2 x1 => (px_abs C2 0 (px_nameC C2 1))))))))
theorem cal_l_bag {M : MG} (F : Facts M) : Cal M "_law_bag" 1 (spW (m := MW (Option BagS × Unit)) (BagW W0) M fm_l_bag) := by
  obtain ⟨fd, D⟩ := F.defG 13 rfl
  exact cal_of D (ok_l_bag F D) (F.glo 40 rfl) (D.bindsN fun _ _ _ _ _ _ us hl => match us, hl with | [_], _ => rfl)

def m_l_takeP (v_bag_here : Bag) (v_many : Int) : MW (Option BagS × Unit) Int :=
  (((((pure v_bag_here) >>= fun y => bagGet y (fun b => b.s0)) >>= fun x => (pure (0 : Int)) >>= fun y => pure (decide (x = y))) >>= fun t => if t = true then ((pure (0 : Int)) >>= fun v_cell_6 => (((((pure v_bag_here) >>= fun y => bagGet y (fun b => b.s2)) >>= fun x => (((pure v_bag_here) >>= fun y => bagXs y) >>= fun xs => pure (xs.length : Int)) >>= fun y => pure (decide (x < y))) >>= fun t => if t = true then ((((pure v_bag_here) >>= fun y => bagXs y) >>= fun xs => ((pure v_bag_here) >>= fun y => bagGet y (fun b => b.s2)) >>= fun i => atM xs i) >>= fun v_cell_8 => (pure v_cell_8)) else (pure v_cell_6)) >>= fun s9 => ((bagGet v_bag_here (fun b => b.s2) >>= fun o => (pure (1 : Int)) >>= fun v => bagSet v_bag_here fun b => { b with s2 := o + v, n := b.n + 1 }) >>= fun _ => ((((pure s9) >>= fun x => (pure (1000000000000000000 : Int)) >>= fun y => pure (decide (y ≤ x))) >>= fun t => if t = true then (((pure s9) >>= fun v => bagSet v_bag_here fun b => { b with s0 := v }) >>= fun _ => (pure ())) else (pure ())) >>= fun _ => ((((((((pure v_bag_here) >>= fun y => bagGet y (fun b => b.s1)) >>= fun x => (pure (48271 : Int)) >>= fun y => must (mulOk x y) >>= fun _ => pure (x * y)) >>= fun x => ((pure s9) >>= fun x => (pure (2147483647 : Int)) >>= fun y => must (modOk x y) >>= fun _ => pure (x % y)) >>= fun y => pure (x + y)) >>= fun x => ((pure (7919 : Int)) >>= fun x => ((pure v_bag_here) >>= fun y => bagGet y (fun b => b.s2)) >>= fun y => must (mulOk x y) >>= fun _ => pure (x * y)) >>= fun y => pure (x + y)) >>= fun x => (pure (2147483647 : Int)) >>= fun y => must (modOk x y) >>= fun _ => pure (x % y)) >>= fun v => bagSet v_bag_here fun b => { b with s1 := v }) >>= fun _ => (pure ())))))) else (pure ())) >>= fun _ => ((((pure v_bag_here) >>= fun y => bagGet y (fun b => b.s0)) >>= fun x => (pure (0 : Int)) >>= fun y => pure (decide (y < x))) >>= fun t => if t = true then ((((pure v_bag_here) >>= fun y => bagGet y (fun b => b.s0)) >>= fun x => (pure v_many) >>= fun y => must (modOk x y) >>= fun _ => pure (x % y)) >>= fun v_value_16 => (((((pure v_bag_here) >>= fun y => bagGet y (fun b => b.s0)) >>= fun x => (pure v_many) >>= fun y => must (divOk x y) >>= fun _ => pure (x / y)) >>= fun v => bagSet v_bag_here fun b => { b with s0 := v }) >>= fun _ => (pure v_value_16))) else (pure ()) >>= fun _ => ((((((pure v_bag_here) >>= fun y => bagGet y (fun b => b.s1)) >>= fun x => (pure (1 : Int)) >>= fun y => pure (x + y)) >>= fun x => (pure (39373 : Int)) >>= fun y => must (mulOk x y) >>= fun _ => pure (x * y)) >>= fun x => (pure (1000000007 : Int)) >>= fun y => must (modOk x y) >>= fun _ => pure (x % y)) >>= fun v_first_13 => ((((((pure v_first_13) >>= fun x => (pure v_first_13) >>= fun y => must (mulOk x y) >>= fun _ => pure (x * y)) >>= fun x => (pure (998244353 : Int)) >>= fun y => must (modOk x y) >>= fun _ => pure (x % y)) >>= fun x => (pure (30011 : Int)) >>= fun y => must (mulOk x y) >>= fun _ => pure (x * y)) >>= fun x => (pure (998244353 : Int)) >>= fun y => must (modOk x y) >>= fun _ => pure (x % y)) >>= fun v_second_14 => (((pure v_many) >>= fun x => (pure (1000000 : Int)) >>= fun y => pure (decide (y < x))) >>= fun t => if t = true then ((((pure v_second_14) >>= fun x => (pure (1000000007 : Int)) >>= fun y => must (mulOk x y) >>= fun _ => pure (x * y)) >>= fun x => (pure v_first_13) >>= fun y => pure (x + y)) >>= fun x => (pure v_many) >>= fun y => must (modOk x y) >>= fun _ => pure (x % y)) else (pure ()) >>= fun _ => (((pure v_second_14) >>= fun x => (pure (7 : Int)) >>= fun y => must (divOk x y) >>= fun _ => pure (x / y)) >>= fun x => (pure v_many) >>= fun y => must (modOk x y) >>= fun _ => pure (x % y)))))))
abbrev fm_l_takeP : (Bag × (Int × Unit)) → MW (Option BagS × Unit) (Int) := fun r => m_l_takeP r.1 r.2.1
theorem ok_l_takeP {M : MG} (F : Facts M) {f : Addr} {fd : FuncData} (D : FunD M.K "_law_take" "_law_take" (defArgs (S 19)) (defBody (S 19)) (defScope (S 19)) [] [] f fd) : FnS M 1 f fd ["_law_bag_here", "_law_many"] (spW (m := MW (Option BagS × Unit)) (BagW W0) M fm_l_takeP) := by
  refine fn_body (m := MW (Option BagS × Unit)) (W := BagW W0) (N := ["_law_bag_here", "_law_many", "_law_cell", "_law_first", "_law_second", "_law_value"]) (ps := ["_law_bag_here", "_law_many"]) (ks := [.loc, .loc, .loc, .loc, .loc, .loc]) (gs := []) (bs := ["len"]) (k := 0) fm_l_takeP D ⟨⟨rfl, rfl, rfl, by decide +kernel, rfl, by decide +kernel, by decide +kernel⟩, by decide +kernel, by decide +kernel, by decide +kernel⟩ (fun _ => rfl) (by intro q hq; simp only [List.mem_cons, List.not_mem_nil, or_false] at hq; rcases hq with rfl <;> first | exact F.free 21 rfl) ?_
  intro c C hM h0 Fr r
  obtain ⟨v_bag_here, v_many, ⟨⟩⟩ := r
  subst hM
  show PB (m := MW (Option BagS × Unit)) c (BagW W0) [SD.v (v_bag_here : Bag), SD.v (v_many : Int), .any, .any, .any, .any] (defBody (S 19)) (m_l_takeP v_bag_here v_many) _
  unfold m_l_takeP
  exact (pb_cons (pn_if (Γ' := fun (_ : Unit) => [SD.v (v_bag_here : Bag), SD.v (v_many : Int), .any, .any, .any, .any]) (.inl h0) (pxt_eqI (px_bagG (fun b => b.s0) (px_nameC C 0)) px_int) (pb_cons (pn_set C (.inl h0) 2 px_int) fun v_cell_6 => (pb_cons (pn_if (O := Int) (Γ' := fun s9 => [SD.v (v_bag_here : Bag), SD.v (v_many : Int), SD.v (s9 : Int), .any, .any, .any]) (.inl h0) (pxt_lt (px_bagG (fun b => b.s2) (px_nameC C 0)) (px_lenL C 0 (pxr_of (px_bagL (px_nameC C 0))))) (pb_cons (pn_set C (.inl h0) 2 (px_ixL (px_bagL (px_nameC C 0)) (px_bagG (fun b => b.s2) (px_nameC C 0)))) fun v_cell_8 => (pb_nil (o := v_cell_8) rfl (SubG.keep (SubG.keep (SubG.keep (SubG.keep (SubG.keep (SubG.keep SubG.nil)))))))) (pb_nil (o := v_cell_6) rfl (SubG.keep (SubG.keep (SubG.keep (SubG.keep (SubG.keep (SubG.keep SubG.nil)))))))) (fun s9 => (pb_cons (pn_bagA (i := 0) (x := v_bag_here) (fun b => b.s2) (fun b v => { b with s2 := v, n := b.n + 1 }) 2 C (.inl h0) px_int) fun _ => (pb_cons (pn_if (Γ' := fun (_ : Unit) => [SD.v (v_bag_here : Bag), SD.v (v_many : Int), SD.v (s9 : Int), .any, .any, .any]) (.inl h0) (pxt_ge (px_nameC C 2) px_int) (pb_cons (pn_bagS (i := 0) (x := v_bag_here) (fun b v => { b with s0 := v }) 0 C (.inl h0) (px_nameC C 2)) fun _ => (pb_nil (o := ()) rfl (SubG.keep (SubG.keep (SubG.keep (SubG.keep (SubG.keep (SubG.keep SubG.nil)))))))) (pb_nil (o := ()) rfl (SubG.keep (SubG.keep (SubG.keep (SubG.keep (SubG.keep (SubG.keep SubG.nil)))))))) (fun _ => (pb_cons (pn_bagS (i := 0) (x := v_bag_here) (fun b v => { b with s1 := v }) 1 C (.inl h0) (px_mod (px_add (px_add (px_mul (px_bagG (fun b => b.s1) (px_nameC C 0)) px_int) (px_mod (px_nameC C 2) px_int)) (px_mul px_int (px_bagG (fun b => b.s2) (px_nameC C 0)))) px_int)) fun _ => (pb_nil (o := ()) rfl (SubG.keep (SubG.keep (SubG.drop (SubG.keep (SubG.keep (SubG.keep SubG.nil)))))))))))))) (pb_nil (o := ()) rfl (SubG.keep (SubG.keep (SubG.keep (SubG.keep (SubG.keep (SubG.keep SubG.nil)))))))) (fun _ => (pb_ifA (Γ' := fun (_ : Unit) => [SD.v (v_bag_here : Bag), SD.v (v_many : Int), .any, .any, .any, .any]) (.inl h0) (pxt_gt (px_bagG (fun b => b.s0) (px_nameC C 0)) px_int) (pb_cons (pn_set C (.inl h0) 5 (px_mod (px_bagG (fun b => b.s0) (px_nameC C 0)) (px_nameC C 1))) fun v_value_16 => (pb_cons (pn_bagS (i := 0) (x := v_bag_here) (fun b v => { b with s0 := v }) 0 C (.inl h0) (px_fdiv (px_bagG (fun b => b.s0) (px_nameC C 0)) (px_nameC C 1))) fun _ => (pb_ret0 (.inl h0) (fun _ => rfl) (px_nameC C 5)))) (pb_nil (o := ()) rfl (SubG.keep (SubG.keep (SubG.keep (SubG.keep (SubG.keep (SubG.keep SubG.nil))))))) (fun _ => (pb_cons (pn_set C (.inl h0) 3 (px_mod (px_mul (px_add (px_bagG (fun b => b.s1) (px_nameC C 0)) px_int) px_int) px_int)) fun v_first_13 => (pb_cons (pn_set C (.inl h0) 4 (px_mod (px_mul (px_mod (px_mul (px_nameC C 3) (px_nameC C 3)) px_int) px_int) px_int)) fun v_second_14 => (pb_ifA (Γ' := fun (_ : Unit) => [SD.v (v_bag_here : Bag), SD.v (v_many : Int), .any, SD.v (v_first_13 : Int), SD.v (v_second_14 : Int), .any]) (.inl h0) (pxt_gt (px_nameC C 1) px_int) (pb_ret0 (.inl h0) (fun _ => rfl) (px_mod (px_add (px_mul (px_nameC C 4) px_int) (px_nameC C 3)) (px_nameC C 1))) (pb_nil (o := ()) rfl (SubG.keep (SubG.keep (SubG.keep (SubG.keep (SubG.keep (SubG.keep SubG.nil))))))) (fun _ => (pb_ret0 (.inl h0) (fun _ => rfl) (px_mod (px_fdiv (px_nameC C 4) px_int) (px_nameC C 1)))))))))))
abbrev fm_l_take : (Bag × (Int × Unit)) → MW (Option BagS × Unit) Int := takeM
theorem take_ok (x : Bag × (Int × Unit)) (b : BagS) (w : _) (Q : Int → Option BagS × _ → Prop) (E : Exc → Option BagS × _ → Prop) (ok : BagOk b) (h : (takeM x).run Q E (some b, w)) : (fm_l_takeP x).run Q E (some b, w) := by
  obtain ⟨bag, many, u⟩ := x
  obtain ⟨b', h1, h2, h3, h4, h5, h6⟩ := h
  cases h1
  have h2 : b.a = bag.a := h2
  show (m_l_takeP bag many).run Q E (some b, w)
  unfold m_l_takeP
  simp only [run_bind, run_pure, run_bagGet, run_bagXs, run_bagSet, run_must0, run_ite, run_atM, Option.some.injEq, exists_eq_left', h2, true_and, decide_eq_true_eq]
  have h3 : 0 < many := h3
  have h4 : many.natAbs.log2 < 9000 := h4
  have h6 : ∀ (v : Int) (b' : BagS), 0 ≤ v → v < many → b'.a = bag.a → b'.n ≤ b.n + 1 → Q v (some b', w) := fun v b' k1 k2 k3 k4 => h6 v b' k1 k2 (k3.trans h2.symm) k4
  have bn := ok.h4
  have b3 := ok.h3
  have b1 := ok.h1
  have b2 := ok.h2
  have step : ∀ x : Int, 0 ≤ x → (BagOk b → BagOk { a := bag.a, n := b.n + 1, s0 := b.s0, s1 := b.s1, s2 := b.s2 + 1, xs := b.xs }) ∧ mulOk b.s1 48271 ∧ modOk x 2147483647 ∧ mulOk 7919 (b.s2 + 1) ∧ modOk (b.s1 * 48271 + x % 2147483647 + 7919 * (b.s2 + 1)) 2147483647 := fun x hx =>
    ⟨fun k => ⟨k.h0, k.h1, k.h2, by show 0 ≤ b.s2 + 1; omega, by show b.s2 + 1 ≤ ((b.n + 1 : Nat) : Int); omega, by show b.n + 1 ≤ _; omega, k.h6⟩, mulOk_of (by omega) (by omega) (by omega) (by omega), by show (0 : Int) < _; omega, mulOk_of (by omega) (by omega) (by omega) (by omega), by show (0 : Int) < _; omega⟩
  have c1 : ∀ x z : Int, 0 ≤ z → (BagOk { a := bag.a, n := b.n + 1, s0 := z, s1 := b.s1, s2 := b.s2 + 1, xs := b.xs } → BagOk { a := bag.a, n := b.n + 1, s0 := z, s1 := (b.s1 * 48271 + x % 2147483647 + 7919 * (b.s2 + 1)) % 2147483647, s2 := b.s2 + 1, xs := b.xs }) := fun x z hz k =>
    ⟨hz, by show 0 ≤ _ % _; omega, by show _ % _ < _; omega, k.h3, k.h4, k.h5, k.h6⟩
  have dv : ∀ x : Int, divOk x many := fun x => ⟨h3, h4⟩
  split
  · rename_i e0
    split
    · rename_i hlt
      obtain ⟨y, hy⟩ : ∃ y, L2.atI b.xs b.s2 = some y := by
        have hl : b.s2.toNat < b.xs.length := by omega
        refine ⟨b.xs[b.s2.toNat], ?_⟩
        unfold L2.atI L2.ixN
        rw [if_pos b3, if_pos hlt]
        simp [hl]
      have hy0 : 0 ≤ y := by
        unfold L2.atI at hy
        obtain ⟨j, _, hj⟩ := Option.bind_eq_some_iff.mp hy
        exact ok.h6 y (List.mem_of_getElem? hj)
      obtain ⟨p1, p2, p3, p4, p5⟩ := step y hy0
      refine ⟨y, hy, p1, ?_⟩
      split
      · refine ⟨fun k => ⟨hy0, k.h1, k.h2, k.h3, k.h4, k.h5, k.h6⟩, p2, p3, p4, p5, c1 y y hy0, ?_⟩
        split
        · exact ⟨h3, dv _, fun k => ⟨Int.ediv_nonneg hy0 (by omega), k.h1, k.h2, k.h3, k.h4, k.h5, k.h6⟩, h6 _ _ (Int.emod_nonneg _ (by omega)) (Int.emod_lt_of_pos _ h3) rfl (Nat.le_refl _)⟩
        · exact tail_ok (by omega) (by omega) h3 fun v k1 k2 => h6 v _ k1 k2 rfl (Nat.le_refl _)
      · refine ⟨p2, p3, p4, p5, c1 y b.s0 ok.h0, ?_⟩
        rw [if_neg (by omega)]
        exact tail_ok (by omega) (by omega) h3 fun v k1 k2 => h6 v _ k1 k2 rfl (Nat.le_refl _)
    · obtain ⟨p1, p2, p3, p4, p5⟩ := step 0 (by omega)
      refine ⟨p1, ?_⟩
      rw [if_neg (by omega)]
      refine ⟨p2, p3, p4, p5, c1 0 b.s0 ok.h0, ?_⟩
      rw [if_neg (by omega)]
      exact tail_ok (by omega) (by omega) h3 fun v k1 k2 => h6 v _ k1 k2 rfl (Nat.le_refl _)
  · split
    · exact ⟨h3, dv _, fun k => ⟨Int.ediv_nonneg ok.h0 (by omega), k.h1, k.h2, k.h3, k.h4, k.h5, k.h6⟩, h6 _ _ (Int.emod_nonneg _ (by omega)) (Int.emod_lt_of_pos _ h3) (by first | rfl | exact h2) (by first | exact Nat.le_succ _ | (show b.n ≤ b.n + 1; omega))⟩
    · exact tail_ok b1 b2 h3 fun v k1 k2 => h6 v _ k1 k2 (by first | rfl | exact h2) (by first | exact Nat.le_succ _ | (show b.n ≤ b.n + 1; omega))
theorem cal_l_take {M : MG} (F : Facts M) : Cal M "_law_take" 1 (spW (m := MW (Option BagS × Unit)) (BagW W0) M fm_l_take) := by
  obtain ⟨fd, D⟩ := F.defG 14 rfl
  refine cal_of D (FnOk.imp (ok_l_takeP F D) (spW_imp (m := MW (Option BagS × Unit)) fun x g F H Q E hi hd => ?_)) (F.glo 41 rfl) (D.bindsN fun _ _ _ _ _ _ us hl => match us, hl with | [_, _], _ => rfl)
  obtain ⟨b, h1, h2⟩ := hd
  obtain ⟨gb, gw⟩ := g
  have h1 : gb = some b := h1
  subst h1
  exact take_ok x b gw Q E (hi.1 b rfl).2.1 ⟨b, rfl, h2⟩

def m_l_names (v_bag_here : Bag) (v_many : Int) : MW (Option BagS × Unit) (List Str) :=
  ((pure ("abcdefghijklmnopqrstuvwxyz" : Str)) >>= fun v_letters_1 => ((((pure v_bag_here) >>= fun v => ((pure (26 : Int)) >>= fun v => (pure ()) >>= fun vs => pure (v, vs)) >>= fun vs => pure (v, vs)) >>= fm_l_take) >>= fun v_turn_2 => ((((pure v_letters_1) >>= fun z => (((pure v_bag_here) >>= fun v => ((pure (26 : Int)) >>= fun v => (pure ()) >>= fun vs => pure (v, vs)) >>= fun vs => pure (v, vs)) >>= fm_l_take) >>= fun i => must (llen z.length) >>= fun _ => opt (L2.atI z.cps.toList i) >>= fun ch => pure (chrS ch)) >>= fun x => (((pure v_bag_here) >>= fun v => ((pure (7 : Int)) >>= fun v => (pure ()) >>= fun vs => pure (v, vs)) >>= fun vs => pure (v, vs)) >>= fm_l_take) >>= fun y => must (smulOk x y) >>= fun _ => pure (mulS x y)) >>= fun v_tail_3 => ((((pure v_bag_here) >>= fun v => ((pure (2 : Int)) >>= fun v => (pure ()) >>= fun vs => pure (v, vs)) >>= fun vs => pure (v, vs)) >>= fm_l_take) >>= fun v_way_4 => ((pure ([] : List Str)) >>= fun v_found_5 => ((((pure v_many) >>= fun i => must (In62 i) >>= fun _ => pure (rangeL 0 i)) >>= fun xs => forN (fun (s6 : (List Str)) x7 => (((pure v_letters_1) >>= fun z => (((pure v_turn_2) >>= fun x => (pure x7) >>= fun y => pure (x + y)) >>= fun x => (pure (26 : Int)) >>= fun y => must (modOk x y) >>= fun _ => pure (x % y)) >>= fun i => must (llen z.length) >>= fun _ => opt (L2.atI z.cps.toList i) >>= fun ch => pure (chrS ch)) >>= fun v_head_8 => ((((((((pure v_head_8) >>= fun x => (pure v_tail_3) >>= fun y => must (llen (x.length + y.length)) >>= fun _ => pure (x ++ y)) >>= fun v => (((pure v_tail_3) >>= fun x => (pure v_head_8) >>= fun y => must (llen (x.length + y.length)) >>= fun _ => pure (x ++ y)) >>= fun v => (pure ([] : List Str)) >>= fun vs => pure (v :: vs)) >>= fun vs => pure (v :: vs)) >>= fun xs => must (llen xs.length) >>= fun _ => pure xs) >>= fun xs => (pure v_way_4) >>= fun i => atM xs i) >>= fun x => ((pure ("b" : Str)) >>= fun x => ((pure x7) >>= fun x => (pure (26 : Int)) >>= fun y => must (divOk x y) >>= fun _ => pure (x / y)) >>= fun y => must (smulOk x y) >>= fun _ => pure (mulS x y)) >>= fun y => must (llen (x.length + y.length)) >>= fun _ => pure (x ++ y)) >>= fun v => must (List.length s6 < sizeLine) >>= fun _ => pure v) >>= fun v_found_9 => (pure (s6 ++ [v_found_9]))))) xs v_found_5) >>= fun s6 => (pure s6)))))))
abbrev fm_l_names : (Bag × (Int × Unit)) → MW (Option BagS × Unit) ((List Str)) := fun r => m_l_names r.1 r.2.1
theorem ok_l_names {M : MG} (F : Facts M) {f : Addr} {fd : FuncData} (D : FunD M.K "_law_names" "_law_names" (defArgs (S 20)) (defBody (S 20)) (defScope (S 20)) [] [] f fd) : FnS M 2 f fd ["_law_bag_here", "_law_many"] (spW (m := MW (Option BagS × Unit)) (BagW W0) M fm_l_names) := by
  refine fn_body (m := MW (Option BagS × Unit)) (W := BagW W0) (N := ["_law_bag_here", "_law_many", "_law_found", "_law_head", "_law_k", "_law_letters", "_law_tail", "_law_turn", "_law_way"]) (ps := ["_law_bag_here", "_law_many"]) (ks := [.loc, .loc, .loc, .loc, .loc, .loc, .loc, .loc, .loc]) (gs := ["_law_take"]) (bs := ["range"]) (k := 1) fm_l_names D ⟨⟨rfl, rfl, rfl, by decide +kernel, rfl, by decide +kernel, by decide +kernel⟩, by decide +kernel, by decide +kernel, by decide +kernel⟩ (fun _ => rfl) (by intro q hq; simp only [List.mem_cons, List.not_mem_nil, or_false] at hq; rcases hq with rfl <;> first | exact F.free 28 rfl) ?_
  intro c C hM h0 Fr r
  obtain ⟨v_bag_here, v_many, ⟨⟩⟩ := r
  subst hM
  show PB (m := MW (Option BagS × Unit)) c (BagW W0) [SD.v (v_bag_here : Bag), SD.v (v_many : Int), .any, .any, .any, .any, .any, .any, .any] (defBody (S 20)) (m_l_names v_bag_here v_many) _
  unfold m_l_names
  exact (pb_cons (pn_set C (.inl h0) 5 px_str) fun v_letters_1 => (pb_cons (pn_set C (.inl h0) 7 (px_callW (k := 1) (f := fm_l_take) C 0 (cal_l_take F) (pxa_cons (px_nameC C 0) (pxa_cons px_int pxa_nil)))) fun v_turn_2 => (pb_cons (pn_set C (.inl h0) 6 (px_mulS (px_ixS (px_nameC C 5) (px_callW (k := 1) (f := fm_l_take) C 0 (cal_l_take F) (pxa_cons (px_nameC C 0) (pxa_cons px_int pxa_nil)))) (px_callW (k := 1) (f := fm_l_take) C 0 (cal_l_take F) (pxa_cons (px_nameC C 0) (pxa_cons px_int pxa_nil))))) fun v_tail_3 => (pb_cons (pn_set C (.inl h0) 8 (px_callW (k := 1) (f := fm_l_take) C 0 (cal_l_take F) (pxa_cons (px_nameC C 0) (pxa_cons px_int pxa_nil)))) fun v_way_4 => (pb_cons (pn_setO C (.inl h0) 2 (pxo_nil (α := Str))) fun v_found_5 => (pb_cons (pn_for (Γs := fun (s6 : (List Str)) => [SD.v (v_bag_here : Bag), SD.v (v_many : Int), SD.l (s6 : List Str), .any, .any, SD.v (v_letters_1 : Str), SD.v (v_tail_3 : Str), SD.v (v_turn_2 : Int), SD.v (v_way_4 : Int)]) (Γt := fun (s6 : (List Str)) x7 => [SD.v (v_bag_here : Bag), SD.v (v_many : Int), SD.l (s6 : List Str), .any, SD.v (x7 : Int), SD.v (v_letters_1 : Str), SD.v (v_tail_3 : Str), SD.v (v_turn_2 : Int), SD.v (v_way_4 : Int)]) (s0 := v_found_5) (is := [4]) C (.inl h0) (pxi_range1 C 0 (px_nameC C 1)) (SubG.keep (SubG.keep (SubG.keep (SubG.keep (SubG.keep (SubG.keep (SubG.keep (SubG.keep (SubG.keep SubG.nil))))))))) (fun s6 x7 => (pxg_name C 4)) (fun s6 x7 => (pb_cons (pn_set C (.inl h0) 3 (px_ixS (px_nameC C 5) (px_mod (px_add (px_nameC C 7) (px_nameC C 4)) px_int))) fun v_head_8 => (pb_cons (pn_append C (.inl h0) 2 (px_catS (px_ixL (px_ofL (pxo_list (pxas_cons (px_catS (px_nameC C 3) (px_nameC C 6)) (pxas_cons (px_catS (px_nameC C 6) (px_nameC C 3)) (pxas_nil (α := Str)))))) (px_nameC C 8)) (px_mulS px_str (px_fdiv (px_nameC C 4) px_int)))) fun v_found_9 => (pb_nil (o := (s6 ++ [v_found_9])) rfl (SubG.keep (SubG.keep (SubG.keep (SubG.drop (SubG.drop (SubG.keep (SubG.keep (SubG.keep (SubG.keep SubG.nil)))))))))))))) fun s6 => (pb_frz 2 (pb_ret0 (.inl h0) (fun _ => rfl) (px_nameC C 2)))))))))
theorem cal_l_names {M : MG} (F : Facts M) : Cal M "_law_names" 2 (spW (m := MW (Option BagS × Unit)) (BagW W0) M fm_l_names) := by
  obtain ⟨fd, D⟩ := F.defG 15 rfl
  exact cal_of D (ok_l_names F D) (F.glo 42 rfl) (D.bindsN fun _ _ _ _ _ _ us hl => match us, hl with | [_, _], _ => rfl)

def m_l_spans (v_bag_here : Bag) (v_many : Int) (v_most : Int) : MW (Option BagS × Unit) (List Int) :=
  ((((pure v_bag_here) >>= fun v => ((pure (6 : Int)) >>= fun v => (pure ()) >>= fun vs => pure (v, vs)) >>= fun vs => pure (v, vs)) >>= fm_l_take) >>= fun v_way_1 => (((pure v_way_1) >>= fun x => (pure (2 : Int)) >>= fun y => pure (decide (x < y))) >>= fun t => if t = true then (((pure v_many) >>= fun i => must (In62 i) >>= fun _ => pure (rangeL 0 i)) >>= mapC (fun x9 => ((pure x9) >>= fun x => (pure (1 : Int)) >>= fun y => pure (x + y)))) else (pure ()) >>= fun _ => (((pure (1 : Int)) >>= fun x => (((pure v_bag_here) >>= fun v => ((pure v_most) >>= fun v => (pure ()) >>= fun vs => pure (v, vs)) >>= fun vs => pure (v, vs)) >>= fm_l_take) >>= fun y => pure (x + y)) >>= fun v_one_3 => ((pure ([] : List Int)) >>= fun v_found_4 => ((((pure v_many) >>= fun i => must (In62 i) >>= fun _ => pure (rangeL 0 i)) >>= fun xs => forN (fun (s5 : (List Int)) x6 => (((((pure (1 : Int)) >>= fun x => (((pure v_bag_here) >>= fun v => ((((pure (4 : Int)) >>= fun v => ((pure v_most) >>= fun v => (pure ()) >>= fun vs => pure (v, vs)) >>= fun vs => pure (v, vs)) >>= fun z => pure (min2 z.1 z.2.1)) >>= fun v => (pure ()) >>= fun vs => pure (v, vs)) >>= fun vs => pure (v, vs)) >>= fm_l_take) >>= fun y => pure (x + y)) >>= fun v => (((pure (1 : Int)) >>= fun x => (((pure v_bag_here) >>= fun v => ((pure v_most) >>= fun v => (pure ()) >>= fun vs => pure (v, vs)) >>= fun vs => pure (v, vs)) >>= fm_l_take) >>= fun y => pure (x + y)) >>= fun v => ((pure v_one_3) >>= fun v => (((((pure (1 : Int)) >>= fun v => ((pure v_most) >>= fun v => (pure ([] : List Int)) >>= fun vs => pure (v :: vs)) >>= fun vs => pure (v :: vs)) >>= fun xs => must (llen xs.length) >>= fun _ => pure xs) >>= fun xs => (((pure v_bag_here) >>= fun v => ((pure (2 : Int)) >>= fun v => (pure ()) >>= fun vs => pure (v, vs)) >>= fun vs => pure (v, vs)) >>= fm_l_take) >>= fun i => atM xs i) >>= fun v => (pure ([] : List Int)) >>= fun vs => pure (v :: vs)) >>= fun vs => pure (v :: vs)) >>= fun vs => pure (v :: vs)) >>= fun vs => pure (v :: vs)) >>= fun xs => must (llen xs.length) >>= fun _ => pure xs) >>= fun v_some_7 => ((((pure v_some_7) >>= fun xs => ((pure v_way_1) >>= fun x => (pure (2 : Int)) >>= fun y => pure (x - y)) >>= fun i => atM xs i) >>= fun v => must (List.length s5 < sizeLine) >>= fun _ => pure v) >>= fun v_found_8 => (pure (s5 ++ [v_found_8]))))) xs v_found_4) >>= fun s5 => (pure s5))))))
abbrev fm_l_spans : (Bag × (Int × (Int × Unit))) → MW (Option BagS × Unit) ((List Int)) := fun r => m_l_spans r.1 r.2.1 r.2.2.1
theorem ok_l_spans {M : MG} (F : Facts M) {f : Addr} {fd : FuncData} (D : FunD M.K "_law_spans" "_law_spans" (defArgs (S 21)) (defBody (S 21)) (defScope (S 21)) [] [] f fd) : FnS M 2 f fd ["_law_bag_here", "_law_many", "_law_most"] (spW (m := MW (Option BagS × Unit)) (BagW W0) M fm_l_spans) := by
  refine fn_body (m := MW (Option BagS × Unit)) (W := BagW W0) (N := ["_law_bag_here", "_law_many", "_law_most", "_law_found", "_law_k", "_law_one", "_law_some", "_law_way"]) (ps := ["_law_bag_here", "_law_many", "_law_most"]) (ks := [.loc, .loc, .loc, .loc, .loc, .loc, .loc, .loc]) (gs := ["_law_take"]) (bs := ["range", "min"]) (k := 1) fm_l_spans D ⟨⟨rfl, rfl, rfl, by decide +kernel, rfl, by decide +kernel, by decide +kernel⟩, by decide +kernel, by decide +kernel, by decide +kernel⟩ (fun _ => rfl) (by intro q hq; simp only [List.mem_cons, List.not_mem_nil, or_false] at hq; rcases hq with rfl | rfl <;> first | exact F.free 28 rfl | exact F.free 43 rfl) ?_
  intro c C hM h0 Fr r
  obtain ⟨v_bag_here, v_many, v_most, ⟨⟩⟩ := r
  subst hM
  show PB (m := MW (Option BagS × Unit)) c (BagW W0) [SD.v (v_bag_here : Bag), SD.v (v_many : Int), SD.v (v_most : Int), .any, .any, .any, .any, .any] (defBody (S 21)) (m_l_spans v_bag_here v_many v_most) _
  unfold m_l_spans
  exact (pb_cons (pn_set C (.inl h0) 7 (px_callW (k := 1) (f := fm_l_take) C 0 (cal_l_take F) (pxa_cons (px_nameC C 0) (pxa_cons px_int pxa_nil)))) fun v_way_1 => (pb_ifA (Γ' := fun (_ : Unit) => [SD.v (v_bag_here : Bag), SD.v (v_many : Int), SD.v (v_most : Int), .any, .any, .any, .any, SD.v (v_way_1 : Int)]) (.inl h0) (pxt_lt (px_nameC C 7) px_int) (pb_ret0 (.inl h0) (fun _ => rfl) (px_ofL (pxo_lc C (by decide +kernel) (lc_all (ks' := [.no, .no, .no, .no, .loc, .no, .no, .no]) (gs' := []) (bs' := []) (own := [("_law_k", 4)]) (is := [4]) (Γx := fun x9 => [SD.v (v_bag_here : Bag), SD.v (v_many : Int), SD.v (v_most : Int), .any, SD.v (x9 : Int), .any, .any, SD.v (v_way_1 : Int)]) C (pxi_range1 C 0 (px_nameC C 1)) (by decide +kernel) (by decide +kernel) (by decide +kernel) (by decide +kernel) (fun q hq => absurd hq List.not_mem_nil) rfl rfl (fun _ _ _ _ _ _ C10 x9 => (pxg_name C10 4)) (fun _ _ _ _ _ _ C10 x9 => (px_add (px_nameC C10 4) px_int)))))) (pb_nil (o := ()) rfl (SubG.keep (SubG.keep (SubG.keep (SubG.keep (SubG.keep (SubG.keep (SubG.keep (SubG.keep SubG.nil))))))))) (fun _ => (pb_cons (pn_set C (.inl h0) 5 (px_add px_int (px_callW (k := 1) (f := fm_l_take) C 0 (cal_l_take F) (pxa_cons (px_nameC C 0) (pxa_cons (px_nameC C 2) pxa_nil))))) fun v_one_3 => (pb_cons (pn_setO C (.inl h0) 3 (pxo_nil (α := Int))) fun v_found_4 => (pb_cons (pn_for (Γs := fun (s5 : (List Int)) => [SD.v (v_bag_here : Bag), SD.v (v_many : Int), SD.v (v_most : Int), SD.l (s5 : List Int), .any, SD.v (v_one_3 : Int), .any, SD.v (v_way_1 : Int)]) (Γt := fun (s5 : (List Int)) x6 => [SD.v (v_bag_here : Bag), SD.v (v_many : Int), SD.v (v_most : Int), SD.l (s5 : List Int), SD.v (x6 : Int), SD.v (v_one_3 : Int), .any, SD.v (v_way_1 : Int)]) (s0 := v_found_4) (is := [4]) C (.inl h0) (pxi_range1 C 0 (px_nameC C 1)) (SubG.keep (SubG.keep (SubG.keep (SubG.keep (SubG.keep (SubG.keep (SubG.keep (SubG.keep SubG.nil)))))))) (fun s5 x6 => (pxg_name C 4)) (fun s5 x6 => (pb_cons (pn_set C (.inl h0) 6 (px_ofL (pxo_list (pxas_cons (px_add px_int (px_callW (k := 1) (f := fm_l_take) C 0 (cal_l_take F) (pxa_cons (px_nameC C 0) (pxa_cons (px_min2 C 1 (pxa_cons px_int (pxa_cons (px_nameC C 2) pxa_nil))) pxa_nil)))) (pxas_cons (px_add px_int (px_callW (k := 1) (f := fm_l_take) C 0 (cal_l_take F) (pxa_cons (px_nameC C 0) (pxa_cons (px_nameC C 2) pxa_nil)))) (pxas_cons (px_nameC C 5) (pxas_cons (px_ixL (px_ofL (pxo_list (pxas_cons px_int (pxas_cons (px_nameC C 2) (pxas_nil (α := Int)))))) (px_callW (k := 1) (f := fm_l_take) C 0 (cal_l_take F) (pxa_cons (px_nameC C 0) (pxa_cons px_int pxa_nil)))) (pxas_nil (α := Int))))))))) fun v_some_7 => (pb_cons (pn_append C (.inl h0) 3 (px_ixL (px_nameC C 6) (px_sub (px_nameC C 7) px_int))) fun v_found_8 => (pb_nil (o := (s5 ++ [v_found_8])) rfl (SubG.keep (SubG.keep (SubG.keep (SubG.keep (SubG.drop (SubG.keep (SubG.drop (SubG.keep SubG.nil))))))))))))) fun s5 => (pb_frz 3 (pb_ret0 (.inl h0) (fun _ => rfl) (px_nameC C 3)))))))))
theorem cal_l_spans {M : MG} (F : Facts M) : Cal M "_law_spans" 2 (spW (m := MW (Option BagS × Unit)) (BagW W0) M fm_l_spans) := by
  obtain ⟨fd, D⟩ := F.defG 16 rfl
  exact cal_of D (ok_l_spans F D) (F.glo 44 rfl) (D.bindsN fun _ _ _ _ _ _ us hl => match us, hl with | [_, _, _], _ => rfl)

def m_l_rests (v_bag_here : Bag) (v_many : Int) (v_most : Int) : MW (Option BagS × Unit) (List Int) :=
  ((((pure v_bag_here) >>= fun v => ((pure (4 : Int)) >>= fun v => (pure ()) >>= fun vs => pure (v, vs)) >>= fun vs => pure (v, vs)) >>= fm_l_take) >>= fun v_way_1 => ((((pure (1 : Int)) >>= fun x => (((pure v_bag_here) >>= fun v => ((pure v_most) >>= fun v => (pure ()) >>= fun vs => pure (v, vs)) >>= fun vs => pure (v, vs)) >>= fm_l_take) >>= fun y => pure (x + y)) >>= fun v => (((pure (1 : Int)) >>= fun x => (((pure v_bag_here) >>= fun v => ((pure v_most) >>= fun v => (pure ()) >>= fun vs => pure (v, vs)) >>= fun vs => pure (v, vs)) >>= fm_l_take) >>= fun y => pure (x + y)) >>= fun v => (pure ()) >>= fun vs => pure (v, vs)) >>= fun vs => pure (v, vs)) >>= fun p2 => ((pure ([] : List Int)) >>= fun v_found_3 => ((((pure v_many) >>= fun i => must (In62 i) >>= fun _ => pure (rangeL 0 i)) >>= fun xs => forN (fun (s4 : (List Int)) x5 => (((((pure (1 : Int)) >>= fun x => (((pure v_bag_here) >>= fun v => ((pure v_most) >>= fun v => (pure ()) >>= fun vs => pure (v, vs)) >>= fun vs => pure (v, vs)) >>= fm_l_take) >>= fun y => pure (x + y)) >>= fun v => (((pure (1 : Int)) >>= fun x => (((pure v_bag_here) >>= fun v => ((((pure (3 : Int)) >>= fun v => ((pure v_most) >>= fun v => (pure ()) >>= fun vs => pure (v, vs)) >>= fun vs => pure (v, vs)) >>= fun z => pure (min2 z.1 z.2.1)) >>= fun v => (pure ()) >>= fun vs => pure (v, vs)) >>= fun vs => pure (v, vs)) >>= fm_l_take) >>= fun y => pure (x + y)) >>= fun v => ((pure p2.1) >>= fun v => (((((pure p2.1) >>= fun v => ((pure p2.2.1) >>= fun v => (pure ([] : List Int)) >>= fun vs => pure (v :: vs)) >>= fun vs => pure (v :: vs)) >>= fun xs => must (llen xs.length) >>= fun _ => pure xs) >>= fun xs => (((pure v_bag_here) >>= fun v => ((pure (2 : Int)) >>= fun v => (pure ()) >>= fun vs => pure (v, vs)) >>= fun vs => pure (v, vs)) >>= fm_l_take) >>= fun i => atM xs i) >>= fun v => (pure ([] : List Int)) >>= fun vs => pure (v :: vs)) >>= fun vs => pure (v :: vs)) >>= fun vs => pure (v :: vs)) >>= fun vs => pure (v :: vs)) >>= fun xs => must (llen xs.length) >>= fun _ => pure xs) >>= fun v_some_6 => ((((pure v_some_6) >>= fun xs => (pure v_way_1) >>= fun i => atM xs i) >>= fun v => must (List.length s4 < sizeLine) >>= fun _ => pure v) >>= fun v_found_7 => (pure (s4 ++ [v_found_7]))))) xs v_found_3) >>= fun s4 => (pure s4)))))
abbrev fm_l_rests : (Bag × (Int × (Int × Unit))) → MW (Option BagS × Unit) ((List Int)) := fun r => m_l_rests r.1 r.2.1 r.2.2.1
theorem ok_l_rests {M : MG} (F : Facts M) {f : Addr} {fd : FuncData} (D : FunD M.K "_law_rests" "_law_rests" (defArgs (S 22)) (defBody (S 22)) (defScope (S 22)) [] [] f fd) : FnS M 2 f fd ["_law_bag_here", "_law_many", "_law_most"] (spW (m := MW (Option BagS × Unit)) (BagW W0) M fm_l_rests) := by
  refine fn_body (m := MW (Option BagS × Unit)) (W := BagW W0) (N := ["_law_bag_here", "_law_many", "_law_most", "_law_found", "_law_k", "_law_one", "_law_other", "_law_some", "_law_way"]) (ps := ["_law_bag_here", "_law_many", "_law_most"]) (ks := [.loc, .loc, .loc, .loc, .loc, .loc, .loc, .loc, .loc]) (gs := ["_law_take"]) (bs := ["range", "min"]) (k := 1) fm_l_rests D ⟨⟨rfl, rfl, rfl, by decide +kernel, rfl, by decide +kernel, by decide +kernel⟩, by decide +kernel, by decide +kernel, by decide +kernel⟩ (fun _ => rfl) (by intro q hq; simp only [List.mem_cons, List.not_mem_nil, or_false] at hq; rcases hq with rfl | rfl <;> first | exact F.free 28 rfl | exact F.free 43 rfl) ?_
  intro c C hM h0 Fr r
  obtain ⟨v_bag_here, v_many, v_most, ⟨⟩⟩ := r
  subst hM
  show PB (m := MW (Option BagS × Unit)) c (BagW W0) [SD.v (v_bag_here : Bag), SD.v (v_many : Int), SD.v (v_most : Int), .any, .any, .any, .any, .any, .any] (defBody (S 22)) (m_l_rests v_bag_here v_many v_most) _
  unfold m_l_rests
  exact (pb_cons (pn_set C (.inl h0) 8 (px_callW (k := 1) (f := fm_l_take) C 0 (cal_l_take F) (pxa_cons (px_nameC C 0) (pxa_cons px_int pxa_nil)))) fun v_way_1 => (pb_cons (pn_par C (.inl h0) 5 6 (pxa_cons (px_add px_int (px_callW (k := 1) (f := fm_l_take) C 0 (cal_l_take F) (pxa_cons (px_nameC C 0) (pxa_cons (px_nameC C 2) pxa_nil)))) (pxa_cons (px_add px_int (px_callW (k := 1) (f := fm_l_take) C 0 (cal_l_take F) (pxa_cons (px_nameC C 0) (pxa_cons (px_nameC C 2) pxa_nil)))) pxa_nil))) fun p2 => (pb_cons (pn_setO C (.inl h0) 3 (pxo_nil (α := Int))) fun v_found_3 => (pb_cons (pn_for (Γs := fun (s4 : (List Int)) => [SD.v (v_bag_here : Bag), SD.v (v_many : Int), SD.v (v_most : Int), SD.l (s4 : List Int), .any, SD.v (p2.1 : Int), SD.v (p2.2.1 : Int), .any, SD.v (v_way_1 : Int)]) (Γt := fun (s4 : (List Int)) x5 => [SD.v (v_bag_here : Bag), SD.v (v_many : Int), SD.v (v_most : Int), SD.l (s4 : List Int), SD.v (x5 : Int), SD.v (p2.1 : Int), SD.v (p2.2.1 : Int), .any, SD.v (v_way_1 : Int)]) (s0 := v_found_3) (is := [4]) C (.inl h0) (pxi_range1 C 0 (px_nameC C 1)) (SubG.keep (SubG.keep (SubG.keep (SubG.keep (SubG.keep (SubG.keep (SubG.keep (SubG.keep (SubG.keep SubG.nil))))))))) (fun s4 x5 => (pxg_name C 4)) (fun s4 x5 => (pb_cons (pn_set C (.inl h0) 7 (px_ofL (pxo_list (pxas_cons (px_add px_int (px_callW (k := 1) (f := fm_l_take) C 0 (cal_l_take F) (pxa_cons (px_nameC C 0) (pxa_cons (px_nameC C 2) pxa_nil)))) (pxas_cons (px_add px_int (px_callW (k := 1) (f := fm_l_take) C 0 (cal_l_take F) (pxa_cons (px_nameC C 0) (pxa_cons (px_min2 C 1 (pxa_cons px_int (pxa_cons (px_nameC C 2) pxa_nil))) pxa_nil)))) (pxas_cons (px_nameC C 5) (pxas_cons (px_ixL (px_ofL (pxo_list (pxas_cons (px_nameC C 5) (pxas_cons (px_nameC C 6) (pxas_nil (α := Int)))))) (px_callW (k := 1) (f := fm_l_take) C 0 (cal_l_take F) (pxa_cons (px_nameC C 0) (pxa_cons px_int pxa_nil)))) (pxas_nil (α := Int))))))))) fun v_some_6 => (pb_cons (pn_append C (.inl h0) 3 (px_ixL (px_nameC C 7) (px_nameC C 8))) fun v_found_7 => (pb_nil (o := (s4 ++ [v_found_7])) rfl (SubG.keep (SubG.keep (SubG.keep (SubG.keep (SubG.drop (SubG.keep (SubG.keep (SubG.drop (SubG.keep SubG.nil)))))))))))))) fun s4 => (pb_frz 3 (pb_ret0 (.inl h0) (fun _ => rfl) (px_nameC C 3)))))))
theorem cal_l_rests {M : MG} (F : Facts M) : Cal M "_law_rests" 2 (spW (m := MW (Option BagS × Unit)) (BagW W0) M fm_l_rests) := by
  obtain ⟨fd, D⟩ := F.defG 17 rfl
  exact cal_of D (ok_l_rests F D) (F.glo 45 rfl) (D.bindsN fun _ _ _ _ _ _ us hl => match us, hl with | [_, _, _], _ => rfl)

def m_l_hall (v_bag_here : Bag) (v_many : Int) (v_most : Int) (v_longest : Int) : MW (Option BagS × Unit) ((List Int) × (Dct Str Int)) :=
  (((pure (1 : Int)) >>= fun x => (((pure v_bag_here) >>= fun v => ((pure v_many) >>= fun v => (pure ()) >>= fun vs => pure (v, vs)) >>= fun vs => pure (v, vs)) >>= fm_l_take) >>= fun y => pure (x + y)) >>= fun v_size_1 => ((((pure v_bag_here) >>= fun v => ((pure v_size_1) >>= fun v => ((pure v_most) >>= fun v => (pure ()) >>= fun vs => pure (v, vs)) >>= fun vs => pure (v, vs)) >>= fun vs => pure (v, vs)) >>= fm_l_spans) >>= fun v_spans_here_2 => (((((((pure v_bag_here) >>= fun v => (((pure v_size_1) >>= fun x => (pure (1 : Int)) >>= fun y => pure (x + y)) >>= fun v => (pure ()) >>= fun vs => pure (v, vs)) >>= fun vs => pure (v, vs)) >>= fm_l_take) >>= fun v => ((pure v_size_1) >>= fun v => (pure ([] : List Int)) >>= fun vs => pure (v :: vs)) >>= fun vs => pure (v :: vs)) >>= fun xs => must (llen xs.length) >>= fun _ => pure xs) >>= fun xs => (((((pure v_bag_here) >>= fun v => ((pure (4 : Int)) >>= fun v => (pure ()) >>= fun vs => pure (v, vs)) >>= fun vs => pure (v, vs)) >>= fm_l_take) >>= fun x => (pure (0 : Int)) >>= fun y => pure (decide (x = y))) >>= fun t => pure (b2I t)) >>= fun i => atM xs i) >>= fun v_there_3 => (((pure v_spans_here_2) >>= fun v => (((((pure v_bag_here) >>= fun v => ((pure v_there_3) >>= fun v => (pure ()) >>= fun vs => pure (v, vs)) >>= fun vs => pure (v, vs)) >>= fm_l_names) >>= fun xs => (((pure v_bag_here) >>= fun v => ((pure v_there_3) >>= fun v => ((pure v_longest) >>= fun v => (pure ()) >>= fun vs => pure (v, vs)) >>= fun vs => pure (v, vs)) >>= fun vs => pure (v, vs)) >>= fm_l_rests) >>= fun ys => must (llen xs.length) >>= fun _ => pure (Dct.ofZip xs ys)) >>= fun v => (pure ()) >>= fun vs => pure (v, vs)) >>= fun vs => pure (v, vs)) >>= fun z => pure (z.1, z.2.1)))))
abbrev fm_l_hall : (Bag × (Int × (Int × (Int × Unit)))) → MW (Option BagS × Unit) (((List Int) × (Dct Str Int))) := fun r => m_l_hall r.1 r.2.1 r.2.2.1 r.2.2.2.1
theorem ok_l_hall {M : MG} (F : Facts M) {f : Addr} {fd : FuncData} (D : FunD M.K "_law_hall" "_law_hall" (defArgs (S 23)) (defBody (S 23)) (defScope (S 23)) [] [] f fd) : FnS M 3 f fd ["_law_bag_here", "_law_many", "_law_most", "_law_longest"] (spW (m := MW (Option BagS × Unit)) (BagW W0) M fm_l_hall) := by
  refine fn_body (m := MW (Option BagS × Unit)) (W := BagW W0) (N := ["_law_bag_here", "_law_many", "_law_most", "_law_longest", "_law_size", "_law_spans_here", "_law_there"]) (ps := ["_law_bag_here", "_law_many", "_law_most", "_law_longest"]) (ks := [.loc, .loc, .loc, .loc, .loc, .loc, .loc]) (gs := ["_law_take", "_law_spans", "_law_names", "_law_rests"]) (bs := ["int", "dict", "zip"]) (k := 2) fm_l_hall D ⟨⟨rfl, rfl, rfl, by decide +kernel, rfl, by decide +kernel, by decide +kernel⟩, by decide +kernel, by decide +kernel, by decide +kernel⟩ (fun _ => rfl) (by intro q hq; simp only [List.mem_cons, List.not_mem_nil, or_false] at hq; rcases hq with rfl | rfl | rfl <;> first | exact F.free 11 rfl | exact F.free 46 rfl | exact F.free 47 rfl) ?_
  intro c C hM h0 Fr r
  obtain ⟨v_bag_here, v_many, v_most, v_longest, ⟨⟩⟩ := r
  subst hM
  show PB (m := MW (Option BagS × Unit)) c (BagW W0) [SD.v (v_bag_here : Bag), SD.v (v_many : Int), SD.v (v_most : Int), SD.v (v_longest : Int), .any, .any, .any] (defBody (S 23)) (m_l_hall v_bag_here v_many v_most v_longest) _
  unfold m_l_hall
  exact (pb_cons (pn_set C (.inl h0) 4 (px_add px_int (px_callW (k := 1) (f := fm_l_take) C 0 (cal_l_take F) (pxa_cons (px_nameC C 0) (pxa_cons (px_nameC C 1) pxa_nil))))) fun v_size_1 => (pb_cons (pn_set C (.inl h0) 5 (px_callW (k := 2) (f := fm_l_spans) C 1 (cal_l_spans F) (pxa_cons (px_nameC C 0) (pxa_cons (px_nameC C 4) (pxa_cons (px_nameC C 2) pxa_nil))))) fun v_spans_here_2 => (pb_cons (pn_set C (.inl h0) 6 (px_ixL (px_ofL (pxo_list (pxas_cons (px_callW (k := 1) (f := fm_l_take) C 0 (cal_l_take F) (pxa_cons (px_nameC C 0) (pxa_cons (px_add (px_nameC C 4) px_int) pxa_nil))) (pxas_cons (px_nameC C 4) (pxas_nil (α := Int)))))) (px_intB C 0 (px_eqI (px_callW (k := 1) (f := fm_l_take) C 0 (cal_l_take F) (pxa_cons (px_nameC C 0) (pxa_cons px_int pxa_nil))) px_int)))) fun v_there_3 => (pb_ret0 (.inl h0) (fun _ => rfl) (px_pair (pxa_cons (px_nameC C 5) (pxa_cons (px_ofD (pxo_dictZip C 1 2 (px_callW (k := 2) (f := fm_l_names) C 2 (cal_l_names F) (pxa_cons (px_nameC C 0) (pxa_cons (px_nameC C 6) pxa_nil))) (px_callW (k := 2) (f := fm_l_rests) C 3 (cal_l_rests F) (pxa_cons (px_nameC C 0) (pxa_cons (px_nameC C 6) (pxa_cons (px_nameC C 3) pxa_nil)))))) pxa_nil)))))))
theorem cal_l_hall {M : MG} (F : Facts M) : Cal M "_law_hall" 3 (spW (m := MW (Option BagS × Unit)) (BagW W0) M fm_l_hall) := by
  obtain ⟨fd, D⟩ := F.defG 18 rfl
  exact cal_of D (ok_l_hall F D) (F.glo 48 rfl) (D.bindsN fun _ _ _ _ _ _ us hl => match us, hl with | [_, _, _, _], _ => rfl)

def m_l_case (v_bag_here : Bag) : MW (Option BagS × Unit) ((List Int) × (Tup Int)) :=
  ((((pure v_bag_here) >>= fun v => (((((pure (6 : Int)) >>= fun v => ((pure (12 : Int)) >>= fun v => ((pure (40 : Int)) >>= fun v => (pure ([] : List Int)) >>= fun vs => pure (v :: vs)) >>= fun vs => pure (v :: vs)) >>= fun vs => pure (v :: vs)) >>= fun xs => must (llen xs.length) >>= fun _ => pure xs) >>= fun xs => (((pure v_bag_here) >>= fun v => ((pure (3 : Int)) >>= fun v => (pure ()) >>= fun vs => pure (v, vs)) >>= fun vs => pure (v, vs)) >>= fm_l_take) >>= fun i => atM xs i) >>= fun v => (((((pure (4 : Int)) >>= fun v => ((pure (12 : Int)) >>= fun v => (((pure (10 : Int)) >>= fun x => (pure (9 : Int)) >>= fun y => must (powOk x y) >>= fun _ => pure (x ^ y.toNat)) >>= fun v => (pure ([] : List Int)) >>= fun vs => pure (v :: vs)) >>= fun vs => pure (v :: vs)) >>= fun vs => pure (v :: vs)) >>= fun xs => must (llen xs.length) >>= fun _ => pure xs) >>= fun xs => (((pure v_bag_here) >>= fun v => ((pure (3 : Int)) >>= fun v => (pure ()) >>= fun vs => pure (v, vs)) >>= fun vs => pure (v, vs)) >>= fm_l_take) >>= fun i => atM xs i) >>= fun v => ((pure (8 : Int)) >>= fun v => (pure ()) >>= fun vs => pure (v, vs)) >>= fun vs => pure (v, vs)) >>= fun vs => pure (v, vs)) >>= fun vs => pure (v, vs)) >>= fm_l_hall) >>= fun p1 => (((pure p1.2) >>= fun d => pure (sortI d.vals)) >>= fun v_heap_2 => ((((pure v_bag_here) >>= fun v => ((pure (3 : Int)) >>= fun v => (pure ()) >>= fun vs => pure (v, vs)) >>= fun vs => pure (v, vs)) >>= fm_l_take) >>= fun v_way_3 => (((pure v_way_3) >>= fun x => (pure (0 : Int)) >>= fun y => pure (decide (x = y))) >>= fun t => if t = true then (((pure p1.1) >>= fun v => (((pure v_heap_2) >>= fun xs => pure (toT xs)) >>= fun v => (pure ()) >>= fun vs => pure (v, vs)) >>= fun vs => pure (v, vs)) >>= fun z => pure (z.1, z.2.1)) else (pure ()) >>= fun _ => (((pure v_way_3) >>= fun x => (pure (1 : Int)) >>= fun y => pure (decide (x = y))) >>= fun t => if t = true then (((pure p1.1) >>= fun v => (((((pure p1.1) >>= fun v => ((pure v_heap_2) >>= fun v => (pure ()) >>= fun vs => pure (v, vs)) >>= fun vs => pure (v, vs)) >>= fun v => lift (fm_l_heap_after_L v)) >>= fun x => pure x.1) >>= fun v => (pure ()) >>= fun vs => pure (v, vs)) >>= fun vs => pure (v, vs)) >>= fun z => pure (z.1, z.2.1)) else (pure ()) >>= fun _ => ((pure ([] : List Int)) >>= fun v_found_6 => ((((pure (6 : Int)) >>= fun i => must (In62 i) >>= fun _ => pure (rangeL 0 i)) >>= fun xs => forN (fun (s7 : (List Int)) x8 => (((pure (1 : Int)) >>= fun x => (((pure v_bag_here) >>= fun v => (((pure p1.1) >>= fun xs => pure (xs.length : Int)) >>= fun v => (pure ()) >>= fun vs => pure (v, vs)) >>= fun vs => pure (v, vs)) >>= fm_l_take) >>= fun y => pure (x + y)) >>= fun v_many_9 => ((((((pure p1.1) >>= fun xs => ((pure v_many_9) >>= fun x => (pure (1 : Int)) >>= fun y => pure (x - y)) >>= fun i => atM xs i) >>= fun v => (pure ([] : List Int)) >>= fun vs => pure (v :: vs)) >>= fun xs => must (llen xs.length) >>= fun _ => pure xs) >>= fun x => (((pure (0 : Int)) >>= fun v => (((pure v_many_9) >>= fun x => (((pure v_bag_here) >>= fun v => ((pure (2 : Int)) >>= fun v => (pure ()) >>= fun vs => pure (v, vs)) >>= fun vs => pure (v, vs)) >>= fm_l_take) >>= fun y => pure (x - y)) >>= fun v => (pure ()) >>= fun vs => pure (v, vs)) >>= fun vs => pure (v, vs)) >>= fun z => pure (max2 z.1 z.2.1)) >>= fun k => must (repOk x.length k) >>= fun _ => pure (repL x k)) >>= fun v_some_10 => ((((((pure s7) >>= fun xs => pure (xs.length : Int)) >>= fun x => ((pure v_some_10) >>= fun xs => pure (xs.length : Int)) >>= fun y => pure (x + y)) >>= fun x => ((pure p1.1) >>= fun xs => pure (xs.length : Int)) >>= fun y => pure (decide (x ≤ y))) >>= fun t => if t = true then (((pure s7) >>= fun x => (pure v_some_10) >>= fun y => must (llen (x.length + y.length)) >>= fun _ => pure (x ++ y)) >>= fun v_found_12 => (pure v_found_12)) else (pure s7)) >>= fun s13 => (pure s13))))) xs v_found_6) >>= fun s7 => (((pure p1.1) >>= fun v => ((((pure s7) >>= fun xs => pure (sortI xs)) >>= fun xs => pure (toT xs)) >>= fun v => (pure ()) >>= fun vs => pure (v, vs)) >>= fun vs => pure (v, vs)) >>= fun z => pure (z.1, z.2.1)))))))))
abbrev fm_l_case : (Bag × Unit) → MW (Option BagS × Unit) (((List Int) × (Tup Int))) := fun r => m_l_case r.1
theorem ok_l_case {M : MG} (F : Facts M) {f : Addr} {fd : FuncData} (D : FunD M.K "_law_case" "_law_case" (defArgs (S 26)) (defBody (S 26)) (defScope (S 26)) [] [] f fd) : FnS M 4 f fd ["_law_bag_here"] (spW (m := MW (Option BagS × Unit)) (BagW W0) M fm_l_case) := by
  refine fn_body (m := MW (Option BagS × Unit)) (W := BagW W0) (N := ["_law_bag_here", "_law_found", "_law_heap", "_law_many", "_law_rests_here", "_law_some", "_law_spans_here", "_law_turn", "_law_way"]) (ps := ["_law_bag_here"]) (ks := [.loc, .loc, .loc, .loc, .loc, .loc, .loc, .loc, .loc]) (gs := ["_law_take", "_law_hall", "_law_heap_after"]) (bs := ["sorted", "range", "len", "max", "tuple"]) (k := 3) fm_l_case D ⟨⟨rfl, rfl, rfl, by decide +kernel, rfl, by decide +kernel, by decide +kernel⟩, by decide +kernel, by decide +kernel, by decide +kernel⟩ (fun _ => rfl) (by intro q hq; simp only [List.mem_cons, List.not_mem_nil, or_false] at hq; rcases hq with rfl | rfl | rfl | rfl | rfl <;> first | exact F.free 34 rfl | exact F.free 28 rfl | exact F.free 21 rfl | exact F.free 33 rfl | exact F.free 23 rfl) ?_
  intro c C hM h0 Fr r
  obtain ⟨v_bag_here, ⟨⟩⟩ := r
  subst hM
  show PB (m := MW (Option BagS × Unit)) c (BagW W0) [SD.v (v_bag_here : Bag), .any, .any, .any, .any, .any, .any, .any, .any] (defBody (S 26)) (m_l_case v_bag_here) _
  unfold m_l_case
  exact (pb_cons (pn_asg C (.inl h0) (Γ1 := fun (p1 : ((List Int) × (Dct Str Int))) => [SD.v (v_bag_here : Bag), .any, .any, .any, SD.v (p1.2 : (Dct Str Int)), .any, SD.v (p1.1 : (List Int)), .any, .any]) (px_callW (k := 3) (f := fm_l_hall) C 1 (cal_l_hall F) (pxa_cons (px_nameC C 0) (pxa_cons (px_ixL (px_ofL (pxo_list (pxas_cons px_int (pxas_cons px_int (pxas_cons px_int (pxas_nil (α := Int))))))) (px_callW (k := 1) (f := fm_l_take) C 0 (cal_l_take F) (pxa_cons (px_nameC C 0) (pxa_cons px_int pxa_nil)))) (pxa_cons (px_ixL (px_ofL (pxo_list (pxas_cons px_int (pxas_cons px_int (pxas_cons (px_pow px_int px_int) (pxas_nil (α := Int))))))) (px_callW (k := 1) (f := fm_l_take) C 0 (cal_l_take F) (pxa_cons (px_nameC C 0) (pxa_cons px_int pxa_nil)))) (pxa_cons px_int pxa_nil))))) fun p1 => (pxg_pair C (pxgs_cons (pxg_name C 6) (pxgs_cons (pxg_name C 4) pxgs_nil)))) fun p1 => (pb_cons (pn_set C (.inl h0) 2 (px_ofL (pxo_sortedVals C 0 (px_nameC C 4)))) fun v_heap_2 => (pb_cons (pn_set C (.inl h0) 8 (px_callW (k := 1) (f := fm_l_take) C 0 (cal_l_take F) (pxa_cons (px_nameC C 0) (pxa_cons px_int pxa_nil)))) fun v_way_3 => (pb_ifA (Γ' := fun (_ : Unit) => [SD.v (v_bag_here : Bag), .any, SD.v (v_heap_2 : (List Int)), .any, SD.v (p1.2 : (Dct Str Int)), .any, SD.v (p1.1 : (List Int)), .any, SD.v (v_way_3 : Int)]) (.inl h0) (pxt_eqI (px_nameC C 8) px_int) (pb_ret0 (.inl h0) (fun _ => rfl) (px_pair (pxa_cons (px_nameC C 6) (pxa_cons (px_tupleL C 4 (pxr_of (px_nameC C 2))) pxa_nil)))) (pb_nil (o := ()) rfl (SubG.keep (SubG.keep (SubG.keep (SubG.keep (SubG.keep (SubG.keep (SubG.keep (SubG.keep (SubG.keep SubG.nil)))))))))) (fun _ => (pb_ifA (Γ' := fun (_ : Unit) => [SD.v (v_bag_here : Bag), .any, SD.v (v_heap_2 : (List Int)), .any, SD.v (p1.2 : (Dct Str Int)), .any, SD.v (p1.1 : (List Int)), .any, SD.v (v_way_3 : Int)]) (.inl h0) (pxt_eqI (px_nameC C 8) px_int) (pb_ret0 (.inl h0) (fun _ => rfl) (px_pair (pxa_cons (px_nameC C 6) (pxa_cons (px_fst (px_call (k := 1) (f := fm_l_heap_after_L) C 2 (cal_l_heap_after_L F) (pxa_cons (px_nameC C 6) (pxa_cons (px_nameC C 2) pxa_nil)))) pxa_nil)))) (pb_nil (o := ()) rfl (SubG.keep (SubG.keep (SubG.keep (SubG.keep (SubG.keep (SubG.keep (SubG.keep (SubG.keep (SubG.keep SubG.nil)))))))))) (fun _ => (pb_cons (pn_set C (.inl h0) 1 (px_ofL (pxo_nil (α := Int)))) fun v_found_6 => (pb_cons (pn_for (Γs := fun (s7 : (List Int)) => [SD.v (v_bag_here : Bag), SD.v (s7 : (List Int)), SD.v (v_heap_2 : (List Int)), .any, SD.v (p1.2 : (Dct Str Int)), .any, SD.v (p1.1 : (List Int)), .any, SD.v (v_way_3 : Int)]) (Γt := fun (s7 : (List Int)) x8 => [SD.v (v_bag_here : Bag), SD.v (s7 : (List Int)), SD.v (v_heap_2 : (List Int)), .any, SD.v (p1.2 : (Dct Str Int)), .any, SD.v (p1.1 : (List Int)), SD.v (x8 : Int), SD.v (v_way_3 : Int)]) (s0 := v_found_6) (is := [7]) C (.inl h0) (pxi_range1 C 1 px_int) (SubG.keep (SubG.keep (SubG.keep (SubG.keep (SubG.keep (SubG.keep (SubG.keep (SubG.keep (SubG.keep SubG.nil))))))))) (fun s7 x8 => (pxg_name C 7)) (fun s7 x8 => (pb_cons (pn_set C (.inl h0) 3 (px_add px_int (px_callW (k := 1) (f := fm_l_take) C 0 (cal_l_take F) (pxa_cons (px_nameC C 0) (pxa_cons (px_lenL C 2 (pxr_of (px_nameC C 6))) pxa_nil))))) fun v_many_9 => (pb_cons (pn_set C (.inl h0) 5 (px_ofL (pxo_rep (px_ofL (pxo_list (pxas_cons (px_ixL (px_nameC C 6) (px_sub (px_nameC C 3) px_int)) (pxas_nil (α := Int))))) (px_max2 C 3 (pxa_cons px_int (pxa_cons (px_sub (px_nameC C 3) (px_callW (k := 1) (f := fm_l_take) C 0 (cal_l_take F) (pxa_cons (px_nameC C 0) (pxa_cons px_int pxa_nil)))) pxa_nil)))))) fun v_some_10 => (pb_cons (pn_if (O := (List Int)) (Γ' := fun s13 => [SD.v (v_bag_here : Bag), SD.v (s13 : (List Int)), SD.v (v_heap_2 : (List Int)), SD.v (v_many_9 : Int), SD.v (p1.2 : (Dct Str Int)), SD.v (v_some_10 : (List Int)), SD.v (p1.1 : (List Int)), SD.v (x8 : Int), SD.v (v_way_3 : Int)]) (.inl h0) (pxt_le (px_add (px_lenL C 2 (pxr_of (px_nameC C 1))) (px_lenL C 2 (pxr_of (px_nameC C 5)))) (px_lenL C 2 (pxr_of (px_nameC C 6)))) (pb_cons (pn_set C (.inl h0) 1 (px_ofL (pxo_cat (px_nameC C 1) (px_nameC C 5)))) fun v_found_12 => (pb_nil (o := v_found_12) rfl (SubG.keep (SubG.keep (SubG.keep (SubG.keep (SubG.keep (SubG.keep (SubG.keep (SubG.keep (SubG.keep SubG.nil))))))))))) (pb_nil (o := s7) rfl (SubG.keep (SubG.keep (SubG.keep (SubG.keep (SubG.keep (SubG.keep (SubG.keep (SubG.keep (SubG.keep SubG.nil))))))))))) (fun s13 => (pb_nil (o := s13) rfl (SubG.keep (SubG.keep (SubG.keep (SubG.drop (SubG.keep (SubG.drop (SubG.keep (SubG.drop (SubG.keep SubG.nil)))))))))))))))) fun s7 => (pb_ret0 (.inl h0) (fun _ => rfl) (px_pair (pxa_cons (px_nameC C 6) (pxa_cons (px_tupleL C 4 (pxr_O (pxo_sortedI C 0 (pxr_of (px_nameC C 1))))) pxa_nil)))))))))))))
theorem cal_l_case {M : MG} (F : Facts M) : Cal M "_law_case" 4 (spW (m := MW (Option BagS × Unit)) (BagW W0) M fm_l_case) := by
  obtain ⟨fd, D⟩ := F.defG 19 rfl
  exact cal_of D (ok_l_case F D) (F.glo 49 rfl) (D.bindsN fun _ _ _ _ _ _ us hl => match us, hl with | [_], _ => rfl)

def m_law (v_script : Scr) : MW (Option BagS × Unit) Bool :=
  ((((pure v_script) >>= fun v => (pure ()) >>= fun vs => pure (v, vs)) >>= fm_l_bag) >>= fun v_bag_here_1 => ((((pure (6 : Int)) >>= fun i => must (In62 i) >>= fun _ => pure (rangeL 0 i)) >>= fun xs => forL (fun (s2 : Unit) x3 => (((((pure v_bag_here_1) >>= fun v => (pure ()) >>= fun vs => pure (v, vs)) >>= fm_l_case) >>= fun p4 => ((((((pure p4.1) >>= fun xs => pure xs) >>= fun v => (pure ()) >>= fun vs => pure (v, vs)) >>= fun v => lift (fm_Book_init v)) >>= fun o => pure (Book.mk o)) >>= fun v_book_5 => ((((((pure p4.1) >>= fun xs => pure (xs.length : Int)) >>= fun i => must (In62 i) >>= fun _ => pure (rangeL 0 i)) >>= mapC (fun x6 => (((pure p4.2) >>= fun xs => ((pure p4.1) >>= fun xs => (pure x6) >>= fun i => atM xs i) >>= fun y => pure (cnt y xs.l : Int)) >>= fun x => (pure x6) >>= fun y => pure (decide (x ≤ y))))) >>= fun xs => pure (xs.all id)) >>= fun v_due_8 => ((((pure (2 : Int)) >>= fun i => must (In62 i) >>= fun _ => pure (rangeL 0 i)) >>= fun xs => forL (fun (s9 : Unit) x10 => (((((pure v_book_5) >>= fun v => ((pure p4.2) >>= fun v => (pure ()) >>= fun vs => pure (v, vs)) >>= fun vs => pure (v, vs)) >>= fun v => lift (fm_is_garden v)) >>= fun v_found_11 => (((((pure v_found_11) >>= fun _ => pure true) >>= fun t => pure (!t)) >>= fun t => if t = true then pure true else ((pure v_found_11) >>= fun x => (pure v_due_8) >>= fun y => pure (!decide (x = y)))) >>= fun t => if t = true then ((pure false) >>= fun v => pure (Lp.ret v)) else (pure ()) >>= fun _ => (pure (Lp.go ())))) : MW (Option BagS × Unit) (Lp Unit Bool))) xs ()) >>= sumK (fun s9 => (((pure v_due_8) >>= fun x => ((((pure (1 : Int)) >>= fun i => (((pure p4.1) >>= fun xs => pure (xs.length : Int)) >>= fun x => (pure (1 : Int)) >>= fun y => pure (x + y)) >>= fun j => must (In62 i ∧ In62 j) >>= fun _ => pure (rangeL i j)) >>= mapC (fun x13 => (((pure v_book_5) >>= fun v => ((pure p4.2) >>= fun v => ((pure x13) >>= fun v => (pure ()) >>= fun vs => pure (v, vs)) >>= fun vs => pure (v, vs)) >>= fun vs => pure (v, vs)) >>= fun v => lift (fm_l_leads v)))) >>= fun xs => pure (xs.any id)) >>= fun y => pure (decide (x = y))) >>= fun t => if t = true then ((pure false) >>= fun v => pure (Lp.ret v)) else (pure ()) >>= fun _ => ((((pure p4.1) >>= fun v => ((pure p4.2) >>= fun v => (pure ()) >>= fun vs => pure (v, vs)) >>= fun vs => pure (v, vs)) >>= fun v => lift (fm_l_heap_after v)) >>= fun p16 => ((((pure p16.2) >>= fun x => (pure (0 : Int)) >>= fun y => pure (decide (y < x))) >>= fun t => if t = true then (((pure v_book_5) >>= fun v => ((pure p16.1) >>= fun v => (pure ()) >>= fun vs => pure (v, vs)) >>= fun vs => pure (v, vs)) >>= fun v => lift (fm_is_garden v)) else pure false) >>= fun t => if t = true then ((pure false) >>= fun v => pure (Lp.ret v)) else (pure ()) >>= fun _ => (pure (Lp.go ())))))) fun r => pure (Lp.ret r))))) : MW (Option BagS × Unit) (Lp Unit Bool))) xs ()) >>= sumK (fun s2 => (pure true)) fun r => pure (r)))
abbrev fm_law : (Scr × Unit) → MW (Option BagS × Unit) (Bool) := fun r => m_law r.1
theorem ok_law {M : MG} (F : Facts M) {f : Addr} {fd : FuncData} (D : FunD M.K "law" "law" (defArgs (S 27)) (defBody (S 27)) (defScope (S 27)) [] [] f fd) : FnS M 7 f fd ["_law_script"] (spW (m := MW (Option BagS × Unit)) (BagW W0) M fm_law) := by
  refine fn_body (m := MW (Option BagS × Unit)) (W := BagW W0) (N := ["_law_script", "_law_again", "_law_bag_here", "_law_behind", "_law_book", "_law_due", "_law_found", "_law_heap", "_law_k", "_law_many", "_law_spans_here", "_law_up"]) (ps := ["_law_script"]) (ks := [.loc, .loc, .loc, .loc, .cel, .loc, .loc, .cel, .loc, .no, .cel, .loc]) (gs := ["_law_bag", "_law_case", "Book", "is_garden", "_law_heap_after"]) (bs := ["range", "list", "all", "len", "isinstance", "bool", "any"]) (k := 6) fm_law D ⟨⟨rfl, rfl, rfl, by decide +kernel, rfl, by decide +kernel, by decide +kernel⟩, by decide +kernel, by decide +kernel, by decide +kernel⟩ (fun _ => rfl) (by intro q hq; simp only [List.mem_cons, List.not_mem_nil, or_false] at hq; rcases hq with rfl | rfl | rfl | rfl | rfl | rfl | rfl <;> first | exact F.free 28 rfl | exact F.free 20 rfl | exact F.free 22 rfl | exact F.free 21 rfl | exact F.free 10 rfl | exact F.free 12 rfl | exact F.free 50 rfl) ?_
  intro c C hM h0 Fr r
  obtain ⟨v_script, ⟨⟩⟩ := r
  subst hM
  show PB (m := MW (Option BagS × Unit)) c (BagW W0) [SD.v (v_script : Scr), .any, .any, .any, .any, .any, .any, .any, .any, .any, .any, .any] (defBody (S 27)) (m_law v_script) _
  unfold m_law
  exact (pb_cons (pn_set C (.inl h0) 2 (px_callW (k := 1) (f := fm_l_bag) C 0 (cal_l_bag F) (pxa_cons (px_nameC C 0) pxa_nil))) fun v_bag_here_1 => (pb_for (R := Bool) (inj := fun r => r) (Kr := fun r => .rt (.of r)) (Γs := fun (s2 : Unit) => [SD.v (v_script : Scr), .any, SD.v (v_bag_here_1 : Bag), .any, .any, .any, .any, .any, .any, .any, .any, .any]) (Γt := fun (s2 : Unit) x3 => [SD.v (v_script : Scr), .any, SD.v (v_bag_here_1 : Bag), .any, .any, .any, .any, .any, SD.v (x3 : Int), .any, .any, .any]) (s0 := ()) (is := [8]) C (.inl h0) (fun r => ⟨_, rfl⟩) (fun r => rfl) (pxi_range1 C 0 px_int) (SubG.keep (SubG.keep (SubG.keep (SubG.keep (SubG.keep (SubG.keep (SubG.keep (SubG.keep (SubG.keep (SubG.keep (SubG.keep (SubG.keep SubG.nil)))))))))))) (fun s2 x3 => (pxg_name C 8)) (fun s2 x3 => (pb_cons (pn_asg C (.inl h0) (Γ1 := fun (p4 : ((List Int) × (Tup Int))) => [SD.v (v_script : Scr), .any, SD.v (v_bag_here_1 : Bag), .any, .any, .any, .any, SD.v (p4.2 : (Tup Int)), SD.v (x3 : Int), .any, SD.v (p4.1 : (List Int)), .any]) (px_callW (k := 4) (f := fm_l_case) C 1 (cal_l_case F) (pxa_cons (px_nameC C 2) pxa_nil)) fun p4 => (pxg_pair C (pxgs_cons (pxg_name C 10) (pxgs_cons (pxg_name C 7) pxgs_nil)))) fun p4 => (pb_cons (pn_set C (.inl h0) 4 (px_ofI (α := Book) (mk := Book.mk) (fun _ => rfl) (pxo_make (k := 4) C 2 (kal_Book F) (pxa_cons (px_ofL (pxo_listL C 1 (pxr_of (px_nameC C 10)))) pxa_nil)))) fun v_book_5 => (pb_cons (pn_set C (.inl h0) 5 (px_all C 2 (pxr_O (pxo_lc C (by decide +kernel) (lc_all (ks' := [.no, .no, .no, .no, .no, .no, .no, .vis, .no, .loc, .vis, .no]) (gs' := []) (bs' := []) (own := [("_law_many", 9)]) (is := [9]) (Γx := fun x6 => [SD.v (v_script : Scr), .any, SD.v (v_bag_here_1 : Bag), .any, SD.v (v_book_5 : Book), .any, .any, SD.v (p4.2 : (Tup Int)), SD.v (x3 : Int), SD.v (x6 : Int), SD.v (p4.1 : (List Int)), .any]) C (pxi_range1 C 0 (px_lenL C 3 (pxr_of (px_nameC C 10)))) (by decide +kernel) (by decide +kernel) (by decide +kernel) (by decide +kernel) (fun q hq => absurd hq List.not_mem_nil) rfl rfl (fun _ _ _ _ _ _ C7 x6 => (pxg_name C7 9)) (fun _ _ _ _ _ _ C7 x6 => (px_le (px_countT C7 (by decide) (px_nameC C7 7) (px_ixL (px_nameC C7 10) (px_nameC C7 9))) (px_nameC C7 9)))))))) fun v_due_8 => (pb_for (R := Bool) (inj := fun r => Lp.ret r) (Kr := fun r => .rt (.of r)) (Γs := fun (s9 : Unit) => [SD.v (v_script : Scr), .any, SD.v (v_bag_here_1 : Bag), .any, SD.v (v_book_5 : Book), SD.v (v_due_8 : Bool), .any, SD.v (p4.2 : (Tup Int)), SD.v (x3 : Int), .any, SD.v (p4.1 : (List Int)), .any]) (Γt := fun (s9 : Unit) x10 => [SD.v (v_script : Scr), SD.v (x10 : Int), SD.v (v_bag_here_1 : Bag), .any, SD.v (v_book_5 : Book), SD.v (v_due_8 : Bool), .any, SD.v (p4.2 : (Tup Int)), SD.v (x3 : Int), .any, SD.v (p4.1 : (List Int)), .any]) (s0 := ()) (is := [1]) C (.inl h0) (fun r => ⟨_, rfl⟩) (fun r => rfl) (pxi_range1 C 0 px_int) (SubG.keep (SubG.keep (SubG.keep (SubG.keep (SubG.keep (SubG.keep (SubG.keep (SubG.keep (SubG.keep (SubG.keep (SubG.keep (SubG.keep SubG.nil)))))))))))) (fun s9 x10 => (pxg_name C 1)) (fun s9 x10 => (pb_cons (pn_set C (.inl h0) 6 (px_call (k := 4) (f := fm_is_garden) C 3 (cal_is_garden F) (pxa_cons (px_nameC C 4) (pxa_cons (px_nameC C 7) pxa_nil)))) fun v_found_11 => (pb_ifA (Γ' := fun (_ : Unit) => [SD.v (v_script : Scr), SD.v (x10 : Int), SD.v (v_bag_here_1 : Bag), .any, SD.v (v_book_5 : Book), SD.v (v_due_8 : Bool), SD.v (v_found_11 : Bool), SD.v (p4.2 : (Tup Int)), SD.v (x3 : Int), .any, SD.v (p4.1 : (List Int)), .any]) (.inl h0) (pxt_w (pxw_or (pxt_not (pxt_val (px_isiT C 4 5 true (px_nameC C 6) PyProof.Rows.Boot.«bool» (kit_ty (by decide +kernel))))) (pxw_or1 (pxt_neB (px_nameC C 6) (px_nameC C 5))))) (pb_ret (f := Lp.ret) (.inl h0) (fun _ => rfl) px_bool) (pb_nil (o := ()) rfl (SubG.keep (SubG.keep (SubG.keep (SubG.keep (SubG.keep (SubG.keep (SubG.keep (SubG.keep (SubG.keep (SubG.keep (SubG.keep (SubG.keep SubG.nil))))))))))))) (fun _ => (pb_nil (o := Lp.go ()) rfl (SubG.keep (SubG.drop (SubG.keep (SubG.keep (SubG.keep (SubG.keep (SubG.drop (SubG.keep (SubG.keep (SubG.keep (SubG.keep (SubG.keep SubG.nil))))))))))))))))) (fun s9 => (pb_ifA (Γ' := fun (_ : Unit) => [SD.v (v_script : Scr), .any, SD.v (v_bag_here_1 : Bag), .any, SD.v (v_book_5 : Book), SD.v (v_due_8 : Bool), .any, SD.v (p4.2 : (Tup Int)), SD.v (x3 : Int), .any, SD.v (p4.1 : (List Int)), .any]) (.inl h0) (pxt_eqB (px_nameC C 5) (px_any C 6 (pxr_O (pxo_lc C (by decide +kernel) (lc_all (ks' := [.no, .no, .no, .no, .vis, .no, .no, .vis, .no, .loc, .no, .no]) (gs' := ["_law_leads"]) (bs' := []) (own := [("_law_many", 9)]) (is := [9]) (Γx := fun x13 => [SD.v (v_script : Scr), .any, SD.v (v_bag_here_1 : Bag), .any, SD.v (v_book_5 : Book), SD.v (v_due_8 : Bool), .any, SD.v (p4.2 : (Tup Int)), SD.v (x3 : Int), SD.v (x13 : Int), SD.v (p4.1 : (List Int)), .any]) C (pxi_range2 C 0 px_int (px_add (px_lenL C 3 (pxr_of (px_nameC C 10))) px_int)) (by decide +kernel) (by decide +kernel) (by decide +kernel) (by decide +kernel) (fun q hq => absurd hq List.not_mem_nil) rfl rfl (fun _ _ _ _ _ _ C14 x13 => (pxg_name C14 9)) (fun _ _ _ _ _ _ C14 x13 => (px_call (k := 6) (f := fm_l_leads) C14 0 (cal_l_leads F) (pxa_cons (px_nameC C14 4) (pxa_cons (px_nameC C14 7) (pxa_cons (px_nameC C14 9) pxa_nil)))))))))) (pb_ret (f := Lp.ret) (.inl h0) (fun _ => rfl) px_bool) (pb_nil (o := ()) rfl (SubG.keep (SubG.keep (SubG.keep (SubG.keep (SubG.keep (SubG.keep (SubG.keep (SubG.keep (SubG.keep (SubG.keep (SubG.keep (SubG.keep SubG.nil))))))))))))) (fun _ => (pb_cons (pn_asg C (.inl h0) (Γ1 := fun (p16 : ((Tup Int) × Int)) => [SD.v (v_script : Scr), .any, SD.v (v_bag_here_1 : Bag), SD.v (p16.1 : (Tup Int)), SD.v (v_book_5 : Book), SD.v (v_due_8 : Bool), .any, SD.v (p4.2 : (Tup Int)), SD.v (x3 : Int), .any, SD.v (p4.1 : (List Int)), SD.v (p16.2 : Int)]) (px_call (k := 1) (f := fm_l_heap_after) C 4 (cal_l_heap_after F) (pxa_cons (px_nameC C 10) (pxa_cons (px_nameC C 7) pxa_nil))) fun p16 => (pxg_pair C (pxgs_cons (pxg_name C 3) (pxgs_cons (pxg_name C 11) pxgs_nil)))) fun p16 => (pb_ifA (Γ' := fun (_ : Unit) => [SD.v (v_script : Scr), .any, SD.v (v_bag_here_1 : Bag), SD.v (p16.1 : (Tup Int)), SD.v (v_book_5 : Book), SD.v (v_due_8 : Bool), .any, SD.v (p4.2 : (Tup Int)), SD.v (x3 : Int), .any, SD.v (p4.1 : (List Int)), SD.v (p16.2 : Int)]) (.inl h0) (pxt_w (pxw_and (pxt_gt (px_nameC C 11) px_int) (pxw_and1 (pxt_val (px_call (k := 4) (f := fm_is_garden) C 3 (cal_is_garden F) (pxa_cons (px_nameC C 4) (pxa_cons (px_nameC C 3) pxa_nil))))))) (pb_ret (f := Lp.ret) (.inl h0) (fun _ => rfl) px_bool) (pb_nil (o := ()) rfl (SubG.keep (SubG.keep (SubG.keep (SubG.keep (SubG.keep (SubG.keep (SubG.keep (SubG.keep (SubG.keep (SubG.keep (SubG.keep (SubG.keep SubG.nil))))))))))))) (fun _ => (pb_nil (o := Lp.go ()) rfl (SubG.keep (SubG.keep (SubG.keep (SubG.drop (SubG.drop (SubG.drop (SubG.keep (SubG.drop (SubG.drop (SubG.keep (SubG.drop (SubG.drop SubG.nil)))))))))))))))))))))))) (fun s2 => (pb_ret0 (.inl h0) (fun _ => rfl) px_bool))))
theorem cal_law {M : MG} (F : Facts M) : Cal M "law" 7 (spW (m := MW (Option BagS × Unit)) (BagW W0) M fm_law) := by
  obtain ⟨fd, D⟩ := F.defG 20 rfl
  exact cal_of D (ok_law F D) (F.glo 51 rfl) (D.bindsN fun _ _ _ _ _ _ us hl => match us, hl with | [_], _ => rfl)

end LW
namespace LW
open PySem L2 SP
open PyM (den lift handle)

theorem t_whole (x : Int) : m_is_whole x = pure true := rfl
theorem t_between (x lo hi : Int) : m_is_between x lo hi = pure (decide (lo ≤ x ∧ x ≤ hi)) := by
  unfold m_is_between
  simp only [pure_bind, em_lift, fm_is_whole, t_whole, if_true]
  by_cases h : lo ≤ x
  · simp [h]
  · simp [h]
theorem t_length (x : Int) : m_is_length x = pure (decide (1 ≤ x ∧ x ≤ 1000000000)) := by
  unfold m_is_length
  simp only [pure_bind, em_lift, fm_is_between, t_between]
theorem t_init {xs : List Int} (h1 : 1 ≤ xs.length) (h2 : xs.length ≤ 40) (h3 : ∀ x ∈ xs, 1 ≤ x ∧ x ≤ 1000000000) : m_Book_init xs = pure (toT xs) := by
  unfold m_Book_init
  have e : mapC (fun x2 => (lift (fm_is_length (x2, ())) : EM Bool)) xs = pure (xs.map fun x => decide (1 ≤ x ∧ x ≤ 1000000000)) :=
    em_mapC (by omega) fun x _ => by simp only [pure_bind, em_lift, fm_is_length, t_length]
  simp only [pure_bind, bind_assoc, bind_pure, e]
  have a1 : decide ((1 : Int) ≤ (xs.length : Int)) = true := by simp; omega
  have a2 : decide ((xs.length : Int) ≤ 40) = true := by simp; omega
  have a3 : ((xs.map fun x => decide (1 ≤ x ∧ x ≤ 1000000000)).all id) = true := by
    rw [List.all_map, List.all_eq_true]
    intro x hx
    exact decide_eq_true (h3 x hx)
  simp only [a1, a2, a3, Bool.not_true, Bool.false_eq_true, if_false, if_true, pure_bind]
theorem t_len (b : Book) : m_Book_len b = pure (b.rows.l.length : Int) := rfl
theorem t_sleep {b : Book} {k : Int} (h1 : 1 ≤ k) (h2 : k ≤ b.rows.l.length) : m_Book_sleep b k = pure (b.rows.l[(k - 1).toNat]'(by omega)) := by
  unfold m_Book_sleep
  have a : decide (1 ≤ k ∧ k ≤ (b.rows.l.length : Int)) = true := decide_eq_true ⟨h1, h2⟩
  simp only [pure_bind, em_lift, fm_is_between, t_between, a, Bool.not_true, Bool.false_eq_true, if_false]
  exact em_atM (atI_pos (by omega) (by omega))
def due (b : Book) (k : Int) : Int := b.rows.l.getD (k - 1).toNat 0
theorem t_sleep' {b : Book} {k : Int} (h1 : 1 ≤ k) (h2 : k ≤ b.rows.l.length) : m_Book_sleep b k = pure (due b k) := by
  rw [t_sleep h1 h2]
  congr 1
  unfold due
  rw [List.getD_eq_getElem?_getD, List.getElem?_eq_getElem (by omega)]; rfl
theorem cnt_erase {y : Int} {xs : List Int} (h : y ∈ xs) : cnt y (xs.erase y) + 1 = cnt y xs := by
  unfold cnt
  rw [List.countP_eq_length_filter, List.countP_eq_length_filter]
  have e : ∀ l : List Int, (l.filter fun z => decide (z = y)).length = l.count y := fun l => by
    rw [List.count_eq_countP, List.countP_eq_length_filter]
    congr 1
  rw [e, e, List.count_erase_self]
  have := List.count_pos_iff.mpr h
  omega
theorem t_ahead {b : Book} {heap : Tup Int} {k : Int} (h1 : 1 ≤ k) (h2 : k ≤ b.rows.l.length) (h4 : b.rows.l.length ≤ 40) (h3 : heap.l.length ≤ 40) : ∃ r : Option (Tup Int), m_heap_ahead b heap k = pure r ∧ r.isSome = decide (k ≤ (cnt (due b k) heap.l : Int)) := by
  unfold m_heap_ahead
  have a0 : decide (k = 0) = false := by simp; omega
  have a1 : decide ((b.rows.l.length : Int) < k) = false := by simp; omega
  have a2 : (0 : Int) ≤ (b.rows.l.length : Int) ∧ (b.rows.l.length : Int) < 2 ^ 63 := by omega
  simp only [pure_bind, bind_assoc, bind_pure, em_lift, fm_Book_len, t_len, fm_Book_sleep, t_sleep' h1 h2, a0, Bool.false_eq_true, if_false, em_must a2, a1]
  by_cases hc : (cnt (due b k) heap.l : Int) < k
  · refine ⟨none, ?_, by simp; omega⟩
    simp only [hc, decide_true, if_true]
  · simp only [hc, decide_false, Bool.false_eq_true, if_false, pure_bind, em_must (show In62 k from ⟨by omega, by omega⟩)]
    have hf : forN (fun (s4 : List Int) (x5 : Int) => (must (due b k ∈ s4) >>= fun _ => pure (s4.erase (due b k)) : EM (List Int))) (rangeL 0 k) heap.l = pure ((rangeL 0 k).foldl (fun s x => s.erase (due b k)) heap.l) := by
      refine em_forN (fun s xs => xs.length ≤ cnt (due b k) s) (by rw [length_rangeL]; omega) fun s x xs hs => ?_
      have hm : due b k ∈ s := by
        rw [List.length_cons] at hs
        have : 0 < s.countP fun z => decide (z = due b k) := by unfold cnt at hs; omega
        obtain ⟨z, hz, e⟩ := List.countP_pos_iff.mp this
        exact of_decide_eq_true e ▸ hz
      rw [em_must hm, pure_bind]
      refine ⟨rfl, ?_⟩
      have := cnt_erase hm
      rw [List.length_cons] at hs
      omega
    have hle : ∀ (xs : List Int) (s : List Int), (xs.foldl (fun s x => s.erase (due b k)) s).length ≤ s.length := by
      intro xs
      induction xs with
      | nil => intro s; exact Nat.le_refl _
      | cons x xs ih => intro s; exact Nat.le_trans (ih _) (List.length_erase_le ..)
    have hl := hle (rangeL 0 k) heap.l
    generalize hg : (rangeL 0 k).foldl (fun s x => s.erase (due b k)) heap.l = left at hf hl
    have hm : mapC (fun x7 => (pure (x7 + 1) : EM Int)) left = pure (left.map fun x => x + 1) := em_mapC (by omega) fun x _ => rfl
    have e1 : llen [(1 : Int)].length := by unfold llen; rw [sizeLine_eq]; decide
    have e2 : repOk [(1 : Int)].length k := ⟨by omega, by omega, by simp [sizeLine_eq]; omega⟩
    have e3 : llen ((repL [(1 : Int)] k).length + (left.map fun x => x + 1).length) := by
      unfold llen repL
      simp [sizeLine_eq]
      omega
    refine ⟨some (toT (repL [(1 : Int)] k ++ left.map fun x => x + 1)), ?_, by simp; omega⟩
    simp only [pure_bind, em_must e1, em_must e2]
    simp only [hf, pure_bind, hm, em_must e3]
theorem t_garden {b : Book} {heap : Tup Int} (h4 : b.rows.l.length ≤ 40) : m_is_garden b heap = pure ((rangeL 1 (b.rows.l.length + 1)).all fun k => decide ((cnt (due b k) heap.l : Int) < k)) := by
  unfold m_is_garden
  have a2 : (0 : Int) ≤ (b.rows.l.length : Int) ∧ (b.rows.l.length : Int) < 2 ^ 63 := by omega
  have a3 : In62 1 ∧ In62 ((b.rows.l.length : Int) + 1) := ⟨⟨by decide, by decide⟩, ⟨by omega, by omega⟩⟩
  have hm : mapC (fun x1 => (lift (fm_Book_sleep (b, (x1, ()))) >>= fun y => pure (decide ((cnt y heap.l : Int) < x1)) : EM Bool)) (rangeL 1 (b.rows.l.length + 1)) = pure ((rangeL 1 (b.rows.l.length + 1)).map fun k => decide ((cnt (due b k) heap.l : Int) < k)) :=
    em_mapC (by rw [length_rangeL]; omega) fun x hx => by
      obtain ⟨h1, h2⟩ := mem_rangeL.mp hx
      simp only [em_lift, fm_Book_sleep, t_sleep' h1 (show x ≤ (b.rows.l.length : Int) by omega), pure_bind]
  simp only [pure_bind, bind_assoc, bind_pure, em_lift, fm_Book_len, t_len, em_must a2, em_must a3] at hm ⊢
  rw [hm, pure_bind, List.all_map]
  rfl
theorem t_back {b : Book} {heap : Tup Int} {k : Int} (h1 : 1 ≤ k) (h2 : k ≤ b.rows.l.length) (h4 : b.rows.l.length ≤ 40) (h3 : heap.l.length ≤ 40) :
    (k ≤ (cnt (due b k) heap.l : Int) ∧ ∃ r, r ≠ [] ∧ m_heaps_back b heap [k] = pure r) ∨ (¬ k ≤ (cnt (due b k) heap.l : Int) ∧ m_heaps_back b heap [k] = .error (some ⟨"NoWay", [("at", Scal.toV (0 : Int))]⟩)) := by
  obtain ⟨r, hr, hs⟩ := t_ahead h1 h2 h4 h3
  have e1 : llen [heap].length := by unfold llen; rw [sizeLine_eq]; show 1 ≤ 16777216; decide
  have e2 : In62 (([k].length : Nat) : Int) := ⟨by simp, by simp⟩
  have e3 : (rangeL 0 (([k].length : Nat) : Int)).reverse = [0] := by rfl
  have e4 : (atM [heap] (-1) : EM (Tup Int)) = pure heap := em_atM (by rfl)
  have e5 : (atM [k] 0 : EM Int) = pure k := em_atM (by rfl)
  unfold m_heaps_back
  simp only [pure_bind, bind_assoc, bind_pure, em_must e1, em_must e2, e3, forN, e4, e5, em_lift, fm_heap_ahead, hr]
  cases r with
  | none =>
    right
    refine ⟨by simpa using hs.symm, rfl⟩
  | some y =>
    left
    refine ⟨by simpa using hs.symm, [y, heap], by simp, ?_⟩
    have e6 : List.length [heap] < sizeLine := by rw [sizeLine_eq]; show 1 < 16777216; decide
    simp only [optC, em_must e6, pure_bind]
    rfl
theorem t_leads {b : Book} {heap : Tup Int} {k : Int} (h1 : 1 ≤ k) (h2 : k ≤ b.rows.l.length) (h4 : b.rows.l.length ≤ 40) (h3 : heap.l.length ≤ 40) : m_l_leads b heap k = pure (decide (k ≤ (cnt (due b k) heap.l : Int))) := by
  unfold m_l_leads
  have e1 : llen [k].length := by unfold llen; rw [sizeLine_eq]; show 1 ≤ 16777216; decide
  rcases t_back h1 h2 h4 h3 with ⟨hk, r, hr, e⟩ | ⟨hk, e⟩
  · simp only [pure_bind, bind_assoc, bind_pure, em_must e1, em_lift, fm_heaps_back, e, hk, decide_true]
    have : (!decide (r = [])) = true := by simp [hr]
    rw [this]; rfl
  · simp only [pure_bind, bind_assoc, bind_pure, em_must e1, em_lift, fm_heaps_back, e, hk, decide_false]
    rfl
end LW
namespace LW
open PySem L2 SP
open PyM (den lift handle)

def up (heap : List Int) : Int := (cnt 1 heap : Int)
def bh (spans heap : List Int) : List Int := ((heap.filter fun x => decide (1 < x)).map fun x => x - 1) ++ repL [spans.getD (max2 0 (up heap - 1)).toNat 0] (up heap)
theorem cnt_le {y : Int} {xs : List Int} : cnt y xs ≤ xs.length := List.countP_le_length
theorem up_le {heap : List Int} : 0 ≤ up heap ∧ up heap ≤ heap.length := ⟨Int.natCast_nonneg _, Int.ofNat_le.mpr cnt_le⟩
theorem repL_eq {y k : Int} : repL [y] k = List.replicate k.toNat y := by
  unfold repL
  induction k.toNat with
  | zero => rfl
  | succ n ih => rw [List.replicate_succ, List.flatten_cons, ih]; rfl
theorem flt_len : ∀ heap : List Int, (heap.filter fun x => decide (1 < x)).length + cnt 1 heap ≤ heap.length
  | [] => by simp [cnt]
  | x :: r => by
    have ih := flt_len r
    unfold cnt at ih ⊢
    rw [List.countP_cons, List.length_cons]
    by_cases h1 : 1 < x
    · rw [List.filter_cons_of_pos (by simpa using h1), List.length_cons]
      have : decide (x = 1) = false := by simp; omega
      rw [this]; simp; omega
    · rw [List.filter_cons_of_neg (by simpa using h1)]
      split <;> omega
theorem bh_len {spans heap : List Int} : (bh spans heap).length ≤ heap.length := by
  unfold bh
  rw [List.length_append, List.length_map, repL_eq, List.length_replicate]
  have := flt_len heap
  unfold up
  omega
theorem max2_eq {i j : Int} : max2 i j = max i j := by unfold max2; omega
theorem t_afterL {spans heap : List Int} (h1 : 1 ≤ spans.length) (h2 : heap.length ≤ spans.length) (h3 : heap.length ≤ 40) : m_l_heap_after_L spans heap = pure (toT (sortI (bh spans heap)), up heap) := by
  unfold m_l_heap_after_L
  have u := up_le (heap := heap)
  have hf : filtC (fun x2 => (pure (decide (1 < x2)) : EM Bool)) (fun x2 => (pure (x2 - 1) : EM Int)) heap = pure ((heap.filter fun x => decide (1 < x)).map fun x => x - 1) := em_filtC (by omega) (fun _ _ => rfl) fun _ _ _ => rfl
  have e1 : (atM spans (max2 0 (up heap - 1)) : EM Int) = pure (spans.getD (max2 0 (up heap - 1)).toNat 0) := by
    rw [max2_eq]
    rw [em_atM (atI_pos (by omega) (by omega)), List.getD_eq_getElem?_getD, List.getElem?_eq_getElem (by omega)]; rfl
  have e2 : ∀ y : Int, llen [y].length := fun y => by unfold llen; rw [sizeLine_eq]; show 1 ≤ 16777216; decide
  have e3 : ∀ y : Int, repOk [y].length (up heap) := fun y => ⟨by omega, by omega, by simp [sizeLine_eq]; omega⟩
  have e4 : llen ((((heap.filter fun x => decide (1 < x)).map fun x => x - 1)).length + (repL [spans.getD (max2 0 (up heap - 1)).toNat 0] (up heap)).length) := by
    unfold llen
    have := bh_len (spans := spans) (heap := heap)
    unfold bh at this
    rw [List.length_append] at this
    rw [sizeLine_eq]; omega
  simp only [pure_bind, bind_assoc, bind_pure] at hf ⊢
  simp only [hf, pure_bind]
  change (atM spans (max2 0 (up heap - 1)) >>= _) = _
  simp only [e1, pure_bind, em_must (e2 _)]
  change (must (repOk _ (up heap)) >>= _) = _
  simp only [em_must (e3 _), pure_bind]
  change (must (llen ((((heap.filter fun x => decide (1 < x)).map fun x => x - 1)).length + (repL [spans.getD (max2 0 (up heap - 1)).toNat 0] (up heap)).length)) >>= _) = _
  simp only [em_must e4, pure_bind]
  rfl
theorem t_after {spans : List Int} {heap : Tup Int} (h1 : 1 ≤ spans.length) (h2 : heap.l.length ≤ spans.length) (h3 : heap.l.length ≤ 40) : m_l_heap_after spans heap = pure (toT (sortI (bh spans heap.l)), up heap.l) := by
  have e : m_l_heap_after spans heap = m_l_heap_after_L spans heap.l := rfl
  rw [e]; exact t_afterL h1 h2 h3
theorem cnt_perm {y : Int} {xs ys : List Int} (h : xs.Perm ys) : cnt y xs = cnt y ys := h.countP_eq _
theorem bh_cnt {spans heap : List Int} (h : 0 < up heap) : up heap ≤ (cnt (spans.getD (up heap - 1).toNat 0) (sortI (bh spans heap)) : Int) := by
  rw [cnt_perm (sortI_perm _)]
  unfold bh cnt
  have e : max2 0 (up heap - 1) = up heap - 1 := by rw [max2_eq]; omega
  rw [e, List.countP_append, repL_eq, List.countP_replicate]
  simp
  omega
end LW
namespace LW
open PySem L2 SP
open PyM (den lift handle)
theorem t_spans {a : Addr} {k : Nat} {many most : Int} (h1 : 0 ≤ many) (h2 : many ≤ 40) (h3 : 1 ≤ most) (h4 : most ≤ 1000000000) (hk : k + 200 ≤ 1000000000) : Tr () a k (k + 200) (m_l_spans ⟨a⟩ many most) fun r => r.length = many.toNat ∧ ∀ x ∈ r, 1 ≤ x ∧ x ≤ 1000000000 := by
  unfold m_l_spans
  simp only [pure_bind, bind_assoc, bind_pure, fm_l_take]
  refine Tr.bind (Tr.take (by omega) (by omega) (by omega)) fun way hw => ?_
  refine Tr.ite (fun ht => ?_) fun ht => ?_
  · refine Tr.must (in62 (by omega) (by omega)) ?_
    rw [mw_mapC (h := fun x => x + 1) (by rw [length_rangeL]; omega) fun _ _ => rfl]
    refine (Tr.pure ⟨by rw [List.length_map, length_rangeL]; omega, fun x hx => ?_⟩).imp (fun _ h => h) (by omega)
    obtain ⟨y, hy, rfl⟩ := List.mem_map.mp hx
    have := mem_rangeL.mp hy
    omega
  · have ht := of_decide_eq_false ht
    refine Tr.bind (Tr.take (by omega) (by omega) (by omega)) fun one ho => ?_
    refine Tr.must (in62 (by omega) (by omega)) ?_
    have z := Tr.forN (d := ()) (a := a) (k'' := k + 200) (fun (s : List Int) xs => s.length + xs.length = many.toNat ∧ ∀ x ∈ s, 1 ≤ x ∧ x ≤ 1000000000) 4 (xs := rangeL 0 many) (s := []) (k := k + 2) ⟨by rw [length_rangeL]; simp, by simp⟩ (by rw [length_rangeL]; omega)
      (f := fun s5 x6 => do
            let x_2 ← takeM ({ a := a }, min2 4 most, ())
            let x_3 ← takeM ({ a := a }, most, ())
            must (llen [1, most].length)
            let x_5 ← takeM ({ a := a }, 2, ())
            let x_6 ← atM [1, most] x_5
            must (llen [1 + x_2, 1 + x_3, 1 + one, x_6].length)
            let x ← atM [1 + x_2, 1 + x_3, 1 + one, x_6] (way - 2)
            must (s5.length < sizeLine)
            pure (s5 ++ [x])) fun s x xs k' hs hk' => ?_
    · exact z.imp (fun r hr => ⟨by simpa using hr.1, hr.2⟩) (by rw [length_rangeL]; omega)
    · have hm : 1 ≤ min2 4 most ∧ min2 4 most ≤ most := by unfold min2; split <;> omega
      refine Tr.imp (k' := k' + 1 + 1 + 1) ?_ (fun _ h => h) (by omega)
      refine Tr.bind (Tr.take (by omega) (by omega) (by omega)) fun x2 hx2 => ?_
      refine Tr.bind (Tr.take (by omega) (by omega) (by omega)) fun x3 hx3 => ?_
      refine Tr.must (llen_of (by simp)) ?_
      refine Tr.bind (Tr.take (by omega) (by omega) (by omega)) fun x5 hx5 => ?_
      refine Tr.atM (by omega) (by simp; omega) fun x6 hx6 => ?_
      refine Tr.must (llen_of (by simp)) ?_
      refine Tr.atM (by omega) (by simp; omega) fun y hy => ?_
      refine Tr.must (slt_of (by have := hs.1; simp at this; omega)) ?_
      refine Tr.pure ⟨by have := hs.1; simp at this ⊢; omega, fun z hz => ?_⟩
      rcases List.mem_append.mp hz with hz | hz
      · exact hs.2 z hz
      · rw [List.mem_singleton.mp hz]
        have q : x6 = 1 ∨ x6 = most := by simpa using hx6
        simp only [List.mem_cons, List.not_mem_nil, or_false] at hy
        omega
theorem t_rests {a : Addr} {k : Nat} {many most : Int} (h1 : 0 ≤ many) (h2 : many ≤ 40) (h3 : 1 ≤ most) (h4 : most ≤ 1000000000) (hk : k + 200 ≤ 1000000000) : Tr () a k (k + 200) (m_l_rests ⟨a⟩ many most) fun r => r.length = many.toNat := by
  unfold m_l_rests
  simp only [pure_bind, bind_assoc, bind_pure, fm_l_take]
  refine Tr.bind (Tr.take (by omega) (by omega) (by omega)) fun way hw => ?_
  refine Tr.bind (Tr.take (by omega) (by omega) (by omega)) fun one ho => ?_
  refine Tr.bind (Tr.take (by omega) (by omega) (by omega)) fun two ho2 => ?_
  refine Tr.must (in62 (by omega) (by omega)) ?_
  refine Tr.imp (Tr.forN (k'' := k + 200) (fun (s : List Int) xs => s.length + xs.length = many.toNat) 4 (by rw [length_rangeL]; simp) (by rw [length_rangeL]; omega) fun s x xs k' hs hk' => ?_) (fun r hr => by simpa using hr) (by rw [length_rangeL]; omega)
  have hm : 1 ≤ min2 3 most ∧ min2 3 most ≤ most := by unfold min2; split <;> omega
  simp only [List.length_cons] at hs
  refine Tr.imp (k' := k' + 1 + 1 + 1) ?_ (fun _ h => h) (by omega)
  refine Tr.bind (Tr.take (by omega) (by omega) (by omega)) fun x2 hx2 => ?_
  refine Tr.bind (Tr.take (by omega) (by omega) (by omega)) fun x3 hx3 => ?_
  refine Tr.must (llen_of (by simp)) ?_
  refine Tr.bind (Tr.take (by omega) (by omega) (by omega)) fun x5 hx5 => ?_
  refine Tr.atM (by omega) (by simp; omega) fun x6 hx6 => ?_
  refine Tr.must (llen_of (by simp)) ?_
  refine Tr.atM (by omega) (by simp; omega) fun y hy => ?_
  refine Tr.must (slt_of (by omega)) ?_
  exact Tr.pure (by simp; omega)
theorem letters_len : ("abcdefghijklmnopqrstuvwxyz" : Str).cps.toList.length = 26 := by decide +kernel
theorem letter {i : Int} (h0 : 0 ≤ i) (h1 : i < 26) : ∃ ch, L2.atI ("abcdefghijklmnopqrstuvwxyz" : Str).cps.toList i = some ch := ⟨_, atI_pos h0 (by rw [letters_len]; exact h1)⟩
theorem t_names {a : Addr} {k : Nat} {many : Int} (h1 : 0 ≤ many) (h2 : many ≤ 40) (hk : k + 200 ≤ 1000000000) : Tr () a k (k + 200) (m_l_names ⟨a⟩ many) fun r => r.length = many.toNat := by
  have l1 : llen ("abcdefghijklmnopqrstuvwxyz" : Str).length := llen_of (by decide +kernel)
  unfold m_l_names
  simp only [pure_bind, bind_assoc, bind_pure, fm_l_take]
  refine Tr.bind (Tr.take (by omega) (by omega) (by omega)) fun turn ht => ?_
  refine Tr.bind (Tr.take (by omega) (by omega) (by omega)) fun i hi => ?_
  refine Tr.must l1 ?_
  obtain ⟨ch, hch⟩ := letter hi.1 hi.2
  rw [mw_opt hch]
  simp only [pure_bind]
  refine Tr.bind (Tr.take (by omega) (by omega) (by omega)) fun times htm => ?_
  refine Tr.must (smul_of (by rw [chr_len]; omega) (by omega) (by omega)) ?_
  have htl : (mulS (chrS ch) times).length ≤ 6 := Nat.le_trans mulS_len (by rw [chr_len]; omega)
  generalize mulS (chrS ch) times = tail at htl
  refine Tr.bind (Tr.take (by omega) (by omega) (by omega)) fun way hw => ?_
  refine Tr.must (in62 (by omega) (by omega)) ?_
  refine Tr.imp (Tr.forN (k'' := k + 200) (fun (s : List Str) xs => s.length + xs.length = many.toNat ∧ ∀ x ∈ xs, 0 ≤ x ∧ x < many) 1 ⟨by rw [length_rangeL]; simp, fun x hx => mem_rangeL.mp hx⟩ (by rw [length_rangeL]; omega) fun s x xs k' hs hk' => ?_) (fun r hr => by simpa using hr.1) (by rw [length_rangeL]; omega)
  obtain ⟨hs, hx⟩ := hs
  simp only [List.length_cons] at hs
  have hx0 := hx x List.mem_cons_self
  refine Tr.imp (k' := k') ?_ (fun _ h => h) (by omega)
  refine Tr.must (show modOk (turn + x) 26 from by show (0 : Int) < 26; omega) ?_
  refine Tr.must l1 ?_
  obtain ⟨ch2, hch2⟩ := letter (i := (turn + x) % 26) (by omega) (by omega)
  rw [mw_opt hch2]
  simp only [pure_bind]
  have hl1 : (chrS ch2 ++ tail).length ≤ 7 := by rw [PySem.Str.length_append, chr_len]; omega
  have hl2 : (tail ++ chrS ch2).length ≤ 7 := by rw [PySem.Str.length_append, chr_len]; omega
  refine Tr.must (llen_of (by rw [chr_len]; omega)) ?_
  refine Tr.must (llen_of (by rw [chr_len]; omega)) ?_
  refine Tr.must (llen_of (by simp)) ?_
  refine Tr.atM (by omega) (by simp; omega) fun y hy => ?_
  have hy7 : y.length ≤ 7 := by
    rcases List.mem_cons.mp hy with e | e
    · rw [e]; exact hl1
    · rw [List.mem_singleton.mp e]; exact hl2
  refine Tr.must (divOk_of (by omega) (by omega)) ?_
  have hb : ("b" : Str).length = 1 := by decide +kernel
  refine Tr.must (smul_of (by rw [hb]; omega) (by omega) (by omega)) ?_
  have hbl : (mulS ("b" : Str) (x / 26)).length ≤ 2 := Nat.le_trans mulS_len (by rw [hb]; omega)
  refine Tr.must (llen_of (by omega)) ?_
  refine Tr.must (slt_of (by omega)) ?_
  exact Tr.pure ⟨by simp; omega, fun z hz => hx z (List.mem_cons_of_mem _ hz)⟩
theorem putD_len {κ α : Type} [DecidableEq κ] {l : List (κ × α)} {k : κ} {v : α} : (putD l k v).length ≤ l.length + 1 := by
  unfold putD
  split
  · simp
  · simp
theorem mergeD_len {κ α : Type} [DecidableEq κ] : ∀ {more l : List (κ × α)}, (mergeD l more).length ≤ l.length + more.length
  | [], l => by unfold mergeD; simp
  | p :: r, l => by
    have h := mergeD_len (more := r) (l := putD l p.1 p.2)
    have h2 := putD_len (l := l) (k := p.1) (v := p.2)
    unfold mergeD at h ⊢
    rw [List.foldl_cons, List.length_cons]
    omega
theorem t_hall {a : Addr} {k : Nat} {many most longest : Int} (h1 : 1 ≤ many) (h2 : many ≤ 40) (h3 : 1 ≤ most) (h4 : most ≤ 1000000000) (h5 : 1 ≤ longest) (h6 : longest ≤ 1000000000) (hk : k + 1000 ≤ 1000000000) :
    Tr () a k (k + 1000) (m_l_hall ⟨a⟩ many most longest) fun r => 1 ≤ r.1.length ∧ r.1.length ≤ 40 ∧ (∀ x ∈ r.1, 1 ≤ x ∧ x ≤ 1000000000) ∧ r.2.l.length ≤ r.1.length := by
  unfold m_l_hall
  simp only [pure_bind, bind_assoc, bind_pure, fm_l_take, fm_l_spans, fm_l_names, fm_l_rests]
  refine Tr.imp (k' := k + 1 + 200 + 1 + 1 + 200 + 200) ?_ (fun _ h => h) (by omega)
  refine Tr.bind (Tr.take (by omega) (by omega) (by omega)) fun sz hsz => ?_
  refine Tr.bind (t_spans (by omega) (by omega) (by omega) (by omega) (by omega)) fun spans hsp => ?_
  refine Tr.bind (Tr.take (by omega) (by omega) (by omega)) fun th hth => ?_
  refine Tr.must (llen_of (by simp)) ?_
  refine Tr.bind (Tr.take (by omega) (by omega) (by omega)) fun q hq => ?_
  refine Tr.atM (by unfold b2I; split <;> omega) (by unfold b2I; split <;> simp) fun y hy => ?_
  have hy2 : 0 ≤ y ∧ y ≤ 1 + sz := by
    simp only [List.mem_cons, List.not_mem_nil, or_false] at hy
    omega
  refine Tr.bind (t_names (by omega) (by omega) (by omega)) fun names hn => ?_
  refine Tr.bind (t_rests (by omega) (by omega) (by omega) (by omega) (by omega)) fun rests hr => ?_
  refine Tr.must (llen_of (by omega)) ?_
  refine Tr.pure ⟨by show 1 ≤ spans.length; omega, by show spans.length ≤ 40; omega, hsp.2, ?_⟩
  show (mergeD [] (names.zip rests)).length ≤ spans.length
  refine Nat.le_trans mergeD_len ?_
  simp
  omega
end LW
namespace LW
open PySem L2 SP
open PyM (den lift handle)
theorem sortI_len {xs : List Int} : (sortI xs).length = xs.length := (sortI_perm xs).length_eq
abbrev CaseP (r : List Int × Tup Int) : Prop := 1 ≤ r.1.length ∧ r.1.length ≤ 40 ∧ (∀ x ∈ r.1, 1 ≤ x ∧ x ≤ 1000000000) ∧ r.2.l.length ≤ r.1.length
theorem t_caseE {a : Addr} {k k' : Nat} {sp : List Int} {h : Tup Int} (hp : CaseP (sp, h)) (hk : k ≤ k') : Tr () a k k' (pure (sp, h)) CaseP := (Tr.pure hp).imp (fun _ h => h) hk
theorem t_case {a : Addr} {k : Nat} (hk : k + 1100 ≤ 1000000000) : Tr () a k (k + 1100) (m_l_case ⟨a⟩) CaseP := by
  unfold m_l_case
  simp only [pure_bind, bind_assoc, bind_pure, fm_l_take, fm_l_hall]
  refine Tr.must (llen_of (by simp)) ?_
  refine Tr.bind (Tr.take (by omega) (by omega) (by omega)) fun i hi => ?_
  refine Tr.atM (by omega) (by simp; omega) fun many hm => ?_
  have hm2 : 1 ≤ many ∧ many ≤ 40 := by simp only [List.mem_cons, List.not_mem_nil, or_false] at hm; omega
  refine Tr.must (show powOk 10 9 from ⟨by decide, by decide, by decide⟩) ?_
  have e9 : (10 : Int) ^ (Int.toNat 9) = 1000000000 := by decide
  rw [e9]
  refine Tr.must (llen_of (by simp)) ?_
  refine Tr.bind (Tr.take (by omega) (by omega) (by omega)) fun j hj => ?_
  refine Tr.atM (by omega) (by simp; omega) fun most hmo => ?_
  have hmo2 : 1 ≤ most ∧ most ≤ 1000000000 := by simp only [List.mem_cons, List.not_mem_nil, or_false] at hmo; omega
  refine Tr.bind (t_hall (by omega) (by omega) (by omega) (by omega) (by omega) (by omega) (by omega)) fun p hp => ?_
  obtain ⟨h1, h2, h3, h4⟩ := hp
  have hv : (sortI p.2.vals).length ≤ p.1.length := by rw [sortI_len]; unfold Dct.vals; rw [List.length_map]; exact h4
  refine Tr.bind (Tr.take (by omega) (by omega) (by omega)) fun way hw => ?_
  refine Tr.ite (fun _ => ?_) fun _ => Tr.ite (fun _ => ?_) fun _ => ?_
  · exact t_caseE (h := toT (sortI p.2.vals)) ⟨h1, h2, h3, hv⟩ (by omega)
  · rw [mw_lift (t_afterL h1 hv (by omega)), pure_bind]
    refine t_caseE (h := toT (sortI (bh p.1 (sortI p.2.vals)))) ⟨h1, h2, h3, ?_⟩ (by omega)
    show (sortI (bh p.1 (sortI p.2.vals))).length ≤ p.1.length
    rw [sortI_len]
    exact Nat.le_trans bh_len hv
  · refine Tr.must (in62 (by omega) (by omega)) ?_
    refine Tr.bind (k' := k + 1003 + 2 * 6) (P := fun (s : List Int) => s.length ≤ p.1.length) ?_ fun s hs => ?_
    · refine Tr.imp (Tr.forN (k'' := k + 1100) (fun (s : List Int) xs => s.length ≤ p.1.length) 2 (by simp) (by rw [length_rangeL]; omega) fun s x xs k' hs hk' => ?_) (fun r hr => hr) (by rw [length_rangeL]; first | omega | (simp; omega) | simp)
      refine Tr.imp (k' := k' + 1 + 1) ?_ (fun _ h => h) (by omega)
      refine Tr.bind (Tr.take (by omega) (by omega) (by omega)) fun x1 hx1 => ?_
      refine Tr.atM (by omega) (by omega) fun y hy => ?_
      refine Tr.must (llen_of (by simp)) ?_
      refine Tr.bind (Tr.take (by omega) (by omega) (by omega)) fun x2 hx2 => ?_
      have hm3 : max2 0 (1 + x1 - x2) ≤ 40 := by rw [max2_eq]; omega
      refine Tr.must (show repOk [y].length _ from ⟨by rw [max2_eq]; omega, by omega, by simp [sizeLine_eq]; omega⟩) ?_
      refine Tr.ite (fun ht => ?_) fun _ => Tr.pure hs
      have ht := of_decide_eq_true ht
      refine Tr.must (llen_of (by omega)) (Tr.pure ?_)
      rw [List.length_append]; omega
    · refine t_caseE (h := toT (sortI s)) ⟨h1, h2, h3, ?_⟩ (by omega)
      show (sortI s).length ≤ p.1.length
      rw [sortI_len]; exact hs
theorem due_eq {spans : List Int} {heap : Tup Int} : ((rangeL 0 spans.length).map fun i => decide ((cnt (spans.getD i.toNat 0) heap.l : Int) ≤ i)).all id = (rangeL 1 (spans.length + 1)).all fun k => decide ((cnt (due ⟨toT spans⟩ k) heap.l : Int) < k) := by
  rw [Bool.eq_iff_iff, List.all_map, List.all_eq_true, List.all_eq_true]
  constructor
  · intro h k hk
    have hk := mem_rangeL.mp hk
    have := h (k - 1) (mem_rangeL.mpr ⟨by omega, by omega⟩)
    simp only [Function.comp, id, decide_eq_true_eq] at this ⊢
    show (cnt (spans.getD (k - 1).toNat 0) heap.l : Int) < k
    omega
  · intro h i hi
    have hi := mem_rangeL.mp hi
    have := h (i + 1) (mem_rangeL.mpr ⟨by omega, by omega⟩)
    simp only [Function.comp, id, decide_eq_true_eq] at this ⊢
    have e : due ⟨toT spans⟩ (i + 1) = spans.getD i.toNat 0 := by unfold due; rw [show i + 1 - 1 = i by omega]; rfl
    rw [e] at this
    omega
theorem any_eq {spans : List Int} {heap : Tup Int} : ((rangeL 1 (spans.length + 1)).map fun k => decide (k ≤ (cnt (due ⟨toT spans⟩ k) heap.l : Int))).any id = !((rangeL 1 (spans.length + 1)).all fun k => decide ((cnt (due ⟨toT spans⟩ k) heap.l : Int) < k)) := by
  rw [List.any_map, List.not_all_eq_any_not]
  congr 1
  funext k
  simp only [Function.comp, id]
  rw [Bool.eq_iff_iff]
  simp
theorem absI_nn {i : Int} : 0 ≤ absI i := by unfold absI; split <;> omega
theorem law_true (ns : List Int) (hl : ns.length ≤ 63) : (m_law ns).run (fun b _ => b = true) (fun _ _ => False) (none, ()) := by
  unfold m_law
  simp only [pure_bind, bind_assoc, bind_pure]
  have hb : ∀ (Q : Bag → Option BagS × Unit → Prop) (E : Exc → Option BagS × Unit → Prop), (∀ a b', b'.a = a → b'.n = 0 → Q ⟨a⟩ (some b', ())) → (m_l_bag ns).run Q E (none, ()) := by
    intro Q E h
    unfold m_l_bag
    have hc : ∀ xs : List Int, xs.length ≤ 16777216 → (mapC (fun x1 => (pure (absI x1) : MW (Option BagS × Unit) Int)) xs) = pure (xs.map absI) := fun xs hx => mw_mapC hx fun _ _ => rfl
    show (mapC (fun x1 => (pure (absI x1) : MW (Option BagS × Unit) Int)) (cut (α := Int) ns none (some 63)) >>= fun xs => bagNew xs).run Q E (none, ())
    rw [hc (cut (α := Int) ns none (some 63)) (by
      unfold cut
      rw [List.length_take, List.length_drop]
      omega), pure_bind]
    exact ⟨rfl, fun x hx => by obtain ⟨y, _, rfl⟩ := List.mem_map.mp hx; exact absI_nn, fun a => h a _ rfl rfl⟩
  have tr : ∀ (a : Addr) (b0 : BagS) (x : MW (Option BagS × Unit) Bool), b0.a = a → b0.n = 0 → Tr () a 0 7000 x (fun b => b = true) → x.run (fun b _ => b = true) (fun _ _ => False) (some b0, ()) := fun a b0 x ha hn h => h.run _ _ b0 ha (by omega) fun v b' hv _ _ => hv
  refine hb _ _ fun a b0 ha hn => tr a b0 _ ha hn ?_
  show Tr () a 0 7000 (must (In62 6) >>= _) _
  refine Tr.must (in62 (by omega) (by omega)) ?_
  refine Tr.bind (k' := 0 + 1100 * 6) (P := fun r => r = .inl ()) ?_ fun r hr => ?_
  · refine Tr.imp (Tr.forL (k'' := 100000) (fun (_ : Unit) _ => True) 1100 trivial (by rw [length_rangeL]; simp) fun s x xs k' _ hk => ?_) (fun r hr => by obtain ⟨s, e, _⟩ := hr; exact e) (by rw [length_rangeL]; simp)
    refine Tr.imp (P := fun r => r = .go ()) (k' := k' + 1100) ?_ (fun r hr => ⟨(), hr, trivial⟩) (Nat.le_refl _)
    simp only [fm_l_case]
    refine Tr.bind (t_case (by omega)) fun p hp => ?_
    obtain ⟨h1, h2, h3, h4⟩ := hp
    generalize p.1 = spans at h1 h2 h3 h4 ⊢
    generalize p.2 = heap at h4 ⊢
    rw [mw_lift (t_init h1 h2 h3), pure_bind]
    refine Tr.must (in62 (by omega) (by omega)) ?_
    have hm : (mapC (fun x6 => atM spans x6 >>= fun x => pure (decide ((cnt x heap.l : Int) ≤ x6))) (rangeL 0 (spans.length : Int)) : MW (Option BagS × Unit) (List Bool)) = pure ((rangeL 0 (spans.length : Int)).map fun i => decide ((cnt (spans.getD i.toNat 0) heap.l : Int) ≤ i)) := by
      refine mw_mapC (by rw [length_rangeL]; omega) fun i hi => ?_
      have hi := mem_rangeL.mp hi
      have e : spans.getD i.toNat 0 = spans[i.toNat]'(by omega) := by rw [List.getD_eq_getElem?_getD, List.getElem?_eq_getElem (by omega)]; rfl
      rw [mw_atM (atI_pos hi.1 hi.2), pure_bind, e]
    rw [hm, pure_bind, due_eq]
    refine Tr.must (in62 (by omega) (by omega)) ?_
    have hgm : ∀ h : Tup Int, (PyM.lift (fm_is_garden (⟨toT spans⟩, h, ())) : MW (Option BagS × Unit) Bool) = pure ((rangeL 1 ((spans.length : Int) + 1)).all fun k => decide ((cnt (due ⟨toT spans⟩ k) h.l : Int) < k)) := fun h => mw_lift (t_garden (b := ⟨toT spans⟩) (heap := h) h2)
    refine Tr.bind (k' := k' + 1100) (P := fun r => r = .inl ()) ?_ fun r hr => ?_
    · refine Tr.imp (Tr.forL (k'' := k' + 1100) (fun (_ : Unit) _ => True) 0 trivial (by omega) fun s x xs k' _ _ => ?_) (fun r hr => by obtain ⟨s, e, _⟩ := hr; exact e) (by omega)
      simp only [hgm, pure_bind, decide_true, Bool.not_true, Bool.false_eq_true, if_false]
      exact Tr.pure ⟨(), rfl, trivial⟩
    · subst hr
      simp only [sumK]
      refine Tr.must ⟨in62 (by omega) (by omega), in62 (by omega) (by omega)⟩ ?_
      have hm2 : (mapC (fun x13 => PyM.lift (fm_l_leads (⟨toT spans⟩, heap, x13, ()))) (rangeL 1 ((spans.length : Int) + 1)) : MW (Option BagS × Unit) (List Bool)) = pure ((rangeL 1 ((spans.length : Int) + 1)).map fun k => decide (k ≤ (cnt (due ⟨toT spans⟩ k) heap.l : Int))) := by
        refine mw_mapC (by rw [length_rangeL]; omega) fun i hi => ?_
        have hi := mem_rangeL.mp hi
        exact mw_lift (t_leads (b := ⟨toT spans⟩) hi.1 (show i ≤ (spans.length : Int) by omega) h2 (show heap.l.length ≤ 40 by omega))
      rw [hm2, pure_bind, any_eq]
      generalize ((rangeL 1 ((spans.length : Int) + 1)).all fun k => decide ((cnt (due ⟨toT spans⟩ k) heap.l : Int) < k)) = gd
      have e : decide (gd = !gd) = false := by cases gd <;> rfl
      rw [e]
      simp only [Bool.false_eq_true, if_false]
      rw [mw_lift (t_after h1 h4 (by omega)), pure_bind]
      dsimp only
      have hlast : (if decide (0 < up heap.l) = true then (PyM.lift (fm_is_garden (⟨toT spans⟩, toT (sortI (bh spans heap.l)), ())) : MW (Option BagS × Unit) Bool) else pure false) = pure false := by
        by_cases hu : 0 < up heap.l
        · rw [if_pos (decide_eq_true hu), hgm]
          congr 1
          rw [List.all_eq_false]
          have ul := up_le (heap := heap.l)
          refine ⟨up heap.l, mem_rangeL.mpr ⟨by omega, by omega⟩, ?_⟩
          have := bh_cnt (spans := spans) hu
          have e2 : due ⟨toT spans⟩ (up heap.l) = spans.getD (up heap.l - 1).toNat 0 := rfl
          rw [e2]
          simp only [decide_eq_true_eq]
          show ¬ (cnt _ (sortI (bh spans heap.l)) : Int) < _
          omega
        · rw [if_neg (by simpa using hu)]
      rw [hlast, pure_bind]
      simp only [Bool.false_eq_true, if_false]
      exact Tr.pure rfl
  · subst hr
    exact (Tr.pure (P := fun b => b = true) rfl).imp (fun _ h => h) (by omega)
end LW
namespace LW
open PySem PySem.Spec L2 SP
open SP.Rep (rep)
open SP.PyM (den lift handle)
abbrev R : PySem.W.OpenRow := PySem.W.OpenLaw.row PySem.Challenge.rw_sleepmany_k77_gardens_known
abbrev hk : PySem.W.Hook := hookX 5 fb fn
def ob (s : PySem.W.SharedT) : He.AlD := obsXG 5 fb fn (HandSHeadRun.getT s)
theorem ob_eq (s : PySem.W.SharedT) : ob s = hk.obs s.abs := obsXG_eq (HandSHeadRun.getT_eq s)
def loose : List Str := (["SleepError", "Wrong", "NoWay", "Book", "heap_ahead", "heaps_back", "is_garden", "is_whole", "is_between", "is_length", "_law_bag", "_law_take", "_law_names", "_law_spans", "_law_rests", "_law_hall", "_law_heap_after", "_law_leads", "_law_case", "MOST_LENGTH", "MOST_SLEEPERS"] : List Str)
theorem run (w : World) : HandSHeadRun.RunEq R (PySem.W.view R.prog [27]) hk ob 4000 loose w := by
  intro os
  kernel_rfl
theorem facts {w : World} {K : PySem.W.Frag} {h : Heap} {mg : Str → Option Value} {f : Addr} (X : K.In h) (G : h.Ns mainGlobals mg) (hfa : mg ("law" : Str) = some (.ref f)) (c : SaysX fb fn K) :
    ∃ fd : FuncData, (∀ (s : Shared) (v : Value), BindsTo s fd ⟨[v], []⟩ [("_law_script", v)]) ∧ ∀ base : Heap, K.In base → base.Ns mainGlobals mg → FnOk P0 w K mg base (L2.CX P0 w) 7 f fd ["_law_script"] (spW (m := MW (Option BagS × Unit)) (BagW W0) ⟨P0, w, K, mg, ⟨#[], {}⟩, He.ga K⟩ fm_law) := by
  have F : ∀ base : Heap, Facts ⟨P0, w, K, mg, base, He.ga K⟩ := fun base => ⟨rfl, c, h, X, G⟩
  obtain ⟨fd, D⟩ := (F ⟨#[], {}⟩).defG 20 (x := "law") rfl
  have e := hfa.symm.trans ((F ⟨#[], {}⟩).glo 51 (x := "law") rfl)
  cases e
  have b := FunD.bindsA (ps := ["_law_script"]) D fun _ _ _ _ _ _ us hl => match us, hl with | [_], _ => rfl
  exact ⟨fd, fun s v => b s [v] rfl, fun base _ _ => ok_law (F base) D⟩
open PyProof.Rows in
/-- walk_ofE, what may be let out by the world too -/
theorem walk_ofW {l : PySem.W.OpenLaw} {n k : Nat} {q : Program} {loose : List Str} {XP : (Str → Option Value) → Heap → Prop} {YP : World → Heap → Prop} {d : DefRec} {x : Str}
    (hn : l.most = some n) (hn2 : n ≤ sizeLine) (hdf : d.params.defaults = []) (hr : Room k callerA)
    (F : ∀ (w : World) (mg : Str → Option Value) (fa : Addr) (h : Heap), YP w h → h.Ns mainGlobals mg → mg d.name = some (.ref fa) →
      ∃ (K : PySem.W.Frag) (fd : FuncData) (sp : Sp), K.In h ∧ (∀ (s : Shared) (u : Value), BindsTo s fd ⟨[u], []⟩ [(x, u)]) ∧
        (∀ (H : Hp) (a : Addr) (ns : List Int), ns.length ≤ n → Only H → SqL K H a (ns.map V.int) → sp [.ref a] H (fun v _ => v = .bl true) fun _ _ _ => False) ∧
        ∀ base : Heap, K.In base → base.Ns mainGlobals mg → FnOk l.prog w K mg base (L2.CX l.prog w) k fa fd [x] sp) :
    PySem.W.WalkO q loose XP YP l.row.toRowW d [] (fun f vs => PySem.call f vs) := by
  refine Att.attach_call hn hdf fun w s₀ s₁ mg mb fa o pm cd doc a vs ns G Y ho hd hcd hmg hobj hints hlen hg => ?_
  obtain ⟨K, fd, sp, KX, hb, hsp, hF⟩ := F w mg fa _ Y G.T.g hmg
  exact law_call KX G.T.g G.T.b G.T.builtins G.T.nolimit hg hobj hints (Nat.le_trans hlen hn2) hr hF hb (fun H hO hS => hsp H a ns hlen hO hS) fun H e s' z => by
    obtain ⟨_, _, _, _, _, _, _, _, _, _, _, _, z⟩ := z
    exact z
end LW
open PySem PySem.W PySem.Calls PyProof.Rows
theorem PySem.Challenge.cw_sleepmany_k77_gardens_known_holds : PySem.Challenge.rw_sleepmany_k77_gardens_known.Holds := by
  w_on; o_law
  refine HandSHeadRun.head_any (r := OpenLaw.row PySem.Challenge.rw_sleepmany_k77_gardens_known) (q := view (OpenLaw.row PySem.Challenge.rw_sleepmany_k77_gardens_known).prog [27]) (H := LW.hk) (ob := LW.ob) (M := 4000) (loose := LW.loose) (d := HandSHeadRun.topDef (OpenLaw.row PySem.Challenge.rw_sleepmany_k77_gardens_known).prog 27) (kwd := []) LW.ob_eq
    (by kernel_rfl) (fun s => by kernel_rfl) LW.run (by kernel_rfl) (by kernel_rfl) (by kernel_rfl) (by rfl) (by first | assumption | decide +kernel) (by decide +kernel) ⟨rfl, rfl, rfl, rfl, rfl, by decide +kernel⟩ ?hw ?hc
  case hw => w_witness2
  case hc =>
    refine LW.walk_ofW (l := PySem.Challenge.rw_sleepmany_k77_gardens_known) (n := 63) (k := 7) (x := "_law_script") rfl (by decide) (by kernel_rfl) ⟨rfl, by decide, by decide⟩ ?F
    intro w mg fa h Y G hmg0
    obtain ⟨K, KX, c⟩ := Y
    have hmg : mg ("law" : PySem.Str) = some (.ref fa) := by
      have e : (HandSHeadRun.topDef (OpenLaw.row PySem.Challenge.rw_sleepmany_k77_gardens_known).prog 27).name = ("law" : PySem.Str) := by kernel_rfl
      rw [← e]
      exact hmg0
    obtain ⟨fd, hb, hF⟩ := LW.facts (w := w) KX G hmg c
    exact ⟨K, fd, SP.spW (m := SP.MW (Option SP.BagS × Unit)) (SP.BagW SP.W0) ⟨LW.P0, w, K, mg, ⟨#[], {}⟩, He.ga K⟩ LW.fm_law, KX, hb, fun H a ns hl _ hS => ⟨H, (none, ()), (ns, ()), fun _ _ h => h, ⟨(fun b q => nomatch q), trivial⟩, fun b q => by rcases q with ⟨_, q, _⟩ | q; exact nomatch q; exact q.elim, ⟨_, [], rfl, ⟨a, rfl, hS⟩, rfl⟩, SP.MW.mono _ (LW.law_true ns hl) (fun r g' h v F' H' _ hv => by subst h; exact hv) fun _ _ h => h.elim⟩, hF⟩
